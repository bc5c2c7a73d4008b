import PyProof.Rows.All
import Wide.All
import OpenK.AllK
import Wide.FinOn
import KE.KStateDown
import PyProof.DictRoadsH
import PyProof.ListStr
import KE.DataEq
import KE.GoesEnum
import KE.GoesMore
import KE.GoesZip
import KE.KDictCopyH
import KE.KDictKeyed
import KE.KDictList
import KE.KDictPairs
import KE.SortData
import HandS.Comp
import HandS.Defaults
import HandS.Dict
import HandS.ForMost
import HandS.Head0
import HandS.Head1
import HandS.Head2
import HandS.Head3
import HandS.HeadEnd
import HandS.HeadHook1
import HandS.HeadHook2
import HandS.IsInst
import HandS.Iter
import HandS.Style
import HandS.Text
import HandS.TupAny
import HandS.TupLen
import HandS.TupMul
import HandS.TupSets
import HandS.Walk
import PySem.Challenge.RW_soundsled_k04_whole_stands
set_option Elab.async false
set_option linter.all false
set_option maxRecDepth 100000
set_option maxHeartbeats 0
set_option autoImplicit false
/-! PyA: a small evaluator of the program's language over plain values, of our own. D: values; Ob: objects that may change; E, S: the texts. -/
namespace Sd
open PySem (Str PyData)

inductive D where
  | non | bl (b : Bool) | int (i : Int) | str (s : List Nat)
  | tup (xs : List D)
  /-- a list that nobody changes any more -/
  | fz (xs : List D)
  /-- a list just made -/
  | lv (xs : List D)
  /-- a dict that nobody changes any more, one just made: keys, values -/
  | fd (ks vs : List D) | dv (ks vs : List D)
  /-- .. whose keys are tuples -/
  | fdn (ks vs : List D) | dvn (ks vs : List D)
  /-- an object that may change -/
  | ref (l : Nat)
  /-- the method m of the object at l, which is of the class c -/
  | bm (c : String) (l : Nat) (m : String)
  deriving Inhabited

inductive Ob where
  | lst (xs : List D)
  | dic (ks vs : List D)
  | din (ks vs : List D)
  | ins (c : String) (fs : List (String × D))
  deriving Inhabited
abbrev Hh := List Ob

inductive Out (α : Type) where
  | ok (a : α) (h : Hh)
  | ex (c : String) (d : D) (h : Hh)
  | bad

namespace Out
def thn {α β : Type} : Out α → (α → Hh → Out β) → Out β
  | ok a h, f => f a h
  | ex c d h, _ => ex c d h
  | bad, _ => bad
@[simp] theorem thn_ok {α β : Type} (a : α) (h : Hh) (f : α → Hh → Out β) : (ok a h).thn f = f a h := rfl
@[simp] theorem thn_ex {α β : Type} (c : String) (d : D) (h : Hh) (f : α → Hh → Out β) : (ex c d h).thn f = ex c d h := rfl
@[simp] theorem thn_bad {α β : Type} (f : α → Hh → Out β) : (bad : Out α).thn f = bad := rfl
def of {α : Type} (h : Hh) : Option α → Out α
  | some a => ok a h
  | none => bad
@[simp] theorem of_some {α : Type} (h : Hh) (a : α) : of h (some a) = ok a h := rfl
@[simp] theorem of_none {α : Type} (h : Hh) : of h (none : Option α) = bad := rfl
theorem thn_eq_ok {α β : Type} {o : Out α} {f : α → Hh → Out β} {b : β} {h : Hh} (e : o.thn f = ok b h) : ∃ a h1, o = ok a h1 ∧ f a h1 = ok b h := by
  cases o with
  | ok a h1 => exact ⟨a, h1, rfl, e⟩
  | ex c d h1 => cases e
  | bad => cases e
theorem of_eq_ok {α : Type} {h h1 : Hh} {o : Option α} {a : α} (e : of h o = ok a h1) : o = some a ∧ h1 = h := by
  cases o with
  | some b => cases e; exact ⟨rfl, rfl⟩
  | none => cases e
end Out

/-! ### values -/
namespace D
/-- a value that is kept: a list just made is from now on not changed -/
def keep : D → D
  | lv xs => fz xs
  | dv ks vs => fd ks vs
  | dvn ks vs => fdn ks vs
  | d => d
mutual
/-- all objects within are below n; nothing just made within -/
def und (n : Nat) : D → Bool
  | non | bl _ | int _ | str _ => true
  | tup xs | fz xs => undAll n xs
  | fd ks vs => undAll n ks && undAll n vs
  | fdn ks vs => undAll n ks && undAll n vs
  | ref l => decide (l < n)
  | bm _ l _ => decide (l < n)
  | lv _ | dv _ _ | dvn _ _ => false
def undAll (n : Nat) : List D → Bool
  | [] => true
  | x :: xs => und n x && undAll n xs
end
end D
def Ob.und (n : Nat) : Ob → Bool
  | .lst xs => D.undAll n xs
  | .dic ks vs => D.undAll n ks && D.undAll n vs
  | .din ks vs => D.undAll n ks && D.undAll n vs
  | .ins _ fs => D.undAll n (fs.map (·.2))

/-- the items of a list -/
def items (h : Hh) : D → Option (List D)
  | .fz xs | .lv xs => some xs
  | .ref l => match h[l]? with
    | some (.lst xs) => some xs
    | _ => none
  | _ => none
/-- the items of a list or tuple -/
def seqs (h : Hh) : D → Option (List D)
  | .tup xs => some xs
  | d => items h d
def dict (h : Hh) : D → Option (List D × List D)
  | .fd ks vs | .dv ks vs => some (ks, vs)
  | .ref l => match h[l]? with
    | some (.dic ks vs) => some (ks, vs)
    | _ => none
  | _ => none

def dictn (h : Hh) : D → Option (List D × List D)
  | .fdn ks vs | .dvn ks vs => some (ks, vs)
  | .ref l => match h[l]? with
    | some (.din ks vs) => some (ks, vs)
    | _ => none
  | _ => none

def mapO {α β : Type} (f : α → Option β) : List α → Option (List β)
  | [] => some []
  | x :: xs => match f x, mapO f xs with
    | some y, some ys => some (y :: ys)
    | _, _ => none
/-- as data -/
def pd (h : Hh) : Nat → D → Option PyData
  | 0, _ => none
  | n + 1, d => match d with
    | .non => some .none
    | .bl b => some (.bool b)
    | .int i => some (.int i)
    | .str s => some (.str ⟨s.toArray⟩)
    | .tup xs => (mapO (pd h n) xs).map .tuple
    | .fz xs => (mapO (pd h n) xs).map .list
    | .lv xs => (mapO (pd h n) xs).map .list
    | .ref l => match h[l]? with
      | some (.lst xs) => (mapO (pd h n) xs).map .list
      | _ => none
    | .fd _ _ => none
    | .dv _ _ => none
    | .fdn _ _ => none
    | .dvn _ _ => none
    | .bm _ _ _ => none
abbrev pds (h : Hh) (n : Nat) : List D → Option (List PyData) := mapO (pd h n)
def deep : Nat := 60
def eqF (h : Hh) (x y : D) : Option Bool := match pd h deep x, pd h deep y with
  | some p, some q => some (PyData.eqv p q)
  | _, _ => none

/-- as a key of a dict: nested tuples of whole numbers, bools, texts, None -/
def nk : Nat → D → Option PySem.NestedKey
  | 0, _ => none
  | n + 1, d => match d with
    | .non => some .none
    | .bl b => some (.num (if b then 1 else 0))
    | .int i => some (.num i)
    | .str s => some (.text ⟨s.toArray⟩)
    | .tup xs => (mapO (nk n) xs).map .tup
    | _ => none
def kOf (d : D) : Option PySem.NestedKey := match d with
  | .tup _ => match nk 9 d with
    | some k => if k.depth ≤ 8 then some k else none
    | none => none
  | _ => none
/-- what stands at a key -/
def nget (k : PySem.NestedKey) : List D → List D → Option D
  | x :: xs, v :: vs => if kOf x = some k then some v else nget k xs vs
  | _, _ => none
def nput (k : PySem.NestedKey) (v : D) : List D → List D → List D
  | x :: xs, u :: us => (if kOf x = some k then v else u) :: nput k v xs us
  | _, us => us
/-- keys that are whole numbers or texts -/
def isKey : D → Bool
  | .int _ => true
  | .str _ => true
  | _ => false
def eqKey : D → D → Bool
  | .int i, .int j => decide (i = j)
  | .str a, .str b => decide (a = b)
  | _, _ => false
def kget (k : D) : List D → List D → Option D
  | x :: xs, v :: vs => if eqKey x k then some v else kget k xs vs
  | _, _ => none
def kput (k v : D) : List D → List D → List D
  | x :: xs, u :: us => (if eqKey x k then v else u) :: kput k v xs us
  | _, us => us
/-- what a dict holds at a key: none: not known here -/
def dlook (h : Hh) (x k : D) : Option (Option D) := match dict h x with
  | some (ks, vs) => if isKey k then some (kget k ks vs) else match kOf k with
    | some _ => if ks.isEmpty && vs.isEmpty then some none else none
    | none => none
  | none => match dictn h x with
    | some (ks, vs) => (kOf k).map fun q => nget q ks vs
    | none => none
def isDic (h : Hh) (x : D) : Bool := (dict h x).isSome || (dictn h x).isSome
def lineN : Nat := 16777216
def ixN (n : Nat) (i : Int) : Option Nat := if 0 ≤ i then (if i < n then some i.toNat else none) else if -(n : Int) ≤ i then some (i + n).toNat else none
/-- the keys of a dict -/
def keysD (h : Hh) (x : D) : Option (List D) := match dict h x with
  | some (ks, _) => some ks
  | none => (dictn h x).map (·.1)
/-- x[k] = v -/
def obPut (o : Ob) (k v : D) : Option Ob := match o with
  | .lst xs => match k with
    | .int i => (ixN xs.length i).map fun j => .lst (xs.set j v)
    | _ => none
  | .dic ks vs => if isKey k then (if ks.length < lineN then some (match kget k ks vs with
      | some _ => .dic ks (kput k v ks vs)
      | none => .dic (ks ++ [k]) (vs ++ [v])) else none) else match kOf k with
    | some _ => if ks.isEmpty && vs.isEmpty then some (.din [k] [v]) else none
    | none => none
  | .din ks vs => match kOf k with
    | some q => if ks.length < lineN then some (match nget q ks vs with
      | some _ => .din ks (nput q v ks vs)
      | none => .din (ks ++ [k]) (vs ++ [v])) else none
    | none => none
  | .ins _ _ => none
/-! ### what operators and builtins give -/
inductive Ty where | str | tup | lst | int | bool | dict
  deriving DecidableEq
def isTy (h : Hh) : Ty → D → Option Bool
  | t, .non => some false
  | t, .bl _ => some (t == .bool || t == .int)
  | t, .int _ => some (t == .int)
  | t, .str _ => some (t == .str)
  | t, .tup _ => some (t == .tup)
  | t, .fz _ | t, .lv _ => some (t == .lst)
  | t, .fd _ _ | t, .dv _ _ => some (t == .dict)
  | _, .fdn _ _ | _, .dvn _ _ => none
  | _, .bm _ _ _ => none
  | t, .ref l => match h[l]? with
    | some (.lst _) => some (t == .lst)
    | some (.dic _ _) => some (t == .dict)
    | _ => none

def bools : List D → Option (List Bool)
  | [] => some []
  | .bl b :: xs => (bools xs).map (b :: ·)
  | _ => none
def intsOf : List D → Option (List Int)
  | [] => some []
  | .int i :: xs => (intsOf xs).map (i :: ·)
  | _ => none
def strsOf : List D → Option (List (List Nat))
  | [] => some []
  | .str s :: xs => (strsOf xs).map (s :: ·)
  | _ => none
def digits (i : Int) : List Nat := (toString i).toList.map Char.toNat
def isNon : D → Bool
  | .non => true
  | _ => false
/-- pairs of a dict -/
def pairsOf : List D → Option (List D × List D)
  | [] => some ([], [])
  | .tup [k, v] :: r => (pairsOf r).map fun p => (k :: p.1, v :: p.2)
  | _ => none
def sIx (n d : Nat) : Option Int → Nat
  | none => d
  | some v => if v < 0 then (v + (n : Int)).toNat else min v.toNat n
def cut {α : Type} (xs : List α) (lo hi : Option Int) : List α := (xs.drop (sIx xs.length 0 lo)).take (sIx xs.length xs.length hi - sIx xs.length 0 lo)
def atI {α : Type} (xs : List α) (i : Int) : Option α := (ixN xs.length i).bind fun j => xs[j]?

def line : Nat := 16777216
def isTup1 : PyData → Bool
  | .tuple (_ :: _) => true
  | _ => false
def notNon : PyData → Bool
  | .none => false
  | _ => true
def notTN : PyData → Bool
  | .tuple _ => false
  | .none => false
  | _ => true
/-- sorted: data that are alike -/
def sortedF (h : Hh) (xs : List D) : Option (List D) := match pds h deep xs with
  | some ps => if (ps.all fun x => ps.all fun y => PySem.W.alike x y) && (decide (ps.length ≤ 1) && ps.all notNon || ps.all isTup1 || ps.all notTN) && decide (xs.length ≤ line) then some (((xs.zip ps).mergeSort (PySem.W.dataLe false Prod.snd)).map Prod.fst) else none
  | none => none

inductive O1 where
  | len | int | str | tuple | list | all | any | neg | isN | notN | not | isi (t : Ty) | rev | dict
  | sorted | sset | repr | sum | ofI | lset
inductive O2 where
  | add | sub | mul | div | mod | eq | ne | lt | le | gt | ge | isin | notin | idx | min | max | join
inductive O3 where
  | slice

def o1F : O1 → Hh → D → Option D
  | .len, _, .str s => if s.length ≤ line then some (.int s.length) else none
  | .len, h, d => match seqs h d with
    | some xs => some (.int xs.length)
    | none => (keysD h d).map fun ks => .int ks.length
  | .int, _, .int i => some (.int i)
  | .int, _, .bl b => some (.int (if b then 1 else 0))
  | .int, _, _ => none
  | .str, _, .int i => if i.natAbs.log2 < 1920 then some (.str (digits i)) else none
  | .str, _, _ => none
  | .tuple, h, d => (seqs h d).map .tup
  | .list, _, .str s => if s.length ≤ line then some (.lv (s.map fun c => .str [c])) else none
  | .list, h, d => match seqs h d with
    | some xs => some (.lv xs)
    | none => (dictn h d).map fun p => .lv p.1
  | .all, h, d => match items h d with
    | some xs => (bools xs).map fun bs => .bl (bs.all id)
    | none => none
  | .any, h, d => match items h d with
    | some xs => (bools xs).map fun bs => .bl (bs.any id)
    | none => none
  | .neg, _, .int i => some (.int (-i))
  | .neg, _, _ => none
  | .isN, _, d => some (.bl (isNon d))
  | .notN, _, d => some (.bl (!isNon d))
  | .not, _, .bl b => some (.bl (!b))
  | .not, _, _ => none
  | .isi t, h, d => (isTy h t d).map .bl
  | .rev, _, .str s => if s.length ≤ line then some (.str s.reverse) else none
  | .rev, _, .tup xs => some (.tup xs.reverse)
  | .rev, h, d => (items h d).map fun xs => .lv xs.reverse
  | .dict, _, .tup xs => match pairsOf xs with
    | some (ks, vs) => match strsOf ks with
      | some ss => if ss.Nodup then some (.dv ks vs) else none
      | none => none
    | none => none
  | .dict, h, d => match items h d with
    | some xs => match pairsOf xs with
      | some (ks, vs) => match mapO kOf ks with
        | some qs => if qs.Nodup then some (.dvn ks vs) else none
        | none => none
      | none => none
    | none => none
  | .lset, h, d => match items h d with
    | some xs => match mapO kOf xs with
      | some qs => if qs.Nodup ∧ qs.length < 64 then some (.int qs.length) else none
      | none => none
    | none => none
  | .sorted, h, d => match seqs h d with
    | some xs => (sortedF h xs).map .lv
    | none => none
  | .sset, _, _ => none
  | .repr, _, _ => none
  | .sum, h, d => match items h d with
    | some xs => (intsOf xs).map fun ns => .int ns.sum
    | none => none
  | .ofI, _, .int i => some (.int i)
  | .ofI, _, _ => none

/-- order of texts -/
def strLt (a b : List Nat) : Bool := decide (a < b)
def strLe (a b : List Nat) : Bool := !decide (b < a)
/-- one sign in a text -/
def isSub (a b : List Nat) : Option Bool := match a with
  | [c] => some (b.contains c)
  | _ => none
def joined (sep : List Nat) : List (List Nat) → List Nat
  | [] => []
  | [x] => x
  | x :: y :: r => x ++ (sep ++ joined sep (y :: r))
def memF (h : Hh) (x : D) (ys : List D) : Option Bool := match pd h deep x, pds h deep ys with
  | some p, some qs => some (qs.any fun q => PyData.eqv q p)
  | _, _ => none
def keyAt (k : List Nat) : List D → List D → Option D
  | .str s :: ks, v :: vs => if s = k then some v else keyAt k ks vs
  | .int _ :: ks, _ :: vs => keyAt k ks vs
  | _, _ => none

def o2F : O2 → Hh → D → D → Option D
  | .add, _, .int i, .int j => some (.int (i + j))
  | .add, _, .str a, .str b => if a.length + b.length ≤ line then some (.str (a ++ b)) else none
  | .add, _, .tup a, .tup b => if a.length + b.length ≤ line then some (.tup (a ++ b)) else none
  | .add, h, x, y => match items h x, items h y with
    | some a, some b => if a.length + b.length ≤ line then some (.lv (a ++ b)) else none
    | _, _ => none
  | .sub, _, .int i, .int j => some (.int (i - j))
  | .sub, _, _, _ => none
  | .mul, _, .int i, .int j => if (-(2 ^ 64) < i ∧ i < 2 ^ 64) ∨ (-(2 ^ 64) < j ∧ j < 2 ^ 64) then some (.int (i * j)) else none
  | .mul, _, .tup a, .int j => if a ≠ [] ∧ 2 ≤ j ∧ j ≤ 1000 ∧ a.length ≤ 1000 then some (.tup ((List.replicate j.toNat a).flatten)) else none
  | .mul, _, _, _ => none
  | .div, _, .int i, .int j => if 0 < j ∧ j < 1073741824 then some (.int (i / j)) else none
  | .div, _, _, _ => none
  | .mod, _, .int i, .int j => if 0 < j then some (.int (i % j)) else none
  | .mod, _, _, _ => none
  | .eq, h, x, y => (eqF h x y).map .bl
  | .ne, h, x, y => (eqF h x y).map fun b => .bl (!b)
  | .lt, _, .int i, .int j => some (.bl (decide (i < j)))
  | .lt, _, .str a, .str b => some (.bl (strLt a b))
  | .lt, _, _, _ => none
  | .le, _, .int i, .int j => some (.bl (decide (i ≤ j)))
  | .le, _, .str a, .str b => some (.bl (strLe a b))
  | .le, _, _, _ => none
  | .gt, _, .int i, .int j => some (.bl (decide (j < i)))
  | .gt, _, .str a, .str b => some (.bl (strLt b a))
  | .gt, _, _, _ => none
  | .ge, _, .int i, .int j => some (.bl (decide (j ≤ i)))
  | .ge, _, .str a, .str b => some (.bl (strLe b a))
  | .ge, _, _, _ => none
  | .isin, _, .str a, .str b => (isSub a b).map .bl
  | .isin, h, x, y => match seqs h y with
    | some ys => (memF h x ys).map .bl
    | none => (dlook h y x).map fun r => .bl r.isSome
  | .notin, _, .str a, .str b => (isSub a b).map fun b => .bl (!b)
  | .notin, h, x, y => match seqs h y with
    | some ys => (memF h x ys).map fun b => .bl (!b)
    | none => (dlook h y x).map fun r => .bl (!r.isSome)
  | .idx, _, .str s, .int i => if s.length ≤ line then (atI s i).map fun c => .str [c] else none
  | .idx, h, x, .int i => match seqs h x with
    | some xs => atI xs i
    | none => (dlook h x (.int i)).bind id
  | .idx, h, x, .tup k => (dlook h x (.tup k)).bind id
  | .idx, h, x, .str k => match dict h x with
    | some (ks, vs) => keyAt k ks vs
    | none => none
  | .idx, _, _, _ => none
  | .min, _, .int i, .int j => some (.int (if j < i then j else i))
  | .min, _, _, _ => none
  | .max, _, .int i, .int j => some (.int (if j > i then j else i))
  | .max, _, _, _ => none
  | .join, h, .str sep, y => match items h y with
    | some ys => match strsOf ys with
      | some ss => if (ss.map List.length).sum + ss.length * sep.length ≤ line then some (.str (joined sep ss)) else none
      | none => none
    | none => none
  | .join, _, _, _ => none

def partOf : D → Option (Option Int)
  | .non => some none
  | .int i => some (some i)
  | _ => none
def sliceF (h : Hh) (x : D) (lo hi : Option Int) : Option D := match x with
  | .str s => if s.length ≤ line then some (.str (cut s lo hi)) else none
  | .tup xs => some (.tup (cut xs lo hi))
  | x => (items h x).map fun xs => .lv (cut xs lo hi)
def o3F : O3 → Hh → D → D → D → Option D
  | .slice, h, x, a, b => match partOf a, partOf b with
    | some lo, some hi => sliceF h x lo hi
    | _, _ => none

/-! ### texts -/
inductive Pat where
  | n (i : Nat)
  | t (is : List Nat)
def Pat.ix : Pat → List Nat
  | .n i => [i]
  | .t is => is
mutual
inductive E where
  | cst (d : D) | var (i : Nat)
  | tup (es : List E) | lst (es : List E)
  | o1 (o : O1) (a : E) | o2 (o : O2) (a b : E) | o3 (o : O3) (a b c : E)
  | chn (o p : O2) (a b c : E)
  | and (a b : E) | or (a b : E) | ife (c a b : E)
  | call (c m : String) (es : List E)
  | meth (a : E) (m : String) (es : List E)
  | mk (c : String) (es : List E)
  /-- an attribute of an instance of one of the classes; a method of it as a value -/
  | att (cs : List String) (a : E) (f : String)
  | bnd (cs : List String) (a : E) (m : String)
  | calv (i : Nat) (es : List E)
  | comp (own : List Nat) (elt : E) (p : Pat) (it : It) (ifs : List E)
  | comp2 (own : List Nat) (elt : E) (p : Pat) (it : It) (ifs : List E) (p2 : Pat) (it2 : It) (ifs2 : List E)
  | alc (a : E)
  | pop (a : E)
  | dget (a k d : E)
  | dcomp (own : List Nat) (k v : E) (p : Pat) (it : It) (ifs : List E)
  | dict0
inductive It where
  | val (e : E) | rng (a : E) | rng2 (a b : E) | enu (a : E) | zip (a b : E)
end
inductive S where
  | set (p : Pat) (e : E)
  | par (i j : Nat) (a b : E)
  | seti (o i e : E)
  | seta (o : E) (cs : List String) (f : String) (e : E)
  | par3 (i j k : Nat) (a b c : E)
  /-- o[i], o2[i2] = a, b -/
  | parsub (o i o2 i2 a b : E)
  | aug (i : Nat) (o : O2) (e : E)
  | app (o e : E) | ext (o e : E)
  | exp (e : E)
  | ret (e : E) | retn
  | cond (c : E) (a b : List S)
  | whl (c : E) (a : List S)
  | forr (p : Pat) (it : It) (a : List S)
  | pass
  | brk | cnt

abbrev Env := List (Option D)
def putA (f : String) (d : D) : List (String × D) → List (String × D)
  | [] => [(f, d)]
  | p :: r => if p.1 = f then (f, d) :: r else p :: putA f d r
inductive Fl where
  | nx (σ : Env) | rt (v : D) | br (σ : Env) | ct (σ : Env)

def setP : Pat → D → Env → Option Env
  | .n i, d, σ => if i < σ.length then some (σ.set i (some d)) else none
  | .t is, .tup xs, σ => if is.length = xs.length ∧ is.all (fun i => decide (i < σ.length)) then some ((is.zip xs).foldl (fun s p => s.set p.1 (some p.2)) σ) else none
  | .t _, _, _ => none
def wipe (σ : Env) : List Nat → Env
  | [] => σ
  | v :: vs => (wipe σ vs).set v none

section
open Classical
/-- the items one after the other, what each gives put together -/
noncomputable def compL (turn : D → Hh → Out (List D)) (okh : Hh → Prop) : List D → Hh → Out (List D)
  | [], h => if okh h then .ok [] h else .bad
  | x :: xs, h => if okh h then (turn x h).thn fun ys h1 => (compL turn okh xs h1).thn fun zs h2 => .ok (ys ++ zs) h2 else .bad
noncomputable def forL (body : D → Env → Hh → Out Fl) (okh : Hh → Prop) : List D → Env → Hh → Out Fl
  | [], σ, h => if okh h then .ok (.nx σ) h else .bad
  | x :: xs, σ, h => if okh h then (body x σ h).thn fun f h1 => match f with
      | .nx σ1 | .ct σ1 => forL body okh xs σ1 h1
      | .br σ1 => .ok (.nx σ1) h1
      | .rt v => .ok (.rt v) h1
    else .bad
def whileN (c : Env → Hh → Out D) (b : Env → Hh → Out Fl) : Nat → Env → Hh → Out Fl
  | 0, _, _ => .bad
  | n + 1, σ, h => (c σ h).thn fun t h1 => match t with
    | .bl true => (b σ h1).thn fun f h2 => match f with
      | .nx σ1 | .ct σ1 => whileN c b n σ1 h2
      | .br σ1 => .ok (.nx σ1) h2
      | .rt v => .ok (.rt v) h2
    | .bl false => .ok (.nx σ) h1
    | _ => .bad
noncomputable def whileF (c : Env → Hh → Out D) (b : Env → Hh → Out Fl) (σ : Env) (h : Hh) : Out Fl :=
  if H : ∃ n, whileN c b n σ h ≠ .bad then whileN c b (choose H) σ h else .bad

/-- as compL, but the turns put entries into a dict -/
noncomputable def dcompL (turn : D → Hh → Out (Option (D × D))) (okh : Hh → Prop) : List D → Ob → Hh → Out Ob
  | [], o, h => if okh h then .ok o h else .bad
  | x :: xs, o, h => if okh h then (turn x h).thn fun r h1 => match r with
      | none => dcompL turn okh xs o h1
      | some (k, v) => match obPut o k v with
        | some o1 => dcompL turn okh xs o1 h1
        | none => .bad
    else .bad
/-- the objects that are watched are as they were -/
def Wat (ws : List Nat) (h0 h : Hh) : Prop := ∀ l ∈ ws, h[l]? = h0[l]?
def testF (b : D → Hh → Out D) (d : D) (h : Hh) (k : Hh → Out (List D)) : Out (List D) :=
  (b d h).thn fun t h1 => match t with
    | .bl true => k h1
    | .bl false => .ok [] h1
    | _ => .bad

def rngD (a b : Int) : List D := (List.range (b - a).toNat).map fun k => .int (a + (k : Nat))
def enuD : Nat → List D → List D
  | _, [] => []
  | k, x :: xs => .tup [.int k, x] :: enuD (k + 1) xs
def zipD : List D → List D → List D
  | x :: xs, y :: ys => .tup [x, y] :: zipD xs ys
  | _, _ => []
/-- what is walked: its items, what is watched -/
def walkD (h : Hh) : D → Option (List D × List Nat)
  | .str s => some (s.map fun c => .str [c], [])
  | .tup xs | .fz xs | .lv xs => some (xs, [])
  | .ref l => match h[l]? with
    | some (.lst xs) => some (xs, [l])
    | _ => none
  | _ => none
/-- .. the keys of a dict too -/
def walkA (h : Hh) (x : D) : Option (List D × List Nat) := match x with
  | .fdn ks _ | .dvn ks _ => some (ks, [])
  | x => walkD h x
abbrev Calls := String → String → List D → Hh → Out D
def small (i : Int) : Bool := decide (-(2 ^ 62) ≤ i) && decide (i < 2 ^ 62)
def boolD (d : D) (h : Hh) : Out Bool := match d with
  | .bl b => .ok b h
  | _ => .bad

mutual
noncomputable def evE (C : Calls) : E → Env → Hh → Out D
  | .cst d, _, h => .ok d h
  | .var i, σ, h => match σ[i]? with
    | some (some d) => .ok d h
    | _ => .bad
  | .tup es, σ, h => (evEs C es σ h).thn fun xs h1 => .ok (.tup xs) h1
  | .lst es, σ, h => (evEs C es σ h).thn fun xs h1 => .ok (.lv xs) h1
  | .o1 o a, σ, h => (evE C a σ h).thn fun x h1 => .of h1 (o1F o h1 x)
  | .o2 o a b, σ, h => (evE C a σ h).thn fun x h1 => (evE C b σ h1).thn fun y h2 => .of h2 (o2F o h2 x y)
  | .o3 o a b c, σ, h => (evE C a σ h).thn fun x h1 => (evE C b σ h1).thn fun y h2 => (evE C c σ h2).thn fun z h3 => .of h3 (o3F o h3 x y z)
  | .chn o p a b c, σ, h => (evE C a σ h).thn fun x h1 => (evE C b σ h1).thn fun y h2 => (Out.of h2 (o2F o h2 x y)).thn fun t h3 => match t with
    | .bl true => (evE C c σ h3).thn fun z h4 => .of h4 (o2F p h4 y z)
    | .bl false => .ok (.bl false) h3
    | _ => .bad
  | .and a b, σ, h => (evE C a σ h).thn fun x h1 => match x with
    | .bl true => evE C b σ h1
    | .bl false => .ok (.bl false) h1
    | _ => .bad
  | .or a b, σ, h => (evE C a σ h).thn fun x h1 => match x with
    | .bl false => evE C b σ h1
    | .bl true => .ok (.bl true) h1
    | _ => .bad
  | .ife c a b, σ, h => (evE C c σ h).thn fun x h1 => match x with
    | .bl true => evE C a σ h1
    | .bl false => evE C b σ h1
    | _ => .bad
  | .call c m es, σ, h => (evEs C es σ h).thn fun xs h1 => C c m xs h1
  | .meth a m es, σ, h => (evE C a σ h).thn fun x h1 => match x with
    | .ref l => match h1[l]? with
      | some (.ins c fs) => if c ≠ "" ∧ fs.lookup m = none then (evEs C es σ h1).thn fun xs h2 => C c m (.ref l :: xs) h2 else .bad
      | _ => .bad
    | _ => .bad
  | .mk c es, σ, h => (evEs C es σ h).thn fun xs h1 => (C c "__init__" (.ref h1.length :: xs) (h1 ++ [.ins c []])).thn fun r h2 => match r with
    | .non => .ok (.ref h1.length) h2
    | _ => .bad
  | .att cs a f, σ, h => (evE C a σ h).thn fun x h1 => match x with
    | .ref l => match h1[l]? with
      | some (.ins c fs) => if c ∈ cs then .of h1 (fs.lookup f) else .bad
      | _ => .bad
    | _ => .bad
  | .bnd cs a m, σ, h => (evE C a σ h).thn fun x h1 => match x with
    | .ref l => match h1[l]? with
      | some (.ins c fs) => if c ∈ cs ∧ fs.lookup m = none then .ok (.bm c l m) h1 else .bad
      | _ => .bad
    | _ => .bad
  | .calv i es, σ, h => match σ[i]? with
    | some (some (.bm c l m)) => (evEs C es σ h).thn fun xs h1 => C c m (.ref l :: xs) h1
    | _ => .bad
  | .comp own elt p it ifs, σ, h => (evI C it σ h).thn fun r h1 =>
      (compL (fun d h2 => match setP p d (wipe σ own) with
        | some σ2 => (evTs C ifs σ2 h2).thn fun t h3 => if t then (evE C elt σ2 h3).thn fun y h4 => .ok [y.keep] h4 else .ok [] h3
        | none => .bad) (Wat r.2 h1) r.1 h1).thn fun ys h5 => if ys.length ≤ line then .ok (.lv ys) h5 else .bad
  | .comp2 own elt p it ifs p2 it2 ifs2, σ, h => (evI C it σ h).thn fun r h1 =>
      (compL (fun d h2 => match setP p d (wipe σ own) with
        | some σ2 => (evTs C ifs σ2 h2).thn fun t h3 => if t then (evI C it2 σ2 h3).thn fun r2 h4 =>
            compL (fun d2 h5 => match setP p2 d2 (wipe σ2 p2.ix) with
              | some σ3 => (evTs C ifs2 σ3 h5).thn fun t2 h6 => if t2 then (evE C elt σ3 h6).thn fun y h7 => .ok [y.keep] h7 else .ok [] h6
              | none => .bad) (Wat r2.2 h4) r2.1 h4
          else .ok [] h3
        | none => .bad) (Wat r.2 h1) r.1 h1).thn fun ys h5 => if ys.length ≤ line then .ok (.lv ys) h5 else .bad
  | .alc a, σ, h => (evE C a σ h).thn fun x h1 => match x with
    | .lv xs => .ok (.ref h1.length) (h1 ++ [.lst xs])
    | .dv ks vs => .ok (.ref h1.length) (h1 ++ [.dic ks vs])
    | .dvn ks vs => .ok (.ref h1.length) (h1 ++ [.din ks vs])
    | d => .ok d h1
  | .pop a, σ, h => (evE C a σ h).thn fun x h1 => match x with
    | .ref l => match h1[l]? with
      | some (.lst xs) => match xs.getLast? with
        | some y => .ok y (h1.set l (.lst xs.dropLast))
        | none => .bad
      | _ => .bad
    | _ => .bad
  | .dget a k d, σ, h => (evE C a σ h).thn fun x h1 => if isDic h1 x then (evE C k σ h1).thn fun y h2 => (evE C d σ h2).thn fun z h3 => (Out.of h3 (dlook h3 x.keep y.keep)).thn fun r h4 => .ok (r.getD z) h4 else .bad
  | .dict0, _, h => .ok (.dv [] []) h
  | .dcomp own ke ve p it ifs, σ, h => (evI C it σ h).thn fun r h1 =>
      (dcompL (fun d h2 => match setP p d (wipe σ own) with
        | some σ2 => (evTs C ifs σ2 h2).thn fun t h3 => if t then (evE C ke σ2 h3).thn fun y h4 => (evE C ve σ2 h4).thn fun z h5 => .ok (some (y.keep, z.keep)) h5 else .ok none h3
        | none => .bad) (Wat r.2 h1) r.1 (.dic [] []) h1).thn fun o h5 => match o with
          | .dic ks vs => .ok (.dv ks vs) h5
          | .din ks vs => .ok (.dvn ks vs) h5
          | _ => .bad
noncomputable def evEs (C : Calls) : List E → Env → Hh → Out (List D)
  | [], _, h => .ok [] h
  | e :: es, σ, h => (evE C e σ h).thn fun x h1 => (evEs C es σ h1).thn fun xs h2 => .ok (x.keep :: xs) h2
noncomputable def evTs (C : Calls) : List E → Env → Hh → Out Bool
  | [], _, h => .ok true h
  | e :: es, σ, h => (evE C e σ h).thn fun x h1 => match x with
    | .bl true => evTs C es σ h1
    | .bl false => .ok false h1
    | _ => .bad
noncomputable def evI (C : Calls) : It → Env → Hh → Out (List D × List Nat)
  | .val e, σ, h => (evE C e σ h).thn fun x h1 => .of h1 (walkA h1 x)
  | .rng a, σ, h => (evE C a σ h).thn fun x h1 => match x with
    | .int i => if small i then .ok (rngD 0 i, []) h1 else .bad
    | _ => .bad
  | .rng2 a b, σ, h => (evE C a σ h).thn fun x h1 => (evE C b σ h1).thn fun y h2 => match x, y with
    | .int i, .int j => if small i && small j then .ok (rngD i j, []) h2 else .bad
    | _, _ => .bad
  | .enu a, σ, h => (evE C a σ h).thn fun x h1 => match walkD h1 x with
    | some (xs, ws) => .ok (enuD 0 xs, ws) h1
    | none => .bad
  | .zip a b, σ, h => (evE C a σ h).thn fun x h1 => (evE C b σ h1).thn fun y h2 => match walkD h2 x, walkD h2 y with
    | some (xs, ws), some (ys, vs) => .ok (zipD xs ys, ws ++ vs) h2
    | _, _ => .bad
end

/-- y[z] = x -/
def putF (y z x : D) (h : Hh) : Out Unit := match y with
  | .ref l => match h[l]? with
    | some ob => match obPut ob z x with
      | some ob' => .ok () (h.set l ob')
      | none => .bad
    | none => .bad
  | _ => .bad
mutual
noncomputable def evS (C : Calls) : S → Env → Hh → Out Fl
  | .set p e, σ, h => (evE C e σ h).thn fun x h1 => match setP p x.keep σ with
    | some σ1 => .ok (.nx σ1) h1
    | none => .bad
  | .par i j a b, σ, h => (evE C a σ h).thn fun x h1 => (evE C b σ h1).thn fun y h2 => if i < σ.length ∧ j < σ.length ∧ i ≠ j then .ok (.nx ((σ.set i (some x.keep)).set j (some y.keep))) h2 else .bad
  | .seti o i e, σ, h => (evE C e σ h).thn fun x h1 => (evE C o σ h1).thn fun y h2 => (evE C i σ h2).thn fun z h3 => match y with
    | .ref l => match h3[l]? with
      | some ob => match obPut ob z x.keep with
        | some ob' => .ok (.nx σ) (h3.set l ob')
        | none => .bad
      | none => .bad
    | _ => .bad
  | .seta o cs f e, σ, h => (evE C e σ h).thn fun x h1 => (evE C o σ h1).thn fun y h2 => match y with
    | .ref l => match h2[l]? with
      | some (.ins c fs) => if c ∈ cs ∧ fs.length < 1000 then .ok (.nx σ) (h2.set l (.ins c (putA f x.keep fs))) else .bad
      | _ => .bad
    | _ => .bad
  | .par3 i j k a b c, σ, h => (evE C a σ h).thn fun x h1 => (evE C b σ h1).thn fun y h2 => (evE C c σ h2).thn fun z h3 =>
      if i < σ.length ∧ j < σ.length ∧ k < σ.length ∧ i ≠ j ∧ i ≠ k ∧ j ≠ k then .ok (.nx (((σ.set i (some x.keep)).set j (some y.keep)).set k (some z.keep))) h3 else .bad
  | .parsub o i o2 i2 a b, σ, h => (evE C a σ h).thn fun x h1 => (evE C b σ h1).thn fun x2 h2 => (evE C o σ h2).thn fun y h3 => (evE C i σ h3).thn fun z h4 =>
      (putF y z x.keep h4).thn fun _ h5 => (evE C o2 σ h5).thn fun y2 h6 => (evE C i2 σ h6).thn fun z2 h7 => (putF y2 z2 x2.keep h7).thn fun _ h8 => .ok (.nx σ) h8
  | .aug i o e, σ, h => match σ[i]? with
    | some (some x) => (evE C e σ h).thn fun y h1 => (Out.of h1 (o2F o h1 x y)).thn fun z h2 => .ok (.nx (σ.set i (some z.keep))) h2
    | _ => .bad
  | .app o e, σ, h => (evE C o σ h).thn fun y h1 => match y with
    | .ref l => match h1[l]? with
      | some (.lst _) => (evE C e σ h1).thn fun x h2 => match h2[l]? with
        | some (.lst xs) => if xs.length < line then .ok (.nx σ) (h2.set l (.lst (xs ++ [x.keep]))) else .bad
        | _ => .bad
      | _ => .bad
    | _ => .bad
  | .ext o e, σ, h => (evE C o σ h).thn fun y h1 => match y with
    | .ref l => match h1[l]? with
      | some (.lst _) => (evE C e σ h1).thn fun x h2 => match h2[l]?, items h2 x with
        | some (.lst xs), some ys => if xs.length + ys.length ≤ line then .ok (.nx σ) (h2.set l (.lst (xs ++ ys))) else .bad
        | _, _ => .bad
      | _ => .bad
    | _ => .bad
  | .exp e, σ, h => (evE C e σ h).thn fun _ h1 => .ok (.nx σ) h1
  | .ret e, σ, h => (evE C e σ h).thn fun x h1 => .ok (.rt x) h1
  | .retn, σ, h => .ok (.rt .non) h
  | .cond c a b, σ, h => (evE C c σ h).thn fun x h1 => match x with
    | .bl true => evSs C a σ h1
    | .bl false => evSs C b σ h1
    | _ => .bad
  | .whl c a, σ, h => whileF (fun σ h => evE C c σ h) (fun σ h => evSs C a σ h) σ h
  | .forr p it a, σ, h => (evI C it σ h).thn fun r h1 => forL (fun d σ h => match setP p d σ with
      | some σ1 => evSs C a σ1 h
      | none => .bad) (Wat r.2 h1) r.1 σ h1
  | .pass, σ, h => .ok (.nx σ) h
  | .brk, σ, h => .ok (.br σ) h
  | .cnt, σ, h => .ok (.ct σ) h
noncomputable def evSs (C : Calls) : List S → Env → Hh → Out Fl
  | [], σ, h => .ok (.nx σ) h
  | s :: ss, σ, h => (evS C s σ h).thn fun f h1 => match f with
    | .nx σ1 => evSs C ss σ1 h1
    | f => .ok f h1
end
end
end Sd

/-! PyB: how our plain values stand in the model's heap (RD, RV, RelH), what stays (Stp). -/
namespace Sd
open PySem PySem.Spec PyProof.Rows L2

/-- a name as the model has it -/
def sOf (s : String) : Str := ⟨(s.toList.map Char.toNat).toArray⟩
theorem sOf_inj {a b : String} (h : sOf a = sOf b) : a = b := by
  unfold sOf at h
  have h1 : (a.toList.map Char.toNat).toArray = (b.toList.map Char.toNat).toArray := by injection h
  have h2 : a.toList.map Char.toNat = b.toList.map Char.toNat := by simpa using h1
  have h3 : a.toList = b.toList := List.map_inj_right (fun x y e => Char.toNat_inj.mp e) |>.mp h2
  exact String.toList_inj.mp h3
/-- what is fixed -/
structure Gb where
  K : PySem.W.Frag
  P : Program
  w : World
  cls : String → Option Addr
structure Gx where
  b : Gb
  /-- what is hidden for a while: no value leans on it -/
  av : List Addr
abbrev Gx.K (G : Gx) : PySem.W.Frag := G.b.K
abbrev Gx.at (G : Gx) (av : List Addr) : Gx := { G with av := av }
abbrev Gx.hide (G : Gx) (a : Addr) : Gx := { G with av := a :: G.av }

/-- a tuple, a list of the module's own -/
def KTup (K : PySem.W.Frag) (a : Addr) (vs : List V) : Prop := ∃ (o : Obj) (its : Array Value) (n : Nat), K.lookup a = some o ∧ o.cls = .type "tuple" ∧ o.dict = none ∧ o.data = .seq its n ∧ its.size ≤ sizeLine ∧ Vals vs its.toList
def KLst (K : PySem.W.Frag) (a : Addr) (vs : List V) : Prop := ∃ (o : Obj) (its : Array Value) (n : Nat), K.lookup a = some o ∧ o.cls = .type "list" ∧ o.dict = none ∧ o.data = .seq its n ∧ its.size ≤ sizeLine ∧ Vals vs its.toList
def keyD : Key → D
  | .inl i => .int i
  | .inr x => .str x.cps.toList

/-- a dict whose keys are nested tuples: its entries -/
def nphi (P : Program) (w : World) (a : Addr) (o : Obj) (xs : List (NestedKey × Addr × Value)) (h : Heap) : Prop := (a == sysModules) = false ∧ xs.length ≤ sizeLine ∧ (xs.map (·.1)).Nodup ∧
  h.get? a = some o ∧ ∃ es ep, o.ExactDict ∧ o.data = .dict es ep ∧ es.toList = xs.map (entryOfKey (nestedKind P w))
def NO (B : Gb) (a : Addr) (o : Obj) (xs : List (NestedKey × Addr × Value)) : HO := .ext (nphi B.P B.w a o xs)
def NOx (B : Gb) (H : Hp) (a : Addr) (xs : List (NestedKey × Addr × Value)) : Prop := ∃ o, H a = some (NO B a o xs)
mutual
inductive RD (G : Gx) (ρ : List Addr) (H : Hp) : D → V → Prop
  | non : RD G ρ H .non .non
  | bl (b : Bool) : RD G ρ H (.bl b) (.bl b)
  | int (i : Int) : RD G ρ H (.int i) (.int i)
  | str (s : List Nat) : RD G ρ H (.str s) (.str ⟨s.toArray⟩)
  | tup {a : Addr} {ob : Obj} {vs : List V} {xs : List D} : H a = some (.frz ob (.tup vs)) → ob.dict = none → a ∉ ρ → a ∉ G.av → RDs G ρ H xs vs → RD G ρ H (.tup xs) (.ref a)
  | tupK {a : Addr} {vs : List V} {xs : List D} : KTup G.K a vs → RDs G ρ H xs vs → RD G ρ H (.tup xs) (.ref a)
  | fz {a : Addr} {vs : List V} {xs : List D} : Rd H a (.lst vs) → a ∉ ρ → a ∉ G.av → RDs G ρ H xs vs → RD G ρ H (.fz xs) (.ref a)
  | fzK {a : Addr} {vs : List V} {xs : List D} : KLst G.K a vs → RDs G ρ H xs vs → RD G ρ H (.fz xs) (.ref a)
  | fd {a : Addr} {kvs : List (Key × V)} {vs : List D} : Rd H a (.dK kvs) → a ∉ ρ → a ∉ G.av → RDs G ρ H vs (kvs.map (·.2)) → RD G ρ H (.fd (kvs.map fun p => keyD p.1) vs) (.ref a)
  | fdn {a : Addr} {es : List (NestedKey × Addr × Value)} {ks vs : List D} {us : List V} : NOx G.b H a es → a ∉ ρ → a ∉ G.av → mapO kOf ks = some (es.map (·.1)) → RDs G ρ H ks (es.map fun x => V.ref x.2.1) → Vals us (es.map (·.2.2)) → RDs G ρ H vs us → RD G ρ H (.fdn ks vs) (.ref a)
  | ref {l : Nat} {a : Addr} : ρ[l]? = some a → RD G ρ H (.ref l) (.ref a)
  | bm {c m : String} {l : Nat} {a q C f : Addr} : ρ[l]? = some a → G.b.cls c = some C → Meth G.K C (sOf m) f → H q = some (.met f a) → q ∉ ρ → q ∉ G.av → RD G ρ H (.bm c l m) (.ref q)
inductive RDs (G : Gx) (ρ : List Addr) (H : Hp) : List D → List V → Prop
  | nil : RDs G ρ H [] []
  | cons {x : D} {v : V} {xs : List D} {vs : List V} : RD G ρ H x v → RDs G ρ H xs vs → RDs G ρ H (x :: xs) (v :: vs)
end

/-- what stays: what is ours keeps its place, what is not ours is as it was and stays not ours -/
structure Stp (ρ ρ' : List Addr) (H H' : Hp) : Prop where
  pre : ∀ (l : Nat) (a : Addr), ρ[l]? = some a → ρ'[l]? = some a
  frm : ∀ b o, H b = some o → b ∉ ρ → H' b = some o ∧ b ∉ ρ'
theorem Stp.refl (ρ : List Addr) (H : Hp) : Stp ρ ρ H H := ⟨fun _ _ h => h, fun _ _ h n => ⟨h, n⟩⟩
theorem Stp.trans {ρ ρ1 ρ2 : List Addr} {H H1 H2 : Hp} (a : Stp ρ ρ1 H H1) (b : Stp ρ1 ρ2 H1 H2) : Stp ρ ρ2 H H2 :=
  ⟨fun l x h => b.pre l x (a.pre l x h), fun c o h n => let ⟨h1, n1⟩ := a.frm c o h n; b.frm c o h1 n1⟩
theorem Stp.new {ρ : List Addr} {H : Hp} {p : Addr} {o : HO} (h : H p = none) : Stp ρ ρ H (upd H p o) :=
  ⟨fun _ _ h => h, fun b u e n => ⟨by rw [upd_ne (ne_of_none e h)]; exact e, n⟩⟩

section
variable {G : Gx} {ρ ρ' : List Addr} {H H' : Hp}
theorem Rd.step {a : Addr} {o : HO} (s : Stp ρ ρ' H H') (h : Rd H a o) (n : a ∉ ρ) : Rd H' a o ∧ a ∉ ρ' := by
  rcases h with h | ⟨u, h⟩
  · exact ⟨.inl (s.frm a _ h n).1, (s.frm a _ h n).2⟩
  · exact ⟨.inr ⟨u, (s.frm a _ h n).1⟩, (s.frm a _ h n).2⟩
theorem Rd.there {a : Addr} {o : HO} (h : Rd H a o) : ∃ u, H a = some u := by
  rcases h with h | ⟨u, h⟩
  · exact ⟨_, h⟩
  · exact ⟨_, h⟩
mutual
/-- carried over: the values that lean on nothing but what stays -/
theorem RD.move {G' : Gx} (hK : G'.b = G.b) (pre : ∀ (l : Nat) (a : Addr), ρ[l]? = some a → ρ'[l]? = some a) (f : ∀ b o, H b = some o → b ∉ ρ → b ∉ G.av → H' b = some o ∧ b ∉ ρ' ∧ b ∉ G'.av) : ∀ {d : D} {v : V}, RD G ρ H d v → RD G' ρ' H' d v
  | _, _, .non => .non
  | _, _, .bl b => .bl b
  | _, _, .int i => .int i
  | _, _, .str x => .str x
  | _, _, .tup h d n m r => let ⟨h1, h2, h3⟩ := f _ _ h n m; .tup h1 d h2 h3 (RDs.move hK pre f r)
  | _, _, .tupK h r => .tupK (by rw [show G'.K = G.K from congrArg Gb.K hK]; exact h) (RDs.move hK pre f r)
  | _, _, .fz h n m r => match h with
    | .inl h => let ⟨h1, h2, h3⟩ := f _ _ h n m; .fz (.inl h1) h2 h3 (RDs.move hK pre f r)
    | .inr ⟨u, h⟩ => let ⟨h1, h2, h3⟩ := f _ _ h n m; .fz (.inr ⟨u, h1⟩) h2 h3 (RDs.move hK pre f r)
  | _, _, .fzK h r => .fzK (by rw [show G'.K = G.K from congrArg Gb.K hK]; exact h) (RDs.move hK pre f r)
  | _, _, .fd h n m r => match h with
    | .inl h => let ⟨h1, h2, h3⟩ := f _ _ h n m; .fd (.inl h1) h2 h3 (RDs.move hK pre f r)
    | .inr ⟨u, h⟩ => let ⟨h1, h2, h3⟩ := f _ _ h n m; .fd (.inr ⟨u, h1⟩) h2 h3 (RDs.move hK pre f r)
  | _, _, .fdn ⟨o, h⟩ n m e rk rv r => let ⟨h1, h2, h3⟩ := f _ _ h n m; .fdn ⟨o, by rw [hK]; exact h1⟩ h2 h3 e (RDs.move hK pre f rk) rv (RDs.move hK pre f r)
  | _, _, .ref h => .ref (pre _ _ h)
  | _, _, .bm h1 h2 h3 h4 n m => let ⟨e1, e2, e3⟩ := f _ _ h4 n m; .bm (pre _ _ h1) (by rw [hK]; exact h2) (by rw [show G'.K = G.K from congrArg Gb.K hK]; exact h3) e1 e2 e3
theorem RDs.move {G' : Gx} (hK : G'.b = G.b) (pre : ∀ (l : Nat) (a : Addr), ρ[l]? = some a → ρ'[l]? = some a) (f : ∀ b o, H b = some o → b ∉ ρ → b ∉ G.av → H' b = some o ∧ b ∉ ρ' ∧ b ∉ G'.av) : ∀ {ds : List D} {vs : List V}, RDs G ρ H ds vs → RDs G' ρ' H' ds vs
  | _, _, .nil => .nil
  | _, _, .cons r rs => .cons (RD.move hK pre f r) (RDs.move hK pre f rs)
end
theorem RD.step (s : Stp ρ ρ' H H') {d : D} {v : V} (r : RD G ρ H d v) : RD G ρ' H' d v := r.move (G := G) (G' := G) rfl s.pre fun b o e n m => ⟨(s.frm b o e n).1, (s.frm b o e n).2, m⟩
theorem RDs.step (s : Stp ρ ρ' H H') {d : List D} {v : List V} (r : RDs G ρ H d v) : RDs G ρ' H' d v := r.move (G := G) (G' := G) rfl s.pre fun b o e n m => ⟨(s.frm b o e n).1, (s.frm b o e n).2, m⟩
theorem RD.new {p : Addr} {o : HO} (n : H p = none) {d : D} {v : V} (r : RD G ρ H d v) : RD (G.hide p) ρ (upd H p o) d v := r.move (G := G) (G' := G.hide p) (H' := upd H p o) rfl (fun _ _ h => h) fun b u e nn m => ⟨by rw [upd_ne (ne_of_none e n)]; exact e, nn, by
  simp only [List.mem_cons, not_or]; exact ⟨ne_of_none e n, m⟩⟩
theorem RDs.new {p : Addr} {o : HO} (n : H p = none) {d : List D} {v : List V} (r : RDs G ρ H d v) : RDs (G.hide p) ρ (upd H p o) d v := r.move (G := G) (G' := G.hide p) (H' := upd H p o) rfl (fun _ _ h => h) fun b u e nn m => ⟨by rw [upd_ne (ne_of_none e n)]; exact e, nn, by
  simp only [List.mem_cons, not_or]; exact ⟨ne_of_none e n, m⟩⟩
theorem RD.show {p : Addr} {d : D} {v : V} (r : RD (G.hide p) ρ H d v) : RD G ρ H d v := r.move (G := (G.hide p)) (G' := G) rfl (fun _ _ h => h) fun b u e nn m => ⟨e, nn, fun z => m (List.mem_cons_of_mem _ z)⟩
theorem RDs.show {p : Addr} {d : List D} {v : List V} (r : RDs (G.hide p) ρ H d v) : RDs G ρ H d v := r.move (G := (G.hide p)) (G' := G) rfl (fun _ _ h => h) fun b u e nn m => ⟨e, nn, fun z => m (List.mem_cons_of_mem _ z)⟩
theorem RDs.length : ∀ {ds : List D} {vs : List V}, RDs G ρ H ds vs → ds.length = vs.length
  | _, _, .nil => rfl
  | _, _, .cons _ r => by rw [List.length_cons, List.length_cons, RDs.length r]
theorem RDs.get : ∀ {ds : List D} {vs : List V} {i : Nat} {d : D}, RDs G ρ H ds vs → ds[i]? = some d → ∃ v, vs[i]? = some v ∧ RD G ρ H d v
  | _, _, _, _, .nil, h => by simp at h
  | _, _, 0, _, .cons r _, h => by simp at h; subst h; exact ⟨_, rfl, r⟩
  | _, _, i + 1, d, .cons _ rs, h => by
    obtain ⟨v, h1, h2⟩ := RDs.get (i := i) (d := d) rs (by simpa using h)
    exact ⟨v, by simpa using h1, h2⟩
theorem RDs.get' : ∀ {ds : List D} {vs : List V} {i : Nat} {v : V}, RDs G ρ H ds vs → vs[i]? = some v → ∃ d, ds[i]? = some d ∧ RD G ρ H d v
  | _, _, _, _, .nil, h => by simp at h
  | _, _, 0, _, .cons r _, h => by simp at h; subst h; exact ⟨_, rfl, r⟩
  | _, _, i + 1, d, .cons _ rs, h => by
    obtain ⟨v, h1, h2⟩ := RDs.get' (i := i) rs (by simpa using h)
    exact ⟨v, by simpa using h1, h2⟩
theorem RDs.append : ∀ {xs ys : List D} {vs ws : List V}, RDs G ρ H xs vs → RDs G ρ H ys ws → RDs G ρ H (xs ++ ys) (vs ++ ws)
  | _, _, _, _, .nil, s => s
  | _, _, _, _, .cons r t, s => .cons r (RDs.append t s)
theorem RDs.take : ∀ {xs : List D} {vs : List V} (n : Nat), RDs G ρ H xs vs → RDs G ρ H (xs.take n) (vs.take n)
  | _, _, 0, _ => by simp; exact .nil
  | _, _, _ + 1, .nil => .nil
  | _, _, n + 1, .cons r t => .cons r (RDs.take n t)
theorem RDs.drop : ∀ {xs : List D} {vs : List V} (n : Nat), RDs G ρ H xs vs → RDs G ρ H (xs.drop n) (vs.drop n)
  | _, _, 0, r => r
  | _, _, _ + 1, .nil => .nil
  | _, _, n + 1, .cons _ t => RDs.drop n t
theorem RDs.reverse : ∀ {xs : List D} {vs : List V}, RDs G ρ H xs vs → RDs G ρ H xs.reverse vs.reverse
  | _, _, .nil => .nil
  | _, _, .cons r t => by
    rw [List.reverse_cons, List.reverse_cons]
    exact RDs.append (RDs.reverse t) (.cons r .nil)
theorem RDs.set : ∀ {xs : List D} {vs : List V} {d : D} {v : V} (i : Nat), RDs G ρ H xs vs → RD G ρ H d v → RDs G ρ H (xs.set i d) (vs.set i v)
  | _, _, _, _, _, .nil, _ => .nil
  | _, _, _, _, 0, .cons _ t, q => .cons q t
  | _, _, _, _, i + 1, .cons r t, q => .cons r (RDs.set i t q)
theorem RDs.one {d : D} {vs : List V} (r : RDs G ρ H [d] vs) : ∃ v, vs = [v] ∧ RD G ρ H d v := by
  cases r with
  | cons r t => cases t; exact ⟨_, rfl, r⟩
end

/-- what an object of ours is -/
def RO (G : Gx) (ρ : List Addr) (H : Hp) (a : Addr) : Ob → Prop
  | .lst xs => ∃ vs, H a = some (.lst vs) ∧ RDs G ρ H xs vs
  | .dic ks vs => ∃ kvs : List (Key × V), H a = some (.dK kvs) ∧ ks = kvs.map (fun p => keyD p.1) ∧ RDs G ρ H vs (kvs.map (·.2))
  | .din ks vs => ∃ (es : List (NestedKey × Addr × Value)) (us : List V), NOx G.b H a es ∧ mapO kOf ks = some (es.map (·.1)) ∧ RDs G ρ H ks (es.map fun x => V.ref x.2.1) ∧ Vals us (es.map (·.2.2)) ∧ RDs G ρ H vs us
  | .ins c fs => ∃ (C dx : Addr) (vfs : List (Str × V)), G.b.cls c = some C ∧ H a = some (.ins C dx vfs) ∧ vfs.map (·.1) = fs.map (fun p => sOf p.1) ∧ RDs G ρ H (fs.map (·.2)) (vfs.map (·.2))
structure RelH (G : Gx) (ρ : List Addr) (h : Hh) (H : Hp) : Prop where
  len : ρ.length = h.length
  nd : ρ.Nodup
  obj : ∀ (l : Nat) (o : Ob), h[l]? = some o → ∃ a, ρ[l]? = some a ∧ RO G ρ H a o
  avd : ∀ b ∈ G.av, ∃ o, H b = some o
  avn : ∀ b ∈ G.av, b ∉ ρ
section
variable {G : Gx} {ρ ρ' : List Addr} {H H' : Hp} {h h' : Hh}
theorem RO.move {G' : Gx} {a : Addr} {o : Ob} (hK : G'.b = G.b) (pre : ∀ (l : Nat) (a : Addr), ρ[l]? = some a → ρ'[l]? = some a) (f : ∀ b o, H b = some o → b ∉ ρ → b ∉ G.av → H' b = some o ∧ b ∉ ρ' ∧ b ∉ G'.av) (k : ∀ u, H a = some u → H' a = some u) : RO G ρ H a o → RO G' ρ' H' a o := by
  cases o with
  | lst xs => rintro ⟨vs, e, r⟩; exact ⟨vs, k _ e, r.move hK pre f⟩
  | dic ks vs => rintro ⟨kvs, e, q, r⟩; exact ⟨kvs, k _ e, q, r.move hK pre f⟩
  | din ks vs => rintro ⟨es, us, ⟨o, e⟩, q, rk, rv, r⟩; exact ⟨es, us, ⟨o, k _ (by rw [hK]; exact e)⟩, q, rk.move hK pre f, rv, r.move hK pre f⟩
  | ins c fs => rintro ⟨C, dx, vfs, e1, e, q, r⟩; exact ⟨C, dx, vfs, by rw [hK]; exact e1, k _ e, q, r.move hK pre f⟩
theorem RO.step {a : Addr} {o : Ob} (s : Stp ρ ρ' H H') (k : ∀ u, H a = some u → H' a = some u) (r : RO G ρ H a o) : RO G ρ' H' a o :=
  r.move (G := G) (G' := G) rfl s.pre (fun b o e n m => ⟨(s.frm b o e n).1, (s.frm b o e n).2, m⟩) k
theorem RO.there {a : Addr} {o : Ob} : RO G ρ H a o → ∃ u, H a = some u := by
  cases o with
  | lst xs => rintro ⟨vs, e, r⟩; exact ⟨_, e⟩
  | dic ks vs => rintro ⟨kvs, e, q, r⟩; exact ⟨_, e⟩
  | din ks vs => rintro ⟨es, us, ⟨o, e⟩, q, rk, rv, r⟩; exact ⟨_, e⟩
  | ins c fs => rintro ⟨C, dx, vfs, e1, e, q, r⟩; exact ⟨_, e⟩
theorem RO.lst_inv {a : Addr} {xs : List D} (r : RO G ρ H a (.lst xs)) : ∃ vs, H a = some (.lst vs) ∧ RDs G ρ H xs vs := r
theorem RelH.lt {l : Nat} {a : Addr} (R : RelH G ρ h H) (e : ρ[l]? = some a) : ∃ o, h[l]? = some o ∧ RO G ρ H a o := by
  have hl : l < ρ.length := (List.getElem?_eq_some_iff.mp e).1
  rw [R.len] at hl
  obtain ⟨a', e', r⟩ := R.obj l _ (List.getElem?_eq_getElem hl)
  rw [e] at e'; cases e'
  exact ⟨_, List.getElem?_eq_getElem hl, r⟩
theorem RelH.mem {a : Addr} (R : RelH G ρ h H) (e : a ∈ ρ) : ∃ u, H a = some u := by
  obtain ⟨l, hl, e⟩ := List.mem_iff_getElem.mp e
  obtain ⟨o, _, r⟩ := R.lt (l := l) (a := a) (by rw [← e]; exact List.getElem?_eq_getElem hl)
  exact r.there
theorem RelH.notIn {p : Addr} (R : RelH G ρ h H) (n : H p = none) : p ∉ ρ := fun hm => by
  obtain ⟨u, e⟩ := R.mem hm
  rw [n] at e; cases e
theorem RelH.notAv {p : Addr} (R : RelH G ρ h H) (n : H p = none) : p ∉ G.av := fun hm => by
  obtain ⟨u, e⟩ := R.avd p hm
  rw [n] at e; cases e
/-- a new object that isn't ours -/
theorem RelH.new {p : Addr} {o : HO} (R : RelH G ρ h H) (n : H p = none) : RelH G ρ h (upd H p o) :=
  ⟨R.len, R.nd, fun l u e => by
    obtain ⟨a, e1, r⟩ := R.obj l u e
    refine ⟨a, e1, r.step (Stp.new n) fun w q => ?_⟩
    rw [upd_ne (ne_of_none q n)]; exact q, fun b hb => by
    obtain ⟨u, e⟩ := R.avd b hb
    exact ⟨u, by rw [upd_ne (ne_of_none e n)]; exact e⟩, R.avn⟩
/-- .. and is hidden -/
theorem RelH.newHid {p : Addr} {o : HO} (R : RelH G ρ h H) (n : H p = none) : RelH (G.hide p) ρ h (upd H p o) := by
  refine ⟨R.len, R.nd, fun l u e => ?_, fun b hb => ?_, fun b hb => ?_⟩
  · obtain ⟨a, e1, r⟩ := R.obj l u e
    refine ⟨a, e1, r.move (G := G) (G' := G.hide p) (H' := upd H p o) rfl (fun _ _ h => h) (fun b u e nn m => ⟨by rw [upd_ne (ne_of_none e n)]; exact e, nn, ?_⟩) fun w q => ?_⟩
    · simp only [List.mem_cons, not_or]; exact ⟨ne_of_none e n, m⟩
    · rw [upd_ne (ne_of_none q n)]; exact q
  · rcases List.mem_cons.mp hb with rfl | hb
    · exact ⟨_, upd_same⟩
    · obtain ⟨u, e⟩ := R.avd b hb
      exact ⟨u, by rw [upd_ne (ne_of_none e n)]; exact e⟩
  · rcases List.mem_cons.mp hb with rfl | hb
    · exact R.notIn n
    · exact R.avn b hb
theorem RelH.show {p : Addr} (R : RelH (G.hide p) ρ h H) : RelH G ρ h H :=
  ⟨R.len, R.nd, fun l u e => by
    obtain ⟨a, e1, r⟩ := R.obj l u e
    exact ⟨a, e1, r.move (G := (G.hide p)) (G' := G) rfl (fun _ _ h => h) (fun b u e nn m => ⟨e, nn, fun z => m (List.mem_cons_of_mem _ z)⟩) fun w q => q⟩, fun b hb => R.avd b (List.mem_cons_of_mem _ hb), fun b hb => R.avn b (List.mem_cons_of_mem _ hb)⟩
theorem nodup_concat {p : Addr} (nd : ρ.Nodup) (n : p ∉ ρ) : (ρ ++ [p]).Nodup := by
  rw [List.nodup_append]
  exact ⟨nd, by simp, fun a ha b hb => by rw [List.mem_singleton.mp hb]; exact fun e => n (e ▸ ha)⟩
/-- an object of ours is written -/
theorem ixInj {α : Type} {ρ : List α} (nd : ρ.Nodup) {l l' : Nat} {a : α} (e : ρ[l]? = some a) (e' : ρ[l']? = some a) : l = l' := by
  obtain ⟨h1, q1⟩ := List.getElem?_eq_some_iff.mp e
  obtain ⟨h2, q2⟩ := List.getElem?_eq_some_iff.mp e'
  exact (List.getElem_inj nd).mp (q1.trans q2.symm)
theorem Stp.write {a : Addr} {o : HO} (m : a ∈ ρ) : Stp ρ ρ H (upd H a o) :=
  ⟨fun _ _ h => h, fun b u e n => ⟨by rw [upd_ne (fun z => n (by rw [z]; exact m))]; exact e, n⟩⟩
theorem RelH.write {l : Nat} {a : Addr} {o : HO} {ob : Ob} (R : RelH G ρ h H) (e : ρ[l]? = some a) (q : RO G ρ (upd H a o) a ob) : RelH G ρ (h.set l ob) (upd H a o) := by
  have hm : a ∈ ρ := List.mem_of_getElem? e
  refine ⟨by rw [List.length_set]; exact R.len, R.nd, fun l' u e' => ?_, fun b hb => ?_, R.avn⟩
  rotate_left
  · obtain ⟨u, e1⟩ := R.avd b hb
    exact ⟨u, by rw [upd_ne (fun z => R.avn b hb (by rw [z]; exact hm))]; exact e1⟩
  by_cases hl : l = l'
  · subst hl
    have hlt : l < h.length := by rw [← R.len]; exact (List.getElem?_eq_some_iff.mp e).1
    rw [List.getElem?_set_self hlt] at e'
    cases e'
    exact ⟨a, e, q⟩
  · rw [List.getElem?_set_ne hl] at e'
    obtain ⟨b, e1, r⟩ := R.obj l' u e'
    refine ⟨b, e1, r.step (Stp.write hm) fun w z => ?_⟩
    rw [upd_ne (fun z' => hl (ixInj R.nd e (by rw [← z']; exact e1)))]
    exact z
/-- an object that was hidden becomes ours -/
theorem RelH.own {p : Addr} {ob : Ob} (nv : p ∉ G.av) (R : RelH (G.hide p) ρ h H) (ro : RO (G.hide p) ρ H p ob) : RelH G (ρ ++ [p]) (h ++ [ob]) H ∧ (ρ ++ [p])[h.length]? = some p := by
  have pre : ∀ (l : Nat) (a : Addr), ρ[l]? = some a → (ρ ++ [p])[l]? = some a := fun l a e => by
    rw [List.getElem?_append_left (List.getElem?_eq_some_iff.mp e).1]; exact e
  have at_ : (ρ ++ [p])[h.length]? = some p := by
    rw [← R.len, List.getElem?_append_right (Nat.le_refl _)]; simp
  have np : p ∉ ρ := R.avn p List.mem_cons_self
  have mv : ∀ b o, H b = some o → b ∉ ρ → b ∉ (G.hide p).av → H b = some o ∧ b ∉ ρ ++ [p] ∧ b ∉ G.av := fun b o e n m => by
    simp only [List.mem_cons, not_or] at m
    exact ⟨e, by simp only [List.mem_append, List.mem_singleton, not_or]; exact ⟨n, m.1⟩, m.2⟩
  refine ⟨⟨by simp [R.len], nodup_concat R.nd np, fun l u el => ?_, fun b hb => R.avd b (List.mem_cons_of_mem _ hb), fun b hb hm => ?_⟩, at_⟩
  · by_cases hl : l < h.length
    · rw [List.getElem?_append_left hl] at el
      obtain ⟨a, ea, ra⟩ := R.obj l u el
      exact ⟨a, pre l a ea, ra.move (G := (G.hide p)) (G' := G) rfl pre mv fun w q => q⟩
    · have hle : l = h.length := by
        have := (List.getElem?_eq_some_iff.mp el).1
        simp at this; omega
      subst hle
      rw [List.getElem?_append_right (Nat.le_refl _)] at el
      simp at el
      subst el
      exact ⟨p, at_, ro.move (G := (G.hide p)) (G' := G) rfl pre mv fun w q => q⟩
  · rcases List.mem_append.mp hm with hm | hm
    · exact R.avn b (List.mem_cons_of_mem _ hb) hm
    · rw [List.mem_singleton.mp hm] at hb
      exact nv hb
end

/-- what an expression gives: a list just made is new, not ours, and nothing leans on it -/
def RV (G : Gx) (ρ : List Addr) (h : Hh) (H0 H : Hp) (d : D) (v : V) : Prop := match d with
  | .lv xs => ∃ a vs, v = .ref a ∧ H0 a = none ∧ a ∉ G.av ∧ H a = some (.lst vs) ∧ RDs (G.hide a) ρ H xs vs ∧ RelH (G.hide a) ρ h H
  | .dv ks vs => ∃ (a : Addr) (kvs : List (Key × V)), v = .ref a ∧ H0 a = none ∧ a ∉ G.av ∧ H a = some (.dK kvs) ∧ ks = kvs.map (fun p => keyD p.1) ∧ RDs (G.hide a) ρ H vs (kvs.map (·.2)) ∧ RelH (G.hide a) ρ h H
  | .dvn ks vs => ∃ (a : Addr) (es : List (NestedKey × Addr × Value)) (us : List V), v = .ref a ∧ H0 a = none ∧ a ∉ G.av ∧ NOx G.b H a es ∧ mapO kOf ks = some (es.map (·.1)) ∧ RDs (G.hide a) ρ H ks (es.map fun x => V.ref x.2.1) ∧ Vals us (es.map (·.2.2)) ∧ RDs (G.hide a) ρ H vs us ∧ RelH (G.hide a) ρ h H
  | d => RD G ρ H d v
section
variable {G : Gx} {ρ ρ' ρ0 : List Addr} {h h' : Hh} {H H' H0 H1 : Hp} {d : D} {v : V}
theorem RV.keep (r : RV G ρ h H0 H d v) : RD G ρ H d.keep v := by
  cases d with
  | lv xs => obtain ⟨a, vs, rfl, _, n, e, r, R⟩ := r; exact .fz (.inl e) (R.avn a List.mem_cons_self) n r.show
  | dv ks vs => obtain ⟨a, kvs, rfl, _, n, e, rfl, r, R⟩ := r; exact .fd (.inl e) (R.avn a List.mem_cons_self) n r.show
  | dvn ks vs => obtain ⟨a, es, us, rfl, _, n, e, q, rk, rv, r, R⟩ := r; exact .fdn e (R.avn a List.mem_cons_self) n q rk.show rv r.show
  | _ => exact r
theorem RD.rv (r : RD G ρ H d v) : RV G ρ h H0 H d v := by
  cases d with
  | lv xs => cases r
  | dv ks vs => cases r
  | dvn ks vs => cases r
  | _ => exact r
theorem RD.keep (r : RD G ρ H d v) : RD G ρ H d.keep v := by
  cases d with
  | lv xs => cases r
  | dv ks vs => cases r
  | dvn ks vs => cases r
  | _ => exact r
theorem Stp.mem (s : Stp ρ ρ' H H') : ∀ x ∈ ρ, x ∈ ρ' := fun x m => by
  obtain ⟨l, hl, e⟩ := List.mem_iff_getElem.mp m
  exact List.mem_of_getElem? (s.pre l x (by rw [← e]; exact List.getElem?_eq_getElem hl))
theorem free_of_step (s : Stp ρ0 ρ H0 H1) (s2 : Stp ρ ρ' H1 H) {a : Addr} (n1 : H1 a = none) (n : a ∉ ρ') : H0 a = none := by
  cases q : H0 a with
  | none => rfl
  | some o =>
    have n0 : a ∉ ρ0 := fun m => n (s2.mem a (s.mem a m))
    have := (s.frm a o q n0).1
    rw [n1] at this; cases this
/-- seen from an earlier time -/
theorem RV.back (s : Stp ρ0 ρ H0 H1) (s2 : Stp ρ ρ' H1 H) (r : RV G ρ' h H1 H d v) : RV G ρ' h H0 H d v := by
  cases d with
  | lv xs => obtain ⟨a, vs, e, n0, n, q, r, R⟩ := r; exact ⟨a, vs, e, free_of_step s s2 n0 (R.avn a List.mem_cons_self), n, q, r, R⟩
  | dv ks vs => obtain ⟨a, kvs, e, n0, n, q, e2, r, R⟩ := r; exact ⟨a, kvs, e, free_of_step s s2 n0 (R.avn a List.mem_cons_self), n, q, e2, r, R⟩
  | dvn ks vs => obtain ⟨a, es, us, e, n0, n, q, e2, rk, rv, r, R⟩ := r; exact ⟨a, es, us, e, free_of_step s s2 n0 (R.avn a List.mem_cons_self), n, q, e2, rk, rv, r, R⟩
  | _ => exact r
end

/-- the names' values -/
def RelE (G : Gx) (ρ : List Addr) (H : Hp) (σD : Env) (σ : L2.St) : Prop :=
  σD.length = σ.length ∧ ∀ (i : Nat) (d : D), σD[i]? = some (some d) → ∃ v, σ[i]? = some (some v) ∧ RD G ρ H d v
section
variable {G : Gx} {ρ ρ' : List Addr} {H H' : Hp} {σD : Env} {σ : L2.St}
theorem RelE.step (s : Stp ρ ρ' H H') (r : RelE G ρ H σD σ) : RelE G ρ' H' σD σ :=
  ⟨r.1, fun i d e => let ⟨v, q, z⟩ := r.2 i d e; ⟨v, q, z.step s⟩⟩
theorem RelE.set {i : Nat} {d : D} {v : V} (r : RelE G ρ H σD σ) (q : RD G ρ H d v) : RelE G ρ H (σD.set i (some d)) (σ.set i (some v)) := by
  refine ⟨by rw [List.length_set, List.length_set]; exact r.1, fun j e hj => ?_⟩
  by_cases hi : i = j
  · subst hi
    have hl : i < σD.length := by
      have := (List.getElem?_eq_some_iff.mp hj).1
      rwa [List.length_set] at this
    rw [List.getElem?_set_self hl] at hj
    cases hj
    exact ⟨v, by rw [List.getElem?_set_self (by rw [← r.1]; exact hl)], q⟩
  · rw [List.getElem?_set_ne hi] at hj
    obtain ⟨w, e1, z⟩ := r.2 j e hj
    exact ⟨w, by rw [List.getElem?_set_ne hi]; exact e1, z⟩
theorem RelE.setNone {i : Nat} (r : RelE G ρ H σD σ) : RelE G ρ H (σD.set i none) (σ.set i none) := by
  refine ⟨by rw [List.length_set, List.length_set]; exact r.1, fun j e hj => ?_⟩
  by_cases hi : i = j
  · subst hi
    have hl : i < σD.length := by
      have := (List.getElem?_eq_some_iff.mp hj).1
      rwa [List.length_set] at this
    rw [List.getElem?_set_self hl] at hj
    cases hj
  · rw [List.getElem?_set_ne hi] at hj
    obtain ⟨w, e1, z⟩ := r.2 j e hj
    exact ⟨w, by rw [List.getElem?_set_ne hi]; exact e1, z⟩
theorem RelE.wipe (r : RelE G ρ H σD σ) : ∀ vs : List Nat, RelE G ρ H (Sd.wipe σD vs) (L2.wipe σ vs)
  | [] => r
  | v :: vs => (RelE.wipe r vs).setNone
end

/-! ### readings -/
def tD (G : Gx) (m : Env → Hh → Out D) : TE := fun σ H Q => ∃ av ρ h σD d h', RelH (G.at av) ρ h H ∧ RelE (G.at av) ρ H σD σ ∧ m σD h = .ok d h' ∧
  ∀ ρ' H' v, Stp ρ ρ' H H' → RelH (G.at av) ρ' h' H' → RV (G.at av) ρ' h' H H' d v → Q v H'
def tDs (G : Gx) (m : Env → Hh → Out (List D)) : TA := fun σ H Q => ∃ av ρ h σD ds h', RelH (G.at av) ρ h H ∧ RelE (G.at av) ρ H σD σ ∧ m σD h = .ok ds h' ∧
  ∀ ρ' H' vs, Stp ρ ρ' H H' → RelH (G.at av) ρ' h' H' → RDs (G.at av) ρ' H' ds vs → Q vs H'
def tDt (G : Gx) (m : Env → Hh → Out D) : TT := fun σ H Q => ∃ av ρ h σD b h', RelH (G.at av) ρ h H ∧ RelE (G.at av) ρ H σD σ ∧ m σD h = .ok (.bl b) h' ∧
  ∀ ρ' H', Stp ρ ρ' H H' → RelH (G.at av) ρ' h' H' → Q b H'
theorem PE.imp {X : Cx} {e : Expr} {t t' : TE} (p : PE X e t) (h : ∀ σ H Q, t' σ H Q → t σ H Q) : PE X e t' := ⟨fun pins s σ H Q I q => p.run pins s σ H Q I (h σ H Q q)⟩
theorem PT.imp {X : Cx} {e : Expr} {t t' : TT} (p : PT X e t) (h : ∀ σ H Q, t' σ H Q → t σ H Q) : PT X e t' := ⟨fun pins s σ H Q I q => p.run pins s σ H Q I (h σ H Q q)⟩
theorem PW.imp {X : Cx} {e : Expr} {t t' : TT} (p : PW X e t) (h : ∀ σ H Q, t' σ H Q → t σ H Q) : PW X e t' := ⟨fun wh pins s σ H Q I q => p.run wh pins s σ H Q I (h σ H Q q)⟩
theorem PA.imp {X : Cx} {e : List Expr} {t t' : TA} (p : PA X e t) (h : ∀ σ H Q, t' σ H Q → t σ H Q) : PA X e t' := ⟨fun pos pins s σ H Q I q => p.run pos pins s σ H Q I (h σ H Q q)⟩
theorem PS.imp {X : Cx} {e : Stmt} {t t' : TS} (p : PS X e t) (h : ∀ D σ H, t' D σ H → t D σ H) : PS X e t' := ⟨fun pins s σ H D I q => p.run pins s σ H D I (h D σ H q)⟩
theorem PSs.imp {X : Cx} {e : List Stmt} {t t' : TS} (p : PSs X e t) (h : ∀ D σ H, t' D σ H → t D σ H) : PSs X e t' := ⟨fun pins s σ H D I q => p.run pins s σ H D I (h D σ H q)⟩
theorem RelH.keeps {G : Gx} {ρ : List Addr} {h : Hh} {H : Hp} (R : RelH G ρ h H) : RelH G ρ h H := R
end Sd

/-! PyC: what operators and builtins give, over the model. -/
namespace Sd
open PySem PySem.Spec PyProof.Rows L2

def U1 (G : Gx) (F : Hh → D → Option D) : V → Hp → VK → Prop := fun v H Q => ∃ av ρ h x z, RelH (G.at av) ρ h H ∧ RD (G.at av) ρ H x v ∧ F h x = some z ∧
  ∀ H' u, Stp ρ ρ H H' → RelH (G.at av) ρ h H' → RV (G.at av) ρ h H H' z u → Q u H'
def U2 (G : Gx) (F : Hh → D → D → Option D) : R2 := fun v w H Q => ∃ av ρ h x y z, RelH (G.at av) ρ h H ∧ RD (G.at av) ρ H x v ∧ RD (G.at av) ρ H y w ∧ F h x y = some z ∧
  ∀ H' u, Stp ρ ρ H H' → RelH (G.at av) ρ h H' → RV (G.at av) ρ h H H' z u → Q u H'

theorem o1_keep (o : O1) (h : Hh) (x : D) : o1F o h x.keep = o1F o h x := by
  cases o <;> cases x <;> rfl
theorem pd_keep (h : Hh) (n : Nat) (x : D) : (pd h n x.keep) = pd h n x := by
  cases n <;> cases x <;> first | rfl | simp only [pd, D.keep]
theorem seqs_keep (h : Hh) (x : D) : seqs h x.keep = seqs h x := by cases x <;> rfl
theorem items_keep (h : Hh) (x : D) : items h x.keep = items h x := by cases x <;> rfl
theorem dict_keep (h : Hh) (x : D) : dict h x.keep = dict h x := by cases x <;> rfl
theorem eqF_keep (h : Hh) (x y : D) : eqF h x.keep y.keep = eqF h x y := by unfold eqF; rw [pd_keep, pd_keep]
theorem memF_keep (h : Hh) (x : D) (ys : List D) : memF h x.keep ys = memF h x ys := by unfold memF; rw [pd_keep]

section
variable {G : Gx} {ρ : List Addr} {h : Hh} {H : Hp} {x : D} {v : V}
/-! ### inversions -/
theorem RD.int_inv {i : Int} (r : RD G ρ H (.int i) v) : v = .int i := by cases r; rfl
theorem RD.bl_inv {b : Bool} (r : RD G ρ H (.bl b) v) : v = .bl b := by cases r; rfl
theorem RD.non_inv (r : RD G ρ H .non v) : v = .non := by cases r; rfl
theorem RD.str_inv {s : List Nat} (r : RD G ρ H (.str s) v) : v = .str ⟨s.toArray⟩ := by cases r; rfl
theorem RD.items_inv {xs : List D} (R : RelH G ρ h H) (r : RD G ρ H x v) (e : items h x = some xs) : ∃ a vs, v = .ref a ∧ SqL G.K H a vs ∧ RDs G ρ H xs vs := by
  cases r with
  | fz q n m rs => cases e; exact ⟨_, _, rfl, .inl q, rs⟩
  | fzK q rs => cases e; exact ⟨_, _, rfl, .inr q, rs⟩
  | @ref l a q =>
    obtain ⟨o, e1, ro⟩ := R.lt q
    simp only [items, e1] at e
    cases o with
    | lst ys =>
      cases e
      obtain ⟨vs, e2, rs⟩ := ro
      exact ⟨_, _, rfl, .inl (.inl e2), rs⟩
    | _ => cases e
  | _ => cases e
theorem RD.seqs_inv {xs : List D} (R : RelH G ρ h H) (r : RD G ρ H x v) (e : seqs h x = some xs) : ∃ a vs, v = .ref a ∧ (SqL G.K H a vs ∨ SqT G.K H a vs) ∧ RDs G ρ H xs vs := by
  cases x with
  | tup ys =>
    cases e
    cases r with
    | tup q d n m rs => exact ⟨_, _, rfl, .inr (.inl (.inr ⟨_, q⟩)), rs⟩
    | tupK q rs =>
      obtain ⟨o, its, n, e1, e2, _, e4, e5, e6⟩ := q
      exact ⟨_, _, rfl, .inr (.inr ⟨o, its, n, e1, e2, e4, e5, e6⟩), rs⟩
  | _ =>
    obtain ⟨a, vs, e1, q, rs⟩ := RD.items_inv R r (by exact e)
    exact ⟨a, vs, e1, .inl q, rs⟩
theorem RD.tup_inv {xs : List D} (r : RD G ρ H (.tup xs) v) : ∃ a vs, v = .ref a ∧ SqT G.K H a vs ∧ RDs G ρ H xs vs := by
  cases r with
  | tup q d n m rs => exact ⟨_, _, rfl, .inl (.inr ⟨_, q⟩), rs⟩
  | tupK q rs =>
    obtain ⟨o, its, n, e1, e2, _, e4, e5, e6⟩ := q
    exact ⟨_, _, rfl, .inr ⟨o, its, n, e1, e2, e4, e5, e6⟩, rs⟩
/-! ### endings -/
theorem fin_tup {X : Cx} {pins : List (Addr × Obj)} {σ : L2.St} {s : Shared} {xs : List D} {vs : List V} {us : List Value} {Q : VK} {t : Nat} (I : Inv X pins σ H s) (R : RelH G ρ h H) (rs : RDs G ρ H xs vs) (rv : Vals vs us) (hz : vs.length ≤ sizeLine)
    (q : ∀ H' u, Stp ρ ρ H H' → RelH G ρ h H' → RV G ρ h H H' (.tup xs) u → Q u H') : EP X pins σ Q (.ref s.heap.objs.size) { s with heap := s.heap.push { cls := .type "tuple", data := .seq us.toArray }, toks := t } := by
  have n : H s.heap.objs.size = none := I.hok.fresh (Nat.le_refl _)
  have e := Heap.get?_push_size s.heap (o := { cls := .type "tuple", data := .seq us.toArray }) rfl
  refine ⟨.ref s.heap.objs.size, _, I.laid (t' := t) (o := .frz { cls := .type "tuple", data := .seq us.toArray } (.tup vs)) (fun b ob q => Heap.get?_push_of_some _ q) (Nat.le_refl _) ⟨e, hz, us, rv, IsTup.new _ _⟩, rfl, ?_⟩
  exact q _ _ (Stp.new n) (R.new n) (RD.tup upd_same rfl (R.notIn n) (R.notAv n) (rs.step (Stp.new n)))
theorem fin_lst {xs : List D} {vs : List V} {p : Addr} {Q : VK} (R : RelH G ρ h H) (rs : RDs G ρ H xs vs) (n : H p = none)
    (q : ∀ H' u, Stp ρ ρ H H' → RelH G ρ h H' → RV G ρ h H H' (.lv xs) u → Q u H') : Q (.ref p) (upd H p (.lst vs)) :=
  q _ _ (Stp.new n) (R.new n) ⟨p, vs, rfl, n, R.notAv n, upd_same, rs.new n, R.newHid n⟩
theorem fin_at {z : D} {u : V} {Q : VK} (R : RelH G ρ h H) (r : RD G ρ H z u)
    (q : ∀ H' u, Stp ρ ρ H H' → RelH G ρ h H' → RV G ρ h H H' z u → Q u H') : Q u H := q _ _ (Stp.refl _ _) R r.rv

/-! ### lists of plain values -/
theorem RDs.bools {xs : List D} {vs : List V} (r : RDs G ρ H xs vs) : ∀ {bs : List Bool}, Sd.bools xs = some bs → vs = bs.map V.bl := by
  induction xs generalizing vs with
  | nil => intro bs e; cases e; cases r; rfl
  | cons x xs ih =>
    intro bs e
    cases r with
    | cons r rs =>
      cases x with
      | bl b =>
        simp only [Sd.bools, Option.map_eq_some_iff] at e
        obtain ⟨bs', e, rfl⟩ := e
        cases r
        rw [ih rs e]; rfl
      | _ => cases e
theorem RDs.ints {xs : List D} {vs : List V} (r : RDs G ρ H xs vs) : ∀ {bs : List Int}, Sd.intsOf xs = some bs → vs = bs.map V.int := by
  induction xs generalizing vs with
  | nil => intro bs e; cases e; cases r; rfl
  | cons x xs ih =>
    intro bs e
    cases r with
    | cons r rs =>
      cases x with
      | int b =>
        simp only [Sd.intsOf, Option.map_eq_some_iff] at e
        obtain ⟨bs', e, rfl⟩ := e
        cases r
        rw [ih rs e]; rfl
      | _ => cases e
theorem RDs.strs {xs : List D} {vs : List V} (r : RDs G ρ H xs vs) : ∀ {bs : List (List Nat)}, Sd.strsOf xs = some bs → vs = (bs.map fun s => (⟨s.toArray⟩ : Str)).map V.str := by
  induction xs generalizing vs with
  | nil => intro bs e; cases e; cases r; rfl
  | cons x xs ih =>
    intro bs e
    cases r with
    | cons r rs =>
      cases x with
      | str b =>
        simp only [Sd.strsOf, Option.map_eq_some_iff] at e
        obtain ⟨bs', e, rfl⟩ := e
        cases r
        rw [ih rs e]; rfl
      | _ => cases e
/-! ### as data -/
theorem Dps_of {f : D → Option PyData} : ∀ (xs : List D) (vs : List V) (ps : List PyData), (∀ x ∈ xs, ∀ v p, RD G ρ H x v → f x = some p → Dp G.K H v p) → RDs G ρ H xs vs → mapO f xs = some ps → DpAll G.K H vs ps
  | [], _, _, _, r, e => by cases r; cases e; exact .nil
  | x :: xs, _, _, hf, r, e => by
    cases r with
    | cons r rs =>
      cases h1 : f x with
      | none => simp [mapO, h1] at e
      | some p =>
        cases h2 : mapO f xs with
        | none => simp [mapO, h1, h2] at e
        | some qs =>
          simp only [mapO, h1, h2] at e
          cases e
          exact .cons (hf x List.mem_cons_self _ p r h1) (Dps_of xs _ qs (fun y hy => hf y (List.mem_cons_of_mem _ hy)) rs h2)
theorem Dp_of (R : RelH G ρ h H) : ∀ (n : Nat) (x : D) (v : V) (p : PyData), RD G ρ H x v → pd h n x = some p → Dp G.K H v p := by
  intro n
  induction n with
  | zero => intro x v p r e; cases e
  | succ n ih =>
    intro x v p r e
    cases x with
    | non => cases r; cases e; exact .non
    | bl b => cases r; cases e; exact .bl b
    | int b => cases r; cases e; exact .int b
    | str b => cases r; cases e; exact .str _
    | tup xs =>
      simp only [pd, Option.map_eq_some_iff] at e
      obtain ⟨ps, e, rfl⟩ := e
      obtain ⟨a, vs, rfl, q, rs⟩ := r.tup_inv
      exact .tup q (Dps_of xs vs ps (fun x _ v p => ih x v p) rs e)
    | fz xs =>
      simp only [pd, Option.map_eq_some_iff] at e
      obtain ⟨ps, e, rfl⟩ := e
      obtain ⟨a, vs, rfl, q, rs⟩ := RD.items_inv R r (xs := xs) rfl
      exact .lst q (Dps_of xs vs ps (fun x _ v p => ih x v p) rs e)
    | lv xs => cases r
    | fd _ _ => cases e
    | dv _ _ => cases r
    | fdn _ _ => cases e
    | dvn _ _ => cases r
    | bm _ _ _ => cases e
    | ref l =>
      cases ho : h[l]? with
      | none => simp [pd, ho] at e
      | some o =>
        cases o with
        | lst xs =>
          simp only [pd, ho, Option.map_eq_some_iff] at e
          obtain ⟨ps, e, rfl⟩ := e
          obtain ⟨a, vs, rfl, q, rs⟩ := RD.items_inv R r (xs := xs) (by simp [items, ho])
          exact .lst q (Dps_of xs vs ps (fun x _ v p => ih x v p) rs e)
        | _ => simp [pd, ho] at e
theorem pds_plain {f : D → Option PyData} {n : Nat} (hf : ∀ x p, f x = some p → p.plain = true ∧ p.depth ≤ n) : ∀ (xs : List D) (ps : List PyData), mapO f xs = some ps → PyData.plainAll ps = true ∧ PyData.depthAll ps ≤ n
  | [], _, e => by cases e; exact ⟨rfl, by simp [PyData.depthAll]⟩
  | x :: xs, _, e => by
    cases h1 : f x with
    | none => simp [mapO, h1] at e
    | some p =>
      cases h2 : mapO f xs with
      | none => simp [mapO, h1, h2] at e
      | some qs =>
        simp only [mapO, h1, h2] at e
        cases e
        have a1 := hf x p h1
        have a2 := pds_plain hf xs qs h2
        exact ⟨by simp [PyData.plainAll, a1.1, a2.1], by simp only [PyData.depthAll]; omega⟩
theorem pd_plain (h : Hh) : ∀ (n : Nat) (x : D) (p : PyData), pd h n x = some p → p.plain = true ∧ p.depth ≤ n := by
  intro n
  induction n with
  | zero => intro x p e; cases e
  | succ n ih =>
    intro x p e
    have sub : ∀ (xs : List D) (ps : List PyData), mapO (pd h n) xs = some ps → PyData.plainAll ps = true ∧ PyData.depthAll ps ≤ n := fun xs ps e => pds_plain ih xs ps e
    cases x with
    | non => cases e; exact ⟨rfl, by simp [PyData.depth]⟩
    | bl b => cases e; exact ⟨rfl, by simp [PyData.depth]⟩
    | int b => cases e; exact ⟨rfl, by simp [PyData.depth]⟩
    | str b => cases e; exact ⟨rfl, by simp [PyData.depth]⟩
    | tup xs =>
      simp only [pd, Option.map_eq_some_iff] at e
      obtain ⟨ps, e, rfl⟩ := e
      have := sub xs ps e
      exact ⟨by simpa [PyData.plain] using this.1, by simp only [PyData.depth]; omega⟩
    | fz xs =>
      simp only [pd, Option.map_eq_some_iff] at e
      obtain ⟨ps, e, rfl⟩ := e
      have := sub xs ps e
      exact ⟨by simpa [PyData.plain] using this.1, by simp only [PyData.depth]; omega⟩
    | lv xs =>
      simp only [pd, Option.map_eq_some_iff] at e
      obtain ⟨ps, e, rfl⟩ := e
      have := sub xs ps e
      exact ⟨by simpa [PyData.plain] using this.1, by simp only [PyData.depth]; omega⟩
    | fd _ _ => cases e
    | dv _ _ => cases e
    | fdn _ _ => cases e
    | dvn _ _ => cases e
    | bm _ _ _ => cases e
    | ref l =>
      cases ho : h[l]? with
      | none => simp [pd, ho] at e
      | some o =>
        cases o with
        | lst xs =>
          simp only [pd, ho, Option.map_eq_some_iff] at e
          obtain ⟨ps, e, rfl⟩ := e
          have := sub xs ps e
          exact ⟨by simpa [PyData.plain] using this.1, by simp only [PyData.depth]; omega⟩
        | _ => simp [pd, ho] at e
end

section
variable {G : Gx} {X : Cx}
/-! ### == and != -/
theorem rd_reads {pins : List (Addr × Obj)} {σ : L2.St} {H : Hp} {s : Shared} {ρ : List Addr} {h : Hh} {x : D} {v : V} {p : PyData} {n : Nat} {u : Value} (hK : X.K = G.K) (I : Inv X pins σ H s) (R : RelH G ρ h H) (r : RD G ρ H x v) (e : pd h n x = some p) (rv : RelV v u) : ∃ as, Reads s.heap u p as :=
  Dp.reads I p v u (by rw [hK]; exact Dp_of R n x v p r e) rv
theorem op_eqF (hK : X.K = G.K) (hu : X.A.units + 200 < cLine) : OpR X (compareOp .Eq) (U2 G (o2F .eq)) := by
  intro pins s σ H v w v' w' Q I rv rw' q
  obtain ⟨av, ρ, h, x, y, z, R, rx, ry, e, q⟩ := q
  have hK : X.K = (G.at av).K := hK
  simp only [o2F, eqF] at e
  cases h1 : pd h deep x with
  | none => simp [h1] at e
  | some p1 =>
    cases h2 : pd h deep y with
    | none => simp [h1, h2] at e
    | some p2 =>
      simp only [h1, h2, Option.map_some, Option.some.injEq] at e
      subst e
      obtain ⟨as, ra⟩ := rd_reads hK I R rx h1 rv
      obtain ⟨bs, rb⟩ := rd_reads hK I R ry h2 rw'
      have a1 := pd_plain h deep x p1 h1
      have a2 := pd_plain h deep y p2 h2
      refine PySem.SeqAt.eq_plain ra rb a1.1 a2.1 ?_ ⟨.bl _, H, I, rfl, fin_at R (RD.bl _) q⟩
      have := Nat.min_le_left p1.depth p2.depth
      have : p1.depth ≤ 60 := a1.2
      omega
theorem op_neF (hK : X.K = G.K) (hu : X.A.units + 200 < cLine) : OpR X (compareOp .NotEq) (U2 G (o2F .ne)) := by
  intro pins s σ H v w v' w' Q I rv rw' q
  obtain ⟨av, ρ, h, x, y, z, R, rx, ry, e, q⟩ := q
  have hK : X.K = (G.at av).K := hK
  simp only [o2F, eqF] at e
  cases h1 : pd h deep x with
  | none => simp [h1] at e
  | some p1 =>
    cases h2 : pd h deep y with
    | none => simp [h1, h2] at e
    | some p2 =>
      simp only [h1, h2, Option.map_some, Option.some.injEq] at e
      subst e
      obtain ⟨as, ra⟩ := rd_reads hK I R rx h1 rv
      obtain ⟨bs, rb⟩ := rd_reads hK I R ry h2 rw'
      have a1 := pd_plain h deep x p1 h1
      have a2 := pd_plain h deep y p2 h2
      refine PySem.SeqAt.ne_plain ra rb a1.1 a2.1 ?_ ⟨.bl _, H, I, rfl, fin_at R (RD.bl _) q⟩
      have := Nat.min_le_left p1.depth p2.depth
      have : p1.depth ≤ 60 := a1.2
      omega
end
end Sd

/-! PyC2: dicts whose keys are nested tuples. -/
namespace Sd
open PySem PySem.Spec PyProof.Rows L2

theorem mapO_lenE {α β : Type} {f : α → Option β} : ∀ {xs : List α} {ys : List β}, mapO f xs = some ys → xs.length = ys.length
  | [], _, e => by cases e; rfl
  | z :: zs, _, e => by
    cases h1 : f z with
    | none => simp [mapO, h1] at e
    | some a =>
      cases h2 : mapO f zs with
      | none => simp [mapO, h1, h2] at e
      | some as =>
        simp only [mapO, h1, h2] at e
        cases e
        rw [List.length_cons, List.length_cons, mapO_lenE h2]
section
variable {G : Gx} {X : Cx} {ρ : List Addr} {H : Hp} {h : Hh} {pins : List (Addr × Obj)} {σ : L2.St} {s : Shared}
theorem nested_all {f : D → Option NestedKey} (hf : ∀ d v u k, RD G ρ H d v → f d = some k → RelV v u → NestedIs s.heap k u) : ∀ (xs : List D) (vs : List V) (us : List Value) (ks : List NestedKey), RDs G ρ H xs vs → mapO f xs = some ks → Vals vs us → NestedAll s.heap ks us := by
  intro xs
  induction xs with
  | nil =>
    intro vs us ks r e p
    cases r; cases e; cases p
    exact .nil
  | cons x xs ih =>
    intro vs us ks r e p
    cases r with
    | cons r rs =>
      cases p with
      | cons p ps =>
        cases h1 : f x with
        | none => simp [mapO, h1] at e
        | some k =>
          cases h2 : mapO f xs with
          | none => simp [mapO, h1, h2] at e
          | some ks' =>
            simp only [mapO, h1, h2] at e
            cases e
            exact .cons (hf _ _ _ _ r h1 p) (ih _ _ _ rs h2 ps)
theorem nested_of (hK : X.K = G.K) (I : Inv X pins σ H s) : ∀ (n : Nat) (d : D) (v : V) (u : Value) (k : NestedKey), RD G ρ H d v → nk n d = some k → RelV v u → NestedIs s.heap k u
  | 0, _, _, _, _, _, e, _ => by cases e
  | n + 1, d, v, u, k, r, e, rv => by
    cases d with
    | non => cases e; cases r; cases rv; exact .none
    | bl b => cases e; cases r; cases rv; exact .bool rfl
    | int i => cases e; cases r; obtain ⟨t, rfl⟩ := rv; exact .int _ _
    | str x => cases e; cases r; obtain ⟨t, rfl⟩ := rv; exact .text _ _
    | tup xs =>
      simp only [nk, Option.map_eq_some_iff] at e
      obtain ⟨ks, e, rfl⟩ := e
      obtain ⟨a, vs, rfl, sq, rs⟩ := r.tup_inv
      cases rv
      rw [← hK] at sq
      obtain ⟨its, r2, p, hz⟩ := I.tuple sq
      obtain ⟨o, ho, hc, m, hd⟩ := (show s.heap.IsTuple a its.toArray from p)
      exact .tup ho hc hd (nested_all (fun d v u k => nested_of hK I n d v u k) _ _ _ _ rs e (by simpa using r2))
    | _ => simp [nk] at e
theorem kOf_inv {d : D} {k : NestedKey} (e : kOf d = some k) : (∃ xs, d = .tup xs) ∧ nk 9 d = some k ∧ k.depth ≤ 8 := by
  unfold kOf at e
  split at e
  · split at e
    · split at e
      · cases e; exact ⟨⟨_, rfl⟩, by assumption, by assumption⟩
      · cases e
    · cases e
  · cases e
/-- a key as it stands -/
theorem key_is (hK : X.K = G.K) (I : Inv X pins σ H s) {d : D} {v : V} {u : Value} {k : NestedKey} (r : RD G ρ H d v) (e : kOf d = some k) (rv : RelV v u) : ∃ b, u = .ref b ∧ v = .ref b ∧ (nestedKind X.prog X.w).is s.heap k b := by
  obtain ⟨⟨xs, rfl⟩, e2, hd⟩ := kOf_inv e
  obtain ⟨a, vs, rfl, sq, rs⟩ := r.tup_inv
  cases rv
  exact ⟨a, rfl, rfl, nested_of hK I 9 _ _ _ _ r e2 rfl, hd⟩
theorem keys_is (hK : X.K = G.K) (I : Inv X pins σ H s) : ∀ {ks : List D} {es : List (NestedKey × Addr × Value)}, RDs G ρ H ks (es.map fun x => V.ref x.2.1) → mapO kOf ks = some (es.map (·.1)) → ∀ x ∈ es, (nestedKind X.prog X.w).is s.heap x.1 x.2.1
  | [], [], _, _, x, hx => by simp at hx
  | k :: ks, x :: es, .cons r rs, e, y, hy => by
    cases h1 : kOf k with
    | none => simp [mapO, h1] at e
    | some k1 =>
      cases h2 : mapO kOf ks with
      | none => simp [mapO, h1, h2] at e
      | some ks' =>
        simp only [mapO, h1, h2, List.map_cons, Option.some.injEq, List.cons.injEq] at e
        obtain ⟨e1, e2⟩ := e
        rcases List.mem_cons.mp hy with rfl | hy
        · obtain ⟨b, q1, q2, q3⟩ := key_is hK I r h1 (u := .ref y.2.1) rfl
          cases q1
          rw [← e1]; exact q3
        · exact keys_is hK I rs (by rw [h2, e2]) y hy
theorem no_at (hW : X.prog = G.b.P ∧ X.w = G.b.w) (hK : X.K = G.K) (I : Inv X pins σ H s) {a : Addr} {es : List (NestedKey × Addr × Value)} {ks : List D} (e : NOx G.b H a es) (rk : RDs G ρ H ks (es.map fun x => V.ref x.2.1)) (ek : mapO kOf ks = some (es.map (·.1))) :
    (a == sysModules) = false ∧ es.length ≤ sizeLine ∧ s.heap.DictOfH (nestedKind X.prog X.w) a es := by
  obtain ⟨o, e⟩ := e
  obtain ⟨⟨h1, h2, h3, h4, en, ep, h5, h6, h7⟩, _⟩ := I.hok a _ e
  rw [← hW.1, ← hW.2] at h7
  exact ⟨h1, h2, o, en, ep, h4, h5, h6, h7, keys_is hK I rk ek, h3⟩
/-- what is looked up -/
theorem nget_at {k : NestedKey} : ∀ {ks vs : List D} {es : List (NestedKey × Addr × Value)} {us : List V}, mapO kOf ks = some (es.map (·.1)) → Vals us (es.map (·.2.2)) → RDs G ρ H vs us →
    (∀ d, nget k ks vs = some d → ∃ p v, atKey es k = some p ∧ RelV v p.2 ∧ RD G ρ H d v) ∧ (nget k ks vs = none → atKey es k = none)
  | [], _, [], _, _, _, _ => ⟨fun d e => by simp [nget] at e, fun _ => rfl⟩
  | [], _, _ :: _, _, e, _, _ => by simp [mapO] at e
  | x :: ks, _, [], _, e, _, _ => by
    cases h1 : kOf x with
    | none => simp [mapO, h1] at e
    | some k1 =>
      cases h2 : mapO kOf ks with
      | none => simp [mapO, h1, h2] at e
      | some ks' => simp [mapO, h1, h2] at e
  | x :: ks, vs, y :: es, us, e, rv, rs => by
    cases h1 : kOf x with
    | none => simp [mapO, h1] at e
    | some k1 =>
      cases h2 : mapO kOf ks with
      | none => simp [mapO, h1, h2] at e
      | some ks' =>
        simp only [mapO, h1, h2, List.map_cons, Option.some.injEq, List.cons.injEq] at e
        obtain ⟨e1, e2⟩ := e
        cases rv with
        | cons r0 rv =>
          cases rs with
          | cons rd rs =>
            have ih := nget_at (k := k) (ks := ks) (by rw [h2, e2]) rv rs
            rw [nget, h1]
            by_cases hk : k1 = k
            · subst hk
              refine ⟨fun d e => ?_, fun e => ?_⟩
              · rw [if_pos rfl] at e
                cases e
                exact ⟨y.2, _, by simp [atKey, ← e1], r0, rd⟩
              · rw [if_pos rfl] at e; cases e
            · have hne : ¬ y.1 = k := fun z => hk (e1.trans z)
              have ha : atKey (y :: es) k = atKey es k := by simp [atKey, hne]
              rw [if_neg (by simpa using hk), ha]
              exact ih
theorem RD.dictn_inv {x : D} {v : V} {ks vs : List D} (R : RelH G ρ h H) (r : RD G ρ H x v) (e : dictn h x = some (ks, vs)) :
    ∃ (a : Addr) (es : List (NestedKey × Addr × Value)) (us : List V), v = .ref a ∧ NOx G.b H a es ∧ mapO kOf ks = some (es.map (·.1)) ∧ RDs G ρ H ks (es.map fun x => V.ref x.2.1) ∧ Vals us (es.map (·.2.2)) ∧ RDs G ρ H vs us := by
  cases r with
  | fdn q n m ek rk rv rs => cases e; exact ⟨_, _, _, rfl, q, ek, rk, rv, rs⟩
  | @ref l a q =>
    obtain ⟨o, e1, ro⟩ := R.lt q
    simp only [dictn, e1] at e
    cases o with
    | din _ _ =>
      cases e
      obtain ⟨es, us, e2, ek, rk, rv, rs⟩ := ro
      exact ⟨_, es, us, rfl, e2, ek, rk, rv, rs⟩
    | _ => cases e
  | _ => cases e
theorem RD.dict_inv {x : D} {v : V} {ks vs : List D} (R : RelH G ρ h H) (r : RD G ρ H x v) (e : dict h x = some (ks, vs)) :
    ∃ (a : Addr) (kvs : List (Key × V)), v = .ref a ∧ Rd H a (.dK kvs) ∧ ks = kvs.map (fun p => keyD p.1) ∧ RDs G ρ H vs (kvs.map (·.2)) := by
  cases r with
  | fd q n m rs => cases e; exact ⟨_, _, rfl, q, rfl, rs⟩
  | @ref l a q =>
    obtain ⟨o, e1, ro⟩ := R.lt q
    simp only [dict, e1] at e
    cases o with
    | dic _ _ =>
      cases e
      obtain ⟨kvs, e2, e3, rs⟩ := ro
      exact ⟨_, kvs, rfl, .inl e2, e3, rs⟩
    | _ => cases e
  | _ => cases e
/-- a key that is a whole number or a text -/
theorem key_inv {k : D} {w : V} (hk : isKey k = true) (r : RD G ρ H k w) : ∃ kk : Key, w = kV kk ∧ k = keyD kk := by
  cases r <;> first | (cases hk; done) | skip
  · exact ⟨.inl _, rfl, rfl⟩
  · exact ⟨.inr _, rfl, rfl⟩
theorem eqKey_keyD (a b : Key) : eqKey (keyD a) (keyD b) = decide (a = b) := by
  cases a <;> cases b <;> simp only [keyD, eqKey]
  · simp
  · simp
  · simp
  · rename_i x y
    by_cases h : x = y
    · subst h; simp
    · have : ¬ x.cps.toList = y.cps.toList := fun z => h (by
        cases x; cases y
        simp only [Str.mk.injEq]
        exact Array.toList_inj.mp z)
      simp [h, this]
/-- what is looked up and what stands there -/
def RelOD (G : Gx) (ρ : List Addr) (H : Hp) : Option D → Option V → Prop
  | some d, some v => RD G ρ H d v
  | none, none => True
  | _, _ => False
theorem kget_val (kk : Key) : ∀ {kvs : List (Key × V)} {vs : List D}, RDs G ρ H vs (kvs.map (·.2)) → RelOD G ρ H (kget (keyD kk) (kvs.map fun p => keyD p.1) vs) (valV kvs kk)
  | [], _, r => by cases r; exact True.intro
  | (k, v) :: kvs, y :: ys, .cons r rs => by
    show RelOD G ρ H (if eqKey (keyD k) (keyD kk) then some y else kget (keyD kk) (kvs.map fun p => keyD p.1) ys) _
    rw [eqKey_keyD]
    by_cases h : k = kk
    · subst h
      rw [if_pos (by simp), valV_pos rfl]
      exact r
    · rw [if_neg (by simpa using h), valV_neg h]
      exact kget_val kk rs
theorem dk0_nested (I : Inv X pins σ H s) {a : Addr} {es : List (NestedKey × Addr × Value)} (e : Rd H a (.dK [])) (hes : es = []) : (a == sysModules) = false ∧ s.heap.DictOfH (nestedKind X.prog X.w) a es := by
  subst hes
  obtain ⟨z, hd, vs, rel, dd⟩ := dk_rd I.hok e
  refine ⟨hd, ?_⟩
  cases rel
  obtain ⟨o, en, ep, h1, h2, h3, _, h4, _⟩ := dd
  refine ⟨o, en, ep, h1, h2, h3, ?_, (fun x hx => absurd hx (by simp)), List.nodup_nil⟩
  generalize en.toList = l at h4
  cases h4
  rfl
/-- a dict and a key as they stand -/
theorem look_at (hW : X.prog = G.b.P ∧ X.w = G.b.w) (hK : X.K = G.K) (I : Inv X pins σ H s) (R : RelH G ρ h H) {x k : D} {v w : V} {u : Value} {r : Option D} (rx : RD G ρ H x v) (rk : RD G ρ H k w) (ru : RelV w u) (e : dlook h x k = some r) :
    ∃ a, v = .ref a ∧ ((∃ o, DGet H a w o ∧ RelOD G ρ H r o) ∨ ∃ (es : List (NestedKey × Addr × Value)) (q : NestedKey) (b : Addr), u = .ref b ∧ (a == sysModules) = false ∧ (nestedKind X.prog X.w).is s.heap q b ∧ s.heap.DictOfH (nestedKind X.prog X.w) a es ∧
      (∀ d, r = some d → ∃ p v, atKey es q = some p ∧ RelV v p.2 ∧ RD G ρ H d v) ∧ (r = none → atKey es q = none)) := by
  unfold dlook at e
  split at e
  · rename_i ks vs he
    obtain ⟨a, kvs, rfl, q, rfl, rs⟩ := RD.dict_inv R rx he
    split at e
    · rename_i hk
      cases e
      obtain ⟨kk, rfl, rfl⟩ := key_inv hk rk
      exact ⟨a, rfl, .inl ⟨_, .inl ⟨kvs, kk, q, rfl, rfl⟩, kget_val kk rs⟩⟩
    · split at e
      · rename_i q1 hq1
        split at e
        · rename_i hn
          cases e
          simp only [Bool.and_eq_true, List.isEmpty_iff, List.map_eq_nil_iff] at hn
          obtain ⟨rfl, rfl⟩ := hn
          obtain ⟨b, rfl, rfl, hb⟩ := key_is hK I rk hq1 ru
          obtain ⟨hm, hd⟩ := dk0_nested I (es := []) q rfl
          exact ⟨a, rfl, .inr ⟨[], q1, b, rfl, hm, hb, hd, fun d e => (nomatch e), fun _ => rfl⟩⟩
        · cases e
      · cases e
  · split at e
    · rename_i ks vs he
      obtain ⟨q1, hq1, rfl⟩ := Option.map_eq_some_iff.mp e
      obtain ⟨a, es, us, rfl, q, ek, rks, rv, rs⟩ := RD.dictn_inv R rx he
      obtain ⟨b, rfl, rfl, hb⟩ := key_is hK I rk hq1 ru
      obtain ⟨hm, hz, hd⟩ := no_at hW hK I q rks ek
      have ha := nget_at (k := q1) ek rv rs
      exact ⟨a, rfl, .inr ⟨es, q1, b, rfl, hm, hb, hd, ha.1, ha.2⟩⟩
    · cases e
theorem room_n {A : Around} (hu : A.units + 200 < cLine) : (nestedKind X.prog X.w).room A.in1 := by
  show A.units + 1 + 8 < cLine
  omega
/-- d[k] -/
theorem look_get {P : Value → Shared → Prop} {E : Value → Shared → Prop} (hu : X.A.units + 200 < cLine) (hW : X.prog = G.b.P ∧ X.w = G.b.w) (hK : X.K = G.K) (I : Inv X pins σ H s) (R : RelH G ρ h H) {x k z : D} {v w : V} {u v' : Value} (rx : RD G ρ H x v) (rk : RD G ρ H k w) (rv : RelV v v') (ru : RelV w u) (e : dlook h x k = some (some z))
    (q : ∀ y y' s', RD G ρ H z y → Inv X pins σ H s' → RelV y y' → P y' s') : wpAny (model X.prog X.w) X.A (getItem v' u) P E s := by
  obtain ⟨a, rfl, c⟩ := look_at hW hK I R rx rk ru e
  cases rv
  rcases c with ⟨o, g, ro⟩ | ⟨es, k1, b, rfl, hm, hb, hd, c1, _⟩
  · cases o with
    | none => exact ro.elim
    | some y => exact d_getItem (by omega) I g ru fun y' s' J ry => q y y' s' ro J ry
  · obtain ⟨p, y, hp, ry, rd⟩ := c1 z rfl
    exact wpAny_getItem_heap (room_n hu) hb hd hp (q y _ _ rd (I.tok _) ry)
/-- k in d, k not in d -/
theorem look_in {P : Value → Shared → Prop} {E : Value → Shared → Prop} (hu : X.A.units + 200 < cLine) (hW : X.prog = G.b.P ∧ X.w = G.b.w) (hK : X.K = G.K) (I : Inv X pins σ H s) (R : RelH G ρ h H) {x k : D} {r : Option D} {v w : V} {u v' : Value} (rx : RD G ρ H x v) (rk : RD G ρ H k w) (rv : RelV v v') (ru : RelV w u) (e : dlook h x k = some r) :
    ((∀ s', Inv X pins σ H s' → P (.bool r.isSome) s') → wpAny (model X.prog X.w) X.A (compareOp .In u v') P E s) ∧ ((∀ s', Inv X pins σ H s' → P (.bool (!r.isSome)) s') → wpAny (model X.prog X.w) X.A (compareOp .NotIn u v') P E s) := by
  obtain ⟨a, rfl, c⟩ := look_at hW hK I R rx rk ru e
  cases rv
  rcases c with ⟨o, g, ro⟩ | ⟨es, k1, b, rfl, hm, hb, hd, c1, c2⟩
  · have eo : r.isSome = o.isSome := by
      cases r <;> cases o <;> first | rfl | exact ro.elim
    rw [eo]
    exact ⟨fun q => d_in (by omega) I g ru q, fun q => d_notIn (by omega) I g ru q⟩
  · have eo : r.isSome = (atKey es k1).isSome := by
      cases r with
      | none => rw [c2 rfl]; rfl
      | some d => obtain ⟨p, y, hp, _⟩ := c1 d rfl; rw [hp]; rfl
    rw [eo]
    exact ⟨fun q => wpAny_in_heap (room_n hu) hb hm hd (q _ (I.tok _)), fun q => wpAny_notIn_heap (room_n hu) hb hm hd (q _ (I.tok _))⟩
end
end Sd

/-! PyD: arithmetic, order, in, subscripts, slices, builtins. -/
namespace Sd
open PySem PySem.Spec PyProof.Rows L2

theorem line_eq : sizeLine = line := by rw [sizeLine_eq]; rfl
theorem strLen (s : List Nat) : (⟨s.toArray⟩ : Str).length = s.length := by simp [Str.length]
theorem strAdd (a b : List Nat) : (⟨a.toArray⟩ : Str) ++ ⟨b.toArray⟩ = ⟨(a ++ b).toArray⟩ := by
  show Str.append _ _ = _
  simp [Str.append]

section
variable {G : Gx} {X : Cx}
theorem op_addF (hK : X.K = G.K) : OpR X (binaryOp .Add) (U2 G (o2F .add)) := by
  intro pins s σ H v w v' w' Q I rv rw' q
  obtain ⟨av, ρ, h, x, y, z, R, rx, ry, e, q⟩ := q
  have hK : X.K = (G.at av).K := hK
  have lists : ∀ (a b : List D), items h x = some a → items h y = some b → (if a.length + b.length ≤ line then some (D.lv (a ++ b)) else none) = some z → wpAny (model X.prog X.w) X.A (binaryOp .Add v' w') (EP X pins σ Q) X.xe s := fun a b ha hb e => by
    split at e
    · rename_i hl
      cases e
      obtain ⟨p1, vs, rfl, q1, r1⟩ := rx.items_inv R ha
      obtain ⟨p2, ws, rfl, q2, r2⟩ := ry.items_inv R hb
      cases rv
      cases rw'
      rw [← hK] at q1 q2
      obtain ⟨its, s1, l1, z1⟩ := I.list q1
      obtain ⟨its2, s2, l2, z2⟩ := I.list q2
      obtain ⟨⟨cls, dd, data, sl⟩, ho, hc, n, hd⟩ := id l1.isList
      obtain ⟨⟨cls2, dd2, data2, sl2⟩, ho2, hc2, n2, hd2⟩ := id l2.isList
      simp only at hc hd hc2 hd2
      subst hc hd hc2 hd2
      have hlen : its.length + its2.length ≤ sizeLine := by rw [← s1.length, ← s2.length, ← r1.length, ← r2.length, line_eq]; exact hl
      refine concat_meets ⟨_, ho, rfl⟩ ⟨_, ho2, rfl⟩ noFill_list_add seq_list_add PySem.F.slot_list_add PySem.F.entry_list_add (PySem.F.args_list_add_2 _ _) (list_addW p1 p2 its.toArray its2.toArray n n2 dd dd2 sl sl2 (by simpa using hlen)) ⟨ho, ho2, ?_⟩
      have e : its.toArray ++ its2.toArray = (its ++ its2).toArray := by simp
      rw [e]
      have nn : H s.heap.objs.size = none := I.hok.fresh (Nat.le_refl _)
      refine ⟨.ref s.heap.objs.size, _, I.laid (t' := s.toks) (o := .lst (vs ++ ws)) (fun b ob q => Heap.get?_push_of_some _ q) (Nat.le_refl _) ?_, rfl, fin_lst R (r1.append r2) nn q⟩
      refine ⟨?_, _, _, s1.append s2, Heap.get?_push_size _ rfl⟩
      rw [List.length_append, s1.length, s2.length]; exact hlen
    · cases e
  unfold o2F at e
  split at e
  all_goals (try contradiction)
  · -- ints
    cases e
    cases rx; cases ry
    exact op_add pins s σ H _ _ v' w' Q I rv rw' ⟨_, _, rfl, rfl, fin_at R (RD.int _) q⟩
  · -- texts
    split at e
    · rename_i hl
      cases e
      cases rx; cases ry
      refine op_add_str pins s σ H _ _ v' w' Q I rv rw' ⟨_, _, rfl, rfl, ?_, ?_⟩
      · rw [strLen, strLen, line_eq]; exact hl
      · rw [strAdd]
        exact fin_at R (RD.str _) q
    · cases e
  · -- tuples
    split at e
    · rename_i a b hl
      cases e
      obtain ⟨p1, vs, rfl, q1, r1⟩ := rx.tup_inv
      obtain ⟨p2, ws, rfl, q2, r2⟩ := ry.tup_inv
      rw [← hK] at q1 q2
      cases rv
      cases rw'
      obtain ⟨its, s1, l1, z1⟩ := I.tuple q1
      obtain ⟨its2, s2, l2, z2⟩ := I.tuple q2
      have hlen : its.length + its2.length ≤ sizeLine := by rw [← s1.length, ← s2.length, ← r1.length, ← r2.length, line_eq]; exact hl
      by_cases e1 : its = []
      · subst e1; cases s1; cases r1
        exact cat_tup0 l1 l2 ⟨.ref p2, H, I, rfl, fin_at R ry q⟩
      · refine HT.cat_tup l1 l2 e1 (fun e2 => ?_) (fun e2 => ?_) hlen
        · subst e2; cases s2; cases r2
          rw [List.append_nil] at q
          exact ⟨.ref p1, H, I, rfl, fin_at R rx q⟩
        · exact fin_tup (t := s.toks) I R (r1.append r2) (s1.append s2) (by rw [List.length_append, s1.length, s2.length]; exact hlen) q
    · cases e
  · split at e
    · rename_i h1 h2
      exact lists _ _ h1 h2 e
    · cases e
theorem op_subF : OpR X (binaryOp .Sub) (U2 G (o2F .sub)) := by
  intro pins s σ H v w v' w' Q I rv rw' q
  obtain ⟨av, ρ, h, x, y, z, R, rx, ry, e, q⟩ := q
  unfold o2F at e
  split at e
  all_goals (try contradiction)
  cases e
  cases rx; cases ry
  exact op_sub pins s σ H _ _ v' w' Q I rv rw' ⟨_, _, rfl, rfl, fin_at R (RD.int _) q⟩
theorem op_divF : OpR X (binaryOp .FloorDiv) (U2 G (o2F .div)) := by
  intro pins s σ H v w v' w' Q I rv rw' q
  obtain ⟨av, ρ, h, x, y, z, R, rx, ry, e, q⟩ := q
  unfold o2F at e
  split at e
  all_goals (try contradiction)
  split at e
  · rename_i hj
    cases e
    cases rx; cases ry
    exact op_fdiv pins s σ H _ _ v' w' Q I rv rw' ⟨_, _, rfl, rfl, hj, fin_at R (RD.int _) q⟩
  · cases e
theorem op_modF : OpR X (binaryOp .Mod) (U2 G (o2F .mod)) := by
  intro pins s σ H v w v' w' Q I rv rw' q
  obtain ⟨av, ρ, h, x, y, z, R, rx, ry, e, q⟩ := q
  unfold o2F at e
  split at e
  all_goals (try contradiction)
  split at e
  · rename_i hj
    cases e
    cases rx; cases ry
    exact op_mod pins s σ H _ _ v' w' Q I rv rw' ⟨_, _, rfl, rfl, hj, fin_at R (RD.int _) q⟩
  · cases e
/-! ### order -/
theorem strLt_of (a b : List Nat) : decide ((⟨a.toArray⟩ : Str).cps.toList < (⟨b.toArray⟩ : Str).cps.toList) = strLt a b := rfl
theorem op_ltF : OpR X (compareOp .Lt) (U2 G (o2F .lt)) := by
  intro pins s σ H v w v' w' Q I rv rw' q
  obtain ⟨av, ρ, h, x, y, z, R, rx, ry, e, q⟩ := q
  unfold o2F at e
  split at e
  all_goals (try contradiction)
  · cases e; cases rx; cases ry
    exact op_lt pins s σ H _ _ v' w' Q I rv rw' ⟨_, _, rfl, rfl, fin_at R (RD.bl _) q⟩
  · cases e; cases rx; cases ry
    exact op_lt_str pins s σ H _ _ v' w' Q I rv rw' ⟨_, _, rfl, rfl, fin_at R (RD.bl _) q⟩
theorem op_leF : OpR X (compareOp .LtE) (U2 G (o2F .le)) := by
  intro pins s σ H v w v' w' Q I rv rw' q
  obtain ⟨av, ρ, h, x, y, z, R, rx, ry, e, q⟩ := q
  unfold o2F at e
  split at e
  all_goals (try contradiction)
  · cases e; cases rx; cases ry
    exact op_le pins s σ H _ _ v' w' Q I rv rw' ⟨_, _, rfl, rfl, fin_at R (RD.bl _) q⟩
  · cases e; cases rx; cases ry
    exact op_le_str pins s σ H _ _ v' w' Q I rv rw' ⟨_, _, rfl, rfl, fin_at R (RD.bl _) q⟩
theorem op_gtF : OpR X (compareOp .Gt) (U2 G (o2F .gt)) := by
  intro pins s σ H v w v' w' Q I rv rw' q
  obtain ⟨av, ρ, h, x, y, z, R, rx, ry, e, q⟩ := q
  unfold o2F at e
  split at e
  all_goals (try contradiction)
  · cases e; cases rx; cases ry
    exact op_gt pins s σ H _ _ v' w' Q I rv rw' ⟨_, _, rfl, rfl, fin_at R (RD.bl _) q⟩
  · cases e; cases rx; cases ry
    exact op_gt_str pins s σ H _ _ v' w' Q I rv rw' ⟨_, _, rfl, rfl, fin_at R (RD.bl _) q⟩
theorem op_geF : OpR X (compareOp .GtE) (U2 G (o2F .ge)) := by
  intro pins s σ H v w v' w' Q I rv rw' q
  obtain ⟨av, ρ, h, x, y, z, R, rx, ry, e, q⟩ := q
  unfold o2F at e
  split at e
  all_goals (try contradiction)
  · cases e; cases rx; cases ry
    exact op_ge pins s σ H _ _ v' w' Q I rv rw' ⟨_, _, rfl, rfl, fin_at R (RD.bl _) q⟩
  · cases e; cases rx; cases ry
    exact op_ge_str pins s σ H _ _ v' w' Q I rv rw' ⟨_, _, rfl, rfl, fin_at R (RD.bl _) q⟩
end
end Sd

/-! PyD2: in, subscripts, slices, builtins. -/
namespace Sd
open PySem PySem.Spec PyProof.Rows L2

section
variable {G : Gx} {X : Cx} {ρ : List Addr} {h : Hh} {H : Hp}
theorem RDs_reads {pins : List (Addr × Obj)} {σ : L2.St} {s : Shared} {xs : List D} {vs : List V} {us : List Value} {ps : List PyData} (hK : X.K = G.K) (I : Inv X pins σ H s) (R : RelH G ρ h H) (r : RDs G ρ H xs vs) (e : mapO (pd h deep) xs = some ps) (rv : Vals vs us) : ∃ as, ReadsAll s.heap us ps as :=
  Dp.readsAll I ps vs us (by rw [hK]; exact Dps_of xs vs ps (fun x _ v p => Dp_of R deep x v p) r e) rv
/-- what in asks of a list or a tuple -/
theorem in_data {pins : List (Addr × Obj)} {σ : L2.St} {s : Shared} {x y : D} {v w : V} {v' w' : Value} {ys : List D} {k : Bool} {E : Value → Shared → Prop} {Q : Value → Shared → Prop} (hK : X.K = G.K) (hu : X.A.units + 200 < cLine) (I : Inv X pins σ H s) (R : RelH G ρ h H)
    (rx : RD G ρ H x v) (ry : RD G ρ H y w) (rv : RelV v v') (rw' : RelV w w') (e : seqs h y = some ys) (m : memF h x ys = some k) :
    (Q (.bool k) s → wpAny (model X.prog X.w) X.A (compareOp .In v' w') Q E s) ∧ (Q (.bool (!k)) s → wpAny (model X.prog X.w) X.A (compareOp .NotIn v' w') Q E s) := by
  unfold memF at m
  cases h1 : pd h deep x with
  | none => simp [h1] at m
  | some p =>
    cases h2 : mapO (pd h deep) ys with
    | none => simp [h1, h2] at m
    | some qs =>
      simp only [h1, h2, Option.some.injEq] at m
      subst m
      have a1 := pd_plain h deep x p h1
      have a2 := pds_plain (pd_plain h deep) ys qs h2
      have room : X.A.units + 1 + min (PyData.depthAll qs) p.depth < cLine := by
        have := Nat.min_le_right (PyData.depthAll qs) p.depth
        have : p.depth ≤ 60 := a1.2
        omega
      obtain ⟨as, ra⟩ := rd_reads hK I R rx h1 rv
      obtain ⟨a, vs, rfl, q, rs⟩ := ry.seqs_inv R e
      cases rw'
      rw [← hK] at q
      rcases q with q | q
      · obtain ⟨its, s1, l1, z1⟩ := I.list q
        obtain ⟨bs, rb⟩ := RDs_reads hK I R rs h2 s1
        obtain ⟨o, n, ho, hc, hd, hdat⟩ := l1
        exact ⟨fun q => PySem.SeqAt.in_list_data (.list ho hc hdat rb) ra a2.1 a1.1 room q, fun q => PySem.SeqAt.notIn_list_data (.list ho hc hdat rb) ra a2.1 a1.1 room q⟩
      · obtain ⟨its, s1, l1, z1⟩ := I.tuple q
        obtain ⟨bs, rb⟩ := RDs_reads hK I R rs h2 s1
        obtain ⟨o, ho, hc, n, hdat⟩ := l1
        exact ⟨fun q => PySem.SeqAt.in_tuple_data (.tuple ho hc hdat rb) ra a2.1 a1.1 room q, fun q => PySem.SeqAt.notIn_tuple_data (.tuple ho hc hdat rb) ra a2.1 a1.1 room q⟩
theorem isSub_one {a b : List Nat} {k : Bool} (e : isSub a b = some k) : ∃ c, a = [c] ∧ k = decide (c ∈ b) := by
  unfold isSub at e
  split at e
  · rename_i c
    cases e
    exact ⟨c, rfl, by simp⟩
  · cases e
theorem op_inF (hW : X.prog = G.b.P ∧ X.w = G.b.w) (hK : X.K = G.K) (hu : X.A.units + 200 < cLine) : OpR X (compareOp .In) (U2 G (o2F .isin)) := by
  intro pins s σ H v w v' w' Q I rv rw' q
  obtain ⟨av, ρ, h, x, y, z, R, rx, ry, e, q⟩ := q
  have hK : X.K = (G.at av).K := hK
  unfold o2F at e
  split at e
  all_goals (try contradiction)
  · obtain ⟨k, e2, rfl⟩ := Option.map_eq_some_iff.mp e
    obtain ⟨c, rfl, rfl⟩ := isSub_one e2
    cases rx; cases ry
    exact op_in_sign pins s σ H _ _ v' w' Q I rv rw' ⟨c, _, rfl, rfl, fin_at R (RD.bl _) q⟩
  · split at e
    · rename_i ys he
      obtain ⟨k, e2, rfl⟩ := Option.map_eq_some_iff.mp e
      exact (in_data hK hu I R rx ry rv rw' he e2).1 ⟨.bl k, H, I, rfl, fin_at R (RD.bl _) q⟩
    · obtain ⟨r, e2, rfl⟩ := Option.map_eq_some_iff.mp e
      exact (look_in (G := G.at av) hu hW hK I R ry rx rw' rv e2).1 fun s' J => ⟨.bl _, H, J, rfl, fin_at R (RD.bl _) q⟩
theorem op_notinF (hW : X.prog = G.b.P ∧ X.w = G.b.w) (hK : X.K = G.K) (hu : X.A.units + 200 < cLine) : OpR X (compareOp .NotIn) (U2 G (o2F .notin)) := by
  intro pins s σ H v w v' w' Q I rv rw' q
  obtain ⟨av, ρ, h, x, y, z, R, rx, ry, e, q⟩ := q
  have hK : X.K = (G.at av).K := hK
  unfold o2F at e
  split at e
  all_goals (try contradiction)
  · obtain ⟨k, e2, rfl⟩ := Option.map_eq_some_iff.mp e
    obtain ⟨c, rfl, rfl⟩ := isSub_one e2
    cases rx; cases ry
    exact op_notIn_sign pins s σ H _ _ v' w' Q I rv rw' ⟨c, _, rfl, rfl, fin_at R (RD.bl _) q⟩
  · split at e
    · rename_i ys he
      obtain ⟨k, e2, rfl⟩ := Option.map_eq_some_iff.mp e
      exact (in_data hK hu I R rx ry rv rw' he e2).2 ⟨.bl (!k), H, I, rfl, fin_at R (RD.bl _) q⟩
    · obtain ⟨r, e2, rfl⟩ := Option.map_eq_some_iff.mp e
      exact (look_in (G := G.at av) hu hW hK I R ry rx rw' rv e2).2 fun s' J => ⟨.bl _, H, J, rfl, fin_at R (RD.bl _) q⟩
/-! ### subscripts -/
theorem atI_eq {α : Type} (xs : List α) (i : Int) : Sd.atI xs i = L2.atI xs i := rfl
theorem atI_RDs {xs : List D} {vs : List V} {i : Int} {d : D} (r : RDs G ρ H xs vs) (e : Sd.atI xs i = some d) : ∃ v, L2.atI vs i = some v ∧ RD G ρ H d v := by
  unfold Sd.atI at e
  obtain ⟨j, e1, e2⟩ := Option.bind_eq_some_iff.mp e
  obtain ⟨v, h1, h2⟩ := r.get e2
  refine ⟨v, ?_, h2⟩
  show (L2.ixN vs.length i).bind _ = _
  rw [← r.length, show L2.ixN xs.length i = some j from e1]
  exact h1
theorem keyAt_val {k : List Nat} {d : D} : ∀ {kvs : List (Key × V)} {vs : List D}, RDs G ρ H vs (kvs.map (·.2)) → keyAt k (kvs.map fun p => keyD p.1) vs = some d → ∃ v, valV kvs (.inr ⟨k.toArray⟩) = some v ∧ RD G ρ H d v
  | [], _, r, e => by cases r; simp [keyAt] at e
  | (.inl i, v) :: kvs, _, .cons r rs, e => by
    obtain ⟨w, h1, h2⟩ := keyAt_val rs (show keyAt k (kvs.map fun p => keyD p.1) _ = some d from e)
    exact ⟨w, by rw [valV_neg (by simp)]; exact h1, h2⟩
  | (.inr x, v) :: kvs, y :: ys, .cons r rs, e => by
    have e : (if x.cps.toList = k then some y else keyAt k (kvs.map fun p => keyD p.1) ys) = some d := e
    by_cases hk : x.cps.toList = k
    · rw [if_pos hk] at e
      cases e
      exact ⟨v, valV_pos (by subst hk; rfl), r⟩
    · rw [if_neg hk] at e
      obtain ⟨w, h1, h2⟩ := keyAt_val rs e
      refine ⟨w, ?_, h2⟩
      rw [valV_neg (fun q => hk (by have := Sum.inr.inj q; subst this; simp))]
      exact h1
theorem ix_dictD (hu : X.A.units + 200 < cLine) : IxR X (fun x y H Q => ∃ a v, x = .ref a ∧ DGet H a y (some v) ∧ Q v H) := by
  intro value slice pins s σ H x y v u Q I rx ry q hs
  obtain ⟨a, w, rfl, g, q⟩ := q
  cases rx
  have hT := dict_typeIs I g
  unfold subscriptTail
  refine wpAny_bind ?_
  rw [getitemInPython_of_ne hT.not_modules]
  refine wpAny_bind (wpAny_specialOf hT PySem.F.slot_dict_getitem.lookup ?_)
  have fin : wpAny (model X.prog X.w) X.A (subscripted slice false (.ref a) u) (fun r s₃ => wpAny (model X.prog X.w) X.A (letTemporaryGo value (.ref a) r >>= fun _ => pure r) (EP X pins σ Q) X.xe s₃) X.xe s := by
    rw [hs]
    refine wpAny_operating (d_getItem (by omega) I g ry fun w' s3 I3 rw' => wpAny_bind (wpAny_letTemporaryGo (wpAny_pure ⟨w, H, I3, rw', q⟩)))
  first
    | exact wpAny_pure (wpAny_bind fin)
    | exact fin
theorem ix_look (hu : X.A.units + 200 < cLine) (hW : X.prog = G.b.P ∧ X.w = G.b.w) (hK : X.K = G.K) : IxR X (fun v w H Q => ∃ av ρ h x k z, RelH (G.at av) ρ h H ∧ RD (G.at av) ρ H x v ∧ RD (G.at av) ρ H k w ∧ dlook h x k = some (some z) ∧ ∀ y, RD (G.at av) ρ H z y → Q y H) := by
  intro value slice pins s σ H x y v u Q I rx ry q hs
  obtain ⟨av, ρ, h, d, k, z, R, rd, rk, e, q⟩ := q
  have hT : s.TypeIs v "dict" := by
    obtain ⟨a, rfl, c⟩ := look_at (G := G.at av) hW hK I R rd rk ry e
    cases rx
    rcases c with ⟨o, g, _⟩ | ⟨es, k1, b, rfl, hm, hb, hd, _⟩
    · exact dict_typeIs I g
    · exact hd.typeIs
  unfold subscriptTail
  refine wpAny_bind ?_
  rw [getitemInPython_of_ne hT.not_modules]
  refine wpAny_bind (wpAny_specialOf hT PySem.F.slot_dict_getitem.lookup ?_)
  have fin : wpAny (model X.prog X.w) X.A (subscripted slice false v u) (fun r s₃ => wpAny (model X.prog X.w) X.A (letTemporaryGo value v r >>= fun _ => pure r) (EP X pins σ Q) X.xe s₃) X.xe s := by
    rw [hs]
    refine wpAny_operating (look_get (G := G.at av) hu hW hK I R rd rk rx ry e fun y y' s3 r3 I3 rw' => wpAny_bind (wpAny_letTemporaryGo (wpAny_pure ⟨y, H, I3, rw', q y r3⟩)))
  first
    | exact wpAny_pure (wpAny_bind fin)
    | exact fin
theorem ix_F (hW : X.prog = G.b.P ∧ X.w = G.b.w) (hK : X.K = G.K) (hu : X.A.units + 200 < cLine) : IxR X (U2 G (o2F .idx)) := by
  intro value slice pins s σ H v w v' w' Q I rv rw' q hs
  obtain ⟨av, ρ, h, x, y, z, R, rx, ry, e, q⟩ := q
  have hK : X.K = (G.at av).K := hK
  unfold o2F at e
  split at e
  all_goals (try contradiction)
  · -- text
    split at e
    · rename_i hl
      obtain ⟨c, e2, rfl⟩ := Option.map_eq_some_iff.mp e
      cases rx; cases ry
      exact ix_str value slice pins s σ H _ _ v' w' Q I rv rw' ⟨_, _, c, rfl, rfl, by rw [strLen, line_eq]; exact hl, e2, fin_at R (RD.str [c]) q⟩ hs
    · cases e
  · -- list, tuple
    split at e
    · rename_i xs he
      obtain ⟨a, vs, rfl, p, rs⟩ := rx.seqs_inv R he
      cases ry
      obtain ⟨u, e1, r1⟩ := atI_RDs rs e
      rw [← hK] at p
      rcases p with p | p
      · exact ix_list value slice pins s σ H _ _ v' w' Q I rv rw' ⟨_, _, _, u, rfl, rfl, p, e1, fin_at R r1 q⟩ hs
      · exact ix_tup value slice pins s σ H _ _ v' w' Q I rv rw' ⟨_, _, _, u, rfl, rfl, p, e1, fin_at R r1 q⟩ hs
    · obtain ⟨o, e2, e3⟩ := Option.bind_eq_some_iff.mp e
      have e3 : o = some z := e3
      subst e3
      exact ix_look hu hW hK value slice pins s σ H _ _ v' w' Q I rv rw' ⟨av, ρ, _, _, _, z, R, rx, ry, e2, fun y r => fin_at R r q⟩ hs
  · obtain ⟨o, e2, e3⟩ := Option.bind_eq_some_iff.mp e
    have e3 : o = some z := e3
    subst e3
    exact ix_look hu hW hK value slice pins s σ H _ _ v' w' Q I rv rw' ⟨av, ρ, _, _, _, z, R, rx, ry, e2, fun y r => fin_at R r q⟩ hs
  · -- dict
    split at e
    · rename_i k ks vs he
      obtain ⟨a, kvs, rfl, p, rfl, rs⟩ := rx.dict_inv R he
      obtain ⟨u, e1, r1⟩ := keyAt_val rs e
      cases ry
      exact ix_dictD hu value slice pins s σ H _ _ v' w' Q I rv rw' ⟨a, u, rfl, .inl ⟨kvs, .inr ⟨_⟩, p, rfl, e1.symm⟩, fin_at R r1 q⟩ hs
    · cases e
end
end Sd

/-! PyD3: slices, builtins. -/
namespace Sd
open PySem PySem.Spec PyProof.Rows L2

section
variable {G : Gx} {X : Cx}
/-! ### slices -/
def U3 (G : Gx) : V → Option Int → Option Int → Hp → VK → Prop := fun v lo hi H Q => ∃ av ρ h x z, RelH (G.at av) ρ h H ∧ RD (G.at av) ρ H x v ∧ sliceF h x lo hi = some z ∧
  ∀ H' u, Stp ρ ρ H H' → RelH (G.at av) ρ h H' → RV (G.at av) ρ h H H' z u → Q u H'
theorem cut_eq (vs : List V) (lo hi : Option Int) : Sd.cut vs lo hi = cutV vs lo hi := rfl
theorem RDs.cut {ρ : List Addr} {H : Hp} {xs : List D} {vs : List V} (r : RDs G ρ H xs vs) (lo hi : Option Int) : RDs G ρ H (Sd.cut xs lo hi) (cutV vs lo hi) := by
  rw [← cut_eq]
  unfold Sd.cut
  rw [r.length]
  exact (r.drop _).take _
theorem cutS_eq (s : List Nat) (lo hi : Option Int) : (cutS ⟨s.toArray⟩ lo hi) = ⟨(Sd.cut s lo hi).toArray⟩ := by
  unfold cutS Sd.cut
  rw [strLen]
  rfl
theorem sl_F (hK : X.K = G.K) : SlR X (U3 G) := by
  intro pins s σ H x v vl vu lo hi sl Q I rx hs pl pu h
  obtain ⟨av, ρ, h, d, z, R, rd, e, q⟩ := h
  have hK : X.K = (G.at av).K := hK
  have lists : ∀ a, items h d = some a → D.lv (Sd.cut a lo hi) = z → ∃ T id, typeLookup (.type T) "__getitem__" = pure (some (.builtin id)) ∧ s.TypeIs v T ∧ wpAny (model X.prog X.w) X.A (getItem v (.ref sl)) (EP X pins σ Q) X.xe s := fun a ha e => by
    subst e
    obtain ⟨p, vs, rfl, q1, r1⟩ := rd.items_inv R ha
    rw [← hK] at q1
    exact sl_list pins s σ H _ v vl vu lo hi sl Q I rx hs pl pu ⟨p, vs, rfl, q1, fun p n => fin_lst R (r1.cut lo hi) n q⟩
  unfold sliceF at e
  split at e
  · split at e
    · rename_i hl
      cases e
      cases rd
      refine sl_str pins s σ H _ v vl vu lo hi sl Q I rx hs pl pu ⟨_, rfl, by rw [strLen, line_eq]; exact hl, ?_⟩
      rw [cutS_eq]
      exact fin_at R (RD.str _) q
    · cases e
  · cases e
    rename_i xs
    obtain ⟨p, vs, rfl, q1, r1⟩ := rd.tup_inv
    rw [← hK] at q1
    cases rx
    obtain ⟨its, r, ht, hz⟩ := I.tuple q1
    have hlen : its.toArray.size = vs.length := by rw [List.size_toArray]; exact r.length.symm
    refine ⟨"tuple", _, PyProof.Rows.slot_tuple_getitem.lookup, ht.typeIs, ?_⟩
    by_cases hw : HT.sIx vs.length 0 lo = 0 ∧ HT.sIx vs.length vs.length hi = vs.length
    · refine getItem_tuple_whole ht hs pl pu (by rw [hlen]; exact hw) ⟨.ref p, H, I, rfl, ?_⟩
      have e1 : Sd.cut xs lo hi = xs := by
        unfold Sd.cut
        rw [← r1.length] at hw
        rw [show Sd.sIx xs.length 0 lo = 0 from hw.1, show Sd.sIx xs.length xs.length hi = xs.length from hw.2]
        simp
      rw [e1] at q
      exact fin_at R rd q
    · refine HT.getItem_tuple_cut ht hs pl pu (by rw [hlen]; exact hw) ?_ (by rw [hlen]; exact hz)
      refine fin_tup (t := s.toks) I R (r1.cut lo hi) ?_ (Nat.le_trans (cutV_length _ _ _) hz) q
      unfold cutV
      rw [hlen]
      exact (r.drop _).take _
  · obtain ⟨a, e2, e3⟩ := Option.map_eq_some_iff.mp e
    exact lists a e2 e3

theorem vals_at : ∀ {xs : List V} {us : List Value}, xs.length = us.length → (∀ (j : Nat) (x : V) (u : Value), xs[j]? = some x → us[j]? = some u → RelV x u) → Vals xs us
  | [], [], _, _ => .nil
  | x :: xs, u :: us, hl, h => .cons (h 0 x u rfl rfl) (vals_at (by simpa using hl) fun j y w e1 e2 => h (j + 1) y w (by simpa using e1) (by simpa using e2))
  | [], _ :: _, hl, _ => by simp at hl
  | _ :: _, [], hl, _ => by simp at hl
/-! ### builtins of one value -/
def C1 (G : Gx) (F : Hh → D → Option D) : List V → Hp → VK → Prop := fun vs H Q => ∃ v, vs = [v] ∧ U1 G F v H Q
theorem call_lenF (hK : X.K = G.K) (hW : X.prog = G.b.P ∧ X.w = G.b.w) : CallR X (.builtin "len") (C1 G (o1F .len)) := by
  intro pins s σ H vs us Q I r q
  obtain ⟨v, rfl, av, ρ, h, x, z, R, rx, e, q⟩ := q
  have hK : X.K = (G.at av).K := hK
  unfold o1F at e
  split at e
  all_goals (try contradiction)
  · split at e
    · rename_i hl
      cases e; cases rx
      exact call_len pins s σ H _ us Q I r ⟨_, _, rfl, ⟨by rw [strLen, line_eq]; exact hl, rfl⟩, by rw [strLen]; exact fin_at R (RD.int _) q⟩
    · cases e
  · split at e
    · rename_i xs he
      cases e
      obtain ⟨a, ws, rfl, p, rs⟩ := rx.seqs_inv R he
      rw [← hK] at p
      refine call_len pins s σ H _ us Q I r ⟨_, ws.length, rfl, ?_, by rw [← rs.length]; exact fin_at R (RD.int _) q⟩
      rcases p with p | p
      · exact .inl ⟨_, p, rfl⟩
      · exact .inr ⟨_, p, rfl⟩
    · obtain ⟨ks, e1, rfl⟩ := Option.map_eq_some_iff.mp e
      obtain ⟨u, rfl, ru⟩ := r.one
      unfold keysD at e1
      split at e1
      · rename_i ks' vs' he
        cases e1
        obtain ⟨a, kvs, rfl, q1, rfl, rs⟩ := RD.dict_inv R rx he
        cases ru
        rw [List.length_map] at q
        exact d_len I q1 fun t s' J => ⟨.int _, _, J, ⟨t, rfl⟩, fin_at R (RD.int _) q⟩
      · obtain ⟨⟨ks', vs'⟩, he, rfl⟩ := Option.map_eq_some_iff.mp e1
        obtain ⟨a, es, us', rfl, q1, ek, rk, rv, rs⟩ := RD.dictn_inv R rx he
        cases ru
        obtain ⟨h1, h2, h3⟩ := no_at (G := G.at av) hW hK I q1 rk ek
        have hl := mapO_lenE ek
        rw [List.length_map] at hl
        rw [hl] at q
        exact PySem.call_len_dictH h1 h3 (by rw [sizeLine_eq] at h2; omega) ⟨.int _, _, I.tok _, ⟨_, rfl⟩, fin_at R (RD.int _) q⟩
theorem call_intF : CallR X (.type "int") (C1 G (o1F .int)) := by
  intro pins s σ H vs us Q I r q
  obtain ⟨v, rfl, av, ρ, h, x, z, R, rx, e, q⟩ := q
  unfold o1F at e
  split at e
  all_goals (try contradiction)
  · cases e; cases rx
    exact call_int1 pins s σ H _ us Q I r (.inl ⟨_, rfl, fin_at R (RD.int _) q⟩)
  · cases e; cases rx
    exact call_int1 pins s σ H _ us Q I r (.inr ⟨_, rfl, fin_at R (RD.int _) q⟩)
theorem digits_eq (i : Int) : (Str.ofString (toString i)) = ⟨(digits i).toArray⟩ := by
  unfold Str.ofString digits
  rw [cpsOfBytes_string]
theorem call_strF : CallR X (.type "str") (C1 G (o1F .str)) := by
  intro pins s σ H vs us Q I r q
  obtain ⟨v, rfl, av, ρ, h, x, z, R, rx, e, q⟩ := q
  unfold o1F at e
  split at e
  all_goals (try contradiction)
  split at e
  · rename_i hl
    cases e; cases rx
    refine call_str_int pins s σ H _ us Q I r ⟨_, rfl, hl, ?_⟩
    show Q (.str (Str.ofString (toString _))) H
    rw [digits_eq]
    exact fin_at R (RD.str _) q
  · cases e
theorem call_tupleF (hK : X.K = G.K) : CallR X (.type "tuple") (C1 G (o1F .tuple)) := by
  intro pins s σ H vs us Q I r q
  obtain ⟨v, rfl, av, ρ, h, x, z, R, rx, e, q⟩ := q
  have hK : X.K = (G.at av).K := hK
  have e : (seqs h x).map D.tup = some z := by
    unfold o1F at e
    split at e
    all_goals (try contradiction)
    exact e
  obtain ⟨xs, e3, rfl⟩ := Option.map_eq_some_iff.mp e
  obtain ⟨u, rfl, ru⟩ := vals1 r
  by_cases ht : ∃ ys, x = .tup ys
  · obtain ⟨ys, rfl⟩ := ht
    cases e3
    obtain ⟨a, ws, rfl, p, rs⟩ := rx.tup_inv
    cases ru
    rw [← hK] at p
    obtain ⟨its, _, p1, _⟩ := I.tuple p
    exact call_tuple_same (items := its.toArray) p1 ⟨.ref a, H, I, rfl, fin_at R rx q⟩
  · have e2 : items h x = some xs := by
      cases x with
      | tup ys => exact (ht ⟨_, rfl⟩).elim
      | _ => exact e3
    obtain ⟨a, ws, rfl, p, rs⟩ := rx.items_inv R e2
    cases ru
    rw [← hK] at p
    obtain ⟨its, r', pl, hz⟩ := I.list p
    have hlen := r'.length
    refine call_tuple_list pl.isList (fun h' kp => ?_) (by simp only [List.size_toArray] <;> omega)
    have I1 : Inv X pins σ H { s with heap := h' } := I.kept (t' := s.toks) kp
    exact fin_tup (s := { s with heap := h' }) (t := s.toks) I1 R rs r' hz q
theorem call_listF (hK : X.K = G.K) (hc : X.calm = true) (hW : X.prog = G.b.P ∧ X.w = G.b.w) : CallR X (.type "list") (C1 G (o1F .list)) := by
  intro pins s σ H vs us Q I r q
  obtain ⟨v, rfl, av, ρ, h, x, z, R, rx, e, q⟩ := q
  have hK : X.K = (G.at av).K := hK
  unfold o1F at e
  split at e
  all_goals (try contradiction)
  · split at e
    · rename_i s1 _ hl
      cases e; cases rx
      obtain ⟨u, rfl, ru⟩ := vals1 r
      obtain ⟨t, rfl⟩ := ru
      refine call_list_str (I.ok.hd hc) _ t (fun h' tk acc c' hk ha hit => ?_) (by rw [line_eq]; simpa using hl)
      have nn : H s.heap.objs.size = none := I.hok.fresh (Nat.le_refl _)
      obtain ⟨i1, i2⟩ := hit
      have hv : Vals (s1.map fun c => V.str ⟨#[c]⟩) acc.toList := by
        refine vals_at (by rw [List.length_map, Array.length_toList]; simpa using i1.symm) fun j v u e1 e2 => ?_
        obtain ⟨c, t', e3, rfl⟩ := i2 j u (by simpa using e2)
        rw [List.getElem?_map] at e1
        have e3 : s1[j]? = some c := by simpa using e3
        rw [e3] at e1
        cases e1
        exact ⟨t', rfl⟩
      refine ⟨.ref s.heap.objs.size, _, I.laid (t' := tk) (o := .lst (s1.map fun c => V.str ⟨#[c]⟩)) hk (Nat.le_refl _) ⟨by rw [List.length_map, line_eq]; exact hl, acc.toList, c', hv, by simpa using ha⟩, rfl, fin_lst R ?_ nn q⟩
      clear hl ha hv i1 i2 q r
      induction s1 with
      | nil => exact .nil
      | cons c r ih => exact .cons (RD.str [c]) ih
    · cases e
  · split at e
    · rename_i xs e3
      cases e
      obtain ⟨a, ws, rfl, p, rs⟩ := rx.seqs_inv R e3
      rw [← hK] at p
      exact call_list_of pins s σ H _ us Q I r ⟨a, ws, rfl, p, fun l n => fin_lst R rs n q⟩
    · obtain ⟨⟨ks, ds⟩, he, rfl⟩ := Option.map_eq_some_iff.mp e
      obtain ⟨a, es, us', rfl, q1, ek, rk, rv, rs⟩ := RD.dictn_inv R rx he
      obtain ⟨u, rfl, ru⟩ := vals1 r
      cases ru
      obtain ⟨h1, h2, o, en, ep, g1, g2, g3, g4, g5, g6⟩ := no_at (G := G.at av) hW hK I q1 rk ek
      have hsz : en.size = es.length := by simpa using congrArg List.length g4
      refine PySem.W.kdl_call (KdlSrc.rawDict (es := en) (ep := ep) h1) (I.ok.hd hc) ⟨o, g1, g2, g3⟩ (by omega) fun h' tk acc c' hk ha hit => ?_
      have nn : H s.heap.objs.size = none := I.hok.fresh (Nat.le_refl _)
      obtain ⟨i1, i2⟩ := hit
      have hv : Vals (es.map fun x => V.ref x.2.1) acc.toList := by
        refine vals_at (by rw [List.length_map]; exact hsz.symm.trans (i1.symm.trans (by simp))) fun j v u e1 e2 => ?_
        obtain ⟨hj, rfl⟩ := i2 j u (by simpa using e2)
        rw [List.getElem?_map] at e1
        obtain ⟨x, hx, rfl⟩ := Option.map_eq_some_iff.mp e1
        have hk2 := entry_at g4 j
        rw [hx, Array.getElem?_eq_getElem hj, Option.map_some, Option.some.injEq] at hk2
        rw [hk2]
        rfl
      refine ⟨.ref s.heap.objs.size, _, I.laid (t' := tk) (o := .lst (es.map fun x => V.ref x.2.1)) hk (Nat.le_refl _) ⟨by rw [List.length_map]; exact h2, acc.toList, c', hv, by simpa using ha⟩, rfl, fin_lst R rk nn q⟩
theorem call_allF (hK : X.K = G.K) (hc : X.calm = true) : CallR X (.builtin "all") (C1 G (o1F .all)) := by
  intro pins s σ H vs us Q I r q
  obtain ⟨v, rfl, av, ρ, h, x, z, R, rx, e, q⟩ := q
  have hK : X.K = (G.at av).K := hK
  unfold o1F at e
  split at e
  all_goals (try contradiction)
  split at e
  · rename_i xs he
    obtain ⟨bs, e3, rfl⟩ := Option.map_eq_some_iff.mp e
    obtain ⟨a, ws, rfl, p, rs⟩ := rx.items_inv R he
    have := rs.bools e3
    subst this
    rw [← hK] at p
    exact cr_all hc pins s σ H _ us Q I r ⟨a, bs, rfl, p, fin_at R (RD.bl _) q⟩
  · cases e
theorem call_anyF (hK : X.K = G.K) (hc : X.calm = true) : CallR X (.builtin "any") (C1 G (o1F .any)) := by
  intro pins s σ H vs us Q I r q
  obtain ⟨v, rfl, av, ρ, h, x, z, R, rx, e, q⟩ := q
  have hK : X.K = (G.at av).K := hK
  unfold o1F at e
  split at e
  all_goals (try contradiction)
  split at e
  · rename_i xs he
    obtain ⟨bs, e3, rfl⟩ := Option.map_eq_some_iff.mp e
    obtain ⟨a, ws, rfl, p, rs⟩ := rx.items_inv R he
    have := rs.bools e3
    subst this
    rw [← hK] at p
    exact cr_any hc pins s σ H _ us Q I r ⟨a, bs, rfl, p, fin_at R (RD.bl _) q⟩
  · cases e
theorem call_sumF (hK : X.K = G.K) (hc : X.calm = true) : CallR X (.builtin "sum") (C1 G (o1F .sum)) := by
  intro pins s σ H vs us Q I r q
  obtain ⟨v, rfl, av, ρ, h, x, z, R, rx, e, q⟩ := q
  have hK : X.K = (G.at av).K := hK
  unfold o1F at e
  split at e
  all_goals (try contradiction)
  split at e
  · rename_i xs he
    obtain ⟨bs, e3, rfl⟩ := Option.map_eq_some_iff.mp e
    obtain ⟨a, ws, rfl, p, rs⟩ := rx.items_inv R he
    have := rs.ints e3
    subst this
    rw [← hK] at p
    exact cr_sum hc pins s σ H _ us Q I r ⟨a, bs, rfl, p, fin_at R (RD.int _) q⟩
  · cases e
/-! ### of two values -/
def C2 (G : Gx) (F : Hh → D → D → Option D) : List V → Hp → VK → Prop := fun vs H Q => ∃ v w, vs = [v, w] ∧ U2 G F v w H Q
theorem call_minF (hc : X.calm = true) : CallR X (.builtin "min") (C2 G (o2F .min)) := by
  intro pins s σ H vs us Q I r q
  obtain ⟨v, w, rfl, av, ρ, h, x, y, z, R, rx, ry, e, q⟩ := q
  unfold o2F at e
  split at e
  all_goals (try contradiction)
  cases e; cases rx; cases ry
  exact call_min2 hc pins s σ H _ us Q I r ⟨_, _, rfl, fin_at R (RD.int _) q⟩
theorem call_maxF (hc : X.calm = true) : CallR X (.builtin "max") (C2 G (o2F .max)) := by
  intro pins s σ H vs us Q I r q
  obtain ⟨v, w, rfl, av, ρ, h, x, y, z, R, rx, ry, e, q⟩ := q
  unfold o2F at e
  split at e
  all_goals (try contradiction)
  cases e; cases rx; cases ry
  exact call_max2 hc pins s σ H _ us Q I r ⟨_, _, rfl, fin_at R (RD.int _) q⟩
theorem joinL_eq (sep : List Nat) : ∀ ss : List (List Nat), TL.joinL sep ss = joined sep ss
  | [] => rfl
  | [x] => rfl
  | x :: y :: r => by
    show x ++ (sep ++ TL.joinL sep (y :: r)) = x ++ (sep ++ joined sep (y :: r))
    rw [joinL_eq sep (y :: r)]
/-- sep.join(list of texts) -/
theorem joined_eq (sep : List Nat) (ss : List (List Nat)) : Txt.join ⟨sep.toArray⟩ (ss.map fun s => (⟨s.toArray⟩ : Str)) = ⟨(joined sep ss).toArray⟩ := by
  have e : TL.tl (Txt.join ⟨sep.toArray⟩ (ss.map fun s => (⟨s.toArray⟩ : Str))) = joined sep ss := by
    rw [TL.join_eq, TL.tl_join]
    have : (ss.map fun s => (⟨s.toArray⟩ : Str)).map TL.tl = ss := by
      rw [List.map_map]
      exact (List.map_congr_left fun s _ => rfl).trans (List.map_id _)
    rw [this]
    exact joinL_eq sep ss
  generalize Txt.join ⟨sep.toArray⟩ (ss.map fun s => (⟨s.toArray⟩ : Str)) = t at e
  obtain ⟨a⟩ := t
  have e : a.toList = joined sep ss := e
  rw [← e]
theorem mt_joinF (hK : X.K = G.K) : MtR X "str.join" (fun v ws H Q => ∃ w, ws = [w] ∧ U2 G (o2F .join) v w H Q) := by
  intro pins s σ H v ws v' us Q I rv r q
  obtain ⟨w, rfl, av, ρ, h, x, y, z, R, rx, ry, e, q⟩ := q
  have hK : X.K = (G.at av).K := hK
  unfold o2F at e
  split at e
  all_goals (try contradiction)
  split at e
  · rename_i ys he
    split at e
    · rename_i ss h2
      split at e
      · rename_i hl
        cases e
        obtain ⟨a, ws, rfl, p, rs⟩ := ry.items_inv R he
        have := rs.strs h2
        subst this
        cases rx
        rw [← hK] at p
        refine mt_join pins s σ H _ _ v' us Q I rv r ⟨_, a, _, rfl, rfl, .inl p, ?_, ?_⟩
        · rw [List.length_map, strLen, List.map_map]
          have : (List.map ((fun x => x.length) ∘ fun (s : List Nat) => (⟨s.toArray⟩ : Str)) ss) = ss.map List.length := List.map_congr_left fun s _ => strLen s
          rw [this]
          exact hl
        · rw [joined_eq]
          exact fin_at R (RD.str _) q
      · cases e
    · cases e
  · cases e
end
end Sd

/-! PyD4: dict(tuple of pairs), isinstance. -/
namespace Sd
open PySem PySem.Spec PyProof.Rows L2

theorem putK_new {kvs : List (Key × V)} {k : Key} {v : V} (h : k ∉ kvs.map (·.1)) : putK kvs k v = kvs ++ [(k, v)] := by
  unfold putK
  rw [if_neg]
  intro q
  obtain ⟨p, hp, e⟩ := List.any_eq_true.mp q
  exact h (List.mem_map.mpr ⟨p, hp, of_decide_eq_true e⟩)
theorem mergeK_new : ∀ (more kvs : List (Key × V)), ((kvs ++ more).map (·.1)).Nodup → mergeK kvs more = kvs ++ more
  | [], kvs, _ => by rw [List.append_nil]; rfl
  | (k, v) :: more, kvs, h => by
    show mergeK (putK kvs k v) more = _
    have e : kvs ++ (k, v) :: more = (kvs ++ [(k, v)]) ++ more := by simp
    rw [e] at h ⊢
    have hk : k ∉ kvs.map (·.1) := fun hm => by
      rw [List.map_append, List.map_append, List.nodup_append, List.nodup_append] at h
      exact h.1.2.2 k hm k (by simp) rfl
    rw [putK_new hk]
    exact mergeK_new more _ h

theorem KV_nil {κ : Type} : KV ([] : List (κ × V)) [] := .nil
/-- a pair of a tuple that becomes a dict: where it stands, its key, its value -/
structure PairE where
  b : Addr
  k : Value
  x : Str
  v : Value
  y : V
section
variable {G : Gx} {X : Cx} {ρ : List Addr} {h : Hh} {H : Hp} {pins : List (Addr × Obj)} {σ : L2.St} {s : Shared}
theorem pairs_inv (hK : X.K = G.K) (I : Inv X pins σ H s) : ∀ {xs : List D} {vs : List V} {us : List Value} {ks ds : List D} {ss : List (List Nat)}, RDs G ρ H xs vs → Vals vs us → pairsOf xs = some (ks, ds) → strsOf ks = some ss →
    ∃ L : List PairE, us = L.map (fun e => Value.ref e.b) ∧ (∀ e ∈ L, IsTup s.heap e.b #[e.k, e.v] ∧ (∃ t, e.k = .str e.x t) ∧ RelV e.y e.v) ∧ ks = L.map (fun e => .str e.x.cps.toList) ∧ ss = L.map (fun e => e.x.cps.toList) ∧ RDs G ρ H ds (L.map (·.y))
  | [], _, _, _, _, _, .nil, .nil, e, e2 => by
    cases e; cases e2
    exact ⟨[], rfl, (fun e h => absurd h (by simp)), rfl, rfl, RDs.nil⟩
  | x :: xs, _, _, ks, ds, ss, .cons r rs, .cons rv rvs, e, e2 => by
    unfold pairsOf at e
    split at e
    · rename_i he; cases he
    · rename_i k v r0 he
      cases he
      obtain ⟨⟨ks', ds'⟩, e3, e4⟩ := Option.map_eq_some_iff.mp e
      cases e4
      cases k with
      | str sk =>
        obtain ⟨ss', e5, rfl⟩ := Option.map_eq_some_iff.mp (show (strsOf ks').map (sk :: ·) = some ss from e2)
        obtain ⟨L, h1, h2, h3, h4, h5⟩ := pairs_inv hK I rs rvs e3 e5
        obtain ⟨a, ws, rfl, q, rws⟩ := r.tup_inv
        cases rv
        rw [← hK] at q
        obtain ⟨its, rits, p1, _⟩ := I.tuple q
        cases rws with
        | cons rk rr =>
          cases rr with
          | cons ry rr =>
            cases rr
            cases rk
            obtain ⟨u1, u2, rfl, q1, q3⟩ := vals2 rits
            obtain ⟨t, rfl⟩ := q1
            refine ⟨⟨a, .str ⟨sk.toArray⟩ t, ⟨sk.toArray⟩, u2, _⟩ :: L, by rw [h1]; rfl, fun e he => ?_, by rw [h3] <;> rfl, by rw [h4] <;> rfl, .cons ry h5⟩
            rcases List.mem_cons.mp he with rfl | he
            · exact ⟨p1, ⟨t, rfl⟩, q3⟩
            · exact h2 e he
      | _ => cases e2
    · cases e
/-- a pair whose key is a tuple -/
structure PairN where
  b : Addr
  x : NestedKey × Addr × Value
  y : V
theorem pairs_nest (hK : X.K = G.K) (I : Inv X pins σ H s) : ∀ {xs : List D} {vs : List V} {us : List Value} {ks ds : List D} {qs : List NestedKey}, RDs G ρ H xs vs → Vals vs us → pairsOf xs = some (ks, ds) → mapO kOf ks = some qs →
    ∃ L : List PairN, us = L.map (fun e => Value.ref e.b) ∧ (∀ e ∈ L, IsTup s.heap e.b #[.ref e.x.2.1, e.x.2.2] ∧ (nestedKind X.prog X.w).is s.heap e.x.1 e.x.2.1 ∧ RelV e.y e.x.2.2) ∧ qs = L.map (·.x.1) ∧ RDs G ρ H ks (L.map fun e => V.ref e.x.2.1) ∧ RDs G ρ H ds (L.map (·.y))
  | [], _, _, _, _, _, .nil, .nil, e, e2 => by
    cases e; cases e2
    exact ⟨[], rfl, (fun e h => absurd h (by simp)), rfl, .nil, .nil⟩
  | x :: xs, _, _, ks, ds, qs, .cons r rs, .cons rv rvs, e, e2 => by
    unfold pairsOf at e
    split at e
    · rename_i he; cases he
    · rename_i k v r0 he
      cases he
      obtain ⟨⟨ks', ds'⟩, e3, e4⟩ := Option.map_eq_some_iff.mp e
      cases e4
      cases h1 : kOf k with
      | none => simp [mapO, h1] at e2
      | some k1 =>
        cases h2 : mapO kOf ks' with
        | none => simp [mapO, h1, h2] at e2
        | some ks2 =>
          simp only [mapO, h1, h2, Option.some.injEq] at e2
          subst e2
          obtain ⟨L, g1, g2, g3, g4, g5⟩ := pairs_nest hK I rs rvs e3 h2
          obtain ⟨a, ws, rfl, q, rws⟩ := r.tup_inv
          cases rv
          rw [← hK] at q
          obtain ⟨its, rits, p1, _⟩ := I.tuple q
          cases rws with
          | cons rk rr =>
            cases rr with
            | cons ry rr =>
              cases rr
              obtain ⟨u1, u2, rfl, q1, q3⟩ := vals2 rits
              obtain ⟨b, rfl, rfl, hb⟩ := key_is hK I rk h1 q1
              refine ⟨⟨a, (k1, b, u2), _⟩ :: L, by rw [g1]; rfl, fun e he => ?_, by rw [g3] <;> rfl, .cons rk g4, .cons ry g5⟩
              rcases List.mem_cons.mp he with rfl | he
              · exact ⟨p1, hb, q3⟩
              · exact g2 e he
    · cases e
/-- dict(a list of pairs), the keys tuples that differ -/
theorem dict_nest (hK : X.K = G.K) (hc : X.calm = true) (hu : X.A.units + 200 < cLine) (hW : X.prog = G.b.P ∧ X.w = G.b.w) {us : List Value} {v : V} {Q : VK} {x : D} {xs ks ds : List D} {qs : List NestedKey} (I : Inv X pins σ H s) (R : RelH G ρ h H) (rx : RD G ρ H x v) (r : Vals [v] us) (hx : items h x = some xs) (hp : pairsOf xs = some (ks, ds)) (hk : mapO kOf ks = some qs) (hn : qs.Nodup)
    (q : ∀ H' u, Stp ρ ρ H H' → RelH G ρ h H' → RV G ρ h H H' (.dvn ks ds) u → Q u H') : wpAny (model X.prog X.w) X.A (call (.type "dict") us) (EP X pins σ Q) X.xe s := by
  obtain ⟨a, ws, rfl, sq, rs⟩ := rx.items_inv R hx
  obtain ⟨u, rfl, ru⟩ := vals1 r
  cases ru
  rw [← hK] at sq
  obtain ⟨its, rits, pl, hz⟩ := I.list sq
  obtain ⟨L, rfl, h2, rfl, h4, h5⟩ := pairs_nest hK I rs rits hp hk
  have hlen : ws.length = L.length := by rw [rits.length, List.length_map]
  have hm : (s.heap.objs.size == sysModules) = false := beq_eq_false_iff_ne.mpr (Nat.ne_of_gt I.big)
  have nn : H s.heap.objs.size = none := I.hok.fresh (Nat.le_refl _)
  refine call_dict_pairsH (knd := nestedKind X.prog X.w) (ps := L.map (·.x)) (PairArg.list a (L.map fun e => Value.ref e.b).toArray (fun j => (L[j]?.map (·.b)).getD 0) (L.map fun e => (Value.ref e.x.2.1, e.x.2.2))) (I.ok.hd hc) (by
    show X.A.in1.in1.units + 8 < cLine
    simp only [Around.in1_units]; omega) ⟨(let ⟨o, n, z1, z2, z3, z4⟩ := pl; ⟨o, n, z1, z2, z3, z4⟩), by simp, ?_⟩ ⟨by simp, ?_⟩ ?_ (by rw [List.length_map, ← hlen]; exact hz) fun h' tk hd' k => ?_
  · intro j k v hj
    rw [List.getElem?_map] at hj
    obtain ⟨e, he, hkv⟩ := Option.map_eq_some_iff.mp hj
    cases hkv
    refine ⟨by simp [he], .inl ?_⟩
    simp only [he, Option.map_some, Option.getD_some]
    exact (h2 e (List.mem_of_getElem? he)).1
  · intro j k v hj
    have hj : (L.map fun e => (Value.ref e.x.2.1, e.x.2.2))[j]? = some (k, v) := hj
    rw [List.getElem?_map] at hj
    obtain ⟨e, he, hkv⟩ := Option.map_eq_some_iff.mp hj
    cases hkv
    exact ⟨e.x.1, e.x.2.1, by simp [he], rfl⟩
  · intro h' hk' x hx'
    obtain ⟨e, he, rfl⟩ := List.mem_map.mp hx'
    obtain ⟨i1, i2⟩ := (h2 e he).2.1
    exact ⟨NestedIs.at (fun b ob vs n hb _ => hk' b ob (Nat.ne_of_lt (Heap.lt_size hb)) (by simp) hb) _ _ i1, i2⟩
  · have hst : storedAllH [] (L.map (·.x)) = L.map (·.x) := storedAllH_nil_of_nodup _ (by rw [List.map_map]; exact hn)
    rw [hst] at hd'
    obtain ⟨o, en, ep, g1, g2, g3, g4, g5, g6⟩ := hd'
    refine ⟨.ref s.heap.objs.size, _, I.laid (t' := tk) (o := NO G.b s.heap.objs.size o (L.map (·.x))) (fun b o e => k b o (by simp) e) (Nat.le_refl _) ?_, rfl, ?_⟩
    · refine ⟨⟨hm, by rw [List.length_map, ← hlen]; exact hz, g6, g1, en, ep, g2, g3, by rw [← hW.1, ← hW.2]; exact g4⟩, ⟨o, g1⟩, ?_⟩
      rintro h1 h2 ⟨p1, p2, p3, p4, p5⟩ k
      exact ⟨p1, p2, p3, k o p4, p5⟩
    · refine q _ _ (Stp.new nn) (R.new nn) ⟨s.heap.objs.size, L.map (·.x), L.map (·.y), rfl, nn, R.notAv nn, ⟨o, upd_same⟩, by rw [List.map_map]; exact hk, ?_, ?_, h5.new nn, R.newHid nn⟩
      · rw [List.map_map]; exact h4.new nn
      · rw [List.map_map]
        clear h4 h5 hk hn hp rs rits pl hz hlen q g4 g5 g6 hst
        induction L with
        | nil => exact .nil
        | cons e L ih => exact .cons (h2 e List.mem_cons_self).2.2 (ih fun e he => h2 e (List.mem_cons_of_mem _ he))
theorem call_dictF (hK : X.K = G.K) (hc : X.calm = true) (hu : X.A.units + 200 < cLine) (hW : X.prog = G.b.P ∧ X.w = G.b.w) : CallR X (.type "dict") (C1 G (o1F .dict)) := by
  intro pins s σ H vs us Q I r q
  obtain ⟨v, rfl, av, ρ, h, x, z, R, rx, e, q⟩ := q
  have hK : X.K = (G.at av).K := hK
  unfold o1F at e
  split at e
  all_goals (try contradiction)
  rotate_left
  · split at e
    · rename_i xs hx
      split at e
      · rename_i ks ds hp
        split at e
        · rename_i qs hk
          split at e
          · rename_i hn
            cases e
            exact dict_nest hK hc hu hW I R rx r hx hp hk hn q
          · cases e
        · cases e
      · cases e
    · cases e
  rename_i xs _
  split at e
  · rename_i ks ds hp
    split at e
    · rename_i ss hs
      split at e
      · rename_i hn
        cases e
        obtain ⟨u, rfl, ru⟩ := vals1 r
        -- the tuple's object
        have obj : ∃ (a : Addr) (ws : List V) (its : List Value), v = .ref a ∧ RDs (G.at av) ρ H xs ws ∧ Vals ws its ∧ PlainSeq "tuple" s.heap a its.toArray ∧ ws.length ≤ sizeLine := by
          cases rx with
          | @tup a ob ws _ e1 d1 _ _ rs =>
            obtain ⟨e2, hz, its, rv, o, e3, c3, n, dt⟩ := I.hok a _ e1
            rw [e2] at e3
            cases e3
            exact ⟨a, ws, its, rfl, rs, rv, ⟨ob, n, e2, c3, d1, dt⟩, hz⟩
          | @tupK a ws _ e1 rs =>
            obtain ⟨o, its, n, h1, h2, h3, h4, h5, h6⟩ := e1
            rw [← hK] at h1
            refine ⟨a, ws, its.toList, rfl, rs, h6, ⟨o, n, I.kIn a o h1, h2, h3, by simpa using h4⟩, ?_⟩
            have q6 : ws.length = its.toList.length := Vals.length h6
            rw [q6]; simpa using h5
        obtain ⟨a, ws, its, rfl, rs, rv, pl, hz⟩ := obj
        cases ru
        obtain ⟨L, rfl, h2, rfl, rfl, h5⟩ := pairs_inv hK I rs rv hp hs
        have hlen : ws.length = L.length := by rw [rv.length, List.length_map]
        have hm : (s.heap.objs.size == sysModules) = false := beq_eq_false_iff_ne.mpr (Nat.ne_of_gt I.big)
        have nn : H s.heap.objs.size = none := I.hok.fresh (Nat.le_refl _)
        have kv : KV (L.map fun e => ((.inr e.x : Key), e.y)) (L.map fun e => ((.inr e.x : Key), e.v)) := by
          clear h5 hn hs hp rs rv pl hz hlen q
          induction L with
          | nil => exact .nil
          | cons e L ih => exact .cons ⟨rfl, (h2 e List.mem_cons_self).2.2⟩ (ih fun e he => h2 e (List.mem_cons_of_mem _ he))
        have nd : ((([] : List (Key × V)) ++ L.map fun e => ((.inr e.x : Key), e.y)).map (·.1)).Nodup := by
          rw [List.nil_append, List.map_map]
          show (L.map fun e => (.inr e.x : Key)).Nodup
          refine List.pairwise_map.mpr (List.Pairwise.imp (fun {e f} hne he => hne ?_) (List.pairwise_map.mp hn))
          rw [Sum.inr.inj he]
        have mk := mergeK_new _ [] nd
        rw [List.nil_append] at mk
        refine call_dict_pairs (knd := mixKind X.prog X.w) (kvs := L.map fun e => ((.inr e.x : Key), e.v)) (PairArg.tuple a (L.map fun e => Value.ref e.b).toArray (fun j => (L[j]?.map (·.b)).getD 0) (L.map fun e => (e.k, e.v))) (I.ok.hd hc) ⟨pl, ?_, ?_⟩ ⟨?_, ?_⟩ ?_ fun h' tk hd' k => ?_
        · simp
        · intro j k v hj
          rw [List.getElem?_map] at hj
          obtain ⟨e, he, hkv⟩ := Option.map_eq_some_iff.mp hj
          cases hkv
          refine ⟨by simp [he], .inl ?_⟩
          simp only [he, Option.map_some, Option.getD_some]
          exact (h2 e (List.mem_of_getElem? he)).1
        · simp
        · intro j k v hj
          have hj : (L.map fun e => (e.k, e.v))[j]? = some (k, v) := hj
          rw [List.getElem?_map] at hj
          obtain ⟨e, he, hkv⟩ := Option.map_eq_some_iff.mp hj
          cases hkv
          refine ⟨.inr e.x, by simp [he], ?_⟩
          obtain ⟨t, et⟩ := (h2 e (List.mem_of_getElem? he)).2.1
          rw [et]
          exact mixKind_str _ _ _ _
        · rw [List.length_map, ← hlen]; exact hz
        · have kv2 := KV.merge kv (KV_nil (κ := Key))
          rw [mk] at kv2
          refine ⟨.ref s.heap.objs.size, _, I.laid (t' := tk) (o := .dK (L.map fun e => ((.inr e.x : Key), e.y))) (fun b o e => k b o (by simp) e) (Nat.le_refl _) ⟨by rw [List.length_map, ← hlen]; exact hz, hm, _, kv2, hd'⟩, rfl, ?_⟩
          refine q _ _ (Stp.new nn) (R.new nn) ⟨s.heap.objs.size, _, rfl, nn, R.notAv nn, upd_same, ?_, ?_, R.newHid nn⟩
          · rw [List.map_map]; rfl
          · rw [List.map_map]
            exact h5.new nn
      · cases e
    · cases e
  · cases e
/-! ### isinstance -/
def tyName : Ty → String
  | .str => "str" | .tup => "tuple" | .lst => "list" | .int => "int" | .bool => "bool" | .dict => "dict"
theorem kit_dec {K : PySem.W.Frag} (s : Option Ty) (t : Ty) : PySem.W.kitOne K (.type (match s with | some s => tyName s | none => "NoneType")) (.type (tyName t)) = some (match s with | some .bool => (t == .bool || t == .int) | some s => t == s | none => false) := by
  rcases s with _ | s
  · cases t <;> exact kit_ty (by decide +kernel)
  · cases s <;> cases t <;> exact kit_ty (by decide +kernel)
theorem call_isiF (t : Ty) (hK : X.K = G.K) : CallR X (.builtin "isinstance") (fun vs H Q => ∃ v, vs = [v, .ty (tyName t)] ∧ U1 G (o1F (.isi t)) v H Q) := by
  intro pins s σ H vs us Q I r q
  obtain ⟨v, rfl, av, ρ, h, x, z, R, rx, e, q⟩ := q
  have hK : X.K = (G.at av).K := hK
  have e : (isTy h t x).map D.bl = some z := by
    unfold o1F at e
    split at e
    all_goals (try contradiction)
    rename_i he
    cases he
    exact e
  obtain ⟨k, e, rfl⟩ := Option.map_eq_some_iff.mp e
  have go : ∀ (s0 : Option Ty), TyX X.K H v (.type (match s0 with | some s => tyName s | none => "NoneType")) → k = (match s0 with | some .bool => (t == .bool || t == .int) | some s => t == s | none => false) → wpAny (model X.prog X.w) X.A (call (.builtin "isinstance") us) (EP X pins σ Q) X.xe s := fun s0 ty ek => by
    refine call_isi pins s σ H _ us Q I r ⟨v, _, _, _, _, rfl, .ty _, ty, kit_dec s0 t, ?_⟩
    rw [← ek]
    exact fin_at R (RD.bl k) q
  cases rx with
  | non => cases e; exact go none (.base .non) rfl
  | bl b => cases e; exact go (some .bool) (.base (.bl _)) rfl
  | int i => cases e; exact go (some .int) (.base (.int _)) rfl
  | str x => cases e; exact go (some .str) (.base (.str _)) rfl
  | tup h _ _ _ _ => cases e; exact go (some .tup) (.fTuple h) rfl
  | tupK h _ =>
    cases e
    obtain ⟨o, its, n, h1, h2, _⟩ := h
    rw [← hK] at h1
    exact go (some .tup) (.kTuple h1 h2) rfl
  | fz h _ _ _ =>
    cases e
    rcases h with h | ⟨u, h⟩
    · exact go (some .lst) (.base (.lst h)) rfl
    · exact go (some .lst) (.base (.frz h)) rfl
  | fzK h _ =>
    cases e
    obtain ⟨o, its, n, h1, h2, _⟩ := h
    rw [← hK] at h1
    exact go (some .lst) (.kList h1 h2) rfl
  | fd h _ _ _ =>
    cases e
    rcases h with h | ⟨u, h⟩
    · exact go (some .dict) (.base (.dK h)) rfl
    · exact go (some .dict) (.fDict h) rfl
  | fdn => cases e
  | bm => cases e
  | @ref l a h0 =>
    obtain ⟨o, e1, ro⟩ := R.lt h0
    simp only [isTy, e1] at e
    cases o with
    | lst ys =>
      cases e
      obtain ⟨vs, e2, _⟩ := ro
      exact go (some .lst) (.base (.lst e2)) rfl
    | dic ks ys =>
      cases e
      obtain ⟨kvs, e2, _⟩ := ro
      exact go (some .dict) (.base (.dK e2)) rfl
    | din _ _ => cases e
    | ins c fs => cases e
end
end Sd

/-! PyD5: sorted; tuple * int. -/
namespace PySem.W
open PySem PySem.Calls PyProof.Rows
section
variable {prog : Program} {w : World} {A : Around} {s : Shared} {E : Value → Shared → Prop}
/-- at most one item: nothing is compared -/
theorem SortsAt.few {vs : List Value} {ds : List PyData} (e : EachIs (fun v d => ∃ as, Reads s.heap v d as) vs ds) (hal : AllAlike ds) (h1 : ds.length ≤ 1) (hn : ∀ d ∈ ds, d ≠ .none) (hu : ∀ d, d ∈ ds → A.units + d.depth < cLine) : SortsAt prog w A s (dataKind s.heap ds) vs := by
  refine ⟨fun v hv => ?_, general', ?_, fun h2 => absurd h2 (by rw [e.length]; omega)⟩
  · obtain ⟨d, hd, as, r⟩ := e.left v hv
    exact ⟨_, dataKind_some hal hd r⟩
  · intro E x y a b Q ha hb hq
    obtain ⟨d, as, hd, ra, rfl⟩ := dataKind_inv ha
    obtain ⟨d', as', hd', rb, rfl⟩ := dataKind_inv hb
    show wpAny _ _ (oneLt' false x y) _ _ _
    refine oneLt_alike (fun hf => nomatch hf) ra rb (hal d hd d' hd') (hn d hd) ?_ hq
    exact Nat.lt_of_le_of_lt (Nat.add_le_add_left (Nat.min_le_left _ _) _) (hu d hd)
theorem collect_tup {l : Addr} {vs : List Value} {Q : List Value → Shared → Prop} (hl : ∃ o, s.heap.get? l = some o ∧ o.cls = .type "tuple" ∧ ∃ n, o.data = .seq vs.toArray n)
    (h : Q vs { s with heap := (s.heap.push (seqObj "list" #[] 0)).update s.heap.objs.size (Obj.mapSeq (· ++ vs.toArray)) }) (hsz : vs.length ≤ sizeLine) :
    wpAny (model prog w) A (collect (.ref l)) Q E s := by
  obtain ⟨o, ho, hc, n, hd⟩ := id hl
  unfold collect
  refine wpAny_bind (wpAny_runValue (codeAny_builtin entry_proto_collect' ?_))
  show wpAny _ _ (do again (.builtin "list.__iadd__" ⟨[← newList [], .ref l], []⟩)) _ _ s
  refine wpAny_bind (wpAny_newList (wpAny_pure ⟨Code.quiet_builtin _ (by decide +kernel), codeAny_builtin entry_list_iadd' ?_⟩))
  show wpAny _ _ (Builtin.List.listExtendWith (.ref s.heap.objs.size) (.ref l) (.ref s.heap.objs.size)) _ _ { s with heap := s.heap.push (seqObj "list" #[] 0) }
  unfold Builtin.List.listExtendWith
  have ho' : (s.heap.push (seqObj "list" #[] 0)).get? l = some o := Heap.get?_push_of_some _ ho
  refine wpAny_bind (wpAny_typeOf (T := "tuple") ⟨o, ho', hc⟩ ?_)
  have ht : (Value.type "tuple" == Value.type "tuple") = true := by rfl
  rw [if_pos (by rw [ht]; simp)]
  refine wpAny_bind (listItems_at ho' hd ?_)
  refine wpAny_bind (listItems_at (xs := #[]) (n := 0) (Heap.get?_push_size _ rfl) rfl ?_)
  rw [if_neg (by simp)]
  refine wpAny_bind (listUpdate_at (xs := #[]) (n := 0) (Heap.get?_push_size _ rfl) rfl ?_ (Nat.zero_le _) (by show (#[] ++ vs.toArray).size ≤ sizeLine + 1; simp only [Array.size_append, List.size_toArray, List.length_nil]; omega))
  refine wpAny_pure ?_
  show wpAny (model prog w) A (do
      let o ← load s.heap.objs.size
      match o.data with
      | .seq xs _ => pure xs.toList
      | _ => unsupported "internal:collect") Q E { s with heap := (s.heap.push (seqObj "list" #[] 0)).update s.heap.objs.size (Obj.mapSeq (· ++ vs.toArray)) }
  refine wpAny_bind (wpAny_load (get?_update_seq (Heap.get?_push_size _ rfl) _) ?_)
  show wpAny _ _ (pure ((#[] : Array Value) ++ vs.toArray).toList) Q E _
  rw [show ((#[] : Array Value) ++ vs.toArray).toList = vs by simp]
  exact wpAny_pure h
/-- sorted of what is collected -/
theorem sorted_of_coll {l : Addr} {vs : List Value} {Q : Value → Shared → Prop} (hl : ∀ (E' : Value → Shared → Prop) (Q' : List Value → Shared → Prop), Q' vs { s with heap := (s.heap.push (seqObj "list" #[] 0)).update s.heap.objs.size (Obj.mapSeq (· ++ vs.toArray)) } → wpAny (model prog w) A.in1 (collect (.ref l)) Q' E' s)
    (hL : vs.length ≤ sizeLine) (κ : PyProof.Rows.KeyKind) (S : SortsAt prog w A.in1.in1 { s with heap := sortingHeap (copyHeap s.heap vs) (s.heap.objs.size + 1) vs } κ vs)
    (h : Q (.ref (s.heap.objs.size + 1)) { s with heap := sortedAll s.heap vs (sortVals κ false vs vs).toArray }) : wpAny (model prog w) A (call (.builtin "sorted") [.ref l]) Q E s := by
  refine call_function_entry_kw kind_sorted plain_sorted entry_sorted (args_sorted1 _) ?_
  unfold Builtin.«sorted»
  refine wpAny_bind (m := checkCount "sorted" 1 1 _) (wpAny_pure ?_)
  refine wpAny_bind (hl _ _ ?_)
  refine wpAny_bind (wpAny_newList ?_ hL)
  have hsz : ((s.heap.push (seqObj "list" #[] 0)).update s.heap.objs.size (Obj.mapSeq (· ++ vs.toArray))).objs.size = s.heap.objs.size + 1 := by
    rw [Heap.size_update, size_push']
  show wpAny _ _ _ _ _ { s with heap := copyHeap s.heap vs }
  rw [hsz]
  refine wpAny_bind (wpAny_holding (wpAny_call_entry_kw slot_list_sort ⟨_, copyHeap_at s.heap vs, rfl⟩ entry_list_sort ?body (args_list_sort _)))
  case body =>
    show wpAny (model prog w) A.in1.in1 (Builtin.«list.sort» ⟨[.ref (s.heap.objs.size + 1)], []⟩) _ _ _
    refine wpAny_mono (list_sort_vals (P := fun f s' => f = .done (.ret .none) ∧ Q (.ref (s.heap.objs.size + 1)) s') (s := { s with heap := copyHeap s.heap vs }) (copyHeap_at s.heap vs) S hL ⟨rfl, h⟩) (fun f s' hf => ?_) fun _ _ e => e
    obtain ⟨rfl, hq⟩ := hf
    exact ⟨_, rfl, wpAny_pure ⟨_, rfl, hq⟩⟩
end
end PySem.W
namespace Sd
open PySem PySem.Spec PyProof.Rows L2
section
variable {G : Gx} {X : Cx}
theorem pds_each {G' : Gx} {ρ : List Addr} {H : Hp} {h : Hh} {pins : List (Addr × Obj)} {σ : L2.St} {s : Shared} {n : Nat} (hK : X.K = G'.K) (I : Inv X pins σ H s) (R : RelH G' ρ h H) : ∀ {xs : List D} {vs : List V} {us : List Value} {ps : List PyData}, RDs G' ρ H xs vs → Vals vs us → mapO (pd h n) xs = some ps →
    PySem.W.EachIs (fun u (b : D × PyData) => (∃ as, Reads s.heap u b.2 as) ∧ ∃ v, RelV v u ∧ RD G' ρ H b.1 v) us (xs.zip ps)
  | [], _, _, _, r, rv, e => by cases r; cases rv; cases e; exact .nil
  | x :: xs, _, _, _, r, rv, e => by
    cases r with
    | cons r rs =>
      cases rv with
      | cons rv rvs =>
        cases h1 : pd h n x with
        | none => simp [mapO, h1] at e
        | some p =>
          cases h2 : mapO (pd h n) xs with
          | none => simp [mapO, h1, h2] at e
          | some qs =>
            simp only [mapO, h1, h2] at e
            cases e
            exact .cons ⟨rd_reads hK I R r h1 rv, _, rv, r⟩ (pds_each hK I R rs rvs h2)
theorem each_vals {G' : Gx} {ρ : List Addr} {H : Hp} : ∀ {us : List Value} {bs : List (D × PyData)}, PySem.W.EachIs (fun u (b : D × PyData) => ∃ v, RelV v u ∧ RD G' ρ H b.1 v) us bs → ∃ vs, Vals vs us ∧ RDs G' ρ H (bs.map Prod.fst) vs
  | _, _, .nil => ⟨[], .nil, .nil⟩
  | _, _, .cons ⟨v, h1, h2⟩ t => by
    obtain ⟨vs, a, b⟩ := each_vals t
    exact ⟨v :: vs, .cons h1 a, .cons h2 b⟩
theorem zip_snd {α β : Type} : ∀ {xs : List α} {ys : List β}, xs.length = ys.length → (xs.zip ys).map Prod.snd = ys
  | [], [], _ => rfl
  | x :: xs, y :: ys, h => by simp [zip_snd (xs := xs) (ys := ys) (by simpa using h)]
theorem isTup1_ok {p : PyData} (h : isTup1 p = true) : ∃ x r, p = .tuple (x :: r) := by
  unfold isTup1 at h
  split at h
  · exact ⟨_, _, rfl⟩
  · cases h
theorem notTN_ok {p : PyData} (h : notTN p = true) : p ≠ .none ∧ ∀ xs, p ≠ .tuple xs := by
  unfold notTN at h
  split at h
  · cases h
  · cases h
  · rename_i h1 h2; exact ⟨h2, fun xs => h1 xs⟩
theorem notNon_ok {p : PyData} (h : notNon p = true) : p ≠ .none := by
  rintro rfl; cases h
theorem depth_mem {d : PyData} : ∀ {ps : List PyData}, d ∈ ps → d.depth ≤ PyData.depthAll ps
  | y :: r, hx => by
    rcases List.mem_cons.mp hx with rfl | hx'
    · simp only [PyData.depthAll]; exact Nat.le_max_left _ _
    · have := depth_mem hx'
      simp only [PyData.depthAll]; exact Nat.le_trans this (Nat.le_max_right _ _)
theorem line_D : line = sizeLine := by rw [sizeLine_eq]; rfl
theorem call_sortedF (hK : X.K = G.K) (hu : X.A.units + 200 < cLine) : CallR X (.builtin "sorted") (C1 G (o1F .sorted)) := by
  intro pins s σ H vs us Q I r q
  obtain ⟨v, rfl, av, ρ, h, x, z, R, rx, e, q⟩ := q
  have hK : X.K = (G.at av).K := hK
  obtain ⟨u, rfl, ru⟩ := r.one
  have e : (match seqs h x with | some xs => (sortedF h xs).map D.lv | none => none) = some z := by
    unfold o1F at e
    split at e
    all_goals (try contradiction)
    exact e
  split at e
  · rename_i xs hx
    obtain ⟨a, ws, rfl, sq, rs⟩ := rx.seqs_inv R hx
    cases ru
    rw [← hK] at sq
    obtain ⟨zs, hs, rfl⟩ := Option.map_eq_some_iff.mp e
    unfold sortedF at hs
    split at hs
    · rename_i ps hps
      split at hs
      · rename_i hc
        cases hs
        simp only [Bool.and_eq_true, decide_eq_true_eq, Bool.or_eq_true, List.all_eq_true] at hc
        obtain ⟨⟨hal, hk⟩, hl⟩ := hc
        have hlen := mapO_lenE hps
        -- the items as they stand
        have coll : ∃ its : List Value, Vals ws its ∧ ws.length ≤ sizeLine ∧ ∀ (E' : Value → Shared → Prop) (Q' : List Value → Shared → Prop), Q' its { s with heap := (s.heap.push (seqObj "list" #[] 0)).update s.heap.objs.size (Obj.mapSeq (· ++ its.toArray)) } → wpAny (model X.prog X.w) X.A.in1 (collect (.ref a)) Q' E' s := by
          rcases sq with sq | sq
          · obtain ⟨its, s1, l1, z1⟩ := I.list sq
            exact ⟨its, s1, z1, fun E' Q' hq => PyProof.Rows.collect_list l1.isList hq (by rw [← s1.length]; exact z1)⟩
          · obtain ⟨its, s1, l1, z1⟩ := I.tuple sq
            refine ⟨its, s1, z1, fun E' Q' hq => PySem.W.collect_tup ?_ hq (by rw [← s1.length]; exact z1)⟩
            obtain ⟨o, h1, h2, n, h3⟩ := l1
            exact ⟨o, h1, h2, n, h3⟩
        obtain ⟨its, s1, z1, coll⟩ := coll
        have ea := pds_each hK I R rs s1 hps
        have hz := zip_snd hlen
        have e0 : PySem.W.EachIs (fun u (b : D × PyData) => ∃ v, RelV v u ∧ RD (G.at av) ρ H b.1 v) its (xs.zip ps) := ea.mono fun _ _ q => q.2
        have er : PySem.W.EachIs (fun u (b : D × PyData) => ∃ as, Reads (PySem.W.sortingHeap (PySem.W.copyHeap s.heap its) (s.heap.objs.size + 1) its) u b.2 as) its (xs.zip ps) := ea.mono fun _ _ q => let ⟨as, r⟩ := q.1; ⟨as, PyProof.Rows.Reads.keeps (fun _ _ => PySem.W.sorting_copy_old) r⟩
        have hA : PySem.W.AllAlike ((xs.zip ps).map Prod.snd) := by
          rw [hz]
          exact fun d hd d' hd' => hal d hd d' hd'
        have er2 := PySem.W.each_map (R := fun v d => ∃ as, Reads (PySem.W.sortingHeap (PySem.W.copyHeap s.heap its) (s.heap.objs.size + 1) its) v d as) Prod.snd er
        have hdep : ∀ d ∈ (xs.zip ps).map Prod.snd, X.A.in1.in1.units + d.depth < cLine := by
          rw [hz]
          intro d hd
          have : d.depth ≤ 60 := Nat.le_trans (depth_mem hd) (pds_plain (pd_plain h deep) xs ps hps).2
          show X.A.units + 1 + 1 + d.depth < cLine
          omega
        have S : PySem.W.SortsAt X.prog X.w X.A.in1.in1 { s with heap := PySem.W.sortingHeap (PySem.W.copyHeap s.heap its) (s.heap.objs.size + 1) its } (PySem.W.dataKind (PySem.W.sortingHeap (PySem.W.copyHeap s.heap its) (s.heap.objs.size + 1) its) ((xs.zip ps).map Prod.snd)) its := by
          rcases hk with (⟨hk1, hk2⟩ | hk) | hk
          · exact PySem.W.SortsAt.few (s := { s with heap := PySem.W.sortingHeap (PySem.W.copyHeap s.heap its) (s.heap.objs.size + 1) its }) er2 hA (by rw [hz]; exact hk1) (by rw [hz]; exact fun d hd => notNon_ok (hk2 d hd)) hdep
          · exact PySem.W.SortsAt.data (s := { s with heap := PySem.W.sortingHeap (PySem.W.copyHeap s.heap its) (s.heap.objs.size + 1) its }) er2 hA (.inl (by rw [hz]; exact fun d hd => isTup1_ok (hk d hd))) hdep
          · exact PySem.W.SortsAt.data (s := { s with heap := PySem.W.sortingHeap (PySem.W.copyHeap s.heap its) (s.heap.objs.size + 1) its }) er2 hA (.inr (by rw [hz]; exact fun d hd => notTN_ok (hk d hd))) hdep
        refine PySem.W.sorted_of_coll coll (by rw [← s1.length]; exact z1) _ S ?_
        have out := PySem.W.sortVals_data (R := fun u (b : D × PyData) => ∃ v, RelV v u ∧ RD (G.at av) ρ H b.1 v) false e0 er hA
        obtain ⟨vs', a1, a2⟩ := each_vals out
        obtain ⟨ee, hat⟩ := sortedAll_at s.heap its (PySem.W.sortVals (PySem.W.dataKind (PySem.W.sortingHeap (PySem.W.copyHeap s.heap its) (s.heap.objs.size + 1) its) ((xs.zip ps).map Prod.snd)) false its its).toArray
        have nn : H (s.heap.objs.size + 1) = none := I.hok.fresh (Nat.le_succ _)
        refine ⟨.ref (s.heap.objs.size + 1), _, I.laid (t' := s.toks) (o := .lst vs') (fun b ob q => sortedAll_old q) (Nat.le_succ _) ?_, rfl, fin_lst R a2 nn q⟩
        refine ⟨?_, _, _, a1, hat⟩
        rw [a1.length, PySem.W.sortVals_length false rfl, ← s1.length]
        exact z1
      · cases hs
    · cases hs
  · cases e
theorem RDs.flat {G' : Gx} {ρ : List Addr} {H : Hp} {xs : List D} {vs : List V} (r : RDs G' ρ H xs vs) : ∀ n : Nat, RDs G' ρ H (List.replicate n xs).flatten (List.replicate n vs).flatten
  | 0 => .nil
  | n + 1 => by
    rw [List.replicate_succ, List.replicate_succ, List.flatten_cons, List.flatten_cons]
    exact r.append (RDs.flat r n)
theorem op_repF (hK : X.K = G.K) {pins : List (Addr × Obj)} {s : Shared} {σ : L2.St} {H : Hp} {av ρ : List Addr} {h : Hh} {xs : List D} {k : Int} {v w : V} {v' w' : Value} {Q : VK} (I : Inv X pins σ H s) (R : RelH (G.at av) ρ h H) (rx : RD (G.at av) ρ H (.tup xs) v) (ry : RD (G.at av) ρ H (.int k) w) (rv : RelV v v') (rw' : RelV w w')
    (hne : xs ≠ []) (h1 : 2 ≤ k) (h2 : k ≤ 1000) (hz : xs.length ≤ 1000) (q : ∀ H' u, Stp ρ ρ H H' → RelH (G.at av) ρ h H' → RV (G.at av) ρ h H H' (.tup (List.replicate k.toNat xs).flatten) u → Q u H') : wpAny (model X.prog X.w) X.A (binaryOp .Mult v' w') (EP X pins σ Q) X.xe s := by
  obtain ⟨l, vs, rfl, hT, rs⟩ := rx.tup_inv
  have := RD.int_inv ry
  subst this
  have hK : X.K = (G.at av).K := hK
  rw [← hK] at hT
  cases rv
  obtain ⟨t, rfl⟩ := rw'
  obtain ⟨its, r, ⟨⟨cls, dd, data, sl⟩, ho, hc, n, hd⟩, hs⟩ := I.tuple hT
  simp only at hc hd
  subst hc hd
  have hle : its.length = vs.length := r.length.symm
  have hle2 : its.length = xs.length := hle.trans rs.length.symm
  have hn : its ≠ [] := fun e => hne (by
    rw [e] at hle2
    exact List.eq_nil_of_length_eq_zero hle2.symm)
  have hi : its.toArray.isEmpty = false := by
    cases its with
    | nil => exact absurd rfl hn
    | cons a b => rfl
  have hsz0 : its.toArray.size = xs.length := by rw [List.size_toArray, hle2]
  have hm : ((its.toArray.size : Nat) : Int) * k ≤ 1000000 := by
    rw [hsz0]
    have a1 : ((xs.length : Nat) : Int) * k ≤ 1000 * k := Int.mul_le_mul_of_nonneg_right (by omega) (by omega)
    omega
  have flen : (List.replicate k.toNat its).flatten.length ≤ sizeLine := by
    rw [PyProof.Rows.lm_len_rep_flat, hle2, sizeLine_eq]
    have a1 : k.toNat * xs.length ≤ 1000 * 1000 := Nat.mul_le_mul (by omega) hz
    omega
  have c0 : (decide (k < -(2 ^ 63)) || decide (k ≥ 2 ^ 63)) = false := by
    rw [decide_eq_false (by omega), decide_eq_false (by omega)] <;> rfl
  have c1 : (its.toArray.isEmpty || k == 1) = false := by
    rw [hi, Bool.false_or]
    exact beq_eq_false_iff_ne.mpr (by omega)
  have c2 : (decide (k ≤ 0) || its.toArray.isEmpty) = false := by
    rw [hi, Bool.or_false]
    exact decide_eq_false (by omega)
  have c4 : Builtin.Tuple.tupleTooMany (((its.toArray.size : Nat) : Int) * k) = false := by
    unfold Builtin.Tuple.tupleTooMany
    rw [sizeLine_eq]
    exact decide_eq_false (by omega)
  refine wpAny_binaryOp_repeat_ref (T := "tuple") (U := "int") (by decide) ⟨_, ho, rfl⟩ (fun s' => typeIs_int s' k t) noFill_tuple_mul F.fills_int_mul F.slot_int_rmul repeat_tuple F.slot_int_index.lookup
    (call_meets F.slot_int_rmul (typeIs_int s k t) F.entry_int_rmul (F.args_int_rmul_2 _ _) (int_rmul_tuple k t l its.toArray n dd sl)
      ⟨ho, rfl, ⟨_, ho, rfl⟩, call_meets F.slot_tuple_mul ⟨_, ho, rfl⟩ F.entry_tuple_mul (F.args_tuple_mul_2 _ _) (tuple_mulW l its.toArray n dd sl k t c0 c1 c2 (by omega) c4 (by rw [size_rep, List.size_toArray]; exact flen)) ⟨ho, ?_⟩⟩)
  rw [size_rep]
  exact fin_tup (t := s.toks) I R (rs.flat k.toNat) (r.rep k.toNat) (by rw [(r.rep k.toNat).length]; exact flen) q
end
end Sd

/-! PyE: readings of expressions by the evaluator; each construct. -/
namespace Sd
open PySem PySem.Spec PyProof.Rows L2

theorem o2_keep (o : O2) (h : Hh) (x y : D) : o2F o h x.keep y.keep = o2F o h x y := by
  cases x <;> cases y <;> first | rfl | (cases o <;> rfl)
theorem partOf_keep (x : D) : partOf x.keep = partOf x := by cases x <;> rfl
theorem slice_keep (h : Hh) (x : D) (lo hi : Option Int) : sliceF h x.keep lo hi = sliceF h x lo hi := by cases x <;> rfl

section
variable {G : Gx} {C : Calls} {a b c : E} {σ : L2.St} {H : Hp} {Q : VK}
theorem tD_o1 (o : O1) (q : tD G (evE C (.o1 o a)) σ H Q) : tD G (evE C a) σ H fun v H1 => U1 G (o1F o) v H1 Q := by
  obtain ⟨av, ρ, h, σD, d, h', R, RE, e, q⟩ := q
  simp only [evE] at e
  obtain ⟨x, h1, e1, e⟩ := Out.thn_eq_ok e
  obtain ⟨e, rfl⟩ := Out.of_eq_ok e
  exact ⟨av, ρ, h, σD, x, _, R, RE, e1, fun ρ1 H1 v S1 R1 r1 => ⟨av, ρ1, _, x.keep, d, R1, r1.keep, by rw [o1_keep]; exact e,
    fun H' u S R r => q _ _ _ (S1.trans S) R (r.back S1 S)⟩⟩
theorem tD_o2 (o : O2) (q : tD G (evE C (.o2 o a b)) σ H Q) : tOp (U2 G (o2F o)) (tD G (evE C a)) (tD G (evE C b)) σ H Q := by
  obtain ⟨av, ρ, h, σD, d, h', R, RE, e, q⟩ := q
  simp only [evE] at e
  obtain ⟨x, h1, e1, e⟩ := Out.thn_eq_ok e
  obtain ⟨y, h2, e2, e⟩ := Out.thn_eq_ok e
  obtain ⟨e, rfl⟩ := Out.of_eq_ok e
  exact ⟨av, ρ, h, σD, x, h1, R, RE, e1, fun ρ1 H1 v S1 R1 r1 => ⟨av, ρ1, h1, σD, y, _, R1, RE.step S1, e2, fun ρ2 H2 w S2 R2 r2 =>
    ⟨av, ρ2, _, x.keep, y.keep, d, R2, r1.keep.step S2, r2.keep, by rw [o2_keep]; exact e, fun H' u S R r => q _ _ _ (S1.trans (S2.trans S)) R (r.back (S1.trans S2) S)⟩⟩⟩
/-- a test from a value -/
theorem tDt_tB {e : E} {Q : Bool → Hp → Prop} (q : tDt G (evE C e) σ H Q) : tB (tD G (evE C e)) σ H Q := by
  obtain ⟨av, ρ, h, σD, k, h', R, RE, e, q⟩ := q
  exact ⟨av, ρ, h, σD, _, h', R, RE, e, fun ρ1 H1 v S1 R1 r1 => ⟨k, RD.bl_inv (G := G.at av) (ρ := ρ1) (H := H1) r1, q _ _ S1 R1⟩⟩
theorem tD_and (q : tD G (evE C (.and a b)) σ H Q) : tAndV (tD G (evE C a)) (tD G (evE C b)) σ H Q := by
  obtain ⟨av, ρ, h, σD, d, h', R, RE, e, q⟩ := q
  simp only [evE] at e
  obtain ⟨x, h1, e1, e⟩ := Out.thn_eq_ok e
  refine ⟨av, ρ, h, σD, x, h1, R, RE, e1, fun ρ1 H1 v S1 R1 r1 => ?_⟩
  split at e
  · refine ⟨true, RD.bl_inv (G := G.at av) (ρ := ρ1) (H := H1) r1, ?_⟩
    refine iteT ?_
    exact ⟨av, ρ1, h1, σD, d, h', R1, RE.step S1, e, fun ρ2 H2 w S2 R2 r2 => q _ _ _ (S1.trans S2) R2 (r2.back S1 S2)⟩
  · cases e
    refine ⟨false, RD.bl_inv (G := G.at av) (ρ := ρ1) (H := H1) r1, ?_⟩
    refine iteF ?_
    exact q _ _ _ S1 R1 (RD.bl false).rv
  · cases e
theorem tD_or (q : tD G (evE C (.or a b)) σ H Q) : tOrV (tD G (evE C a)) (tD G (evE C b)) σ H Q := by
  obtain ⟨av, ρ, h, σD, d, h', R, RE, e, q⟩ := q
  simp only [evE] at e
  obtain ⟨x, h1, e1, e⟩ := Out.thn_eq_ok e
  refine ⟨av, ρ, h, σD, x, h1, R, RE, e1, fun ρ1 H1 v S1 R1 r1 => ?_⟩
  split at e
  · refine ⟨false, RD.bl_inv (G := G.at av) (ρ := ρ1) (H := H1) r1, ?_⟩
    refine iteF ?_
    exact ⟨av, ρ1, h1, σD, d, h', R1, RE.step S1, e, fun ρ2 H2 w S2 R2 r2 => q _ _ _ (S1.trans S2) R2 (r2.back S1 S2)⟩
  · cases e
    refine ⟨true, RD.bl_inv (G := G.at av) (ρ := ρ1) (H := H1) r1, ?_⟩
    refine iteT ?_
    exact q _ _ _ S1 R1 (RD.bl true).rv
  · cases e
theorem tDt_and {Q : Bool → Hp → Prop} (q : tDt G (evE C (.and a b)) σ H Q) : tAnd (tDt G (evE C a)) (tDt G (evE C b)) σ H Q := by
  obtain ⟨av, ρ, h, σD, d, h', R, RE, e, q⟩ := q
  simp only [evE] at e
  obtain ⟨x, h1, e1, e⟩ := Out.thn_eq_ok e
  split at e
  · refine ⟨av, ρ, h, σD, true, h1, R, RE, e1, fun ρ1 H1 S1 R1 => ?_⟩
    refine iteT ?_
    exact ⟨av, ρ1, h1, σD, d, h', R1, RE.step S1, e, fun ρ2 H2 S2 R2 => q _ _ (S1.trans S2) R2⟩
  · cases e
    refine ⟨av, ρ, h, σD, false, _, R, RE, e1, fun ρ1 H1 S1 R1 => ?_⟩
    refine iteF ?_
    exact q _ _ S1 R1
  · cases e
theorem tDt_or {Q : Bool → Hp → Prop} (q : tDt G (evE C (.or a b)) σ H Q) : tOr (tDt G (evE C a)) (tDt G (evE C b)) σ H Q := by
  obtain ⟨av, ρ, h, σD, d, h', R, RE, e, q⟩ := q
  simp only [evE] at e
  obtain ⟨x, h1, e1, e⟩ := Out.thn_eq_ok e
  split at e
  · refine ⟨av, ρ, h, σD, false, h1, R, RE, e1, fun ρ1 H1 S1 R1 => ?_⟩
    refine iteF ?_
    exact ⟨av, ρ1, h1, σD, d, h', R1, RE.step S1, e, fun ρ2 H2 S2 R2 => q _ _ (S1.trans S2) R2⟩
  · cases e
    refine ⟨av, ρ, h, σD, true, _, R, RE, e1, fun ρ1 H1 S1 R1 => ?_⟩
    refine iteT ?_
    exact q _ _ S1 R1
  · cases e
theorem not_inv {h h' : Hh} {x d : D} (e : Out.of h (o1F .not h x) = .ok d h') : ∃ k, x = .bl k ∧ d = .bl (!k) ∧ h' = h := by
  obtain ⟨e, rfl⟩ := Out.of_eq_ok e
  unfold o1F at e
  split at e
  all_goals (try contradiction)
  cases e
  exact ⟨_, rfl, rfl, rfl⟩
theorem tDt_not {Q : Bool → Hp → Prop} (q : tDt G (evE C (.o1 .not a)) σ H Q) : tNot (tDt G (evE C a)) σ H Q := by
  obtain ⟨av, ρ, h, σD, d, h', R, RE, e, q⟩ := q
  simp only [evE] at e
  obtain ⟨x, h1, e1, e⟩ := Out.thn_eq_ok e
  obtain ⟨k, rfl, ek, rfl⟩ := not_inv e
  cases ek
  exact ⟨av, ρ, h, σD, k, _, R, RE, e1, fun ρ1 H1 S1 R1 => q _ _ S1 R1⟩
theorem tD_not (q : tD G (evE C (.o1 .not a)) σ H Q) : tNotV (tD G (evE C a)) σ H Q := by
  obtain ⟨av, ρ, h, σD, d, h', R, RE, e, q⟩ := q
  simp only [evE] at e
  obtain ⟨x, h1, e1, e⟩ := Out.thn_eq_ok e
  obtain ⟨k, rfl, rfl, rfl⟩ := not_inv e
  exact ⟨av, ρ, h, σD, _, _, R, RE, e1, fun ρ1 H1 v S1 R1 r1 => ⟨k, RD.bl_inv (G := G.at av) (ρ := ρ1) (H := H1) r1, q _ _ _ S1 R1 (RD.bl _).rv⟩⟩
theorem tD_ife (q : tD G (evE C (.ife c a b)) σ H Q) : tIf (tDt G (evE C c)) (tD G (evE C a)) (tD G (evE C b)) σ H Q := by
  obtain ⟨av, ρ, h, σD, d, h', R, RE, e, q⟩ := q
  simp only [evE] at e
  obtain ⟨x, h1, e1, e⟩ := Out.thn_eq_ok e
  split at e
  · refine ⟨av, ρ, h, σD, true, h1, R, RE, e1, fun ρ1 H1 S1 R1 => ?_⟩
    refine iteT ?_
    exact ⟨av, ρ1, h1, σD, d, h', R1, RE.step S1, e, fun ρ2 H2 w S2 R2 r2 => q _ _ _ (S1.trans S2) R2 (r2.back S1 S2)⟩
  · refine ⟨av, ρ, h, σD, false, h1, R, RE, e1, fun ρ1 H1 S1 R1 => ?_⟩
    refine iteF ?_
    exact ⟨av, ρ1, h1, σD, d, h', R1, RE.step S1, e, fun ρ2 H2 w S2 R2 r2 => q _ _ _ (S1.trans S2) R2 (r2.back S1 S2)⟩
  · cases e
theorem tD_chn {o p : O2} (q : tD G (evE C (.chn o p a b c)) σ H Q) : tChain (U2 G (o2F o)) (U2 G (o2F p)) (tD G (evE C a)) (tD G (evE C b)) (tD G (evE C c)) σ H Q := by
  obtain ⟨av, ρ, h, σD, d, h', R, RE, e, q⟩ := q
  simp only [evE] at e
  obtain ⟨x, h1, e1, e⟩ := Out.thn_eq_ok e
  obtain ⟨y, h2, e2, e7⟩ := Out.thn_eq_ok e
  obtain ⟨t, h3, e3, e5⟩ := Out.thn_eq_ok e7
  obtain ⟨e6, rfl⟩ := Out.of_eq_ok e3
  clear e7 e3
  refine ⟨av, ρ, h, σD, x, h1, R, RE, e1, fun ρ1 H1 v S1 R1 r1 => ⟨av, ρ1, h1, σD, y, _, R1, RE.step S1, e2, fun ρ2 H2 w S2 R2 r2 =>
    ⟨av, ρ2, _, x.keep, y.keep, t, R2, r1.keep.step S2, r2.keep, by rw [o2_keep]; exact e6, fun H' u S R3 r3 => ?_⟩⟩⟩
  split at e5
  · refine ⟨true, RD.bl_inv (G := G.at av) (ρ := ρ2) (H := H') r3, ?_⟩
    refine iteT ?_
    obtain ⟨z, h4, e4, e8⟩ := Out.thn_eq_ok e5
    obtain ⟨e9, rfl⟩ := Out.of_eq_ok e8
    refine ⟨av, ρ2, _, σD, z, _, R3, (RE.step S1).step (S2.trans S), e4, fun ρ4 H4 w4 S4 R4 r4 => ⟨av, ρ4, _, y.keep, z.keep, d, R4, (r2.keep.step S).step S4, r4.keep, by rw [o2_keep]; exact e9, fun H5 u5 S5 R5 r5 =>
      q _ _ _ (S1.trans (S2.trans (S.trans (S4.trans S5)))) R5 (r5.back (S1.trans (S2.trans (S.trans S4))) S5)⟩⟩
  · cases e5
    refine ⟨false, RD.bl_inv (G := G.at av) (ρ := ρ2) (H := H') r3, ?_⟩
    refine iteF ?_
    exact q _ _ _ (S1.trans (S2.trans S)) R3 (RD.bl false).rv
  · cases e5
theorem tDt_test {e : E} {Q : Bool → Hp → Prop} (q : tDt G (evE C e) σ H Q) : tD G (evE C e) σ H fun x H' => ∃ k, x = .bl k ∧ Q k H' := tDt_tB q
theorem tD_alc (q : tD G (evE C (.alc a)) σ H Q) : tD G (evE C a) σ H Q := by
  obtain ⟨av, ρ, h, σD, d, h', R, RE, e, q⟩ := q
  simp only [evE] at e
  obtain ⟨x, h1, e1, e⟩ := Out.thn_eq_ok e
  refine ⟨av, ρ, h, σD, x, h1, R, RE, e1, fun ρ1 H1 v S1 R1 r1 => ?_⟩
  have stp : ∀ p : Addr, H p = none → Stp ρ (ρ1 ++ [p]) H H1 := fun p n => ⟨fun l a e => by
      have e := S1.pre l a e
      rw [List.getElem?_append_left (List.getElem?_eq_some_iff.mp e).1]; exact e, fun b u eb nb => ⟨(S1.frm b u eb nb).1, fun hm => by
      rcases List.mem_append.mp hm with hm | hm
      · exact (S1.frm b u eb nb).2 hm
      · rw [List.mem_singleton.mp hm, n] at eb; cases eb⟩⟩
  split at e
  · cases e
    obtain ⟨p, vs, rfl, n0, nv, e2, rs, Rh⟩ := r1
    obtain ⟨R2, at_⟩ := RelH.own (ob := .lst _) nv Rh ⟨vs, e2, rs⟩
    exact q _ _ _ (stp p n0) R2 (RD.ref at_)
  · cases e
    obtain ⟨p, kvs, rfl, n0, nv, e2, e3, rs, Rh⟩ := r1
    obtain ⟨R2, at_⟩ := RelH.own (ob := .dic _ _) nv Rh ⟨kvs, e2, e3, rs⟩
    exact q _ _ _ (stp p n0) R2 (RD.ref at_)
  · cases e
    obtain ⟨p, es, us, rfl, n0, nv, e2, e3, rk, rv, rs, Rh⟩ := r1
    obtain ⟨R2, at_⟩ := RelH.own (ob := .din _ _) nv Rh ⟨es, us, e2, e3, rk, rv, rs⟩
    exact q _ _ _ (stp p n0) R2 (RD.ref at_)
  · cases e
    exact q _ _ _ S1 R1 r1
end
end Sd

/-! PyF: argument lists, calls, walks, comprehensions. -/
namespace Sd
open PySem PySem.Spec PyProof.Rows L2

/-! ### argument lists -/
section
variable {G : Gx} {C : Calls} {e : E} {es : List E} {σ : L2.St} {H : Hp} {Q : List V → Hp → Prop}
theorem tDs_nil (q : tDs G (evEs C []) σ H Q) : tNil σ H Q := by
  obtain ⟨av, ρ, h, σD, ds, h', R, RE, e, q⟩ := q
  simp only [evEs] at e
  cases e
  exact q _ _ _ (Stp.refl _ _) R .nil
theorem tDs_cons (q : tDs G (evEs C (e :: es)) σ H Q) : tCons (tD G (evE C e)) (tDs G (evEs C es)) σ H Q := by
  obtain ⟨av, ρ, h, σD, ds, h', R, RE, e, q⟩ := q
  simp only [evEs] at e
  obtain ⟨x, h1, e1, e2⟩ := Out.thn_eq_ok e
  obtain ⟨xs, h2, e3, e4⟩ := Out.thn_eq_ok e2
  cases e4
  exact ⟨av, ρ, h, σD, x, h1, R, RE, e1, fun ρ1 H1 v S1 R1 r1 => ⟨av, ρ1, h1, σD, xs, _, R1, RE.step S1, e3, fun ρ2 H2 vs S2 R2 r2 => q _ _ _ (S1.trans S2) R2 (.cons (r1.keep.step S2) r2)⟩⟩
theorem evEs_len : ∀ {es : List E} {σD : Env} {h : Hh} {ds : List D} {h' : Hh}, evEs C es σD h = .ok ds h' → ds.length = es.length
  | [], _, _, _, _, e => by simp only [evEs] at e; cases e; rfl
  | _ :: es, _, _, _, _, e => by
    simp only [evEs] at e
    obtain ⟨x, h1, e1, e2⟩ := Out.thn_eq_ok e
    obtain ⟨xs, h2, e3, e4⟩ := Out.thn_eq_ok e2
    cases e4
    rw [List.length_cons, List.length_cons, evEs_len e3]
end
section
variable {G : Gx} {C : Calls} {X : Cx} {es : List E} {xs : List Expr} {k : Nat} {pos : Pos}
theorem pe_tupF (ha : PA X xs (tDs G (evEs C es))) (hl : es.length ≤ 1000) : PE X (.Tuple xs k pos) (tD G (evE C (.tup es))) := by
  refine ⟨fun pins s σ H Q I q => ?_⟩
  obtain ⟨av, ρ, h, σD, d, h', R, RE, e, q⟩ := q
  simp only [evE] at e
  obtain ⟨ds, h1, e1, e2⟩ := Out.thn_eq_ok e
  cases e2
  have hn := evEs_len e1
  refine wpAny_Tuple_spliced (thn (ha.run pos pins s σ H (fun vs H1 => ∃ ρ1, Stp ρ ρ1 H H1 ∧ RelH (G.at av) ρ1 h' H1 ∧ RDs (G.at av) ρ1 H1 ds vs) I ⟨av, ρ, h, σD, ds, h', R, RE, e1, fun ρ1 H1 vs S1 R1 r1 => ⟨ρ1, S1, R1, r1⟩⟩) fun us s1 ⟨vs, H1, I1, rv, ρ1, S1, R1, r1⟩ => ?_)
  have hz : vs.length ≤ 1000 := by rw [← r1.length, hn]; exact hl
  have hz2 : vs.length ≤ sizeLine := Nat.le_trans hz (by rw [sizeLine_eq]; decide)
  exact ⟨by rw [← rv.length]; exact hz2, fin_tup (t := s1.toks) I1 R1 r1 rv hz2 fun H' u S2 R2 r2 => q _ _ _ (S1.trans S2) R2 (r2.back S1 S2)⟩
theorem pe_lstF (ha : PA X xs (tDs G (evEs C es))) (hl : es.length ≤ 1000) : PE X (.List xs pos) (tD G (evE C (.lst es))) := by
  refine PE.imp (pe_lst ha) fun σ H Q q => ?_
  obtain ⟨av, ρ, h, σD, d, h', R, RE, e, q⟩ := q
  simp only [evE] at e
  obtain ⟨ds, h1, e1, e2⟩ := Out.thn_eq_ok e
  cases e2
  have hn := evEs_len e1
  refine ⟨av, ρ, h, σD, ds, h', R, RE, e1, fun ρ1 H1 vs S1 R1 r1 => ⟨?_, fun p n => fin_lst R1 r1 n fun H' u S2 R2 r2 => q _ _ _ (S1.trans S2) R2 (r2.back S1 S2)⟩⟩
  rw [← r1.length, hn]
  exact Nat.le_trans hl (by rw [sizeLine_eq]; decide)
end

/-! ### calls of the program's own -/
/-- what a def promises: that it gives what F gives -/
def spC (G : Gx) (n : Nat) (F : List D → Hh → Out D) : Sp := fun vs H Q E => vs.length = n ∧ ∃ av ρ h ds d h', RelH (G.at av) ρ h H ∧ RDs (G.at av) ρ H ds vs ∧ F ds h = .ok d h' ∧
  ∀ ρ' H' v, Stp ρ ρ' H H' → RelH (G.at av) ρ' h' H' → RV (G.at av) ρ' h' H H' d v → Q v H'
/-- a def of the program's own, as it may be called here -/
structure FnFit (G : Gx) (X : Cx) (x : Str) (F : List D → Hh → Out D) : Prop where
  ex : ∃ (k : Nat) (f : Addr) (fd : FuncData) (ps : List Str), X.mg x = some (.ref f) ∧ PySem.W.keepIn X.K (.ref f) = true ∧ Binds X.K fd ps [] ∧ Room k X.A ∧
    FnOk X.prog X.w X.K X.mg X.base CX0 k f fd ps (spC G ps.length F) ∧ ∀ ds h d h', F ds h = .ok d h' → ds.length = ps.length
section
variable {G : Gx} {C : Calls} {X : Cx} {es : List E} {e : Expr} {xs : List Expr} {x : Str} {p pos : Pos} {c m : String}
theorem tCall_of {n : Nat} {σ : L2.St} {H : Hp} {Q : VK} (hl : ∀ ds h d h', C c m ds h = .ok d h' → ds.length = n) (q : tD G (evE C (.call c m es)) σ H Q) : tCall (spC G n (C c m)) [] E0 (tDs G (evEs C es)) σ H Q := by
  obtain ⟨av, ρ, h, σD, d, h', R, RE, e, q⟩ := q
  simp only [evE] at e
  obtain ⟨ds, h1, e1, e2⟩ := Out.thn_eq_ok e
  refine ⟨av, ρ, h, σD, ds, h1, R, RE, e1, fun ρ1 H1 vs S1 R1 r1 => ?_⟩
  show spC G n (C c m) (vs ++ []) H1 Q E0
  rw [List.append_nil]
  exact ⟨by rw [← r1.length]; exact hl _ _ _ _ e2, av, ρ1, h1, ds, d, h', R1, r1, e2, fun ρ2 H2 v S2 R2 r2 => q _ _ _ (S1.trans S2) R2 (r2.back S1 S2)⟩
theorem pe_callF (F : FnFit G X x (C c m)) (hg : Gl X x) (ha : PA X (e :: xs) (tDs G (evEs C es))) (hdb : (x == ("__debug__" : Str)) = false)
    (he : starEach (e :: xs) X.env = (false, eval e X.env) :: starEach xs X.env) (hpl : (backTo pos (starEach xs X.env)).any (·.1) = false) : PE X (.Call (.Name x p) (e :: xs) [] pos) (tD G (evE C (.call c m es))) := by
  obtain ⟨k, f, fd, ps, h1, h2, h3, h4, h5, h6⟩ := F.ex
  exact PE.imp (pe_call h5 h4 hg h1 h2 h3 .nil pass0 ha hdb he hpl) fun σ H Q q => tCall_of h6 q
theorem pe_callF0 (F : FnFit G X x (C c m)) (hg : Gl X x) (hdb : (x == ("__debug__" : Str)) = false) : PE X (.Call (.Name x p) [] [] pos) (tD G (evE C (.call c m []))) := by
  obtain ⟨k, f, fd, ps, h1, h2, h3, h4, h5, h6⟩ := F.ex
  refine PE.imp (pe_call0 h5 h4 hg h1 h2 h3 .nil pass0 hdb) fun σ H Q q => ?_
  have := tCall_of h6 q
  exact tDs_nil this
end

/-! ### builtins by their names -/
section
variable {G : Gx} {C : Calls} {X : Cx} {a b : E} {e1 e2 : Expr} {x : Str} {p pos : Pos} {id T : String}
theorem pe_b1 {o : O1} (hc : CallR X (.builtin id) (C1 G (o1F o))) (hg : Gl X x) (hm : X.mg x = none) (hv : bootBuiltins x = some (.builtin id)) (ha : PE X e1 (tD G (evE C a))) (hn : x ≠ "__name__") (hdb : (x == ("__debug__" : Str)) = false)
    (he : starEach [e1] X.env = [(false, eval e1 X.env)]) : PE X (.Call (.Name x p) [e1] [] pos) (tD G (evE C (.o1 o a))) :=
  PE.imp (pe_callB hc hg hm hv (pa_cons ha pa_nil he) hn hdb he (by rfl)) fun σ H Q q => by
    obtain ⟨av, ρ, h, σD, d, h', R, RE, e, r⟩ := tD_o1 o q
    exact ⟨av, ρ, h, σD, d, h', R, RE, e, fun ρ' H' v S R r' => ⟨v, rfl, r ρ' H' v S R r'⟩⟩
theorem pe_t1 {o : O1} (hc : CallR X (.type T) (C1 G (o1F o))) (hg : Gl X x) (hm : X.mg x = none) (hv : bootBuiltins x = some (.type T)) (ha : PE X e1 (tD G (evE C a))) (hn : x ≠ "__name__") (hdb : (x == ("__debug__" : Str)) = false)
    (he : starEach [e1] X.env = [(false, eval e1 X.env)]) : PE X (.Call (.Name x p) [e1] [] pos) (tD G (evE C (.o1 o a))) :=
  PE.imp (pe_callTy hc hg hm hv (pa_cons ha pa_nil he) hn hdb he (by rfl)) fun σ H Q q => by
    obtain ⟨av, ρ, h, σD, d, h', R, RE, e, r⟩ := tD_o1 o q
    exact ⟨av, ρ, h, σD, d, h', R, RE, e, fun ρ' H' v S R r' => ⟨v, rfl, r ρ' H' v S R r'⟩⟩
theorem pe_b2 {o : O2} (hc : CallR X (.builtin id) (C2 G (o2F o))) (hg : Gl X x) (hm : X.mg x = none) (hv : bootBuiltins x = some (.builtin id)) (ha : PE X e1 (tD G (evE C a))) (hb : PE X e2 (tD G (evE C b))) (hn : x ≠ "__name__") (hdb : (x == ("__debug__" : Str)) = false)
    (he : starEach [e1, e2] X.env = (false, eval e1 X.env) :: starEach [e2] X.env) (he2 : starEach [e2] X.env = [(false, eval e2 X.env)]) : PE X (.Call (.Name x p) [e1, e2] [] pos) (tD G (evE C (.o2 o a b))) :=
  PE.imp (pe_callB hc hg hm hv (pa_cons ha (pa_cons hb pa_nil he2) he) hn hdb he (by rw [he2]; rfl)) fun σ H Q q => by
    obtain ⟨av, ρ, h, σD, d, h', R, RE, e, r⟩ := tD_o2 o q
    refine ⟨av, ρ, h, σD, d, h', R, RE, e, fun ρ' H' v S R r' => ?_⟩
    obtain ⟨av2, ρ2, h2, σD2, d2, h2', R2, RE2, e2, r2⟩ := r ρ' H' v S R r'
    exact ⟨av2, ρ2, h2, σD2, d2, h2', R2, RE2, e2, fun ρ3 H3 w S3 R3 r3 => ⟨v, w, rfl, r2 ρ3 H3 w S3 R3 r3⟩⟩
theorem pe_isiF {t : Ty} {y : Str} {p2 : Pos} (hK : X.K = G.K) (hg : Gl X "isinstance") (hm : X.mg "isinstance" = none) (hg2 : Gl X y) (hm2 : X.mg y = none) (hv2 : bootBuiltins y = some (.type (tyName t))) (hn2 : y ≠ "__name__") (hd2 : (y == ("__debug__" : Str)) = false) (ha : PE X e1 (tD G (evE C a)))
    (he : starEach [e1, .Name y p2] X.env = (false, eval e1 X.env) :: starEach [.Name y p2] X.env) : PE X (.Call (.Name "isinstance" p) [e1, .Name y p2] [] pos) (tD G (evE C (.o1 (.isi t) a))) :=
  PE.imp (pe_callB (call_isiF t hK) hg hm (by decide +kernel) (pa_cons ha (pa_cons (pe_bltn hg2 hm2 hv2 (v := .ty (tyName t)) rfl hn2 hd2) pa_nil (by rfl)) he) (by decide) (by decide) he (by rfl)) fun σ H Q q => by
    obtain ⟨av, ρ, h, σD, d, h', R, RE, e, r⟩ := tD_o1 (.isi t) q
    exact ⟨av, ρ, h, σD, d, h', R, RE, e, fun ρ' H' v S R r' => ⟨v, rfl, r ρ' H' v S R r'⟩⟩
end

/-! ### tests of a clause -/
def tTs (G : Gx) (m : Env → Hh → Out Bool) : TT := fun σ H Q => ∃ av ρ h σD b h', RelH (G.at av) ρ h H ∧ RelE (G.at av) ρ H σD σ ∧ m σD h = .ok b h' ∧
  ∀ ρ' H', Stp ρ ρ' H H' → RelH (G.at av) ρ' h' H' → Q b H'
theorem PTs.imp {X : Cx} {e : List Expr} {t t' : TT} (p : PTs X e t) (h : ∀ σ H Q, t' σ H Q → t σ H Q) : PTs X e t' := ⟨fun pins s σ H Q I q => p.run pins s σ H Q I (h σ H Q q)⟩
theorem pts_nilF {G : Gx} {C : Calls} {X : Cx} : PTs X [] (tTs G (evTs C [])) := PTs.imp pts_nil fun σ H Q q => by
  obtain ⟨av, ρ, h, σD, b, h', R, RE, e, q⟩ := q
  simp only [evTs] at e
  cases e
  exact q _ _ (Stp.refl _ _) R
theorem pts_oneF {G : Gx} {C : Calls} {X : Cx} {e1 : Expr} {a : E} (ha : PT X e1 (tDt G (evE C a))) : PTs X [e1] (tTs G (evTs C [a])) := PTs.imp (pts_one ha) fun σ H Q q => by
  obtain ⟨av, ρ, h, σD, b, h', R, RE, e, q⟩ := q
  simp only [evTs] at e
  obtain ⟨x, h1, e1, e2⟩ := Out.thn_eq_ok e
  split at e2
  · cases e2; exact ⟨av, ρ, h, σD, true, _, R, RE, e1, fun ρ1 H1 S1 R1 => q _ _ S1 R1⟩
  · cases e2; exact ⟨av, ρ, h, σD, false, _, R, RE, e1, fun ρ1 H1 S1 R1 => q _ _ S1 R1⟩
  · cases e2

/-! ### targets -/
/-- an item: as a value; or a pair that is taken apart at once -/
def RI (G : Gx) (pt : Bool) (ρ : List Addr) (H : Hp) (d : D) (x : V) : Prop := RD G ρ H d x ∨ (pt = true ∧ ∃ a ds vs, d = .tup ds ∧ x = .ref a ∧ SqT G.K H a vs ∧ RDs G ρ H ds vs)
def Pat.isT : Pat → Bool
  | .n _ => false
  | .t _ => true
def tP (G : Gx) (p : Pat) : TG := fun v σ H Q => ∃ av ρ σD d σ', RelE (G.at av) ρ H σD σ ∧ RI (G.at av) p.isT ρ H d v ∧ setP p d σD = some σ' ∧
  ∀ σ2, RelE (G.at av) ρ H σ' σ2 → (∀ vs, (∀ i ∈ p.ix, i ∈ vs) → L2.wipe σ2 vs = L2.wipe σ vs) → Q σ2 H
theorem PG.imp {X : Cx} {e : Expr} {t t' : TG} (p : PG X e t) (h : ∀ v σ H Q, t' v σ H Q → t v σ H Q) : PG X e t' := ⟨fun pins s σ H v u Q I r q => p.run pins s σ H v u Q I r (h v σ H Q q)⟩
theorem wipe_set {σ : L2.St} {i : Nat} {v : Option V} : ∀ {vs : List Nat}, i ∈ vs → L2.wipe (σ.set i v) vs = L2.wipe σ vs
  | j :: vs, h => by
    show (L2.wipe (σ.set i v) vs).set j none = (L2.wipe σ vs).set j none
    rcases List.mem_cons.mp h with e | h
    · subst e
      clear h
      have key : ∀ ws : List Nat, (L2.wipe (σ.set i v) ws).set i none = (L2.wipe σ ws).set i none := fun ws => by
        induction ws with
        | nil => show (σ.set i v).set i none = σ.set i none; rw [List.set_set]
        | cons w ws ih =>
          show ((L2.wipe (σ.set i v) ws).set w none).set i none = ((L2.wipe σ ws).set w none).set i none
          by_cases hw : w = i
          · subst hw; rw [List.set_set, List.set_set, ih]
          · rw [List.set_comm _ _ hw, List.set_comm _ _ hw, ih]
      exact key vs
    · rw [wipe_set h]
theorem pg_nameF {G : Gx} {X : Cx} {i : Nat} {x : Str} {pos : Pos} (hN : X.N.Nodup) (hi : X.N[i]? = some x) (hx : Loc X.env.scope x) (hf : X.fn x = true ∨ X.env.scope.names.lookup x = some .local) : PG X (.Name x pos) (tP G (.n i)) :=
  PG.imp (pg_name hN hi hx hf) fun v σ H Q q => by
    obtain ⟨av, ρ, σD, d, σ', RE, ri, e, q⟩ := q
    simp only [setP] at e
    split at e
    · cases e
      rcases ri with ri | ⟨z, _⟩
      · exact q _ (RE.set ri) fun vs hv => wipe_set (hv i (by simp [Pat.ix]))
      · cases z
    · cases e
/-- names only -/
def nameOf : Expr → Option Str
  | .Name x _ => some x
  | _ => none
structure NameOk (X : Cx) (e : Expr) (i : Nat) : Prop where
  ex : ∃ x pos, e = .Name x pos ∧ X.N[i]? = some x ∧ Loc X.env.scope x ∧ (X.fn x = true ∨ X.env.scope.names.lookup x = some .local)
inductive NamesOk (X : Cx) : List Expr → List Nat → Prop
  | nil : NamesOk X [] []
  | cons {e : Expr} {es : List Expr} {i : Nat} {is : List Nat} : NameOk X e i → NamesOk X es is → NamesOk X (e :: es) (i :: is)
def gNames : List Nat → TGs
  | [] => gNil
  | i :: is => gCons (gName i) (gNames is)
theorem NamesOk.each {X : Cx} : ∀ {es : List Expr} {is : List Nat}, NamesOk X es is → (assignEach es X.env).map (·.2) = es.map (fun e => assign e X.env) ∧ (assignEach es X.env).length = is.length ∧ (assignEach es X.env).findIdx? (·.1) = none
  | _, _, .nil => ⟨rfl, rfl, rfl⟩
  | _, _, .cons h t => by
    obtain ⟨x, pos, rfl, _⟩ := h.ex
    obtain ⟨h1, h2, h3⟩ := t.each
    refine ⟨?_, ?_, ?_⟩
    · show assign (.Name x pos) X.env :: (assignEach _ X.env).map (·.2) = _
      rw [h1]; rfl
    · show (assignEach _ X.env).length + 1 = _
      rw [h2]; rfl
    · show List.findIdx? (·.1) ((false, assign (.Name x pos) X.env) :: assignEach _ X.env) = none
      rw [List.findIdx?_cons, h3]; rfl
theorem pgs_names {X : Cx} (hN : X.N.Nodup) : ∀ {es : List Expr} {is : List Nat}, NamesOk X es is → PGs X es (gNames is)
  | _, _, .nil => pgs_nil
  | _, _, .cons h t => by
    obtain ⟨x, pos, rfl, h1, h2, h3⟩ := h.ex
    exact pgs_cons (pg_name hN h1 h2 h3) (pgs_names hN t) (by rfl)
theorem gNames_of {G : Gx} {ρ : List Addr} {H : Hp} {vs0 : List Nat} {σ0 : L2.St} {Q : L2.St → Hp → Prop} : ∀ {is : List Nat} {ds : List D} {vs : List V} {σD : Env} {σ : L2.St}, is.length = ds.length → RDs G ρ H ds vs → RelE G ρ H σD σ →
    (∀ σ2, RelE G ρ H ((is.zip ds).foldl (fun s p => s.set p.1 (some p.2)) σD) σ2 → (∀ ws, (∀ i ∈ is, i ∈ ws) → L2.wipe σ2 ws = L2.wipe σ ws) → Q σ2 H) → gNames is vs σ H Q
  | [], [], _, σD, σ, _, .nil, RE, q => ⟨rfl, q _ RE fun _ _ => rfl⟩
  | i :: is, d :: ds, v :: vs, σD, σ, hl, .cons r rs, RE, q => by
    refine ⟨v, vs, rfl, ?_⟩
    show gNames is vs (σ.set i (some v)) H Q
    refine gNames_of (vs0 := vs0) (σ0 := σ0) (by simpa using hl) rs (RE.set r) fun σ2 R2 w2 => q σ2 R2 fun ws hw => ?_
    rw [w2 ws fun j hj => hw j (List.mem_cons_of_mem _ hj), wipe_set (hw i List.mem_cons_self)]
theorem pg_tupF {G : Gx} {X : Cx} {es : List Expr} {k : Nat} {is : List Nat} {pos : Pos} (hK : X.K = G.K) (hc : X.calm = true) (hN : X.N.Nodup) (ho : NamesOk X es is) : PG X (.Tuple es k pos) (tP G (.t is)) := by
  obtain ⟨h1, h2, h3⟩ := ho.each
  refine PG.imp (pg_tup (n := is.length) hc (pgs_names hN ho) h2 h3) fun v σ H Q q => ?_
  obtain ⟨av, ρ, σD, d, σ', RE, ri, e, q⟩ := q
  have go : ∀ (a : Addr) (ds : List D) (vs : List V), d = .tup ds → v = .ref a → SqT (G.at av).K H a vs → RDs (G.at av) ρ H ds vs → gTup X.K is.length (gNames is) v σ H Q := fun a ds vs ed ev sq rs => by
    subst ed ev
    simp only [setP] at e
    split at e
    · rename_i hl
      cases e
      refine ⟨a, vs, rfl, by rw [hK]; exact sq, by rw [← rs.length]; exact hl.1.symm, ?_⟩
      exact gNames_of (vs0 := []) (σ0 := σ) hl.1 rs RE fun σ2 R2 w2 => q σ2 R2 w2
    · cases e
  rcases ri with ri | ⟨_, a, ds, vs, ed, ev, sq, rs⟩
  · cases d with
    | tup ds =>
      obtain ⟨a, vs, ev, sq, rs⟩ := ri.tup_inv
      exact go a ds vs rfl ev sq rs
    | _ => simp [setP] at e
  · exact go a ds vs ed ev sq rs
end Sd

/-! PyT: a set of keys of any depth: looking for a place, laying anew, putting in. -/
namespace Sd
namespace NS
open PySem PySem.Spec PyProof.Rows L2
section
variable {P : Program} {w : World} {A : Around} {E : Value → Shared → Prop} {s : Shared}
/-! ### what is asked of a key on the way -/
/-- a question that every part answers alike: the tuple answers it so too -/
theorem loop_same {α : Type} {f : Value → PySem.Sem Bool} {b : Bool} {g : Value → Option α × PUnit → PySem.Sem (ForInStep (Option α × PUnit))} {k : Option α × PUnit → PySem.Sem Bool} {vs : Array Value} {Q : Bool → Shared → Prop}
    (step : ∀ v ∈ vs.toList, ∀ (r : Option α × PUnit) (R : ForInStep (Option α × PUnit) → Shared → Prop), r.1 = none → (∀ u, R (.yield (none, u)) s) → wpAny (model P w) A (g v r) R E s)
    (fin : ∀ u, wpAny (model P w) A (k (none, u)) Q E s) : wpAny (model P w) A (forIn vs (none, PUnit.unit) g >>= k) Q E s := by
  refine wpAny_bind ?_
  rw [← Array.forIn_toList]
  refine wpAny_forIn_list _ (fun more r st => r.1 = none ∧ st = s ∧ ∀ v ∈ more, v ∈ vs.toList) _ ?_ ?_ _ _ ⟨rfl, rfl, fun v hv => hv⟩
  · rintro v more r st ⟨hr, rfl, hm⟩
    exact step v (hm v List.mem_cons_self) r _ hr fun u => ⟨rfl, rfl, fun x hx => hm x (List.mem_cons_of_mem _ hx)⟩
  · rintro ⟨_, u⟩ st ⟨rfl, rfl, _⟩
    exact fin u
mutual
theorem oac : ∀ (k : NestedKey) (v : Value) (n : Nat), NestedIs s.heap k v → k.depth ≤ n → ∀ {A : Around} {Q : Bool → Shared → Prop}, Q false s → wpAny (model P w) A (ofAClassStatement n v) Q E s
  | .none, _, n, x, _, _, _, q => by cases x; cases n <;> exact wpAny_pure q
  | .num i, _, n, x, _, _, _, q => by cases x <;> cases n <;> exact wpAny_pure q
  | .text y, _, n, x, _, _, _, q => by cases x; cases n <;> exact wpAny_pure q
  | .tup ks, _, n, x, hn, _, _, q => by
    cases x with
    | @tup a o vs m _ hg hc hd hk =>
      simp only [NestedKey.depth] at hn
      cases n with
      | zero => omega
      | succ n =>
        have ty : s.TypeIs (.ref a) "tuple" := ⟨o, hg, hc⟩
        have all := oacs ks vs.toList n hk (by omega)
        unfold ofAClassStatement
        refine wpAny_bind (wpAny_typeOf ty ?_)
        dsimp only
        simp only [show (("tuple" : String) == "tuple") = true by decide, if_true, Bool.not_true, Bool.false_eq_true, if_false]
        try refine wpAny_bind (wpAny_pure ?_)
        try simp only [Bool.not_true, Bool.false_eq_true, if_false]
        refine wpAny_bind (wpAny_seqItems hg hd ?_)
        dsimp only
        refine loop_same (f := fun _ => pure false) (b := false) (fun v hv r R hr hR => ?_) fun u => wpAny_pure q
        refine wpAny_bind (all v hv ?_)
        simp only [Bool.false_eq_true, if_false]
        exact wpAny_pure (hR _)
theorem oacs : ∀ (ks : List NestedKey) (vs : List Value) (n : Nat), NestedAll s.heap ks vs → NestedKey.depthAll ks ≤ n → ∀ v ∈ vs, ∀ {A : Around} {Q : Bool → Shared → Prop}, Q false s → wpAny (model P w) A (ofAClassStatement n v) Q E s
  | [], _, n, x, _, v, hv => by cases x; cases hv
  | k :: ks, _, n, x, hn, v, hv => by
    cases x with
    | cons x1 x2 =>
      simp only [NestedKey.depthAll] at hn
      rcases List.mem_cons.mp hv with e | hv
      · rw [e]; exact oac k _ n x1 (by omega)
      · exact oacs ks _ n x2 (by omega) v hv
end
mutual
theorem hbv : ∀ (k : NestedKey) (v : Value) (n : Nat), NestedIs s.heap k v → k.depth ≤ n → ∀ {A : Around} {Q : Bool → Shared → Prop}, (∀ b, Q b s) → wpAny (model P w) A (hashByValue n v) Q E s
  | .none, _, n, x, _, _, _, q => by cases x; cases n <;> exact wpAny_pure (q _)
  | .num i, _, n, x, _, _, _, q => by cases x <;> cases n <;> exact wpAny_pure (q _)
  | .text y, _, n, x, _, _, _, q => by cases x; cases n <;> exact wpAny_pure (q _)
  | .tup ks, _, n, x, hn, _, _, q => by
    cases x with
    | @tup a o vs m _ hg hc hd hk =>
      simp only [NestedKey.depth] at hn
      cases n with
      | zero => omega
      | succ n =>
        have ty : s.TypeIs (.ref a) "tuple" := ⟨o, hg, hc⟩
        have all := hbvs ks vs.toList n hk (by omega)
        unfold hashByValue
        refine wpAny_bind (wpAny_specialOf ty F.slot_tuple_hash.lookup ?_)
        refine wpAny_bind (wpAny_seqItems hg hd ?_)
        refine wpAny_bind ?_
        show wpAny _ _ (forIn vs _ _) _ _ s
        rw [← Array.forIn_toList]
        refine wpAny_forIn_list _ (fun more r st => r.1 = none ∧ st = s ∧ ∀ v ∈ more, v ∈ vs.toList) _ ?_ ?_ _ _ ⟨rfl, rfl, fun v hv => hv⟩
        · rintro v more r st ⟨hr, rfl, hm⟩
          refine wpAny_bind (all v (hm v List.mem_cons_self) fun b => ?_)
          cases b
          · simp only [Bool.not_false, if_true]
            exact wpAny_pure (show wpAny _ _ (pure false) _ _ _ from wpAny_pure (q _))
          · simp only [Bool.not_true, Bool.false_eq_true, if_false]
            exact wpAny_pure ⟨rfl, rfl, fun x hx => hm x (List.mem_cons_of_mem _ hx)⟩
        · rintro ⟨_, u⟩ st ⟨rfl, rfl, _⟩
          exact wpAny_pure (q _)
theorem hbvs : ∀ (ks : List NestedKey) (vs : List Value) (n : Nat), NestedAll s.heap ks vs → NestedKey.depthAll ks ≤ n → ∀ v ∈ vs, ∀ {A : Around} {Q : Bool → Shared → Prop}, (∀ b, Q b s) → wpAny (model P w) A (hashByValue n v) Q E s
  | [], _, n, x, _, v, hv => by cases x; cases hv
  | k :: ks, _, n, x, hn, v, hv => by
    cases x with
    | cons x1 x2 =>
      simp only [NestedKey.depthAll] at hn
      rcases List.mem_cons.mp hv with e | hv
      · rw [e]; exact hbv k _ n x1 (by omega)
      · exact hbvs ks _ n x2 (by omega) v hv
end
/-! ### rows: an address, the key that stands there -/
abbrev Row := Addr × NestedKey
def KAt (h : Heap) (p : Row) : Prop := NestedIs h p.2 (.ref p.1) ∧ p.2.depth ≤ 8
def hOf (w : World) (p : Row) : Int := p.2.hash w
def ent (w : World) (p : Row) : Int × Value := (hOf w p, .ref p.1)
/-- comparing x with others while a place is looked for shows nothing -/
theorem unseen {x : Row} (hx : KAt s.heap x) : ∀ {ys : List Value}, (∀ y ∈ ys, ∃ q : Row, y = .ref q.1 ∧ KAt s.heap q) → ∀ {Q : Bool → Shared → Prop}, Q false s → wpAny (model P w) A (searchCouldBeSeen (.ref x.1) ys) Q E s := by
  intro ys hy Q q
  unfold searchCouldBeSeen
  refine wpAny_bind ?_
  refine wpAny_forIn_list _ (fun more r st => r.1 = none ∧ st = s ∧ ∀ y ∈ more, ∃ q : Row, y = .ref q.1 ∧ KAt s.heap q) _ ?_ ?_ _ _ ⟨rfl, rfl, hy⟩
  · rintro v more r st ⟨hr, rfl, hm⟩
    obtain ⟨z, rfl, hz⟩ := hm v List.mem_cons_self
    have hm2 := fun u hu => hm u (List.mem_cons_of_mem _ hu)
    dsimp only
    by_cases same : (x.1 == z.1 || (carriedByValue (.ref x.1) && carriedByValue (.ref z.1))) = true
    · exact wp_if_pos same (wpAny_pure ⟨rfl, rfl, hm2⟩)
    · refine wp_if_neg same (wpAny_bind (quiet_key x.2 _ 8 _ hx.1 hx.2 _ _ _ ?_))
      simp only [Bool.not_true, Bool.false_eq_true, if_false]
      refine wpAny_bind (quiet_key z.2 _ 8 _ hz.1 hz.2 _ _ _ ?_)
      simp only [Bool.not_true, Bool.false_eq_true, if_false]
      refine wpAny_bind (oac x.2 _ 8 hx.1 hx.2 ?_)
      simp only [Bool.false_eq_true, if_false]
      refine wpAny_bind (oac z.2 _ 8 hz.1 hz.2 ?_)
      simp only [Bool.false_eq_true, if_false]
      exact wpAny_pure ⟨rfl, rfl, hm2⟩
  · rintro ⟨_, _⟩ st ⟨rfl, rfl, _⟩
    exact wpAny_pure q
/-- the set at a holds the rows L, its table being t -/
structure Holds (w : World) (h : Heap) (a : Addr) (L : List Row) (es : Array (Int × Value)) (ep : Nat) (t : SetTable) : Prop where
  obj : ∃ o, h.get? a = some o ∧ o.ExactSet ∧ o.data = .set es ep t
  ents : es = (L.map (ent w)).toArray
  tb : TabOk t (L.map (hOf w))
  once : (L.map Prod.snd).Nodup
  keys : ∀ p ∈ L, KAt h p
  led : w.params.followText "set-order" = true ∨ t.led = true
  free : L.length * 5 < t.mask * 3
  le : L.length < 64
variable {a : Addr} {L : List Row} {es : Array (Int × Value)} {ep : Nat} {t : SetTable}
theorem Holds.sz (R : Holds w s.heap a L es ep t) : es.size = L.length := by rw [R.ents]; simp
theorem Holds.fit (R : Holds w s.heap a L es ep t) : t.fits es.size = true := by
  have h1 := R.tb.sz
  have h2 := R.sz
  have h3 := R.free
  rw [List.length_map] at h1
  simp only [SetTable.fits, SetTable.fill, R.tb.dm, Bool.and_eq_true, beq_iff_eq, decide_eq_true_eq]
  show t.place.size = es.size ∧ t.place.size + 0 ≤ t.mask
  omega
theorem Holds.at (R : Holds w s.heap a L es ep t) {i : Nat} {p : Row} (h : L[i]? = some p) : es[i]? = some (ent w p) := by
  rw [R.ents]
  simp [h]
theorem Holds.odd (R : Holds w s.heap a L es ep t) : ¬ t.gaveWay = true := by
  simp only [SetTable.gaveWay, mask_odd R.tb.mok]
  decide
abbrev pr (m : Nat) (h : Int) (c : Nat) : SetTable.Probe := nth m (runAt m (SetTable.bits h % (m + 1)) (SetTable.bits h)) c
theorem no_dummy (m : Nat) : ∀ (n : Nat) (p : SetTable.Probe), p.dummy = none → (nth m p n).dummy = none
  | 0, _, e => e
  | n + 1, p, e => no_dummy m n (adv m p) (by unfold adv; split <;> exact e)
/-- looking for x from the c-th place of its way on; K: the first empty one -/
theorem seek (R : Holds w s.heap a L es ep t) {x : Row} (hx : KAt s.heap x) (hu : A.units + 8 < cLine) {K : Nat} (lt : K < 10 * SetTable.turns t.mask) (none_at : way t.mask (hOf w x) K ∉ t.place.toList)
    (some_at : ∀ c, c < K → way t.mask (hOf w x) c ∈ t.place.toList) {Q : SetFound → Shared → Prop} (yes : x.2 ∈ L.map Prod.snd → Q (.there none) s) (no : x.2 ∉ L.map Prod.snd → Q (.free (way t.mask (hOf w x) K) false) s) :
    ∀ (f c : Nat) (from_ : Option SetTable.Probe), c ≤ K → K < c + f → from_.getD (t.probeStart (hOf w x)) = pr t.mask (hOf w x) c → (∀ (c' i : Nat) (p : Row), c' < c → t.place.toList[i]? = some (way t.mask (hOf w x) c') → L[i]? = some p → p.2 ≠ x.2) →
      wpAny (model P w) A (setSearchFrom a (.ref x.1) (hOf w x) true f from_) Q E s
  | 0, _, _, h1, h2, _, _ => by omega
  | f + 1, c, from_, h1, h2, hfrom, passed => by
    obtain ⟨o, ho, hex, hd⟩ := R.obj
    rw [setSearchFrom_succ]
    refine wpAny_bind (wpAny_setState_of ho hd R.fit ?_)
    dsimp only
    refine wp_if_neg R.odd ?_
    try refine wpAny_bind (wpAny_pure ?_)
    have back : ∀ q, nth t.mask (pr t.mask (hOf w x) c) q = pr t.mask (hOf w x) (c + q) := fun q => (nth_add t.mask c _ q).symm
    have wayq : ∀ q, (nth t.mask (pr t.mask (hOf w x) c) q).j = way t.mask (hOf w x) (c + q) := fun q => congrArg SetTable.Probe.j (back q)
    have hashes : ∀ {i : Nat} {p : Row}, L[i]? = some p → (fun i => (es[i]?.map Prod.fst).getD 0) i = hOf w p := fun {i p} hp => by
      show (es[i]?.map Prod.fst).getD 0 = _
      rw [R.at hp]; rfl
    have rowOf : ∀ {i j : Nat}, t.place.toList[i]? = some j → ∃ p, L[i]? = some p := fun {i j} hi => by
      have l1 : i < t.place.toList.length := (List.getElem?_eq_some_iff.mp hi).1
      have l2 := R.tb.sz
      rw [List.length_map] at l2
      rw [Array.length_toList] at l1
      exact ⟨_, List.getElem?_eq_getElem (show i < L.length by omega)⟩
    rcases go_spec t R.tb.ris R.tb.dm (fun i => (es[i]?.map Prod.fst).getD 0) (hOf w x) (10 * SetTable.turns t.mask) (K - c) (pr t.mask (hOf w x) c) (no_dummy _ _ _ rfl) (by omega)
      (fun q hq => by rw [wayq]; exact some_at _ (by omega)) (by rw [wayq, Nat.add_sub_cancel' h1]; exact none_at) with ⟨q, i, hq, hi, hh, others, found⟩ | ⟨others, found⟩
    · have found' : t.probe (fun i => (es[i]?.map Prod.fst).getD 0) (hOf w x) (from_.getD (t.probeStart (hOf w x))) = some (.candidate (way t.mask (hOf w x) (c + q)) i (pr t.mask (hOf w x) (c + (q + 1)))) := by
        rw [hfrom, ← wayq, ← back]
        exact found
      rw [found']
      dsimp only
      rw [wayq] at hi
      obtain ⟨p, hp⟩ := rowOf hi
      have inL : p ∈ L := List.mem_of_getElem? hp
      have live : t.slot (way t.mask (hOf w x) (c + q)) = .live i := slot_live R.tb.ris hi
      have more : wpAny (model P w) A (searchRest a (.ref x.1) (hOf w x) true f es t (way t.mask (hOf w x) (c + q)) i (pr t.mask (hOf w x) (c + (q + 1)))) Q E s := by
        unfold searchRest
        rw [R.at hp]
        dsimp only [ent]
        refine wpAny_bind (wpAny_holding ((nestedKind P w).eqBool (show A.units + 8 < cLine from hu) (R.keys p inL) hx ?_))
        refine wpAny_bind (wpAny_setState_of ho hd R.fit ?_)
        dsimp only
        by_cases same : p.2 = x.2
        · exact wp_if_pos (by simp [same]) (wpAny_pure (yes (List.mem_map.mpr ⟨p, inL, same⟩)))
        · refine wp_if_neg (by simp [same]) ?_
          try refine wpAny_bind (wpAny_pure ?_)
          rw [sameMem]
          dsimp only
          simp only [if_true, live, R.at hp]
          refine wpAny_bind (wpAny_isSame_ref_self (wpAny_bind (wpAny_pure ?_)))
          simp only [if_true]
          refine wp_if_neg (by simp [same]) (seek R hx hu lt none_at some_at yes no f (c + (q + 1)) _ (by omega) (by omega) rfl fun c' i' p' hc hi' hp' => ?_)
          rcases Nat.lt_or_ge c' c with z | z
          · exact passed c' i' p' z hi' hp'
          · rcases Nat.lt_or_ge c' (c + q) with y | y
            · intro e
              refine others (c' - c) i' (by omega) (by rw [wayq, Nat.add_sub_cancel' z]; exact hi') ((hashes hp').trans ?_)
              simp only [hOf, e]
            · have ec : c' = c + q := by omega
              subst ec
              have l2 := slot_live R.tb.ris hi'
              rw [live] at l2
              injection l2 with l2
              subst l2
              rw [hp] at hp'
              cases hp'
              exact same
      by_cases hl : t.led = true
      · refine wp_if_neg (by simp [hl]) ?_
        try refine wpAny_bind (wpAny_pure ?_)
        exact more
      · refine wp_if_pos (by simp [hl]) (wpAny_bind (unseen hx (fun y hy => ?_) ?_))
        · obtain ⟨e, he, rfl⟩ := List.mem_map.mp hy
          have he1 : e ∈ es ∧ e.1 = hOf w x := by simpa using he
          have he2 := he1.1
          rw [R.ents] at he2
          obtain ⟨z, hz, rfl⟩ := List.mem_map.mp (List.mem_toArray.mp he2)
          exact ⟨z, rfl, R.keys z hz⟩
        · refine wp_if_neg (by decide) ?_
          try refine wpAny_bind (wpAny_pure ?_)
          exact more
    · have found' : t.probe (fun i => (es[i]?.map Prod.fst).getD 0) (hOf w x) (from_.getD (t.probeStart (hOf w x))) = some (.empty (way t.mask (hOf w x) K) none) := by
        have e : way t.mask (hOf w x) K = (nth t.mask (pr t.mask (hOf w x) c) (K - c)).j := by rw [wayq, Nat.add_sub_cancel' h1]
        rw [hfrom, e]
        exact found
      rw [found']
      dsimp only
      refine wpAny_pure (no fun hm => ?_)
      obtain ⟨p, hp, e⟩ := List.mem_map.mp hm
      obtain ⟨i, hi⟩ := List.getElem?_of_mem hp
      have il : i < L.length := (List.getElem?_eq_some_iff.mp hi).1
      have l2 := R.tb.sz
      rw [List.length_map] at l2
      have hj := List.getElem?_eq_getElem (l := t.place.toList) (i := i) (by rw [Array.length_toList]; omega)
      obtain ⟨c', hc', ec⟩ := R.tb.before none_at (h := hOf w x) (by rw [List.getElem?_map, hi]; simp only [Option.map_some, hOf, e]) hj
      rw [← ec] at hj
      rcases Nat.lt_or_ge c' c with z | z
      · exact passed c' i p z hj hi e
      · refine others (c' - c) i (by omega) (by rw [wayq, Nat.add_sub_cancel' z]; exact hj) ((hashes hi).trans ?_)
        simp only [hOf, e]
theorem seek0 (R : Holds w s.heap a L es ep t) {x : Row} (hx : KAt s.heap x) (hu : A.units + 8 < cLine) {Q : SetFound → Shared → Prop} (yes : x.2 ∈ L.map Prod.snd → Q (.there none) s)
    (no : ∀ K, x.2 ∉ L.map Prod.snd → way t.mask (hOf w x) K ∉ t.place.toList → (∀ c, c < K → way t.mask (hOf w x) c ∈ t.place.toList) → Q (.free (way t.mask (hOf w x) K) false) s) : wpAny (model P w) A (setSearch a (.ref x.1) (hOf w x) true) Q E s := by
  have hr := R.free
  obtain ⟨K, lt, none_at, some_at⟩ := R.tb.first (by rw [List.length_map]; omega) (hOf w x)
  have hK : K < 0 + 100000 := by
    have : 10 * SetTable.turns t.mask ≤ 1420 := by
      unfold SetTable.turns
      rcases R.tb.mok with e | e | e <;> omega
    omega
  unfold setSearch
  exact seek R hx hu lt none_at some_at yes (fun hn => no K hn none_at some_at) 100000 0 none (Nat.zero_le _) hK rfl fun c' i p hc => by omega
/-! ### putting in -/
theorem kat_up {h h' : Heap} {b : Addr} {p : Row} {o : Obj} (hp : KAt h p) (ho : h.get? b = some o) (hd : ∀ vs n, o.data ≠ .seq vs n) (hs : Heap.SameBut b h h') : KAt h' p :=
  ⟨NestedIs.at (fun c ob vs n hc hv => (hs.2 c fun e => by subst e; rw [ho] at hc; cases hc; exact hd _ _ hv).trans hc) _ _ hp.1, hp.2⟩
theorem set_seq {o : Obj} (hd : o.data = .set es ep t) : ∀ vs n, o.data ≠ .seq vs n := fun vs n e => by rw [hd] at e; cases e
theorem plain_tb {u : SetTable} {ks : List Int} (T : TabOk u ks) (b : Bool) : TabOk (if b = true then u else { u with plain := false }) ks := by
  cases b
  · exact ⟨T.ris, T.dm, T.sz, T.mok, T.bd, T.reach⟩
  · exact T
/-- the rows in the order of a permutation of their numbers -/
theorem by_order (L : List Row) (ns : List Nat) (hn : ns.Perm (List.range L.length)) :
    ∃ L2 : List Row, L2.Perm L ∧ (ns.filterMap fun i => (L.map (ent w)).toArray[i]?) = L2.map (ent w) ∧ (ns.map fun i => ((L.map (ent w)).toArray.map Prod.fst).getD i 0) = L2.map (hOf w) := by
  have within : ∀ i ∈ ns, i < L.length := fun i hi => List.mem_range.mp (hn.mem_iff.mp hi)
  refine ⟨ns.filterMap fun i => L[i]?, ?_, ?_, ?_⟩
  · refine (hn.filterMap _).trans (List.Perm.of_eq ?_)
    have : ∀ n, n ≤ L.length → ((List.range n).filterMap fun i => L[i]?) = L.take n := by
      intro n
      induction n with
      | zero => intro _; rfl
      | succ n ih =>
        intro hl
        have hg := List.getElem?_eq_getElem (l := L) (show n < L.length from hl)
        rw [List.range_succ, List.filterMap_append, ih (by omega), List.take_succ, List.filterMap_cons_some hg, hg]
        rfl
    rw [this _ (Nat.le_refl _), List.take_length]
  · rw [List.map_filterMap]
    refine congrArg (fun f => List.filterMap f ns) (funext fun i => ?_)
    simp
  · clear hn
    induction ns with
    | nil => rfl
    | cons i ns ih =>
      have hi := within i List.mem_cons_self
      rw [List.filterMap_cons_some (List.getElem?_eq_getElem hi), List.map_cons, List.map_cons, ih fun j hj => within j (List.mem_cons_of_mem _ hj)]
      congr 1
      simp [Array.getD_eq_getD_getElem?, hi, ent]
/-- the table is laid anew with more room -/
theorem wider {o : Obj} (ho : s.heap.get? a = some o) (hex : o.ExactSet) (hd : o.data = .set es ep t) (ents : es = (L.map (ent w)).toArray) (tb : TabOk t (L.map (hOf w))) (once : (L.map Prod.snd).Nodup) (keys : ∀ p ∈ L, KAt s.heap p)
    (led : w.params.followText "set-order" = true ∨ t.led = true) (le : L.length < 64) (fit : L.length ≤ t.mask) {n M : Nat} (hM : SetTable.sizeAbove n - 1 = M) (ok : MaskOk M) (small : SetTable.sizeAbove n ≤ 128) (room : L.length * 5 < M * 3) {Q : Unit → Shared → Prop}
    (q : ∀ h' L' es' ep' t', Heap.SameBut a s.heap h' → Holds w h' a L' es' ep' t' → L'.Perm L → Q () { s with heap := h' }) : wpAny (model P w) A (setRelay a n) Q E s := by
  have hsz : es.size = L.length := by rw [ents]; simp
  have hfit : t.fits es.size = true := by
    have := tb.sz
    rw [List.length_map] at this
    simp only [SetTable.fits, SetTable.fill, tb.dm, Bool.and_eq_true, beq_iff_eq, decide_eq_true_eq]
    show t.place.size = es.size ∧ t.place.size + 0 ≤ t.mask
    omega
  obtain ⟨t', order, laid, pm, T, em, el, _, _⟩ := relaid_ok t (hs := es.map Prod.fst) (wanted := n) hM ok (by rw [Array.size_map, hsz]; omega)
  rw [Array.size_map, hsz] at pm
  obtain ⟨L2, p2, e2, h2⟩ := by_order (w := w) L order.toList pm
  rw [← ents] at e2 h2
  rw [h2] at T
  have new : order.filterMap (es[·]?) = (L2.map (ent w)).toArray := by
    apply Array.ext'
    rw [Array.toList_filterMap]
    exact e2
  have newsz : (order.filterMap (es[·]?)).size = es.size := by rw [new, hsz, ← p2.length_eq]; simp
  rw [setRelay_eq]
  refine wpAny_bind (wpAny_setState_of ho hd hfit ?_)
  dsimp only
  refine wp_if_neg (by rw [sizeLine_eq]; omega) ?_
  try refine wpAny_bind (wpAny_pure ?_)
  rw [laid]
  dsimp only
  refine wpAny_bind (wp_if_neg (by rw [newsz]; simp) ?_)
  try refine wpAny_bind (wpAny_pure ?_)
  refine wpAny_pure ?_
  dsimp only
  refine wpAny_storeSet_of ho hd ?_ (by rw [newsz, hsz, sizeLine_eq]; omega)
  have sb : Heap.SameBut a s.heap (s.heap.update a (Obj.putSet (order.filterMap (es[·]?)) t')) := Heap.SameBut.update ..
  exact q _ L2 _ (ep + 1) t' sb ⟨⟨_, store_at ho hd, ⟨hex.1, hex.2.1, hex.2.2⟩, rfl⟩, new, T, (p2.map Prod.snd).nodup_iff.mpr once, fun p hp => kat_up (keys p (p2.mem_iff.mp hp)) ho (set_seq hd) sb, by rw [el]; exact led, by rw [p2.length_eq, em]; exact room, by rw [p2.length_eq]; exact le⟩ p2
theorem put_in (R : Holds w s.heap a L es ep t) {x : Row} (hx : KAt s.heap x) (hu : A.units + 8 < cLine) (few : L.length + 1 < 64) {Q : Bool → Shared → Prop}
    (q : ∀ b h' L' es' ep' t', Heap.SameBut a s.heap h' → Holds w h' a L' es' ep' t' → (if x.2 ∈ L.map Prod.snd then L' = L else L'.Perm (x :: L)) → Q b { s with heap := h' }) : wpAny (model P w) A (setAddHashed a (.ref x.1) (hOf w x)) Q E s := by
  obtain ⟨o, ho, hex, hd⟩ := R.obj
  have hsz := R.sz
  have hroom := R.free
  unfold setAddHashed
  refine wpAny_holding ?_
  rw [show (100000 : Nat) = 99999 + 1 from rfl, setAddHashedIn_succ]
  refine wpAny_bind (wpAny_setState_of ho hd R.fit ?_)
  dsimp only
  refine wp_if_neg (by simp [byScan, Value.scannable]) ?_
  try refine wpAny_bind (wpAny_pure ?_)
  refine wpAny_bind (seek0 R hx hu (fun hm => ?_) fun K hm none_at some_at => ?_)
  · exact wpAny_pure (q false _ L es ep t (Heap.SameBut.refl a s.heap) R (by rw [if_pos hm]))
  · dsimp only
    refine wpAny_bind (wpAny_setState_of ho hd R.fit ?_)
    dsimp only
    obtain ⟨q1, q2, q3, q4, q5, q6, q7, q8, q9⟩ := R.tb.put none_at some_at
    have enew : (SetTable.insertAt es (SetTable.below t.place (way t.mask (hOf w x) K)) (ent w x)) = ((L.take (SetTable.below t.place (way t.mask (hOf w x) K)) ++ x :: L.drop (SetTable.below t.place (way t.mask (hOf w x) K))).map (ent w)).toArray := by
      apply Array.ext'
      rw [SetTable.toList_insertAt, R.ents]
      simp [List.map_take, List.map_drop]
    have hnew : (L.map (hOf w)).take (SetTable.below t.place (way t.mask (hOf w x) K)) ++ hOf w x :: (L.map (hOf w)).drop (SetTable.below t.place (way t.mask (hOf w x) K)) = (L.take (SetTable.below t.place (way t.mask (hOf w x) K)) ++ x :: L.drop (SetTable.below t.place (way t.mask (hOf w x) K))).map (hOf w) := by
      simp [List.map_take, List.map_drop]
    rw [hnew] at q3
    have pm := put_perm L (SetTable.below t.place (way t.mask (hOf w x) K)) x
    change wpAny _ _ _ _ _ _
    simp only [show (hOf w x, Value.ref x.1) = ent w x from rfl]
    generalize t.put (way t.mask (hOf w x) K) = pt at q1 q3 q4 q5 q6 q7 q8 q9 ⊢
    obtain ⟨t1, p⟩ := pt
    dsimp only at q1 q3 q4 q5 q6 q7 q8 q9 ⊢
    subst q1
    generalize L.take (SetTable.below t.place (way t.mask (hOf w x) K)) ++ x :: L.drop (SetTable.below t.place (way t.mask (hOf w x) K)) = L1 at enew q3 pm
    have hl1 : L1.length = L.length + 1 := pm.length_eq
    rw [enew]
    have on : ∀ (b : Bool), wpAny (model P w) A (do
        let t := if b = true then t1 else { t1 with plain := false }
        storeSet a (L1.map (ent w)).toArray t
        if !false && t.tooFull then setRelay a (SetTable.grown (es.size + 1))
        return true) Q E s := by
      intro b
      have T := plain_tb q3 b
      have m2 : (if b = true then t1 else { t1 with plain := false }).mask = t.mask := by cases b <;> exact q4
      have l2 : (if b = true then t1 else { t1 with plain := false }).led = t.led := by cases b <;> exact q5
      have f2 : (if b = true then t1 else { t1 with plain := false }).fill = L.length + 1 := by cases b <;> (rw [List.length_map] at q9; exact q9)
      generalize (if b = true then t1 else { t1 with plain := false }) = t2 at T m2 l2 f2 ⊢
      refine wpAny_bind (wpAny_storeSet_of ho hd ?_ (by rw [sizeLine_eq]; simp; omega))
      have sb : Heap.SameBut a s.heap (s.heap.update a (Obj.putSet (L1.map (ent w)).toArray t2)) := Heap.SameBut.update ..
      have ho1 := store_at (es' := (L1.map (ent w)).toArray) (t' := t2) ho hd
      generalize s.heap.update a (Obj.putSet (L1.map (ent w)).toArray t2) = h1 at sb ho1 ⊢
      have once1 : (L1.map Prod.snd).Nodup := by
        refine (pm.map Prod.snd).nodup_iff.mpr ?_
        rw [List.map_cons]
        exact List.nodup_cons.mpr ⟨hm, R.once⟩
      have keys1 : ∀ p ∈ L1, KAt h1 p := fun p hp => by
        rcases List.mem_cons.mp (pm.mem_iff.mp hp) with e | hp
        · rw [e]; exact kat_up hx ho (set_seq hd) sb
        · exact kat_up (R.keys p hp) ho (set_seq hd) sb
      have led1 : w.params.followText "set-order" = true ∨ t2.led = true := by rw [l2]; exact R.led
      by_cases full : t2.tooFull = true
      · first
          | (refine wpAny_bind (wp_if_pos (by simp [full]) ?_))
          | (refine wp_if_pos (by simp [full]) (wpAny_bind ?_))
        have over : (L.length + 1) * 5 ≥ t.mask * 3 := by
          have h := full
          unfold SetTable.tooFull at h
          rw [decide_eq_true_eq, f2, m2] at h
          exact h
        have wide : ∀ M, SetTable.sizeAbove (SetTable.grown (L.length + 1)) - 1 = M → MaskOk M → SetTable.sizeAbove (SetTable.grown (L.length + 1)) ≤ 128 → (L.length + 1) * 5 < M * 3 → L.length + 1 ≤ t.mask →
            wpAny (model P w) A (setRelay a (SetTable.grown (es.size + 1))) (fun _ s' => wpAny (model P w) A (pure true) Q E s') E { s with heap := h1 } := fun M w1 w2 w3 w4 w5 => by
          rw [hsz]
          refine wider (s := { s with heap := h1 }) ho1 ⟨hex.1, hex.2.1, hex.2.2⟩ rfl rfl T once1 keys1 led1 (by omega) (by rw [m2]; omega) w1 w2 w3 (by omega) fun h2 L2 es2 ep2 t2 sb2 R2 p2 => ?_
          exact wpAny_pure (q true h2 L2 es2 ep2 t2 (sb.trans sb2) R2 (by rw [if_neg hm]; exact p2.trans pm))
        rcases R.tb.mok with e | e | e
        · have e4 : L.length = 4 := by omega
          exact wide 31 (by rw [e4, size_20]) (.inr (.inl rfl)) (by rw [e4, size_20]; decide) (by omega) (by omega)
        · have e4 : L.length = 18 := by omega
          exact wide 127 (by rw [e4, size_76]) (.inr (.inr rfl)) (by rw [e4, size_76]; decide) (by omega) (by omega)
        · omega
      · first
          | (refine wp_if_neg (by simp [full]) ?_)
          | (refine wpAny_bind (wp_if_neg (by simp [full]) (wpAny_pure ?_)))
        refine wpAny_pure (q true h1 L1 _ (ep + 1) t2 sb ⟨⟨_, ho1, ⟨hex.1, hex.2.1, hex.2.2⟩, rfl⟩, rfl, T, once1, keys1, led1, ?_, by omega⟩ (by rw [if_neg hm]; exact pm))
        have h := full
        unfold SetTable.tooFull at h
        rw [decide_eq_true_eq, f2] at h
        omega
    by_cases pl : t1.plain = true
    · first
        | (refine wpAny_bind (wp_if_pos pl (hbv x.2 _ 8 hx.1 hx.2 fun b => ?_)))
        | (refine wp_if_pos pl (wpAny_bind (hbv x.2 _ 8 hx.1 hx.2 fun b => ?_)))
      exact on b
    · first
        | (refine wpAny_bind (wp_if_neg pl (wpAny_pure ?_)))
        | (refine wp_if_neg pl (wpAny_bind (wpAny_pure ?_)))
        | (refine wp_if_neg pl ?_)
      exact on true
/-! ### set(xs) -/
/-- what the set has of the first i of ks -/
structure Upto (ks L : List Row) (i : Nat) : Prop where
  sub : ∀ p ∈ L, p ∈ ks.take i
  all : ∀ p ∈ ks.take i, p.2 ∈ L.map Prod.snd
  le : L.length ≤ i
theorem Upto.next {ks L L' : List Row} {i : Nat} {x : Row} (g : Upto ks L i) (hx : ks[i]? = some x) (c : if x.2 ∈ L.map Prod.snd then L' = L else L'.Perm (x :: L)) : Upto ks L' (i + 1) := by
  have tk : ks.take (i + 1) = ks.take i ++ [x] := by rw [List.take_succ, hx]; rfl
  by_cases hm : x.2 ∈ L.map Prod.snd
  · rw [if_pos hm] at c
    subst c
    refine ⟨fun p hp => by rw [tk]; exact List.mem_append_left _ (g.sub p hp), fun p hp => ?_, Nat.le_succ_of_le g.le⟩
    rw [tk] at hp
    rcases List.mem_append.mp hp with z | z
    · exact g.all p z
    · rw [List.mem_singleton.mp z]; exact hm
  · rw [if_neg hm] at c
    refine ⟨fun p hp => ?_, fun p hp => ?_, by rw [c.length_eq]; exact Nat.succ_le_succ g.le⟩
    · rw [tk]
      rcases List.mem_cons.mp (c.mem_iff.mp hp) with e | z
      · rw [e]; simp
      · exact List.mem_append_left _ (g.sub p z)
    · rw [(c.map Prod.snd).mem_iff, List.map_cons]
      rw [tk] at hp
      rcases List.mem_append.mp hp with z | z
      · exact List.mem_cons_of_mem _ (g.all p z)
      · rw [List.mem_singleton.mp z]; exact List.mem_cons_self
/-- how many there are in the end, all being different -/
theorem Upto.len {ks L : List Row} {i : Nat} (g : Upto ks L i) (hi : i = ks.length) (hn : (ks.map Prod.snd).Nodup) (once : (L.map Prod.snd).Nodup) : L.length = ks.length := by
  subst hi
  have s1 : ∀ p ∈ L, p ∈ ks := fun p hp => by have := g.sub p hp; rwa [List.take_length] at this
  have s2 : ∀ p ∈ ks, p.2 ∈ L.map Prod.snd := fun p hp => g.all p (by rw [List.take_length]; exact hp)
  have pm : (L.map Prod.snd).Perm (ks.map Prod.snd) := (List.perm_ext_iff_of_nodup once hn).mpr fun k => ⟨fun hk => by
    obtain ⟨p, hp, rfl⟩ := List.mem_map.mp hk
    exact List.mem_map.mpr ⟨p, s1 p hp, rfl⟩, fun hk => by
    obtain ⟨p, hp, rfl⟩ := List.mem_map.mp hk
    exact s2 p hp⟩
  have := pm.length_eq
  simpa using this
theorem kat_keep {h h' : Heap} {p : Row} (hp : KAt h p) (hk : ∀ c o, h.get? c = some o → h'.get? c = some o) : KAt h' p := ⟨NestedIs.at (fun c o _ _ e _ => hk c o e) _ _ hp.1, hp.2⟩
theorem Holds.keep {h h' : Heap} (R : Holds w h a L es ep t) (ha : ∀ o, h.get? a = some o → h'.get? a = some o) (hk : ∀ p ∈ L, KAt h' p) : Holds w h' a L es ep t := by
  obtain ⟨o, ho, r⟩ := R.obj
  exact ⟨⟨o, ha o ho, r⟩, R.ents, R.tb, R.once, hk, R.led, R.free, R.le⟩
abbrev newSetOb (w : World) : Obj := { cls := .type "set", dict := none, data := .set #[] 0 (.fresh 0 0 (!w.params.followText "set-order")) }
theorem holds_new {h : Heap} (ho : h.get? a = some (newSetOb w)) : Holds w h a [] #[] 0 (.fresh 0 0 (!w.params.followText "set-order")) :=
  ⟨⟨_, ho, ⟨rfl, rfl, rfl⟩, rfl⟩, rfl, ⟨List.Pairwise.nil, rfl, rfl, .inl rfl, fun x hx => (by cases hx), fun i h j hi => (by simp at hi)⟩, List.nodup_nil, fun p hp => (by cases hp),
    (by show _ ∨ (!w.params.followText "set-order") = true; cases w.params.followText "set-order" <;> simp), (by show 0 * 5 < 7 * 3; decide), (by show 0 < 64; decide)⟩
/-- the loop: one key after the other goes in -/
theorem fill {I : Addr} {fp wr : List Addr} {n : Nat} {Pv : Nat → Value → Prop} {St : Nat → Heap → Prop} (W : Walks P w A.in1 I fp wr n Pv St) {S : Addr} (hSf : S ∉ fp) {ks : List Row} (hn : n = ks.length) (few : ks.length < 64)
    (val : ∀ i v, Pv i v → ∃ p, ks[i]? = some p ∧ v = .ref p.1) {h0 : Heap} (hk : ∀ p ∈ ks, KAt h0 p) (newS : h0.get? S = none) (newW : ∀ b ∈ wr, h0.get? b = none) (hu : A.units + 9 < cLine) {R : Result → Shared → Prop} :
    ∀ (j i : Nat) (s : Shared), j + i = n → St i s.heap → (∀ b o, h0.get? b = some o → s.heap.get? b = some o) → (∃ L es ep t, Holds w s.heap S L es ep t ∧ Upto ks L i) →
      (∀ h' tk L es ep t, Holds w h' S L es ep t → Upto ks L n → (∀ b o, h0.get? b = some o → h'.get? b = some o) → R (.ok (.ret .none)) { s with heap := h', toks := tk }) →
      codeAny (model P w) A (.builtin "set.update.loop" ⟨[.ref S, .ref I], []⟩) R s := by
  have hSw : S ∉ wr := fun h => hSf (W.sub _ h)
  have kept : ∀ {h h' : Heap}, (∀ b o, b ∉ wr → h.get? b = some o → h'.get? b = some o) → (∀ b o, h0.get? b = some o → h.get? b = some o) → ∀ b o, h0.get? b = some o → h'.get? b = some o := fun hm hkp b o e =>
    hm b o (fun hb => by rw [newW b hb] at e; cases e) (hkp b o e)
  intro j
  induction j with
  | zero =>
    intro i s hi hst hkp ⟨L, es, ep, t, R1, g⟩ hR
    rw [Nat.zero_add] at hi
    subst hi
    refine codeAny_builtin F.entry_set_update_loop (by
      rw [Around.under_plainId F.plain_set_update_loop _]
      show wpAny _ A.in1 (pyNext (.ref I) >>= _) _ _ s
      refine wpAny_bind (W.done s _ _ hst fun h' tk hm => ?_)
      show wpAny _ A.in1 (ret Value.none) _ _ _
      have hkp' := kept hm hkp
      exact wpAny_pure (hR h' tk L es ep t (R1.keep (fun o e => hm S o hSw e) fun p hp => kat_keep (hk p (List.mem_of_mem_take (g.sub p hp))) hkp') g hkp'))
  | succ j ih =>
    intro i s hi hst hkp ⟨L, es, ep, t, R1, g⟩ hR
    refine codeAny_builtin F.entry_set_update_loop (by
      rw [Around.under_plainId F.plain_set_update_loop _]
      show wpAny _ A.in1 (pyNext (.ref I) >>= _) _ _ s
      refine wpAny_bind (W.item i s _ _ (by omega) hst fun v h' tk hP hst' hm => ?_)
      obtain ⟨p, hp, rfl⟩ := val i v hP
      have hkp' := kept hm hkp
      have R2 : Holds w h' S L es ep t := R1.keep (fun o e => hm S o hSw e) fun q hq => kat_keep (hk q (List.mem_of_mem_take (g.sub q hq))) hkp'
      have hx : KAt h' p := kat_keep (hk p (List.mem_of_getElem? hp)) hkp'
      show wpAny _ A.in1 (holding [Value.ref p.1] (setAdd S (.ref p.1)) >>= _) _ _ _
      refine wpAny_bind (wpAny_holding ?_)
      unfold setAdd
      refine wpAny_holding (wpAny_bind ((nestedKind P w).pyHash (show A.in1.units + 8 < cLine by simp only [Around.in1_units]; omega) hx ?_))
      refine put_in (s := { s with heap := h', toks := tk + (nestedKind P w).draws p.2 }) R2 hx (by simp only [Around.in1_units]; omega) (by have := g.le; omega) fun b h2 L' es' ep' t' sb R3 c => ?_
      have hkp2 : ∀ b o, h0.get? b = some o → h2.get? b = some o := fun b o e => (sb.2 b (fun z => by rw [z, newS] at e; cases e)).trans (hkp' b o e)
      refine wpAny_pure ⟨plainId_quiet F.plain_set_update_loop _, ih (i + 1) _ (by omega) (W.frame _ _ _ hst' fun b hb o e => (sb.2 b fun z => hSf (by rw [← z]; exact hb)).trans e) hkp2 ⟨L', es', ep', t', R3, g.next hp c⟩ hR⟩)
theorem set_list {l : Addr} {items : Array Value} {ks : List Row} {Q : Value → Shared → Prop} (hh : A.handled = none) (hl : s.heap.IsList l items) (hit : items.toList = ks.map fun p => Value.ref p.1) (hk : ∀ p ∈ ks, KAt s.heap p) (few : ks.length < 64) (hu : A.units + 12 < cLine)
    (q : ∀ (h' : Heap) (tk : Nat) L es ep t, Holds w h' s.heap.objs.size L es ep t → Upto ks L ks.length → (∀ b o, s.heap.get? b = some o → h'.get? b = some o) → Q (.ref s.heap.objs.size) { s with heap := h', toks := tk }) : wpAny (model P w) A (call (.type "set") [.ref l]) Q E s := by
  have hisz : items.size = ks.length := by
    have z := congrArg List.length hit
    simpa using z
  obtain ⟨c, tl, hmro⟩ := F.called_set.mro
  have made := F.called_set.made
  have sub := F.called_set.sub
  have h1 := F.called_set.notType
  have h2 := F.called_set.canCreate
  have hct := F.typeCall_set_1 (.ref l)
  refine wpAny_call (codeAny_of_tree (wpAny_pure (s := s) ⟨Code.quiet_builtin _ (by decide +kernel), codeAny_builtin F.entry_type_call (by
    rw [Around.under_plain (weight_type_call_type "set" [.ref l] []) rfl]
    repeat (any_goals (first | assumption | wp_step))
    refine codeAny_mono (code_set_led1 (.ref l) (E := E) (Q₁ := fun obj s₁ => obj = .ref s.heap.objs.size ∧ s₁ = { s with heap := s.heap.push (newSetOb w) }) ⟨rfl, rfl⟩) fun r s₁ hr => ?_
    cases r with
    | error e => exact hr
    | ok fl =>
      cases fl with
      | ret obj =>
        obtain ⟨rfl, rfl⟩ := hr
        have hS : (s.heap.push (newSetOb w)).get? s.heap.objs.size = some (newSetOb w) := Heap.get?_push_size _ rfl
        have hT : Shared.TypeIs { s with heap := s.heap.push (newSetOb w) } (.ref s.heap.objs.size) "set" := ⟨_, hS, rfl⟩
        have hli := F.called_set.init.lookup
        have hbi := F.called_set.init.bind (.ref s.heap.objs.size)
        repeat (any_goals (first | assumption | wp_step))
        refine codeAny_mono (codeAny_call_builtin (R := wants (fun r s₂ => r = .none ∧ ∃ h' tk L es ep t, s₂ = { s with heap := h', toks := tk } ∧ Holds w h' s.heap.objs.size L es ep t ∧ Upto ks L ks.length ∧
          (∀ b o, s.heap.get? b = some o → h'.get? b = some o)) E) F.called_set.init.plain F.entry_set_init (check_set_init_1 hT ?_)) fun r₂ s₂ hr₂ => ?_
        · obtain ⟨ol, hol, hcl, nl, hdl⟩ := hl
          obtain ⟨ocls, odict, odata, oslots⟩ := ol
          simp only at hcl hdl
          subst hcl hdl
          have hol' : (s.heap.push (newSetOb w)).get? l = some { cls := .type "list", dict := odict, data := .seq items nl, slots := oslots } := Heap.get?_push_of_some _ hol
          have hsls := F.sub_list_set
          have hslf := F.sub_list_frozenset
          have hne : (Value.type "list" == Value.type "dict") = false := by decide
          have hl1 : (s.heap.push (newSetOb w)).IsList l items := ⟨_, hol', rfl, nl, rfl⟩
          unfold Builtin.«set.__init__» noKeywords Builtin.Frozenset.updateFrom
          generalize hPI : pyIter = PI
          wp_walk
          subst hPI
          refine wpAny_pyIter_list hl1 (wpAny_bind (wpAny_runValue ?_))
          have lS : l < s.heap.objs.size := Heap.lt_size hol
          have off : ∀ b, s.heap.objs.size ≤ b → s.heap.get? b = none := fun b hb => by
            cases z : s.heap.get? b with
            | none => rfl
            | some o => exact absurd (Nat.lt_of_lt_of_le (Heap.lt_size z) hb) (Nat.lt_irrefl _)
          have sz1 : (s.heap.push (newSetOb w)).objs.size = s.heap.objs.size + 1 := Heap.size_push ..
          refine fill (Walks.list (by simp [hh]) (s.heap.push (newSetOb w)).objs.size l (by rw [sz1]; exact Nat.ne_of_lt (Nat.lt_succ_of_lt lS)) items) (S := s.heap.objs.size) (by rw [sz1]; simp only [List.mem_cons, List.not_mem_nil, or_false, not_or]; exact ⟨Nat.ne_of_lt (Nat.lt_succ_self _), Nat.ne_of_gt lS⟩) hisz few (fun i v hv => ?_) hk (off _ (Nat.le_refl _)) (fun b hb => off b (by rw [List.mem_singleton.mp hb, sz1]; exact Nat.le_succ _)) (by simp only [Around.in1_units]; omega)
            items.size 0 _ (Nat.add_zero _) ⟨⟨_, Heap.get?_push_size _ rfl, rfl, rfl⟩, hl1.push _⟩ (fun b o e => Heap.get?_push_of_some _ (Heap.get?_push_of_some _ e)) ⟨[], #[], 0, _, holds_new (Heap.get?_push_of_some _ hS), ⟨fun p hp => (by cases hp), fun p hp => (by simp at hp), Nat.le_refl _⟩⟩ fun h' tk L es ep t R g kp => ?_
          · have z : items.toList[i]? = some v := by rw [Array.getElem?_toList]; exact hv
            rw [hit, List.getElem?_map] at z
            obtain ⟨p, hp, rfl⟩ := Option.map_eq_some_iff.mp z
            exact ⟨p, hp, rfl⟩
          · show wpAny _ _ _ _ _ _
            refine wpAny_pure ?_
            show wpAny _ _ (ret Value.none) _ _ _
            rw [hisz] at g
            exact wpAny_pure ⟨rfl, h', tk, L, es, ep, t, rfl, R, g, kp⟩
        · cases r₂ with
          | error e => exact hr₂
          | ok fl₂ => cases fl₂ with
            | ret r =>
              obtain ⟨rfl, h', tk, L, es, ep, t, rfl, R, g, kp⟩ := hr₂
              repeat (any_goals (first | assumption | wp_step))
              exact q _ _ _ _ _ _ R g kp
            | _ => exact hr₂.elim
      | _ => exact hr.elim)⟩))
theorem set_tuple {l : Addr} {items : Array Value} {ks : List Row} {Q : Value → Shared → Prop} (hh : A.handled = none) (hl : s.heap.IsTuple l items) (hit : items.toList = ks.map fun p => Value.ref p.1) (hk : ∀ p ∈ ks, KAt s.heap p) (few : ks.length < 64) (hu : A.units + 12 < cLine)
    (q : ∀ (h' : Heap) (tk : Nat) L es ep t, Holds w h' s.heap.objs.size L es ep t → Upto ks L ks.length → (∀ b o, s.heap.get? b = some o → h'.get? b = some o) → Q (.ref s.heap.objs.size) { s with heap := h', toks := tk }) : wpAny (model P w) A (call (.type "set") [.ref l]) Q E s := by
  have hisz : items.size = ks.length := by
    have z := congrArg List.length hit
    simpa using z
  obtain ⟨c, tl, hmro⟩ := F.called_set.mro
  have made := F.called_set.made
  have sub := F.called_set.sub
  have h1 := F.called_set.notType
  have h2 := F.called_set.canCreate
  have hct := F.typeCall_set_1 (.ref l)
  refine wpAny_call (codeAny_of_tree (wpAny_pure (s := s) ⟨Code.quiet_builtin _ (by decide +kernel), codeAny_builtin F.entry_type_call (by
    rw [Around.under_plain (weight_type_call_type "set" [.ref l] []) rfl]
    repeat (any_goals (first | assumption | wp_step))
    refine codeAny_mono (code_set_led1 (.ref l) (E := E) (Q₁ := fun obj s₁ => obj = .ref s.heap.objs.size ∧ s₁ = { s with heap := s.heap.push (newSetOb w) }) ⟨rfl, rfl⟩) fun r s₁ hr => ?_
    cases r with
    | error e => exact hr
    | ok fl =>
      cases fl with
      | ret obj =>
        obtain ⟨rfl, rfl⟩ := hr
        have hS : (s.heap.push (newSetOb w)).get? s.heap.objs.size = some (newSetOb w) := Heap.get?_push_size _ rfl
        have hT : Shared.TypeIs { s with heap := s.heap.push (newSetOb w) } (.ref s.heap.objs.size) "set" := ⟨_, hS, rfl⟩
        have hli := F.called_set.init.lookup
        have hbi := F.called_set.init.bind (.ref s.heap.objs.size)
        repeat (any_goals (first | assumption | wp_step))
        refine codeAny_mono (codeAny_call_builtin (R := wants (fun r s₂ => r = .none ∧ ∃ h' tk L es ep t, s₂ = { s with heap := h', toks := tk } ∧ Holds w h' s.heap.objs.size L es ep t ∧ Upto ks L ks.length ∧
          (∀ b o, s.heap.get? b = some o → h'.get? b = some o)) E) F.called_set.init.plain F.entry_set_init (check_set_init_1 hT ?_)) fun r₂ s₂ hr₂ => ?_
        · obtain ⟨ol, hol, hcl, nl, hdl⟩ := hl
          obtain ⟨ocls, odict, odata, oslots⟩ := ol
          simp only at hcl hdl
          subst hcl hdl
          have hol' : (s.heap.push (newSetOb w)).get? l = some { cls := .type "tuple", dict := odict, data := .seq items nl, slots := oslots } := Heap.get?_push_of_some _ hol
          have hsls := F.sub_tuple_set
          have hslf := F.sub_tuple_frozenset
          have hne : (Value.type "tuple" == Value.type "dict") = false := by decide
          have hl1 : (s.heap.push (newSetOb w)).IsTuple l items := ⟨_, hol', rfl, nl, rfl⟩
          unfold Builtin.«set.__init__» noKeywords Builtin.Frozenset.updateFrom
          generalize hPI : pyIter = PI
          wp_walk
          subst hPI
          refine wpAny_pyIter_tuple hl1 (wpAny_bind (wpAny_runValue ?_))
          have lS : l < s.heap.objs.size := Heap.lt_size hol
          have off : ∀ b, s.heap.objs.size ≤ b → s.heap.get? b = none := fun b hb => by
            cases z : s.heap.get? b with
            | none => rfl
            | some o => exact absurd (Nat.lt_of_lt_of_le (Heap.lt_size z) hb) (Nat.lt_irrefl _)
          have sz1 : (s.heap.push (newSetOb w)).objs.size = s.heap.objs.size + 1 := Heap.size_push ..
          refine fill (Walks.tuple (by simp [hh]) (s.heap.push (newSetOb w)).objs.size l (by rw [sz1]; exact Nat.ne_of_lt (Nat.lt_succ_of_lt lS)) items) (S := s.heap.objs.size) (by rw [sz1]; simp only [List.mem_cons, List.not_mem_nil, or_false, not_or]; exact ⟨Nat.ne_of_lt (Nat.lt_succ_self _), Nat.ne_of_gt lS⟩) hisz few (fun i v hv => ?_) hk (off _ (Nat.le_refl _)) (fun b hb => off b (by rw [List.mem_singleton.mp hb, sz1]; exact Nat.le_succ _)) (by simp only [Around.in1_units]; omega)
            items.size 0 _ (Nat.add_zero _) ⟨⟨_, Heap.get?_push_size _ rfl, rfl, rfl⟩, hl1.push _⟩ (fun b o e => Heap.get?_push_of_some _ (Heap.get?_push_of_some _ e)) ⟨[], #[], 0, _, holds_new (Heap.get?_push_of_some _ hS), ⟨fun p hp => (by cases hp), fun p hp => (by simp at hp), Nat.le_refl _⟩⟩ fun h' tk L es ep t R g kp => ?_
          · have z : items.toList[i]? = some v := by rw [Array.getElem?_toList]; exact hv
            rw [hit, List.getElem?_map] at z
            obtain ⟨p, hp, rfl⟩ := Option.map_eq_some_iff.mp z
            exact ⟨p, hp, rfl⟩
          · show wpAny _ _ _ _ _ _
            refine wpAny_pure ?_
            show wpAny _ _ (ret Value.none) _ _ _
            rw [hisz] at g
            exact wpAny_pure ⟨rfl, h', tk, L, es, ep, t, rfl, R, g, kp⟩
        · cases r₂ with
          | error e => exact hr₂
          | ok fl₂ => cases fl₂ with
            | ret r =>
              obtain ⟨rfl, h', tk, L, es, ep, t, rfl, R, g, kp⟩ := hr₂
              repeat (any_goals (first | assumption | wp_step))
              exact q _ _ _ _ _ _ R g kp
            | _ => exact hr₂.elim
      | _ => exact hr.elim)⟩))
end
end NS
end Sd

/-! PyT2: len(set(xs)). -/
namespace Sd
open PySem PySem.Spec PyProof.Rows L2
section
variable {G : Gx} {X : Cx} {C : Calls} {ρ : List Addr} {H : Hp} {h : Hh} {pins : List (Addr × Obj)} {σ : L2.St} {s : Shared}
/-- the keys of a list as they stand -/
theorem rows_of (hK : X.K = G.K) (I : Inv X pins σ H s) : ∀ {xs : List D} {vs : List V} {us : List Value} {qs : List NestedKey}, RDs G ρ H xs vs → Vals vs us → mapO kOf xs = some qs →
    ∃ L : List NS.Row, us = L.map (fun p => Value.ref p.1) ∧ L.map Prod.snd = qs ∧ ∀ p ∈ L, NS.KAt s.heap p
  | [], _, _, _, .nil, .nil, e => by cases e; exact ⟨[], rfl, rfl, fun p hp => (by cases hp)⟩
  | x :: xs, _, _, qs, .cons r rs, .cons rv rvs, e => by
    cases h1 : kOf x with
    | none => simp [mapO, h1] at e
    | some k1 =>
      cases h2 : mapO kOf xs with
      | none => simp [mapO, h1, h2] at e
      | some ks2 =>
        simp only [mapO, h1, h2, Option.some.injEq] at e
        subst e
        obtain ⟨L, g1, g2, g3⟩ := rows_of hK I rs rvs h2
        obtain ⟨b, rfl, rfl, hb⟩ := key_is hK I r h1 rv
        refine ⟨(b, k1) :: L, by rw [g1]; rfl, by rw [List.map_cons, g2], fun p hp => ?_⟩
        rcases List.mem_cons.mp hp with rfl | hp
        · exact hb
        · exact g3 p hp
theorem pe_lsetF {p p2 q pos : Pos} {e1 : Expr} {a : E} (hK : X.K = G.K) (hc : X.calm = true) (hu : X.A.units + 200 < cLine) (hg : Gl X "len") (hm : X.mg "len" = none) (hg2 : Gl X "set") (hm2 : X.mg "set" = none) (ha : PE X e1 (tD G (evE C a)))
    (na : starEach [e1] X.env = [(false, eval e1 X.env)]) : PE X (.Call (.Name "len" p) [.Call (.Name "set" p2) [e1] [] q] [] pos) (tD G (evE C (.o1 .lset a))) := by
  refine ⟨fun pins s σ H Q I z => ?_⟩
  refine Call_ (ld_blt I hg hm PySem.boot_len ?_)
  refine PyProof.Rows.callWith_builtin1 (PyProof.Rows.args_cons ?_ rfl) rfl rfl
  refine Call_ (ld_blt I hg2 hm2 PyProof.Rows.boot_set ?_)
  refine PyProof.Rows.callWith_type1 (PyProof.Rows.args_cons (thn (ha.run pins s σ H _ I (tD_o1 .lset z)) fun v s1 ⟨x, H1, I1, r1, q1⟩ => PyProof.Rows.args_nil ?_) na) na rfl
  obtain ⟨av, ρ, h, d, y, R, rx, e, q1⟩ := q1
  have hK : X.K = (G.at av).K := hK
  simp only [o1F] at e
  split at e
  · rename_i xs hx
    split at e
    · rename_i qs hq
      split at e
      · rename_i hn
        cases e
        obtain ⟨a, ws, rfl, sq, rs⟩ := rx.items_inv R hx
        cases r1
        rw [← hK] at sq
        obtain ⟨its, rits, pl, hz⟩ := I1.list sq
        obtain ⟨L, rfl, rfl, hL⟩ := rows_of hK I1 rs rits hq
        rw [List.length_map] at hn q1
        refine NS.set_list (ks := L) (I1.ok.hd hc) pl.isList (by simp) hL hn.2 (by omega) fun h' tk L2 es ep t R2 g kp => ?_
        have hlen := g.len rfl hn.1 R2.once
        have I2 : Inv X pins σ H1 { s1 with heap := h', toks := tk } := I1.kept fun b o e => kp b o e
        have hfit := NS.Holds.fit (s := { s1 with heap := h', toks := tk }) R2
        have hsz := NS.Holds.sz (s := { s1 with heap := h', toks := tk }) R2
        obtain ⟨o, ho, hex, hd⟩ := R2.obj
        refine PyProof.Rows.args_nil (call_len_set ho hex hd hfit (by rw [hsz, hlen]; omega) ⟨.int L.length, H1, I2.tok _, ⟨_, by rw [hsz, hlen]⟩, fin_at R (RD.int _) q1⟩)
      · cases e
    · cases e
  · cases e
end
end Sd

/-! PyF2: objects of the program's own classes. -/
namespace Sd
open PySem PySem.Spec PyProof.Rows L2

section
variable {G : Gx} {ρ : List Addr} {H : Hp}
/-- an attribute that is there, one that is not -/
theorem fld_some {f : String} : ∀ {fs : List (String × D)} {vfs : List (Str × V)} {d : D}, vfs.map (·.1) = fs.map (fun p => sOf p.1) → RDs G ρ H (fs.map (·.2)) (vfs.map (·.2)) → fs.lookup f = some d → ∃ v, vfs.lookup (sOf f) = some v ∧ RD G ρ H d v
  | [], _, _, _, _, e => by cases e
  | p :: fs, [], _, h, _, _ => by simp at h
  | (g, x) :: fs, (k, v) :: vfs, d, h, .cons r rs, e => by
    simp only [List.map_cons, List.cons.injEq] at h
    obtain ⟨rfl, h⟩ := h
    rw [List.lookup_cons] at e ⊢
    by_cases hg : f = g
    · subst hg
      simp only [beq_self_eq_true] at e ⊢
      cases e
      exact ⟨v, rfl, r⟩
    · have h1 : (f == g) = false := by simpa using hg
      have h2 : (sOf f == sOf g) = false := by simpa using fun z => hg (sOf_inj z)
      rw [h1] at e
      rw [h2]
      exact fld_some h rs e
theorem fld_none {f : String} : ∀ {fs : List (String × D)} {vfs : List (Str × V)}, vfs.map (·.1) = fs.map (fun p => sOf p.1) → fs.lookup f = none → vfs.lookup (sOf f) = none
  | [], [], _, _ => rfl
  | [], _ :: _, h, _ => by simp at h
  | p :: fs, [], h, _ => by simp at h
  | (g, x) :: fs, (k, v) :: vfs, h, e => by
    simp only [List.map_cons, List.cons.injEq] at h
    obtain ⟨rfl, h⟩ := h
    rw [List.lookup_cons] at e ⊢
    by_cases hg : f = g
    · subst hg; simp at e
    · have h1 : (f == g) = false := by simpa using hg
      have h2 : (sOf f == sOf g) = false := by simpa using fun z => hg (sOf_inj z)
      rw [h1] at e
      rw [h2]
      exact fld_none h e
theorem fld_put {f : String} {d : D} {v : V} (r : RD G ρ H d v) : ∀ {fs : List (String × D)} {vfs : List (Str × V)}, vfs.map (·.1) = fs.map (fun p => sOf p.1) → RDs G ρ H (fs.map (·.2)) (vfs.map (·.2)) →
    (L2.putF (sOf f) v vfs).map (·.1) = (putA f d fs).map (fun p => sOf p.1) ∧ RDs G ρ H ((putA f d fs).map (·.2)) ((L2.putF (sOf f) v vfs).map (·.2))
  | [], [], _, _ => ⟨rfl, .cons r .nil⟩
  | [], _ :: _, h, _ => by simp at h
  | p :: fs, [], h, _ => by simp at h
  | (g, x) :: fs, (k, u) :: vfs, h, .cons q qs => by
    simp only [List.map_cons, List.cons.injEq] at h
    obtain ⟨rfl, h⟩ := h
    unfold L2.putF putA
    by_cases hg : g = f
    · subst hg
      simp only [if_true]
      exact ⟨by simp [h], .cons r qs⟩
    · have h2 : ¬ sOf g = sOf f := fun z => hg (sOf_inj z)
      simp only [if_neg hg, if_neg h2]
      obtain ⟨a, b⟩ := fld_put r h qs
      exact ⟨by simp [a], .cons q b⟩
theorem putA_len (f : String) (d : D) : ∀ fs : List (String × D), (putA f d fs).length ≤ fs.length + 1
  | [] => by simp [putA]
  | p :: fs => by
    unfold putA
    split
    · simp
    · have := putA_len f d fs
      simp; omega
/-- an object of ours that is an instance -/
theorem RD.ins_inv {h : Hh} {l : Nat} {c : String} {fs : List (String × D)} {v : V} (R : RelH G ρ h H) (r : RD G ρ H (.ref l) v) (e : h[l]? = some (.ins c fs)) :
    ∃ (a C dx : Addr) (vfs : List (Str × V)), v = .ref a ∧ ρ[l]? = some a ∧ G.b.cls c = some C ∧ H a = some (.ins C dx vfs) ∧ vfs.map (·.1) = fs.map (fun p => sOf p.1) ∧ RDs G ρ H (fs.map (·.2)) (vfs.map (·.2)) := by
  cases r with
  | @ref _ a q =>
    obtain ⟨o, e1, ro⟩ := R.lt q
    rw [e] at e1; cases e1
    obtain ⟨C, dx, vfs, h1, h2, h3, h4⟩ := ro
    exact ⟨a, C, dx, vfs, rfl, q, h1, h2, h3, h4⟩
end

/-- a method as it may be called here -/
structure MtFit (G : Gx) (X : Cx) (A : Addr) (m : String) (F : List D → Hh → Out D) : Prop where
  ex : ∃ (k : Nat) (f : Addr) (fd : FuncData) (ps : List Str), Meth X.K A (sOf m) f ∧ Binds X.K fd ps [] ∧ Room k X.A ∧ FnOk X.prog X.w X.K X.mg X.base CX0 k f fd ps (spC G ps.length F) ∧ ∀ ds h d h', F ds h = .ok d h' → ds.length = ps.length
/-- a class as it may be called here -/
structure MkFit (G : Gx) (X : Cx) (x : Str) (c : String) (F : List D → Hh → Out D) : Prop where
  ex : ∃ (A : Addr) (k : Nat) (f : Addr) (fd : FuncData) (ps : List Str), X.mg x = some (.ref A) ∧ G.b.cls c = some A ∧ Mk X.K A f ∧ Binds X.K fd ps [] ∧ Room (k + 1) X.A ∧ FnOk X.prog X.w X.K X.mg X.base CX0 k f fd ps (spC G ps.length F) ∧ ∀ ds h d h', F ds h = .ok d h' → ds.length = ps.length
/-- the classes as they stand here -/
structure ClFit (G : Gx) (X : Cx) (C : Calls) : Prop where
  cls : ∀ c A, G.b.cls c = some A → Cls X.K A
  mt : ∀ c m ds h d h', c ≠ "" → C c m ds h = .ok d h' → ∃ A, G.b.cls c = some A ∧ MtFit G X A m (C c m)
section
variable {G : Gx} {C : Calls} {X : Cx} {o' : E} {es : List E} {o e : Expr} {xs : List Expr} {x : Str} {p pos apos : Pos} {c m f : String} {cs : List String}
theorem pe_attF (cl : ∀ c A, G.b.cls c = some A → Cls X.K A) (na : ∀ c ∈ cs, ∀ A, G.b.cls c = some A → NoAttr X.K A (sOf f)) (ho : PE X o (tD G (evE C o'))) (hb : attributeBase o (sOf f) X.env (eval o X.env) = eval o X.env) : PE X (.Attribute o (sOf f) pos) (tD G (evE C (.att cs o' f))) := by
  refine PE.imp (pe_fld ho hb) fun σ H Q q => ?_
  obtain ⟨av, ρ, h, σD, d, h', R, RE, e0, q⟩ := q
  simp only [evE] at e0
  obtain ⟨y, h1, e1, e2⟩ := Out.thn_eq_ok e0
  split at e2
  · split at e2
    · rename_i c fs hl
      split at e2
      · rename_i hc
        obtain ⟨e3, rfl⟩ := Out.of_eq_ok e2
        refine ⟨av, ρ, h, σD, _, _, R, RE, e1, fun ρ1 H1 v S1 R1 r1 => ?_⟩
        obtain ⟨a, A, dx, vfs, rfl, hp, hA, hH, hn, rs⟩ := RD.ins_inv (G := G.at av) R1 r1 hl
        obtain ⟨v, hv, rv⟩ := fld_some hn rs e3
        exact ⟨a, A, dx, vfs, v, rfl, hH, cl c A hA, na c hc A hA, hv, q _ _ _ S1 R1 rv.rv⟩
      · cases e2
    · cases e2
  · cases e2
theorem meth_q {n : Nat} {av ρ ρ1 : List Addr} {h1 h2 h' : Hh} {l : Nat} {H1 : Hp} {H : Hp} {Q : VK} {σD : Env} {σ : L2.St} {ds : List D} {d : D} {A a dx : Addr} {v : V} {fs : List (String × D)} {vfs : List (Str × V)} (hc : c ≠ "") (hl : ∀ ds h d h', C c m ds h = .ok d h' → ds.length = n)
    (S1 : Stp ρ ρ1 H H1) (R1 : RelH (G.at av) ρ1 h1 H1) (RE : RelE (G.at av) ρ H σD σ) (hp : ρ1[l]? = some a) (e3 : evEs C es σD h1 = .ok ds h2) (e4 : C c m (.ref l :: ds) h2 = .ok d h')
    (q : ∀ ρ' H' v, Stp ρ ρ' H H' → RelH (G.at av) ρ' h' H' → RV (G.at av) ρ' h' H H' d v → Q v H') : tDs G (evEs C es) σ H1 fun vs H2 => spC G n (C c m) (.ref a :: (vs ++ [])) H2 Q E0 := by
  refine ⟨av, ρ1, h1, σD, ds, h2, R1, RE.step S1, e3, fun ρ2 H2 vs S2 R2 r2 => ?_⟩
  show spC G n (C c m) (V.ref a :: (vs ++ [])) H2 Q E0
  rw [List.append_nil]
  refine ⟨by rw [List.length_cons, ← r2.length]; exact hl _ _ _ _ e4, av, ρ2, h2, .ref l :: ds, d, h', R2, .cons (.ref (S2.pre _ _ hp)) r2, e4, fun ρ3 H3 v S3 R3 r3 => q _ _ _ ((S1.trans S2).trans S3) R3 (r3.back (S1.trans S2) S3)⟩
theorem pe_methF {pl : Sem Bool} (cl : ClFit G X C) (ho : PE X o (tD G (evE C o'))) (ha : PA X (e :: xs) (tDs G (evEs C es))) (hst : starEach (e :: xs) X.env = (false, eval e X.env) :: starEach xs X.env) (hpl : (backTo pos (starEach xs X.env)).any (·.1) = false)
    (ht : eval (.Call (.Attribute o (sOf m) apos) (e :: xs) [] pos) X.env = (do
      let ov ← eval o X.env
      standAt apos.atName
      let (f, first) ← holding [ov] (getMethod ov (sOf m) pl)
      callWith pos f first (backTo pos (starEach (e :: xs) X.env)) (backToKw pos (keywordEach [] X.env)))) :
    PE X (.Call (.Attribute o (sOf m) apos) (e :: xs) [] pos) (tD G (evE C (.meth o' m es))) := by
  refine ⟨fun pins s σ H Q I q => ?_⟩
  obtain ⟨av, ρ, h, σD, d, h', R, RE, e0, q⟩ := q
  simp only [evE] at e0
  obtain ⟨y, h1, e1, e2⟩ := Out.thn_eq_ok e0
  split at e2
  · rename_i l
    split at e2
    · rename_i c fs hl
      split at e2
      · rename_i hn
        obtain ⟨ds, h2, e3, e4⟩ := Out.thn_eq_ok e2
        obtain ⟨hc, hn⟩ := hn
        obtain ⟨A, hA, F⟩ := cl.mt c m _ _ _ _ hc e4
        obtain ⟨k, f, fd, ps, hm, hbd, hr, F, hlen⟩ := F.ex
        refine (pe_meth (pl := pl) ho (cl.cls c A hA) hm F hr hbd .nil pass0 ha hst hpl ht).run pins s σ H Q I ?_
        refine ⟨av, ρ, h, σD, _, h1, R, RE, e1, fun ρ1 H1 v S1 R1 r1 => ?_⟩
        obtain ⟨a, A', dx, vfs, rfl, hp, hA', hH, hn', rs⟩ := RD.ins_inv (G := G.at av) R1 r1 hl
        have : A' = A := Option.some.inj (hA'.symm.trans hA)
        subst this
        exact ⟨a, dx, vfs, rfl, hH, fld_none hn' (by simpa using hn), meth_q (fs := fs) (vfs := vfs) (A := A') (dx := dx) (v := .ref a) hc hlen S1 R1 RE hp e3 e4 q⟩
      · cases e2
    · cases e2
  · cases e2
theorem pe_methF0 {pl : Sem Bool} (cl : ClFit G X C) (ho : PE X o (tD G (evE C o')))
    (ht : eval (.Call (.Attribute o (sOf m) apos) [] [] pos) X.env = (do
      let ov ← eval o X.env
      standAt apos.atName
      let (f, first) ← holding [ov] (getMethod ov (sOf m) pl)
      callWith pos f first (backTo pos (starEach [] X.env)) (backToKw pos (keywordEach [] X.env)))) :
    PE X (.Call (.Attribute o (sOf m) apos) [] [] pos) (tD G (evE C (.meth o' m []))) := by
  refine ⟨fun pins s σ H Q I q => ?_⟩
  obtain ⟨av, ρ, h, σD, d, h', R, RE, e0, q⟩ := q
  simp only [evE] at e0
  obtain ⟨y, h1, e1, e2⟩ := Out.thn_eq_ok e0
  split at e2
  · rename_i l
    split at e2
    · rename_i c fs hl
      split at e2
      · rename_i hn
        obtain ⟨ds, h2, e3, e4⟩ := Out.thn_eq_ok e2
        obtain ⟨hc, hn⟩ := hn
        obtain ⟨A, hA, F⟩ := cl.mt c m _ _ _ _ hc e4
        obtain ⟨k, f, fd, ps, hm, hbd, hr, F, hlen⟩ := F.ex
        refine (pe_meth0 (pl := pl) ho (cl.cls c A hA) hm F hr hbd .nil pass0 ht).run pins s σ H Q I ?_
        refine ⟨av, ρ, h, σD, _, h1, R, RE, e1, fun ρ1 H1 v S1 R1 r1 => ?_⟩
        obtain ⟨a, A', dx, vfs, rfl, hp, hA', hH, hn', rs⟩ := RD.ins_inv (G := G.at av) R1 r1 hl
        have : A' = A := Option.some.inj (hA'.symm.trans hA)
        subst this
        exact ⟨a, dx, vfs, rfl, hH, fld_none hn' (by simpa using hn), tDs_nil (meth_q (fs := fs) (vfs := vfs) (A := A') (dx := dx) (v := .ref a) hc hlen S1 R1 RE hp e3 e4 q)⟩
      · cases e2
    · cases e2
  · cases e2
/-- a new instance -/
theorem RelH.mkd {ρ : List Addr} {h : Hh} {H : Hp} {x dx A : Addr} (R : RelH G ρ h H) (hA : G.b.cls c = some A) (hx : H x = none) (hd : H dx = none) (ne : dx ≠ x) :
    RelH G (ρ ++ [x]) (h ++ [.ins c []]) (upd (upd H dx (.own x)) x (.ins A dx [])) ∧ (ρ ++ [x])[h.length]? = some x ∧ Stp ρ (ρ ++ [x]) H (upd (upd H dx (.own x)) x (.ins A dx [])) := by
  have R1 := R.new (o := .own x) hd
  have hx1 : upd H dx (.own x) x = none := by rw [upd_ne (fun z => ne z.symm)]; exact hx
  have R2 := R1.newHid (o := .ins A dx []) hx1
  have R3 := RelH.own (ob := .ins c []) (R1.notAv hx1) R2 ⟨A, dx, [], hA, upd_same, rfl, .nil⟩
  refine ⟨R3.1, R3.2, fun l a e => ?_, fun b o e n => ?_⟩
  · rw [List.getElem?_append_left (List.getElem?_eq_some_iff.mp e).1]; exact e
  · have n1 : b ≠ x := ne_of_none e hx
    have n2 : b ≠ dx := ne_of_none e hd
    refine ⟨by rw [upd_ne n1, upd_ne n2]; exact e, ?_⟩
    simp only [List.mem_append, List.mem_singleton, not_or]
    exact ⟨n, n1⟩
theorem tMake_of {n : Nat} {A : Addr} {σ : L2.St} {H : Hp} {Q : VK} (hA : G.b.cls c = some A) (hl : ∀ ds h d h', C c "__init__" ds h = .ok d h' → ds.length = n) (q : tD G (evE C (.mk c es)) σ H Q) : tMake A (spC G n (C c "__init__")) [] E0 (tDs G (evEs C es)) σ H Q := by
  obtain ⟨av, ρ, h, σD, d, h', R, RE, e, q⟩ := q
  simp only [evE] at e
  obtain ⟨ds, h1, e1, e2⟩ := Out.thn_eq_ok e
  obtain ⟨r, h2, e3, e4⟩ := Out.thn_eq_ok e2
  split at e4
  · cases e4
    refine ⟨av, ρ, h, σD, ds, h1, R, RE, e1, fun ρ1 H1 vs S1 R1 r1 x dx hx hd ne => ?_⟩
    obtain ⟨R2, hx2, S2⟩ := RelH.mkd (G := G.at av) (c := c) R1 hA hx hd ne
    rw [List.append_nil]
    refine ⟨by rw [List.length_cons, ← r1.length]; exact hl _ _ _ _ e3, av, ρ1 ++ [x], _, .ref h1.length :: ds, .non, _, R2, .cons (.ref hx2) (r1.step S2), e3, fun ρ3 H3 v S3 R3 r3 => ⟨RD.non_inv (G := G.at av) (ρ := ρ3) (H := H3) r3, q _ _ _ ((S1.trans S2).trans S3) R3 (RD.rv (.ref (S3.pre _ _ hx2)))⟩⟩
  · cases e4
theorem pe_makeF (F : MkFit G X x c (C c "__init__")) (hg : Gl X x) (ha : PA X (e :: xs) (tDs G (evEs C es))) (hdb : (x == ("__debug__" : Str)) = false)
    (he : starEach (e :: xs) X.env = (false, eval e X.env) :: starEach xs X.env) (hpl : (backTo pos (starEach xs X.env)).any (·.1) = false) : PE X (.Call (.Name x p) (e :: xs) [] pos) (tD G (evE C (.mk c es))) := by
  obtain ⟨A, k, f, fd, ps, h1, h2, h3, h4, h5, h6, h7⟩ := F.ex
  exact PE.imp (pe_make h3 h6 h5 hg h1 h4 .nil pass0 ha hdb he hpl) fun σ H Q q => tMake_of h2 h7 q
theorem pe_makeF0 (F : MkFit G X x c (C c "__init__")) (hg : Gl X x) (hdb : (x == ("__debug__" : Str)) = false) : PE X (.Call (.Name x p) [] [] pos) (tD G (evE C (.mk c []))) := by
  obtain ⟨A, k, f, fd, ps, h1, h2, h3, h4, h5, h6, h7⟩ := F.ex
  refine PE.imp (pe_make0 h3 h6 h5 hg h1 h4 .nil pass0 hdb) fun σ H Q q => ?_
  exact tDs_nil (tMake_of h2 h7 q)
end
end Sd
namespace Sd
open PySem PySem.Spec PyProof.Rows L2
/-- o.m(..) as it is carried out -/
theorem meth_tree {o : Expr} {m : Str} {apos pos : Pos} {args : List Expr} {env : PySem.Env} (hb : attributeBase o m env (eval o env) = eval o env)
    (hf : ((backTo pos (starEach args env)).all (fun x => !x.1) && (backToKw pos (keywordEach [] env)).all (fun x => x.1.isSome) && decide (args.length + ([] : List Keyword).length + (if ([] : List Keyword).isEmpty then 0 else 1) < 30)) = true) (hl : (apos.endLine == pos.line) = true) :
    eval (.Call (.Attribute o m apos) args [] pos) env = (do
      let ov ← eval o env
      standAt apos.atName
      let (f, first) ← holding [ov] (getMethod ov m (do return (← importBound o env).getD true))
      callWith pos f first (backTo pos (starEach args env)) (backToKw pos (keywordEach [] env))) := by
  rw [arm_eval_Call, hb]
  have hform : methodCallForm (args.length + ([] : List Keyword).length) (backTo pos (starEach args env)) (backToKw pos (keywordEach [] env)) = true := hf
  have hpos : methodCallPos true o env apos pos = pure pos := by unfold methodCallPos; simp [hl]
  have hm : ∀ ov, methodCall o m apos pos env ov (args.length + ([] : List Keyword).length) (backTo pos (starEach args env)) (backToKw pos (keywordEach [] env)) = (do
      let (f, first) ← holding [ov] (getMethod ov m (do return (← importBound o env).getD true))
      callWith pos f first (backTo pos (starEach args env)) (backToKw pos (keywordEach [] env))) := fun ov => by
    unfold methodCall
    rw [hform, hpos]
    rfl
  simp only [hm]
theorem pass_stars {args : List Expr} {env : PySem.Env} {pos : Pos} (h : (backTo pos (starEach args env)).any (·.1) = false) (hl : args.length < 29) :
    ((backTo pos (starEach args env)).all (fun x => !x.1) && (backToKw pos (keywordEach [] env)).all (fun x => x.1.isSome) && decide (args.length + ([] : List Keyword).length + (if ([] : List Keyword).isEmpty then 0 else 1) < 30)) = true := by
  have h1 : (backTo pos (starEach args env)).all (fun x => !x.1) = true := by
    rw [List.all_eq_true]
    rw [List.any_eq_false] at h
    exact fun x hx => by simpa using h x hx
  rw [h1]
  have h2 : (backToKw pos (keywordEach [] env)).all (fun x => x.1.isSome) = true := rfl
  rw [h2]
  simp
  omega
end Sd

/-! PyG: walks, comprehensions. -/
namespace Sd
open PySem PySem.Spec PyProof.Rows L2

/-- as Stp, but for what is hidden -/
structure StpA (G : Gx) (ρ ρ' : List Addr) (H H' : Hp) : Prop where
  pre : ∀ (l : Nat) (a : Addr), ρ[l]? = some a → ρ'[l]? = some a
  frm : ∀ b o, H b = some o → b ∉ ρ → b ∉ G.av → H' b = some o ∧ b ∉ ρ'
section
variable {G : Gx} {ρ ρ1 ρ2 : List Addr} {H H1 H2 : Hp}
theorem Stp.a (s : Stp ρ ρ1 H H1) : StpA G ρ ρ1 H H1 := ⟨s.pre, fun b o e n _ => s.frm b o e n⟩
theorem StpA.trans (a : StpA G ρ ρ1 H H1) (b : StpA G ρ1 ρ2 H1 H2) : StpA G ρ ρ2 H H2 :=
  ⟨fun l x h => b.pre l x (a.pre l x h), fun c o h n m => let ⟨h1, n1⟩ := a.frm c o h n m; b.frm c o h1 n1 m⟩
end
/-- a walk over items: it goes through them as long as what is watched stays -/
structure WalkJ (G : Gx) (pt : Bool) (ρ0 : List Addr) (h0 : Hh) (H0 : Hp) (ws : List Nat) (xs : List D) (J : L2.It) : Prop where
  go : ∀ (i : Nat) (d : D), xs[i]? = some d → ∀ (av' ρ : List Addr) (h : Hh) (H : Hp), (∀ b ∈ av', b ∈ G.av ∨ H0 b = none) → StpA G ρ0 ρ H0 H → RelH (G.at av') ρ h H → Wat ws h0 h →
    J.go i H ∧ ∀ x H', J.yld i H x H' → Stp ρ ρ H H' ∧ RelH (G.at av') ρ h H' ∧ RI (G.at av') pt ρ H' d x
  stop : ∀ (av' ρ : List Addr) (h : Hh) (H : Hp), (∀ b ∈ av', b ∈ G.av ∨ H0 b = none) → StpA G ρ0 ρ H0 H → RelH (G.at av') ρ h H → Wat ws h0 h → J.stop xs.length H
def tI (G : Gx) (pt : Bool) (m : Env → Hh → Out (List D × List Nat)) : TI := fun σ H R => ∃ av ρ h σD xs ws h', RelH (G.at av) ρ h H ∧ RelE (G.at av) ρ H σD σ ∧ m σD h = .ok (xs, ws) h' ∧
  ∀ ρ' H' J, Stp ρ ρ' H H' → RelH (G.at av) ρ' h' H' → WalkJ (G.at av) pt ρ' h' H' ws xs J → R J H'
section
variable {G : Gx} {pt : Bool} {ρ0 ρ : List Addr} {h0 h : Hh} {H0 H : Hp} {ws : List Nat} {xs : List D} {vs : List V} {J : L2.It} {a : Addr}
/-- the items of an unchanging thing, at a later time -/
theorem items_later {av' : List Addr} (ha : ∀ b ∈ av', b ∈ G.av ∨ H0 b = none) (s : StpA G ρ0 ρ H0 H) {d : D} {v : V} (r : RD G ρ0 H0 d v) : RD (G.at av') ρ H d v :=
  r.move (G := G) (G' := G.at av') rfl s.pre fun b o e n m => ⟨(s.frm b o e n m).1, (s.frm b o e n m).2, fun hb => by
    rcases ha b hb with z | z
    · exact m z
    · rw [z] at e; cases e⟩
theorem WalkJ.tup (q : SqT G.K H0 a vs) (hq : ∀ (ρ : List Addr) (H : Hp), StpA G ρ0 ρ H0 H → SqT G.K H a vs) (rs : RDs G ρ0 H0 xs vs) : WalkJ G pt ρ0 h0 H0 [] xs (Itt G.K a) := by
  have w := walk_tup (K := G.K) (a := a) (xs := vs)
  have hl := rs.length
  refine ⟨fun i d hd av' ρ h H ha s R _ => ?_, fun av' ρ h H ha s R _ => by rw [hl]; exact w.stops H (hq ρ H s)⟩
  have hi : i < vs.length := by rw [← hl]; exact (List.getElem?_eq_some_iff.mp hd).1
  refine ⟨w.goes i H hi (hq ρ H s), fun x H' y => ?_⟩
  obtain ⟨rfl, e⟩ := w.yields i H x H' hi (hq ρ H s) y
  obtain ⟨d', e1, r⟩ := rs.get' e
  rw [hd] at e1; cases e1
  exact ⟨Stp.refl _ _, R, .inl (items_later ha s r)⟩
theorem WalkJ.lst (q : SqL G.K H0 a vs) (hq : ∀ (ρ : List Addr) (H : Hp), StpA G ρ0 ρ H0 H → SqL G.K H a vs) (rs : RDs G ρ0 H0 xs vs) : WalkJ G pt ρ0 h0 H0 [] xs (Itl G.K a) := by
  have w := walk_list (K := G.K) (a := a) (xs := vs)
  have hl := rs.length
  refine ⟨fun i d hd av' ρ h H ha s R _ => ?_, fun av' ρ h H ha s R _ => by rw [hl]; exact w.stops H (hq ρ H s)⟩
  have hi : i < vs.length := by rw [← hl]; exact (List.getElem?_eq_some_iff.mp hd).1
  refine ⟨w.goes i H hi (hq ρ H s), fun x H' y => ?_⟩
  obtain ⟨rfl, e⟩ := w.yields i H x H' hi (hq ρ H s) y
  obtain ⟨d', e1, r⟩ := rs.get' e
  rw [hd] at e1; cases e1
  exact ⟨Stp.refl _ _, R, .inl (items_later ha s r)⟩
theorem WalkJ.own {l : Nat} (e : ρ0[l]? = some a) (hl : h0[l]? = some (.lst xs)) : WalkJ G pt ρ0 h0 H0 [l] xs (Itl G.K a) := by
  have at_ : ∀ (av' ρ : List Addr) (h : Hh) (H : Hp), StpA G ρ0 ρ H0 H → RelH (G.at av') ρ h H → Wat [l] h0 h → ∃ vs, H a = some (.lst vs) ∧ RDs (G.at av') ρ H xs vs := fun av' ρ h H s R w => by
    have hw := w l (by simp)
    rw [hl] at hw
    obtain ⟨a', e', ro⟩ := R.obj l _ hw
    rw [s.pre l a e] at e'
    cases e'
    exact ro
  refine ⟨fun i d hd av' ρ h H ha s R w => ?_, fun av' ρ h H ha s R w => ?_⟩
  · obtain ⟨vs, q, rs⟩ := at_ av' ρ h H s R w
    have wk := walk_list (K := G.K) (a := a) (xs := vs)
    have hi : i < vs.length := by rw [← rs.length]; exact (List.getElem?_eq_some_iff.mp hd).1
    refine ⟨wk.goes i H hi (.inl (.inl q)), fun x H' y => ?_⟩
    obtain ⟨rfl, e⟩ := wk.yields i H x H' hi (.inl (.inl q)) y
    obtain ⟨d', e1, r⟩ := rs.get' e
    rw [hd] at e1; cases e1
    exact ⟨Stp.refl _ _, R, .inl r⟩
  · obtain ⟨vs, q, rs⟩ := at_ av' ρ h H s R w
    have wk := walk_list (K := G.K) (a := a) (xs := vs)
    rw [rs.length]
    exact wk.stops H (.inl (.inl q))
theorem WalkJ.str (s : List Nat) : WalkJ G pt ρ0 h0 H0 [] (s.map fun c => D.str [c]) (Its ⟨s.toArray⟩) := by
  have w := walk_str (z := ⟨s.toArray⟩)
  have hl : (s.map fun c => D.str [c]).length = (⟨s.toArray⟩ : Str).cps.size := by simp
  refine ⟨fun i d hd av' ρ h H ha s R _ => ?_, fun av' ρ h H ha s R _ => by rw [hl]; exact w.stops H trivial⟩
  have hi := (List.getElem?_eq_some_iff.mp hd).1
  rw [hl] at hi
  refine ⟨w.goes i H hi trivial, fun x H' y => ?_⟩
  obtain ⟨rfl, c, e, rfl⟩ := w.yields i H x H' hi trivial y
  rw [List.getElem?_map] at hd
  obtain ⟨c', e1, rfl⟩ := Option.map_eq_some_iff.mp hd
  have : c = c' := by simpa [e1] using e.symm
  subst this
  exact ⟨Stp.refl _ _, R, .inl (RD.str [c])⟩
theorem WalkJ.range (lo : Int) (n : Nat) : WalkJ G pt ρ0 h0 H0 [] ((List.range n).map fun k => D.int (lo + (k : Nat))) (Itr lo n) := by
  have w := walk_range (lo := lo) (n := n)
  have hl : ((List.range n).map fun k => D.int (lo + (k : Nat))).length = n := by simp
  refine ⟨fun i d hd av' ρ h H ha s R _ => ?_, fun av' ρ h H ha s R _ => by rw [hl]; exact w.stops H trivial⟩
  have hi := (List.getElem?_eq_some_iff.mp hd).1
  rw [hl] at hi
  refine ⟨w.goes i H hi trivial, fun x H' y => ?_⟩
  obtain ⟨rfl, rfl⟩ := w.yields i H x H' hi trivial y
  rw [List.getElem?_map, List.getElem?_range hi] at hd
  cases hd
  exact ⟨Stp.refl _ _, R, .inl (RD.int _)⟩
end

/-! ### the keys of a dict that nobody changes -/
def Itn (B : Gb) (d : Addr) (o : Obj) (es : List (NestedKey × Addr × Value)) : L2.It :=
  ⟨fun i H => H d = some (NO B d o es) ∧ i < es.length, fun i H x H' => H' = H ∧ ∃ e, es[i]? = some e ∧ x = .ref e.2.1, fun i H => H d = some (NO B d o es) ∧ es.length ≤ i⟩
theorem no_facts {B : Gb} {X : Cx} {pins : List (Addr × Obj)} {σ : L2.St} {H : Hp} {s : Shared} {d : Addr} {o : Obj} {es : List (NestedKey × Addr × Value)} (I : Inv X pins σ H s) (h : H d = some (NO B d o es)) :
    (d == sysModules) = false ∧ s.heap.get? d = some o ∧ o.ExactDict ∧ ∃ (en : Array DictEntry) (ep : Nat), o.data = .dict en ep ∧ en.size = es.length ∧ ∀ (i : Nat) (e : NestedKey × Addr × Value), es[i]? = some e → ∃ x : DictEntry, en[i]? = some x ∧ x.key = .ref e.2.1 := by
  obtain ⟨⟨h1, h2, h3, h4, en, ep, h5, h6, h7⟩, _⟩ := I.hok d _ h
  refine ⟨h1, h4, h5, en, ep, h6, size_of_entries h7, fun i e he => ?_⟩
  have q := entry_at h7 i
  rw [he] at q
  exact ⟨_, q, rfl⟩
theorem turn_n {P : Program} {w : World} {K : PySem.W.Frag} {tg : Expr} {B : Gb} {d : Addr} {o : Obj} {es : List (NestedKey × Addr × Value)} {en : Array DictEntry} {ep : Nat} (it : Addr) (hod : o.data = .dict en ep) : Turn P w K tg (Itn B d o es) [it] it (fun i h => h.IsKeyIter it d i es.length ep) where
  mem := by simp
  obj := fun i h st b hb => by
    have e : b = it := by simpa using hb
    subst e
    obtain ⟨oi, e, c, dd⟩ := st
    exact ⟨oi, e, fun v z => by rw [dd] at z; cases z⟩
  keep := fun i h h' st k => st.at fun oi e => k it (by simp) oi e
  item := by
    intro X hP hw hK hc i pins s σ H E I hf st hg
    subst hP hw hK
    obtain ⟨hd, hi⟩ := hg
    obtain ⟨f0, f1, f2, f3, f4, f5⟩ := hf it (by simp)
    obtain ⟨hs, hgd, hx, es', ep', hdt, hsz, ent⟩ := no_facts I hd
    obtain ⟨rfl, rfl⟩ := dict_ep hod hdt
    obtain ⟨e, he⟩ : ∃ p, es[i]? = some p := ⟨es[i], List.getElem?_eq_getElem hi⟩
    obtain ⟨en, hen, hkey⟩ := ent i e he
    refine next_key_item st hgd hdt hsz hen fun h' st' sb => ?_
    have I1 : Inv X pins σ H { s with heap := h' } := I.turned (t' := s.toks) (fun b ob hb e => (sb.2 b hb).trans e) f0 f1 f3 f4 f5
    obtain ⟨oi, e2, c, dd⟩ := id st'
    exact ⟨en.key, rfl, go_of (s := { s with heap := h' }) e2 c dd (by decide) ⟨.ref e.2.1, H, I1, hkey, ⟨rfl, e, he, rfl⟩, st', fun b hb => (hf b hb).1⟩⟩
  done := by
    intro X hP hw hK hc i pins s σ H E I hf st hg
    subst hP hw hK
    obtain ⟨hd, hi⟩ := hg
    obtain ⟨f0, f1, f2, f3, f4, f5⟩ := hf it (by simp)
    obtain ⟨hs, hgd, hx, es', ep', hdt, hsz, ent⟩ := no_facts I hd
    obtain ⟨rfl, rfl⟩ := dict_ep hod hdt
    exact next_key_end (I.ok.hd hc) st hgd hdt hsz hi fun h' eb => ⟨rfl, I.turned (t' := s.toks) (fun b ob hb e => eb b ob hb e) f0 f1 f3 f4 f5⟩
  self := fun A i s Q E st h => by
    refine wpAny_pyIter_slot st.typeIs F.slot_dict_keyiterator_iter (wpAny_call_entry F.slot_dict_keyiterator_iter st.typeIs F.entry_dict_keyiterator_iter ?_ (F.args_dict_keyiterator_iter_1 _))
    show wpAny _ _ (ret (.ref it)) _ _ s
    exact wpAny_pure ⟨_, rfl, "dict_keyiterator", _, st.typeIs, F.slot_dict_keyiterator_next.lookup, h⟩
def iNes (B : Gb) (td : TE) : TI := fun σ H R => td σ H fun x H1 => ∃ d o es, x = .ref d ∧ H1 d = some (NO B d o es) ∧ R (Itn B d o es) H1
theorem pi_nes {X : Cx} {tg e : Expr} {td : TE} {B : Gb} (he : PE X e td) : PI X tg e (iNes B td) := by
  refine ⟨fun pins s σ H R I h => ?_⟩
  refine thn (he.run pins s σ H _ I h) fun u s1 ⟨x, H1, I1, rx, d, o, es, ex, hd, q⟩ => ?_
  subst ex
  obtain rfl : u = Value.ref d := rx
  obtain ⟨hs, hgd, hx, en, ep, hdt, hsz, ent⟩ := no_facts I1 hd
  refine iter_keys hs hgd hx hdt (pi_one (tk := s1.toks) I1 _ (turn_n _ hdt) ⟨_, Heap.get?_push_size _ rfl, rfl, ?_⟩ q)
  rw [hsz] <;> rfl
theorem WalkJ.nes {G : Gx} {pt : Bool} {ρ0 : List Addr} {h0 : Hh} {H0 : Hp} {a : Addr} {o : Obj} {es : List (NestedKey × Addr × Value)} {ks : List D} (e0 : H0 a = some (NO G.b a o es)) (n : a ∉ ρ0) (m : a ∉ G.av) (rk : RDs G ρ0 H0 ks (es.map fun x => V.ref x.2.1)) : WalkJ G pt ρ0 h0 H0 [] ks (Itn G.b a o es) := by
  have hl := rk.length
  rw [List.length_map] at hl
  refine ⟨fun i d hd av' ρ h H ha s R _ => ?_, fun av' ρ h H ha s R _ => ⟨(s.frm a _ e0 n m).1, by rw [hl]; exact Nat.le_refl _⟩⟩
  have hi : i < es.length := by rw [← hl]; exact (List.getElem?_eq_some_iff.mp hd).1
  refine ⟨⟨(s.frm a _ e0 n m).1, hi⟩, fun x H' y => ?_⟩
  obtain ⟨rfl, e, he, rfl⟩ := y
  obtain ⟨v, hv, rv⟩ := rk.get hd
  rw [List.getElem?_map, he] at hv
  cases hv
  exact ⟨Stp.refl _ _, R, .inl (items_later ha s rv)⟩
/-! ### PI -/
section
variable {G : Gx} {C : Calls} {X : Cx} {tg e : Expr} {a b : E} {pt : Bool}
theorem SqT.later {ρ0 ρ : List Addr} {H0 H : Hp} {a : Addr} {ob : Obj} {vs : List V} (e : H0 a = some (.frz ob (.tup vs))) (n : a ∉ ρ0) (m : a ∉ G.av) (s : StpA G ρ0 ρ H0 H) : SqT G.K H a vs := .inl (.inr ⟨_, (s.frm a _ e n m).1⟩)
theorem pi_valF (hK : X.K = G.K) (ha : PE X e (tD G (evE C a))) : PI X tg e (tI G pt (evI C (.val a))) := by
  refine ⟨fun pins s σ H R I q => ?_⟩
  obtain ⟨av, ρ, h, σD, xs, ws, h', Rh, RE, ev, q⟩ := q
  simp only [evI] at ev
  obtain ⟨d, h1, e1, e2⟩ := Out.thn_eq_ok ev
  obtain ⟨e3, rfl⟩ := Out.of_eq_ok e2
  have hK' : X.K = (G.at av).K := hK
  -- the value, kept
  have go : ∀ (tq : VK), (∀ ρ1 H1 v, Stp ρ ρ1 H H1 → RelH (G.at av) ρ1 h' H1 → RD (G.at av) ρ1 H1 d.keep v → tq v H1) → tD G (evE C a) σ H tq := fun tq hq => ⟨av, ρ, h, σD, d, _, Rh, RE, e1, fun ρ1 H1 v S1 R1 r1 => hq ρ1 H1 v S1 R1 r1.keep⟩
  cases d with
  | str s =>
    cases e3
    refine (pi_str (tg := tg) ha).run pins _ σ H R I (go _ fun ρ1 H1 v S1 R1 r1 => ?_)
    have := RD.str_inv (G := G.at av) (ρ := ρ1) (H := H1) r1
    subst this
    exact ⟨_, rfl, q _ _ _ S1 R1 (WalkJ.str s)⟩
  | tup ys =>
    cases e3
    refine (pi_tup (tg := tg) ha).run pins _ σ H R I (go _ fun ρ1 H1 v S1 R1 r1 => ?_)
    cases r1 with
    | tup h2 d2 n m rs => exact ⟨_, rfl, ⟨_, .inl (.inr ⟨_, h2⟩)⟩, by rw [hK']; exact q _ _ _ S1 R1 (WalkJ.tup (.inl (.inr ⟨_, h2⟩)) (fun ρ' H' s => SqT.later h2 n m s) rs)⟩
    | tupK h2 rs =>
      obtain ⟨o, its, n, k1, k2, _, k4, k5, k6⟩ := h2
      have sq : ∀ H', SqT (G.at av).K H' _ _ := fun H' => .inr ⟨o, its, n, k1, k2, k4, k5, k6⟩
      exact ⟨_, rfl, ⟨_, by rw [hK']; exact sq H1⟩, by rw [hK']; exact q _ _ _ S1 R1 (WalkJ.tup (sq H1) (fun ρ' H' s => sq H') rs)⟩
  | ref l =>
    simp only [walkA, walkD] at e3
    split at e3
    · rename_i ys hl
      cases e3
      refine (pi_list (tg := tg) ha).run pins _ σ H R I (go _ fun ρ1 H1 v S1 R1 r1 => ?_)
      cases r1 with
      | @ref _ p h2 =>
        obtain ⟨o, e4, ro⟩ := R1.lt h2
        rw [hl] at e4; cases e4
        obtain ⟨vs, e5, rs⟩ := ro
        exact ⟨_, rfl, ⟨vs, .inl (.inl e5)⟩, by rw [hK']; exact q _ _ _ S1 R1 (WalkJ.own h2 hl)⟩
    · cases e3
  | fz ys =>
    cases e3
    refine (pi_list (tg := tg) ha).run pins _ σ H R I (go _ fun ρ1 H1 v S1 R1 r1 => ?_)
    have r1 : RD (G.at av) ρ1 H1 (.fz xs) v := r1
    cases r1 with
    | fz h2 n m rs => exact ⟨_, rfl, ⟨_, .inl h2⟩, by
        rw [hK']
        refine q _ _ _ S1 R1 (WalkJ.lst (.inl h2) (fun ρ' H' s => ?_) rs)
        rcases h2 with h2 | ⟨u, h2⟩
        · exact .inl (.inl (s.frm _ _ h2 n m).1)
        · exact .inl (.inr ⟨u, (s.frm _ _ h2 n m).1⟩)⟩
    | fzK h2 rs => exact ⟨_, rfl, ⟨_, by rw [hK']; exact .inr h2⟩, by rw [hK']; exact q _ _ _ S1 R1 (WalkJ.lst (.inr h2) (fun ρ' H' s => .inr h2) rs)⟩
  | lv ys =>
    cases e3
    refine (pi_list (tg := tg) ha).run pins _ σ H R I (go _ fun ρ1 H1 v S1 R1 r1 => ?_)
    have r1 : RD (G.at av) ρ1 H1 (.fz xs) v := r1
    cases r1 with
    | fz h2 n m rs => exact ⟨_, rfl, ⟨_, .inl h2⟩, by
        rw [hK']
        refine q _ _ _ S1 R1 (WalkJ.lst (.inl h2) (fun ρ' H' s => ?_) rs)
        rcases h2 with h2 | ⟨u, h2⟩
        · exact .inl (.inl (s.frm _ _ h2 n m).1)
        · exact .inl (.inr ⟨u, (s.frm _ _ h2 n m).1⟩)⟩
    | fzK h2 rs => exact ⟨_, rfl, ⟨_, by rw [hK']; exact .inr h2⟩, by rw [hK']; exact q _ _ _ S1 R1 (WalkJ.lst (.inr h2) (fun ρ' H' s => .inr h2) rs)⟩
  | fdn ks ys =>
    cases e3
    refine (pi_nes (B := G.b) (tg := tg) ha).run pins _ σ H R I (go _ fun ρ1 H1 v S1 R1 r1 => ?_)
    have r1 : RD (G.at av) ρ1 H1 (.fdn xs ys) v := r1
    cases r1 with
    | fdn h2 n m e rk rv rs =>
      obtain ⟨o, h2⟩ := h2
      exact ⟨_, o, _, rfl, h2, q _ _ _ S1 R1 (WalkJ.nes (G := G.at av) h2 n m rk)⟩
  | dvn ks ys =>
    cases e3
    refine (pi_nes (B := G.b) (tg := tg) ha).run pins _ σ H R I (go _ fun ρ1 H1 v S1 R1 r1 => ?_)
    have r1 : RD (G.at av) ρ1 H1 (.fdn xs ys) v := r1
    cases r1 with
    | fdn h2 n m e rk rv rs =>
      obtain ⟨o, h2⟩ := h2
      exact ⟨_, o, _, rfl, h2, q _ _ _ S1 R1 (WalkJ.nes (G := G.at av) h2 n m rk)⟩
  | _ => simp [walkA, walkD] at e3
theorem pi_rngF {p pos : Pos} (hg : Gl X "range") (hm : X.mg "range" = none) (ha : PE X e (tD G (evE C a))) (hs : starEach [e] X.env = [(false, eval e X.env)]) : PI X tg (.Call (.Name "range" p) [e] [] pos) (tI G pt (evI C (.rng a))) := by
  refine ⟨fun pins s σ H R I q => ?_⟩
  obtain ⟨av, ρ, h, σD, xs, ws, h', Rh, RE, ev, q⟩ := q
  simp only [evI] at ev
  obtain ⟨d, h1, e1, e2⟩ := Out.thn_eq_ok ev
  split at e2
  · split at e2
    · rename_i i hi
      cases e2
      refine (pi_range1 (tg := tg) hg hm (pa_cons ha pa_nil hs) hs).run pins _ σ H R I ⟨av, ρ, h, σD, _, _, Rh, RE, e1, fun ρ1 H1 v S1 R1 r1 => ?_⟩
      have := RD.int_inv (G := G.at av) (ρ := ρ1) (H := H1) r1
      subst this
      simp only [small, Bool.and_eq_true, decide_eq_true_eq] at hi
      refine ⟨i, rfl, hi.1, hi.2, q _ _ _ S1 R1 ?_⟩
      have := WalkJ.range (G := G.at av) (pt := pt) (ρ0 := ρ1) (h0 := h') (H0 := H1) 0 i.toNat
      simpa [rngD] using this
    · cases e2
  · cases e2
theorem pi_rng2F {e2 : Expr} {p pos : Pos} (hg : Gl X "range") (hm : X.mg "range" = none) (ha : PE X e (tD G (evE C a))) (hb : PE X e2 (tD G (evE C b))) (hs : starEach [e, e2] X.env = [(false, eval e X.env), (false, eval e2 X.env)]) (hs2 : starEach [e2] X.env = [(false, eval e2 X.env)]) :
    PI X tg (.Call (.Name "range" p) [e, e2] [] pos) (tI G pt (evI C (.rng2 a b))) := by
  refine ⟨fun pins s σ H R I q => ?_⟩
  obtain ⟨av, ρ, h, σD, xs, ws, h', Rh, RE, ev, q⟩ := q
  simp only [evI] at ev
  obtain ⟨d, h1, e1, e4⟩ := Out.thn_eq_ok ev
  obtain ⟨d2, h2, e3, e5⟩ := Out.thn_eq_ok e4
  split at e5
  · split at e5
    · rename_i i j hi
      cases e5
      refine (pi_range2 (tg := tg) hg hm (pa_cons ha (pa_cons hb pa_nil hs2) (by rw [hs, hs2])) hs hs2).run pins _ σ H R I ⟨av, ρ, h, σD, _, _, Rh, RE, e1, fun ρ1 H1 v S1 R1 r1 => ⟨av, ρ1, h1, σD, _, _, R1, RE.step S1, e3, fun ρ2 H2 w S2 R2 r2 => ?_⟩⟩
      have := RD.int_inv (G := G.at av) (ρ := ρ1) (H := H1) r1
      subst this
      have := RD.int_inv (G := G.at av) (ρ := ρ2) (H := H2) r2
      subst this
      simp only [small, Bool.and_eq_true, decide_eq_true_eq] at hi
      exact ⟨i, j, rfl, ⟨hi.1.1, hi.1.2, hi.2.1, hi.2.2⟩, q _ _ _ (S1.trans S2) R2 (WalkJ.range i (j - i).toNat)⟩
    · cases e5
  · cases e5
end
end Sd

/-! PyH: comprehensions. -/
namespace Sd
open PySem PySem.Spec PyProof.Rows L2

/-- as Stp, but for D -/
structure StpX (D : Addr) (ρ ρ' : List Addr) (H H' : Hp) : Prop where
  pre : ∀ (l : Nat) (a : Addr), ρ[l]? = some a → ρ'[l]? = some a
  frm : ∀ b o, b ≠ D → H b = some o → b ∉ ρ → H' b = some o ∧ b ∉ ρ'
section
variable {G : Gx} {D : Addr} {ρ ρ1 ρ2 : List Addr} {H H1 H2 : Hp} {h : Hh}
theorem StpX.refl (ρ : List Addr) (H : Hp) : StpX D ρ ρ H H := ⟨fun _ _ h => h, fun _ _ _ h n => ⟨h, n⟩⟩
theorem Stp.x (s : Stp ρ ρ1 H H1) : StpX D ρ ρ1 H H1 := ⟨s.pre, fun b o _ e n => s.frm b o e n⟩
theorem StpX.trans (a : StpX D ρ ρ1 H H1) (b : StpX D ρ1 ρ2 H1 H2) : StpX D ρ ρ2 H H2 :=
  ⟨fun l x h => b.pre l x (a.pre l x h), fun c o hc h n => let ⟨h1, n1⟩ := a.frm c o hc h n; b.frm c o hc h1 n1⟩
theorem StpX.a (hD : D ∈ G.av) (s : StpX D ρ ρ1 H H1) : StpA G ρ ρ1 H H1 := ⟨s.pre, fun b o e n m => s.frm b o (fun z => m (z ▸ hD)) e n⟩
theorem StpX.upd {o : HO} : StpX D ρ ρ H (upd H D o) := ⟨fun _ _ h => h, fun b u hb e n => ⟨by rw [upd_ne hb]; exact e, n⟩⟩
theorem RD.x (hD : D ∈ G.av) (s : StpX D ρ ρ1 H H1) {d : Sd.D} {v : V} (r : RD G ρ H d v) : RD G ρ1 H1 d v :=
  r.move (G := G) (G' := G) rfl s.pre fun b o e n m => ⟨(s.frm b o (fun z => m (z ▸ hD)) e n).1, (s.frm b o (fun z => m (z ▸ hD)) e n).2, m⟩
theorem RDs.x (hD : D ∈ G.av) (s : StpX D ρ ρ1 H H1) {d : List Sd.D} {v : List V} (r : RDs G ρ H d v) : RDs G ρ1 H1 d v :=
  r.move (G := G) (G' := G) rfl s.pre fun b o e n m => ⟨(s.frm b o (fun z => m (z ▸ hD)) e n).1, (s.frm b o (fun z => m (z ▸ hD)) e n).2, m⟩
theorem RelE.x (hD : D ∈ G.av) (s : StpX D ρ ρ1 H H1) {σD : Env} {σ : L2.St} (r : RelE G ρ H σD σ) : RelE G ρ1 H1 σD σ :=
  ⟨r.1, fun i d e => let ⟨v, q, z⟩ := r.2 i d e; ⟨v, q, z.x hD s⟩⟩
/-- what is hidden is written -/
theorem RelH.updHid {o : HO} (hD : D ∈ G.av) (R : RelH G ρ h H) : RelH G ρ h (upd H D o) := by
  refine ⟨R.len, R.nd, fun l u e => ?_, fun b hb => ?_, R.avn⟩
  · obtain ⟨a, e1, r⟩ := R.obj l u e
    have na : a ≠ D := fun z => R.avn D hD (z ▸ List.mem_of_getElem? e1)
    exact ⟨a, e1, r.move (G := G) (G' := G) rfl (fun _ _ h => h) (fun b o e n m => ⟨by rw [upd_ne (fun z => m (by rw [z]; exact hD))]; exact e, n, m⟩) fun w q => by rw [upd_ne na]; exact q⟩
  · by_cases hb2 : b = D
    · subst hb2; exact ⟨_, upd_same⟩
    · obtain ⟨u, e⟩ := R.avd b hb
      exact ⟨u, by rw [upd_ne hb2]; exact e⟩
/-- what has been gathered at D -/
def AccSt (G : Gx) (D : Addr) (ρ : List Addr) (h : Hh) (H : Hp) (acc : List Sd.D) : Prop := D ∈ G.av ∧ RelH G ρ h H ∧ ∃ vs, H D = some (.lst vs) ∧ RDs G ρ H acc vs
theorem AccSt.step {acc : List Sd.D} {h1 : Hh} (A : AccSt G D ρ h H acc) (s : Stp ρ ρ1 H H1) (R : RelH G ρ1 h1 H1) : AccSt G D ρ1 h1 H1 acc := by
  obtain ⟨hD, R0, vs, e, rs⟩ := A
  exact ⟨hD, R, vs, (s.frm D _ e (R0.avn D hD)).1, rs.step s⟩
theorem AccSt.push {acc : List Sd.D} {d : Sd.D} {v : V} (A : AccSt G D ρ h H acc) (r : RD G ρ H d v) (hl : acc.length + 1 ≤ line) :
    ∃ vs, H D = some (.lst vs) ∧ vs.length < sizeLine ∧ AccSt G D ρ h (upd H D (.lst (vs ++ [v]))) (acc ++ [d]) := by
  obtain ⟨hD, R0, vs, e, rs⟩ := A
  refine ⟨vs, e, ?_, hD, R0.updHid hD, vs ++ [v], upd_same, (rs.append (.cons r .nil)).x hD StpX.upd⟩
  rw [← rs.length, line_eq]; omega
end

/-- gathering over a walk -/
theorem acc_loop {G Gh : Gx} {pt : Bool} {ρ0 ρ1 : List Addr} {h0 h1 h5 : Hh} {H0 H1 : Hp} {ws : List Nat} {xs ys acc0 : List D} {J : L2.It} {D : Addr} {turn : Sd.D → Hh → Out (List Sd.D)}
    {B : V → Hp → (Hp → Prop) → Prop} {Fin : Hp → Prop} (WJ : WalkJ G pt ρ0 h0 H0 ws xs J) (hG : ∃ av', Gh = G.at av' ∧ ∀ b ∈ av', b ∈ G.av ∨ H0 b = none)
    (s0 : StpA G ρ0 ρ1 H0 H1) (hx : ∀ ρ H, StpX D ρ1 ρ H1 H → StpA G ρ0 ρ H0 H) (A0 : AccSt Gh D ρ1 h1 H1 acc0) (ev : compL turn (Wat ws h0) xs h1 = .ok ys h5) (hl : acc0.length + ys.length ≤ line)
    (step : ∀ d ρ h H acc zs h2, StpX D ρ1 ρ H1 H → AccSt Gh D ρ h H acc → turn d h = .ok zs h2 → acc.length + zs.length ≤ line → ∀ x, RI Gh pt ρ H d x → ∀ N : Hp → Prop,
      (∀ ρ2 H2, StpX D ρ ρ2 H H2 → AccSt Gh D ρ2 h2 H2 (acc ++ zs) → N H2) → B x H N)
    (fin : ∀ ρ H, StpX D ρ1 ρ H1 H → AccSt Gh D ρ h5 H (acc0 ++ ys) → Fin H) :
    ∃ W : Nat → Nat → Hp → Prop, (∃ m, W 0 m H1) ∧ ∀ i m H, W i m H →
      (J.stop i H ∧ Fin H) ∨ (J.go i H ∧ ∃ Nx : Hp → Prop, (∀ H', Nx H' → ∃ m', m' < m ∧ W (i + 1) m' H') ∧ ∀ x H', J.yld i H x H' → B x H' Nx) := by
  obtain ⟨av', rfl, hav⟩ := hG
  refine ⟨fun i m H => m = xs.length - i ∧ i ≤ xs.length ∧ ∃ ρ h acc zs, StpX D ρ1 ρ H1 H ∧ AccSt (G.at av') D ρ h H acc ∧ compL turn (Wat ws h0) (xs.drop i) h = .ok zs h5 ∧ acc ++ zs = acc0 ++ ys, ⟨xs.length, by simp, Nat.zero_le _, ρ1, h1, acc0, ys, StpX.refl _ _, A0, by simpa using ev, rfl⟩, ?_⟩
  rintro i m H ⟨rfl, hi, ρ, h, acc, zs, sx, A, e, ea⟩
  by_cases hlt : i < xs.length
  · right
    have hd : xs[i]? = some xs[i] := by simp [hlt]
    rw [List.drop_eq_getElem_cons hlt] at e
    unfold compL at e
    split at e
    · rename_i okh
      obtain ⟨z1, h2, e1, e2⟩ := Out.thn_eq_ok e
      obtain ⟨z2, h3, e3, e4⟩ := Out.thn_eq_ok e2
      cases e4
      obtain ⟨g1, g2⟩ := WJ.go i _ hd av' ρ h H hav (hx ρ H sx) A.2.1 okh
      refine ⟨g1, fun H' => ∃ ρ2, StpX D ρ1 ρ2 H1 H' ∧ AccSt (G.at av') D ρ2 h2 H' (acc ++ z1), fun H' hn => ?_, fun x H' hy => ?_⟩
      · obtain ⟨ρ2, s2, A2⟩ := hn
        exact ⟨xs.length - (i + 1), by omega, rfl, hlt, ρ2, h2, acc ++ z1, z2, s2, A2, e3, by rw [List.append_assoc]; exact ea⟩
      · obtain ⟨sy, Ry, ri⟩ := g2 x H' hy
        have hle : acc.length + z1.length ≤ line := by
          have := congrArg List.length ea
          simp only [List.length_append] at this
          omega
        exact step _ ρ h H' acc z1 h2 (sx.trans sy.x) (A.step sy Ry) e1 hle x ri _ fun ρ2 H2 s2 A2 => ⟨ρ2, sx.trans (sy.x.trans s2), A2⟩
    · cases e
  · left
    have he : i = xs.length := by omega
    subst he
    rw [List.drop_length] at e
    unfold compL at e
    split at e
    · rename_i okh
      cases e
      rw [List.append_nil] at ea
      subst ea
      exact ⟨WJ.stop av' ρ _ H hav (hx ρ H sx) A.2.1 okh, fin ρ H sx A⟩
    · cases e

theorem wipe_idem2 {σ : L2.St} (ws : List Nat) : ∀ us : List Nat, (∀ i ∈ us, i ∈ ws) → L2.wipe (L2.wipe σ ws) us = L2.wipe σ ws := fun us hu => by
  induction us with
  | nil => rfl
  | cons u us ih =>
    show (L2.wipe (L2.wipe σ ws) us).set u none = _
    rw [ih fun i hi => hu i (List.mem_cons_of_mem _ hi)]
    have hm := hu u List.mem_cons_self
    clear ih hu
    induction ws with
    | nil => cases hm
    | cons w ws ih =>
      show ((L2.wipe σ ws).set w none).set u none = (L2.wipe σ ws).set w none
      by_cases hw : w = u
      · subst hw; rw [List.set_set]
      · rcases List.mem_cons.mp hm with z | z
        · exact absurd z.symm hw
        · rw [List.set_comm _ _ hw, ih z]
theorem wipe_idem {σ : L2.St} {ws : List Nat} : L2.wipe (L2.wipe σ ws) ws = L2.wipe σ ws := wipe_idem2 ws ws fun _ h => h
/-- the value and the store of one item -/
theorem elt_step {G : Gx} {C : Calls} {D : Addr} {ρ : List Addr} {h h2 : Hh} {H : Hp} {acc zs : List Sd.D} {p : Pat} {d : Sd.D} {x : V} {σD : Env} {σ : L2.St} {vs : List Nat} {elt : E} {ifs : List E} {N : Hp → Prop} {av : List Addr}
    (hp : ∀ i ∈ p.ix, i ∈ vs) (A : AccSt (G.at av) D ρ h H acc) (RE : RelE (G.at av) ρ H σD σ) (ri : RI (G.at av) p.isT ρ H d x)
    (ev : (match setP p d (Sd.wipe σD vs) with
        | some σ2 => (evTs C ifs σ2 h).thn fun t h3 => if t then (evE C elt σ2 h3).thn fun y h4 => .ok [y.keep] h4 else .ok [] h3
        | none => .bad) = Out.ok zs h2) (hl : acc.length + zs.length ≤ line)
    (q : ∀ ρ2 H2, StpX D ρ ρ2 H H2 → AccSt (G.at av) D ρ2 h2 H2 (acc ++ zs) → N H2) :
    tP G p x (L2.wipe σ vs) H fun σ2 H2 => L2.wipe σ2 vs = L2.wipe σ vs ∧ tTs G (evTs C ifs) σ2 H2 fun b H3 =>
      if b = true then tD G (evE C elt) σ2 H3 fun y H4 => ∃ acc, H4 D = some (.lst acc) ∧ acc.length < sizeLine ∧ N (upd H4 D (.lst (acc ++ [y]))) else N H3 := by
  split at ev
  · rename_i σ2 hs
    obtain ⟨t, h3, e1, e2⟩ := Out.thn_eq_ok ev
    refine ⟨av, ρ, Sd.wipe σD vs, d, σ2, RE.wipe vs, ri, hs, fun σ3 R3 w3 => ⟨?_, ?_⟩⟩
    · rw [w3 vs hp, wipe_idem]
    · refine ⟨av, ρ, h, σ2, t, h3, A.2.1, R3, e1, fun ρ4 H4 S4 R4 => ?_⟩
      have A4 := A.step S4 R4
      cases t with
      | true =>
        refine iteT ?_
        obtain ⟨y, h5, e3, e4⟩ := Out.thn_eq_ok e2
        cases e4
        refine ⟨av, ρ4, h3, σ2, y, _, R4, R3.step S4, e3, fun ρ5 H5 v S5 R5 r5 => ?_⟩
        have A5 := A4.step S5 R5
        obtain ⟨ws, e5, l5, A6⟩ := A5.push r5.keep hl
        exact ⟨ws, e5, l5, q _ _ ((S4.x.trans S5.x).trans StpX.upd) A6⟩
      | false =>
        refine iteF ?_
        cases e2
        rw [List.append_nil] at q
        exact q _ _ S4.x A4
  · cases ev

section
variable {G : Gx} {C : Calls} {X : Cx} {elt tg iter : Expr} {ifs : List Expr} {scope : Scope} {own : List (Str × Nat)} {pos : Pos} {p : Pat} {it : Sd.It} {elt' : E} {ifs' : List E}
theorem tD_comp (hp : ∀ i ∈ p.ix, i ∈ own.map (·.2)) {σ : L2.St} {H : Hp} {Q : VK} (q : tD G (evE C (.comp (own.map (·.2)) elt' p it ifs')) σ H Q) :
    tLc (tI G p.isT (evI C it)) (tP G p) (tTs G (evTs C ifs')) (tD G (evE C elt')) (own.map (·.2)) σ H Q := by
  obtain ⟨av, ρ, h, σD, d, h', R, RE, e, q⟩ := q
  simp only [evE] at e
  obtain ⟨⟨xs, ws⟩, h1, e1, e2⟩ := Out.thn_eq_ok e
  obtain ⟨ys, h5, e3, e4⟩ := Out.thn_eq_ok e2
  split at e4
  · rename_i hl
    cases e4
    refine ⟨av, ρ, h, σD, xs, ws, h1, R, RE, e1, fun ρ1 H1 J S1 R1 WJ D n => ?_⟩
    have nav : D ∉ av := R1.notAv n
    have hx : ∀ ρ2 H2, StpX D ρ1 ρ2 (upd H1 D (.lst [])) H2 → StpA (G.at av) ρ1 ρ2 H1 H2 := fun ρ2 H2 s => ⟨s.pre, fun b o e n2 m => s.frm b o (ne_of_none e n) (by rw [upd_ne (ne_of_none e n)]; exact e) n2⟩
    refine acc_loop (Gh := G.at (D :: av)) (acc0 := []) WJ ⟨D :: av, rfl, fun b hb => ?_⟩ (hx _ _ (StpX.refl _ _)) hx ⟨List.mem_cons_self, R1.newHid n, [], upd_same, .nil⟩ e3 (by simpa using hl) (fun d ρ2 h2 H2 acc zs h3 s2 A2 ev hle x ri N hN => ?_) fun ρ2 H2 s2 A2 => ?_
    · rcases List.mem_cons.mp hb with rfl | hb
      · exact .inr n
      · exact .inl hb
    · refine elt_step (av := D :: av) hp A2 ?_ ri ev hle hN
      -- the names at the later time
      have RE1 := RE.step S1
      refine ⟨RE1.1, fun i d e => ?_⟩
      obtain ⟨v, e5, r⟩ := RE1.2 i d e
      refine ⟨v, e5, r.move (G := G.at av) (G' := G.at (D :: av)) rfl s2.pre fun b o eb nb mb => ?_⟩
      have hb := ne_of_none eb n
      have := s2.frm b o hb (by rw [upd_ne hb]; exact eb) nb
      exact ⟨this.1, this.2, by simp only [List.mem_cons, not_or]; exact ⟨hb, mb⟩⟩
    · obtain ⟨_, R2, vs, e5, rs⟩ := A2
      have stp : Stp ρ1 ρ2 H1 H2 := ⟨s2.pre, fun b o eb nb => s2.frm b o (ne_of_none eb n) (by rw [upd_ne (ne_of_none eb n)]; exact eb) nb⟩
      rw [List.nil_append] at rs
      refine q _ _ _ (S1.trans stp) R2.show ⟨D, vs, rfl, ?_, nav, e5, rs, R2⟩
      exact free_of_step S1 (Stp.refl _ _) n (R1.notIn n)
  · cases e4
theorem pe_compF (hc : X.calm = true) (hN : X.N.Nodup) (hp : ∀ i ∈ p.ix, i ∈ own.map (·.2)) (hi : PI X tg iter (tI G p.isT (evI C it))) (ok : BlkOk X.N X.env.scope scope own)
    (hg : ∀ (s : Shared) (H : Hp) (Ca : Addr) (cl : List (Str × Addr)) (fp : List Addr), PG (X.blk s H scope (compEnvC scope cl Ca X.env) fp) tg (tP G p))
    (ht : ∀ (s : Shared) (H : Hp) (Ca : Addr) (cl : List (Str × Addr)) (fp : List Addr), PTs (X.blk s H scope (compEnvC scope cl Ca X.env) fp) ifs (tTs G (evTs C ifs')))
    (he : ∀ (s : Shared) (H : Hp) (Ca : Addr) (cl : List (Str × Addr)) (fp : List Addr), PE (X.blk s H scope (compEnvC scope cl Ca X.env) fp) elt (tD G (evE C elt'))) (hs : ∀ x, foldedSetIterable iter X.env x = pure x) :
    PE X (.ListComp elt [⟨tg, iter, ifs, 0⟩] scope pos) (tD G (evE C (.comp (own.map (·.2)) elt' p it ifs'))) :=
  PE.imp (pe_lc hc hN hi ok hg ht he hs) fun σ H Q q => tD_comp hp q
variable {tg1 iter1 : Expr} {ifs1 : List Expr} {p1 : Pat} {it1 : Sd.It} {ifs1' : List E}
theorem tD_comp2 (hp : ∀ i ∈ p.ix, i ∈ own.map (·.2)) {σ : L2.St} {H : Hp} {Q : VK} (q : tD G (evE C (.comp2 (own.map (·.2)) elt' p it ifs' p1 it1 ifs1')) σ H Q) :
    tLc2 (tI G p.isT (evI C it)) (tP G p) (tTs G (evTs C ifs')) (tI G p1.isT (evI C it1)) (tP G p1) (tTs G (evTs C ifs1')) (tD G (evE C elt')) (own.map (·.2)) p1.ix σ H Q := by
  obtain ⟨av, ρ, h, σD, d, h', R, RE, e, q⟩ := q
  simp only [evE] at e
  obtain ⟨⟨xs, ws⟩, h1, e1, e2⟩ := Out.thn_eq_ok e
  obtain ⟨ys, h5, e3, e4⟩ := Out.thn_eq_ok e2
  split at e4
  · rename_i hl
    cases e4
    refine ⟨av, ρ, h, σD, xs, ws, h1, R, RE, e1, fun ρ1 H1 J S1 R1 WJ D n => ?_⟩
    have nav : D ∉ av := R1.notAv n
    have hx : ∀ ρ2 H2, StpX D ρ1 ρ2 (upd H1 D (.lst [])) H2 → StpA (G.at av) ρ1 ρ2 H1 H2 := fun ρ2 H2 s => ⟨s.pre, fun b o e n2 m => s.frm b o (ne_of_none e n) (by rw [upd_ne (ne_of_none e n)]; exact e) n2⟩
    refine acc_loop (Gh := G.at (D :: av)) (acc0 := []) WJ ⟨D :: av, rfl, fun b hb => ?_⟩ (hx _ _ (StpX.refl _ _)) hx ⟨List.mem_cons_self, R1.newHid n, [], upd_same, .nil⟩ e3 (by simpa using hl) (fun d ρ2 h2 H2 acc zs h3 s2 A2 ev hle x ri N hN => ?_) fun ρ2 H2 s2 A2 => ?_
    · rcases List.mem_cons.mp hb with rfl | hb
      · exact .inr n
      · exact .inl hb
    · -- the names at the later time
      have RE2 : RelE (G.at (D :: av)) ρ2 H2 σD σ := by
        have RE1 := RE.step S1
        refine ⟨RE1.1, fun i d e => ?_⟩
        obtain ⟨v, e5, r⟩ := RE1.2 i d e
        refine ⟨v, e5, r.move (G := G.at av) (G' := G.at (D :: av)) rfl s2.pre fun b o eb nb mb => ?_⟩
        have hb := ne_of_none eb n
        have := s2.frm b o hb (by rw [upd_ne hb]; exact eb) nb
        exact ⟨this.1, this.2, by simp only [List.mem_cons, not_or]; exact ⟨hb, mb⟩⟩
      split at ev
      · rename_i σ2 hs2
        obtain ⟨t, h6, e6, e7⟩ := Out.thn_eq_ok ev
        refine ⟨D :: av, ρ2, Sd.wipe σD _, d, σ2, RE2.wipe _, ri, hs2, fun σ3 R3 w3 => ⟨?_, ?_⟩⟩
        · rw [w3 _ hp, wipe_idem]
        · refine ⟨D :: av, ρ2, h2, σ2, t, h6, A2.2.1, R3, e6, fun ρ4 H4 S4 R4 => ?_⟩
          have A4 := A2.step S4 R4
          cases t with
          | true =>
            refine iteT ?_
            obtain ⟨⟨xs2, ws2⟩, h7, e8, e9⟩ := Out.thn_eq_ok e7
            refine ⟨D :: av, ρ4, h6, σ2, xs2, ws2, h7, R4, R3.step S4, e8, fun ρ5 H5 J1 S5 R5 WJ1 => ?_⟩
            have A5 := A4.step S5 R5
            refine acc_loop (Gh := G.at (D :: av)) WJ1 ⟨D :: av, rfl, fun b hb => .inl hb⟩ ⟨fun _ _ h => h, fun b o e n m => ⟨e, n⟩⟩ (fun ρ H s => s.a (G := G.at (D :: av)) List.mem_cons_self) A5 e9 hle (fun d3 ρ6 h8 H6 acc2 zs2 h9 s6 A6 ev2 hle2 x2 ri2 N2 hN2 => ?_) fun ρ6 H6 s6 A6 => ?_
            · exact elt_step (av := D :: av) (fun i hi => hi) A6 ((R3.step S4).step S5 |>.x (G := G.at (D :: av)) List.mem_cons_self s6) ri2 ev2 hle2 hN2
            · exact hN ρ6 H6 ((S4.x.trans S5.x).trans s6) A6
          | false =>
            refine iteF ?_
            cases e7
            rw [List.append_nil] at hN
            exact hN _ _ S4.x A4
      · cases ev
    · obtain ⟨_, R2, vs, e5, rs⟩ := A2
      have stp : Stp ρ1 ρ2 H1 H2 := ⟨s2.pre, fun b o eb nb => s2.frm b o (ne_of_none eb n) (by rw [upd_ne (ne_of_none eb n)]; exact eb) nb⟩
      rw [List.nil_append] at rs
      refine q _ _ _ (S1.trans stp) R2.show ⟨D, vs, rfl, ?_, nav, e5, rs, R2⟩
      exact free_of_step S1 (Stp.refl _ _) n (R1.notIn n)
  · cases e4
theorem pe_comp2F (hc : X.calm = true) (hN : X.N.Nodup) (hp : ∀ i ∈ p.ix, i ∈ own.map (·.2)) (hp1 : ∀ i ∈ p1.ix, i ∈ own.map (·.2)) (hi : PI X tg iter (tI G p.isT (evI C it))) (ok : BlkOk X.N X.env.scope scope own)
    (hg : ∀ (s : Shared) (H : Hp) (Ca : Addr) (cl : List (Str × Addr)) (fp : List Addr), PG (X.blk s H scope (compEnvC scope cl Ca X.env) fp) tg (tP G p))
    (ht : ∀ (s : Shared) (H : Hp) (Ca : Addr) (cl : List (Str × Addr)) (fp : List Addr), PTs (X.blk s H scope (compEnvC scope cl Ca X.env) fp) ifs (tTs G (evTs C ifs')))
    (hi1 : ∀ (s : Shared) (H : Hp) (Ca : Addr) (cl : List (Str × Addr)) (fp : List Addr), PI (X.blk s H scope (compEnvC scope cl Ca X.env) fp) tg1 iter1 (tI G p1.isT (evI C it1)))
    (hg1 : ∀ (s : Shared) (H : Hp) (Ca : Addr) (cl : List (Str × Addr)) (fp : List Addr), PG (X.blk s H scope (compEnvC scope cl Ca X.env) fp) tg1 (tP G p1))
    (ht1 : ∀ (s : Shared) (H : Hp) (Ca : Addr) (cl : List (Str × Addr)) (fp : List Addr), PTs (X.blk s H scope (compEnvC scope cl Ca X.env) fp) ifs1 (tTs G (evTs C ifs1')))
    (he : ∀ (s : Shared) (H : Hp) (Ca : Addr) (cl : List (Str × Addr)) (fp : List Addr), PE (X.blk s H scope (compEnvC scope cl Ca X.env) fp) elt (tD G (evE C elt'))) (hs : ∀ x, foldedSetIterable iter X.env x = pure x) (hs1 : ∀ env x, foldedSetIterable iter1 env x = pure x) :
    PE X (.ListComp elt [⟨tg, iter, ifs, 0⟩, ⟨tg1, iter1, ifs1, 0⟩] scope pos) (tD G (evE C (.comp2 (own.map (·.2)) elt' p it ifs' p1 it1 ifs1'))) :=
  PE.imp (pe_lc2 hc hN hi ok hp1 hg ht hi1 hg1 ht1 he hs hs1) fun σ H Q q => tD_comp2 hp q
end
end Sd

/-! PyG2: enumerate over a list, a tuple, a text. -/
namespace Sd
open PySem PySem.Spec PyProof.Rows L2

theorem vals_get : ∀ {xs : List V} {us : List Value} {i : Nat} {u : Value}, Vals xs us → us[i]? = some u → ∃ x, xs[i]? = some x ∧ RelV x u
  | _, _, _, _, .nil, h => by simp at h
  | _, _, 0, _, .cons r _, h => by simp at h; subst h; exact ⟨_, rfl, r⟩
  | _, _, i + 1, u, .cons _ rs, h => by
    obtain ⟨v, h1, h2⟩ := vals_get (i := i) rs (by simpa using h)
    exact ⟨v, by simpa using h1, h2⟩
/-- what an iterator is made of: it draws the values that stand in the source -/
structure Src (P : Program) (w : World) (K : PySem.W.Frag) (is : Hp → List V → Prop) (o0 : Obj) (tn : Addr → Nat → Heap → Prop) (fp : List Addr) (u : Value) : Prop where
  obj : ∀ it i h, tn it i h → ∃ o, h.get? it = some o ∧ ∀ v, o.data ≠ .cell v
  keep : ∀ it i h h', tn it i h → (∀ o, h.get? it = some o → h'.get? it = some o) → tn it i h'
  zero : ∀ it h, h.get? it = some o0 → tn it 0 h
  apart : ∀ it i h, tn it i h → ∃ o, h.get? it = some o ∧ o.cls ≠ .type "enumerate" ∧ o.cls ≠ .type "zip" ∧ o.cls ≠ .type "tuple"
  inj : ∀ (X : Cx) (pins : List (Addr × Obj)) (s : Shared) (σ : L2.St) (H : Hp) (xs ys : List V), X.prog = P → X.w = w → X.K = K → Inv X pins σ H s → is H xs → is H ys → xs = ys
  begins : ∀ (X : Cx) (pins : List (Addr × Obj)) (s : Shared) (σ : L2.St) (H : Hp) (xs : List V), X.prog = P → X.w = w → X.K = K → Inv X pins σ H s → is H xs → (∀ b ∈ fp, b < s.heap.objs.size) ∧ ∃ Hb, Begins u o0 Hb ∧ Hb s.heap
  draw : ∀ (X : Cx) (pins : List (Addr × Obj)) (s : Shared) (σ : L2.St) (H : Hp) (xs : List V) (it : Addr) (i : Nat), X.prog = P → X.w = w → X.K = K → X.calm = true → Inv X pins σ H s → is H xs → tn it i s.heap →
    ∃ (Pv : Nat → Value → Prop) (St : Nat → Heap → Prop), Draws P w X.A.in1 it (it :: fp) xs.length Pv St ∧ St i s.heap ∧ (∀ b ∈ fp, ∃ o, s.heap.get? b = some o ∧ (o.cls = .type "tuple" ∨ o.cls = .type "list")) ∧
      (∀ j h, St j h → tn it j h) ∧ ∀ j v, Pv j v → ∃ x, xs[j]? = some x ∧ RelV x v

theorem src_tup {P : Program} {w : World} {K : PySem.W.Frag} (a : Addr) : Src P w K (fun H xs => SqT K H a xs) { cls := .type "tuple_iterator", data := .fields #[.ref a, .int 0 0] } (fun it i h => h.IsTupleIter it a i) [a] (.ref a) where
  obj := fun it i h st => by
    obtain ⟨o, e, c, d⟩ := st
    exact ⟨o, e, fun v z => by rw [d] at z; cases z⟩
  keep := fun it i h h' st k => st.at k
  zero := fun it h e => ⟨_, e, rfl, rfl⟩
  apart := fun it i h st => by
    obtain ⟨o, e, c, d⟩ := st
    exact ⟨o, e, by rw [c]; decide, by rw [c]; decide, by rw [c]; decide⟩
  inj := fun X pins s σ H xs ys hP hw hK I q r => by subst hP hw hK; exact I.tuple_inj q r
  begins := fun X pins s σ H xs hP hw hK I q => by
    subst hP hw hK
    obtain ⟨its, rv, p, hz⟩ := I.tuple q
    exact ⟨fun b hb => by rw [List.mem_singleton.mp hb]; exact p.lt, _, begins_tuple a its.toArray, p⟩
  draw := fun X pins s σ H xs it i hP hw hK hc I q st => by
    subst hP hw hK
    obtain ⟨its, rv, p, hz⟩ := I.tuple q
    have p' : s.heap.IsTuple a its.toArray := p
    obtain ⟨oa, ea, ca, da⟩ := id p'
    have hne : a ≠ it := by
      rintro rfl
      obtain ⟨o, e, c, d⟩ := st
      rw [ea] at e; cases e
      rw [c] at ca; exact absurd ca (by decide)
    have D := Draws.tuple (prog := X.prog) (w := X.w) (A := X.A.in1) (I.ok.hd hc) it a hne its.toArray
    refine ⟨_, (fun i h => h.IsTupleIter it a i ∧ h.IsTuple a its.toArray), by rw [rv.length, ← List.size_toArray]; exact D, ⟨st, p'⟩, fun b hb => ?_, fun j h z => z.1, fun j v e => ?_⟩
    · have : b = a := by simpa using hb
      subst this
      exact ⟨oa, ea, .inl ca⟩
    · have e' : its[j]? = some v := by simpa using e
      obtain ⟨x, e1, r⟩ := vals_get rv e'
      exact ⟨x, e1, r⟩
theorem src_lst {P : Program} {w : World} {K : PySem.W.Frag} (a : Addr) : Src P w K (fun H xs => SqL K H a xs) { cls := .type "list_iterator", data := .fields #[.ref a, .int 0 0] } (fun it i h => h.IsListIter it a i) [a] (.ref a) where
  obj := fun it i h st => by
    obtain ⟨o, e, c, d⟩ := st
    exact ⟨o, e, fun v z => by rw [d] at z; cases z⟩
  keep := fun it i h h' st k => st.at k
  zero := fun it h e => ⟨_, e, rfl, rfl⟩
  apart := fun it i h st => by
    obtain ⟨o, e, c, d⟩ := st
    exact ⟨o, e, by rw [c]; decide, by rw [c]; decide, by rw [c]; decide⟩
  inj := fun X pins s σ H xs ys hP hw hK I q r => by subst hP hw hK; exact I.list_inj q r
  begins := fun X pins s σ H xs hP hw hK I q => by
    subst hP hw hK
    obtain ⟨its, rv, p, hz⟩ := I.list q
    exact ⟨fun b hb => by rw [List.mem_singleton.mp hb]; exact p.lt, _, begins_list a its.toArray, p.isList⟩
  draw := fun X pins s σ H xs it i hP hw hK hc I q st => by
    subst hP hw hK
    obtain ⟨its, rv, p, hz⟩ := I.list q
    have p' := p.isList
    obtain ⟨oa, ea, ca, da⟩ := id p'
    have hne : a ≠ it := by
      rintro rfl
      obtain ⟨o, e, c, d⟩ := st
      rw [ea] at e; cases e
      rw [c] at ca; exact absurd ca (by decide)
    have D := Draws.list (prog := X.prog) (w := X.w) (A := X.A.in1) (I.ok.hd hc) it a hne its.toArray
    refine ⟨_, (fun i h => h.IsListIter it a i ∧ h.IsList a its.toArray), by rw [rv.length, ← List.size_toArray]; exact D, ⟨st, p'⟩, fun b hb => ?_, fun j h z => z.1, fun j v e => ?_⟩
    · have : b = a := by simpa using hb
      subst this
      exact ⟨oa, ea, .inr ca⟩
    · have e' : its[j]? = some v := by simpa using e
      obtain ⟨x, e1, r⟩ := vals_get rv e'
      exact ⟨x, e1, r⟩
theorem src_str {P : Program} {w : World} {K : PySem.W.Frag} (x : Str) (t : Tok) : Src P w K (fun _ xs => xs = x.cps.toList.map fun c => V.str ⟨#[c]⟩) { cls := .type (strIterType x), data := .fields #[.str x t, .int 0 0] } (fun it i h => h.IsStrIter it (strIterType x) x t i) [] (.str x t) where
  obj := fun it i h st => by
    obtain ⟨o, e, c, d⟩ := st
    exact ⟨o, e, fun v z => by rw [d] at z; cases z⟩
  keep := fun it i h h' st k => let ⟨o, e, c, d⟩ := st; ⟨o, k o e, c, d⟩
  zero := fun it h e => ⟨_, e, rfl, rfl⟩
  apart := fun it i h st => by
    obtain ⟨o, e, c, d⟩ := st
    have hs : strIterType x = "str_ascii_iterator" ∨ strIterType x = "str_iterator" := by
      unfold strIterType
      split
      · exact .inl rfl
      · exact .inr rfl
    refine ⟨o, e, ?_, ?_, ?_⟩ <;> (rw [c]; rcases hs with z | z <;> (rw [z]; decide))
  inj := fun X pins s σ H xs ys hP hw hK I q r => q.trans r.symm
  begins := fun X pins s σ H xs hP hw hK I q => ⟨fun b hb => absurd hb (by simp), _, begins_text x t, trivial⟩
  draw := fun X pins s σ H xs it i hP hw hK hc I q st => by
    subst hP hw hK q
    have D := Draws.text (prog := X.prog) (w := X.w) (A := X.A.in1) (I.ok.hd hc) it x t
    refine ⟨_, _, by rw [List.length_map, Array.length_toList]; exact D, st, fun b hb => absurd hb (by simp), fun j h z => z, fun j v e => ?_⟩
    obtain ⟨c, u, e, rfl⟩ := e
    exact ⟨V.str ⟨#[c]⟩, by simp [e], ⟨u, rfl⟩⟩

/-- the items, each in a new pair with its index -/
def IteG (is : Hp → List V → Prop) : L2.It :=
  ⟨fun i H => ∃ xs, is H xs ∧ i < xs.length, fun i H v H' => ∃ T x, v = .ref T ∧ H T = none ∧ H' = upd H T (.tup [.int (i : Nat), x]) ∧ ∀ xs, is H xs → xs[i]? = some x, fun i H => ∃ xs, is H xs ∧ i = xs.length⟩
theorem turn_enuG {P : Program} {w : World} {K : PySem.W.Frag} {is : Hp → List V → Prop} {o0 : Obj} {tn : Addr → Nat → Heap → Prop} {fp : List Addr} {u : Value} (S : Src P w K is o0 tn fp u) {elts : List Expr} {kk : Nat} {tpos : Pos} (e it : Addr) :
    Turn P w K (.Tuple elts kk tpos) (IteG is) [e, it] e (fun i h => (∃ old, IsEnum h e it ((i : Nat) : Int) old) ∧ tn it i h) where
  mem := List.mem_cons_self
  obj := fun i h st b hb => by
    obtain ⟨⟨old, he⟩, h2⟩ := st
    rcases List.mem_cons.mp hb with rfl | hb
    · exact ⟨_, he, fun v q => nomatch q⟩
    · rw [List.mem_singleton.mp hb]; exact S.obj it i h h2
  keep := fun i h h' st k => ⟨⟨st.1.choose, k e List.mem_cons_self _ st.1.choose_spec⟩, S.keep it i h h' st.2 (k it (List.mem_cons_of_mem _ List.mem_cons_self))⟩
  item := by
    intro X hP hw hK hc i pins s σ H E I hf st hg
    obtain ⟨⟨old, he⟩, h2⟩ := st
    obtain ⟨xs, hq, hx⟩ := hg
    obtain ⟨Pv, St, D, hst, hfp, htn, hv⟩ := S.draw X pins s σ H xs it i hP hw hK hc I hq h2
    obtain ⟨oi, ei, ni, _, _⟩ := S.apart it i _ h2
    have hne : e ≠ it := by
      rintro rfl
      have he' : s.heap.get? e = _ := he
      rw [he'] at ei; cases ei; exact ni rfl
    have hef : e ∉ it :: fp := fun hm => by
      rcases List.mem_cons.mp hm with z | z
      · exact hne z
      · obtain ⟨o, eo, co⟩ := hfp e z
        have he' : s.heap.get? e = _ := he
        rw [he'] at eo; cases eo
        rcases co with co | co
        · have co' : Value.type "enumerate" = Value.type "tuple" := co
          exact absurd co' (by decide)
        · have co' : Value.type "enumerate" = Value.type "list" := co
          exact absurd co' (by decide)
    subst hP hw hK
    have hel : e < s.heap.objs.size := Heap.lt_size he
    have hil : it < s.heap.objs.size := Heap.lt_size ei
    refine wpAny_pyNext_enum_itemD D he hst hx hne hef fun v h' tk pv ho hst' hT hsz hk => ?_
    obtain ⟨x, hxx, rx⟩ := hv i v pv
    refine ⟨_, rfl, wpAny_letOwnedTupleGo_enum (s := { s with heap := h', toks := tk + 1 }) ho fun h'' he' sb => ?_⟩
    have hT2 : h''.get? s.heap.objs.size = some { cls := .type "tuple", data := .seq #[.int i tk, v] } := (sb.2 _ (Nat.ne_of_gt hel)).trans hT
    have new : ObjOk X.prog X.w (upd H s.heap.objs.size (.tup [.int (i : Nat), x])) h'' s.heap.objs.size (.tup [.int (i : Nat), x]) :=
      ⟨show 2 ≤ sizeLine by rw [sizeLine_eq]; decide, [.int i tk, v], .cons ⟨_, rfl⟩ (.cons rx .nil), ⟨_, hT2, rfl, _, rfl⟩⟩
    have far : ∀ b ob, b ∉ [e, it] → s.heap.get? b = some ob → h''.get? b = some ob := fun b ob hb q => by
      have n1 : b ≠ e := fun z => hb (z ▸ List.mem_cons_self)
      have n2 : b ≠ it := fun z => hb (z ▸ List.mem_cons_of_mem _ List.mem_cons_self)
      exact (sb.2 b n1).trans (hk b ob n1 n2 q)
    have I1 : Inv X pins σ (upd H s.heap.objs.size (.tup [.int (i : Nat), x])) { s with heap := h'', toks := tk + 1 } := I.turnedNew (ch := [e, it]) far hf (Nat.le_refl _) new
    refine ⟨.ref s.heap.objs.size, _, I1, rfl, ⟨_, x, rfl, I.hok.fresh (Nat.le_refl _), rfl, fun ys hy => ?_⟩, ⟨⟨v, ?_⟩, ?_⟩, fun b hb => ?_⟩
    · rw [S.inj X pins s σ H ys xs rfl rfl rfl I hy hq]; exact hxx
    · rw [show ((i + 1 : Nat) : Int) = (i : Int) + 1 by omega]; exact he'
    · exact S.keep it (i + 1) h' h'' (htn _ _ hst') fun o q => (sb.2 it (Ne.symm hne)).trans q
    · have hb' : b < s.heap.objs.size := by
        rcases List.mem_cons.mp hb with z | hb
        · rw [z]; exact hel
        · rw [List.mem_singleton.mp hb]; exact hil
      rw [upd_ne (Nat.ne_of_lt hb')]
      exact (hf b hb).1
  done := by
    intro X hP hw hK hc i pins s σ H E I hf st hg
    obtain ⟨⟨old, he⟩, h2⟩ := st
    obtain ⟨xs, hq, hx⟩ := hg
    obtain ⟨Pv, St, D, hst, hfp, htn, hv⟩ := S.draw X pins s σ H xs it i hP hw hK hc I hq h2
    obtain ⟨g0, g1, g2, g3, g4, g5⟩ := hf it (List.mem_cons_of_mem _ List.mem_cons_self)
    subst hP hw hK hx
    exact wpAny_pyNext_enum_endD D he hst fun h' eb => ⟨rfl, I.turned (t' := s.toks) (fun b o hb q => eb b o hb q) g0 g1 g3 g4 g5⟩
  self := fun A i s Q E st h => wpAny_pyIter_enum st.1.choose_spec h

/-- the items as they stand at a later time -/
def AtJ (G : Gx) (ρ0 : List Addr) (h0 : Hh) (H0 : Hp) (ws : List Nat) (xs : List D) (is : Hp → List V → Prop) : Prop :=
  ∀ (av' ρ : List Addr) (h : Hh) (H : Hp), (∀ b ∈ av', b ∈ G.av ∨ H0 b = none) → StpA G ρ0 ρ H0 H → RelH (G.at av') ρ h H → Wat ws h0 h → ∃ vs, is H vs ∧ RDs (G.at av') ρ H xs vs
section
variable {G : Gx} {ρ0 ρ : List Addr} {h0 h : Hh} {H0 H : Hp} {ws : List Nat} {xs : List D} {P : Program} {w : World}
theorem itemss_later {av' : List Addr} (ha : ∀ b ∈ av', b ∈ G.av ∨ H0 b = none) (s : StpA G ρ0 ρ H0 H) {d : List D} {v : List V} (r : RDs G ρ0 H0 d v) : RDs (G.at av') ρ H d v :=
  r.move (G := G) (G' := G.at av') rfl s.pre fun b o e n m => ⟨(s.frm b o e n m).1, (s.frm b o e n m).2, fun hb => by
    rcases ha b hb with z | z
    · exact m z
    · rw [z] at e; cases e⟩
theorem signs_rds {av' : List Addr} (s : List Nat) : RDs (G.at av') ρ H (s.map fun c => D.str [c]) (s.map fun c => V.str ⟨#[c]⟩) := by
  induction s with
  | nil => exact .nil
  | cons c s ih => exact .cons (RD.str [c]) ih
theorem src_of {d : D} {v : V} {u : Value} (R : RelH G ρ0 h0 H0) (r : RD G ρ0 H0 d v) (e : walkD h0 d = some (xs, ws)) (rv : RelV v u) :
    ∃ (is : Hp → List V → Prop) (o0 : Obj) (tn : Addr → Nat → Heap → Prop) (fp : List Addr), Src P w G.K is o0 tn fp u ∧ AtJ G ρ0 h0 H0 ws xs is := by
  cases r with
  | str s =>
    cases e
    obtain ⟨t, rfl⟩ := rv
    exact ⟨_, _, _, _, src_str ⟨s.toArray⟩ t, fun av' ρ h H ha st R' _ => ⟨_, rfl, by simpa using signs_rds s⟩⟩
  | tup h2 d2 n m rs =>
    cases e
    obtain rfl : u = Value.ref _ := rv
    exact ⟨_, _, _, _, src_tup _, fun av' ρ h H ha st R' _ => ⟨_, SqT.later h2 n m st, itemss_later ha st rs⟩⟩
  | tupK h2 rs =>
    cases e
    obtain rfl : u = Value.ref _ := rv
    obtain ⟨o, its, n, k1, k2, _, k4, k5, k6⟩ := h2
    exact ⟨_, _, _, _, src_tup _, fun av' ρ h H ha st R' _ => ⟨_, .inr ⟨o, its, n, k1, k2, k4, k5, k6⟩, itemss_later ha st rs⟩⟩
  | fz h2 n m rs =>
    cases e
    obtain rfl : u = Value.ref _ := rv
    refine ⟨_, _, _, _, src_lst _, fun av' ρ h H ha st R' _ => ⟨_, ?_, itemss_later ha st rs⟩⟩
    rcases h2 with h2 | ⟨u, h2⟩
    · exact .inl (.inl (st.frm _ _ h2 n m).1)
    · exact .inl (.inr ⟨u, (st.frm _ _ h2 n m).1⟩)
  | fzK h2 rs =>
    cases e
    obtain rfl : u = Value.ref _ := rv
    exact ⟨_, _, _, _, src_lst _, fun av' ρ h H ha st R' _ => ⟨_, .inr h2, itemss_later ha st rs⟩⟩
  | @ref l a h2 =>
    simp only [walkD] at e
    split at e
    · rename_i ys hl
      cases e
      obtain rfl : u = Value.ref _ := rv
      refine ⟨_, _, _, _, src_lst _, fun av' ρ h H ha st R' w => ?_⟩
      have hw := w l (by simp)
      rw [hl] at hw
      obtain ⟨a', e', ro⟩ := R'.obj l _ hw
      rw [st.pre l _ h2] at e'
      cases e'
      obtain ⟨vs, q, rs⟩ := ro
      exact ⟨vs, .inl (.inl q), rs⟩
    · cases e
  | _ => cases e
theorem walkD_keep (h : Hh) (d : D) : walkD h d.keep = walkD h d := by cases d <;> rfl
theorem enuD_get : ∀ {xs : List D} {k i : Nat} {d : D}, (enuD k xs)[i]? = some d → ∃ x, xs[i]? = some x ∧ d = .tup [.int ((k + i : Nat) : Int), x]
  | [], _, _, _, h => by simp [enuD] at h
  | x :: xs, k, 0, d, h => by simp [enuD] at h; exact ⟨x, rfl, by rw [← h]; simp⟩
  | x :: xs, k, i + 1, d, h => by
    simp only [enuD, List.getElem?_cons_succ] at h
    obtain ⟨y, h1, rfl⟩ := enuD_get h
    exact ⟨y, by simpa using h1, by rw [show k + 1 + i = k + (i + 1) by omega]⟩
theorem enuD_len : ∀ {xs : List D} {k : Nat}, (enuD k xs).length = xs.length
  | [], _ => rfl
  | x :: xs, k => by simp only [enuD, List.length_cons, enuD_len]
theorem pair_ri {av' : List Addr} {p : Addr} {x y : D} {v z : V} (R : RelH (G.at av') ρ h H) (n : H p = none) (rx : RD (G.at av') ρ H x v) (ry : RD (G.at av') ρ H y z) :
    Stp ρ ρ H (upd H p (.tup [v, z])) ∧ RelH (G.at av') ρ h (upd H p (.tup [v, z])) ∧ RI (G.at av') true ρ (upd H p (.tup [v, z])) (.tup [x, y]) (.ref p) := by
  have nw : ∀ {d : D} {v' : V}, RD (G.at av') ρ H d v' → RD (G.at av') ρ (upd H p (.tup [v, z])) d v' := fun r => (RD.new (G := G.at av') n r).show
  exact ⟨Stp.new n, R.new n, .inr ⟨rfl, p, _, _, rfl, rfl, .inl (.inl upd_same), .cons (nw rx) (.cons (nw ry) .nil)⟩⟩
theorem WalkJ.enuG {is : Hp → List V → Prop} (A : AtJ G ρ0 h0 H0 ws xs is) : WalkJ G true ρ0 h0 H0 ws (enuD 0 xs) (IteG is) := by
  refine ⟨fun i d hd av' ρ h H ha s R w => ?_, fun av' ρ h H ha s R w => ?_⟩
  · obtain ⟨vs, q, rs⟩ := A av' ρ h H ha s R w
    obtain ⟨x, hx, rfl⟩ := enuD_get hd
    obtain ⟨v, hv, rx⟩ := rs.get hx
    refine ⟨⟨vs, q, (List.getElem?_eq_some_iff.mp hv).1⟩, fun y H' yl => ?_⟩
    obtain ⟨T, x', rfl, n, rfl, e⟩ := yl
    have e' := e vs q
    rw [hv] at e'; cases e'
    rw [show ((0 + i : Nat) : Int) = (i : Int) by simp]
    exact pair_ri R n (RD.int _) rx
  · obtain ⟨vs, q, rs⟩ := A av' ρ h H ha s R w
    exact ⟨vs, q, by rw [enuD_len]; exact rs.length⟩
end
end Sd

/-! PyG3: enumerate as it begins. -/
namespace Sd
open PySem PySem.Spec PyProof.Rows L2

theorem enum_new1 {v : Value} {o : Obj} {H : Heap → Prop} (B : Begins v o H) :
    Meets (Builtin.«enumerate.__new__» ⟨[.type "enumerate", v], []⟩) (fun _ R s => H s.heap ∧ R (.ok (.ret (.ref (s.heap.push o).objs.size)))
      { s with heap := (s.heap.push o).push { cls := .type "enumerate", data := .fields #[.none, .bool false, .ref s.heap.objs.size, rawInt 0, .none, .none] } }) :=
  .of_wp fun prog w A R s hh => by
    obtain ⟨hp, g, d, tk, os⟩ := s
    obtain ⟨hb, h⟩ := hh
    have hsub := sub_enumerate
    have it1 : ∀ {A' : Around} {E : Value → Shared → Prop} {Q : Value → Shared → Prop}, Q (.ref hp.objs.size) ⟨hp.push o, g, d, tk, os⟩ → wpAny (model prog w) A' (pyIter v) Q E ⟨hp, g, d, tk, os⟩ := fun q => B.iter prog w _ _ _ _ hb q
    wp_walk using it1
    refine wpAny_stack_any fun st => wpAny_pure ?_
    split
    · rename_i c _ _ _ _ _
      cases (c == Value.type "enumerate") <;> (wp_walk using it1; exact ⟨_, rfl, h⟩)
    · wp_walk using it1
      exact ⟨_, rfl, h⟩
theorem enum_begins1 {prog : Program} {w : World} {A : Around} {E : Value → Shared → Prop} {s : Shared} {v : Value} {o : Obj} {H : Heap → Prop} {Q : Value → Shared → Prop} (B : Begins v o H) (hb : H s.heap)
    (h : ∀ h', IsEnum h' (s.heap.objs.size + 1) s.heap.objs.size ((0 : Nat) : Int) .none → h'.get? s.heap.objs.size = some o → (∀ b o, s.heap.get? b = some o → h'.get? b = some o) → Q (.ref (s.heap.objs.size + 1)) { s with heap := h' }) :
    wpAny (model prog w) A (call (.type "enumerate") [v]) Q E s := by
  refine callType_new F.called_enumerate (by decide) (F.typeCall_enumerate_1 _) (F.newCall_enumerate_1 _) (fun obj => F.args_object_init_2 obj _) F.entry_enumerate_new (enum_new1 B) ⟨hb, ?_⟩
  have hz : (s.heap.push o).objs.size = s.heap.objs.size + 1 := Heap.size_push ..
  show _ ∧ _
  rw [hz]
  have g1 := Heap.get?_push_size (s.heap.push o) (o := { cls := .type "enumerate", data := .fields #[.none, .bool false, .ref s.heap.objs.size, rawInt 0, .none, .none] }) rfl
  rw [hz] at g1
  exact ⟨⟨_, g1, rfl⟩, h _ g1 (Heap.get?_push_of_some _ (Heap.get?_push_size _ B.free)) fun b ob q => Heap.get?_push_of_some _ (Heap.get?_push_of_some _ q)⟩

section
variable {G : Gx} {C : Calls} {X : Cx} {e : Expr} {a : E}
theorem pi_enuF (hK : X.K = G.K) {p pos tpos : Pos} {elts : List Expr} {kk : Nat} (hg : Gl X "enumerate") (hm : X.mg "enumerate" = none) (ha : PE X e (tD G (evE C a))) (hs : starEach [e] X.env = [(false, eval e X.env)]) :
    PI X (.Tuple elts kk tpos) (.Call (.Name "enumerate" p) [e] [] pos) (tI G true (evI C (.enu a))) := by
  refine ⟨fun pins s σ H R I q => ?_⟩
  obtain ⟨av, ρ, h, σD, xs, ws, h', Rh, RE, ev, q⟩ := q
  simp only [evI] at ev
  obtain ⟨d, h1, e1, e2⟩ := Out.thn_eq_ok ev
  split at e2
  · rename_i ys ws' hw
    cases e2
    have hK' : X.K = (G.at av).K := hK
    refine Call_ (ld_blt I hg hm boot_enumerate (PyProof.Rows.callWith_type1 (thn ((pa_cons ha pa_nil hs).run pos pins s σ H (fun vs H1 => ∃ v ρ1, vs = [v] ∧ Stp ρ ρ1 H H1 ∧ RelH (G.at av) ρ1 h' H1 ∧ RD (G.at av) ρ1 H1 d.keep v) I
      ⟨av, ρ, h, σD, d, _, Rh, RE, e1, fun ρ1 H1 v S1 R1 r1 => ⟨v, ρ1, rfl, S1, R1, r1.keep⟩⟩) fun us s1 ⟨vs, H1, I1, r1, v, ρ1, ev1, S1, R1, rd⟩ => ?_) hs rfl))
    subst ev1
    cases r1 with
    | cons r rr =>
      cases rr
      obtain ⟨is, o0, tn, fp, S, A⟩ := src_of (P := X.prog) (w := X.w) R1 rd (by rw [walkD_keep]; exact hw) r
      obtain ⟨vs, hvs, _⟩ := A av ρ1 h' H1 (fun b hb => .inl hb) ⟨fun _ _ z => z, fun b o z n _ => ⟨z, n⟩⟩ R1 (fun _ _ => rfl)
      obtain ⟨_, Hb, B, hb⟩ := S.begins X pins s1 σ H1 vs rfl rfl hK' I1 hvs
      refine enum_begins1 B hb fun h'' he hit hk => wpAny_pyIter_enum he ?_
      have I2 : Inv X pins σ H1 { s1 with heap := h'' } := I1.kept (t' := s1.toks) hk
      rw [← hK'] at S
      refine ⟨s1.heap.objs.size + 1, [s1.heap.objs.size + 1, s1.heap.objs.size], _, _, H1, rfl, I2, turn_enuG S (s1.heap.objs.size + 1) s1.heap.objs.size, ⟨⟨.none, he⟩, S.zero _ _ hit⟩, fun b hb => ?_, q ρ1 H1 _ S1 R1 (WalkJ.enuG A)⟩
      have hle : s1.heap.objs.size ≤ b := by
        rcases List.mem_cons.mp hb with z | hb
        · rw [z]; exact Nat.le_add_right _ _
        · rw [List.mem_singleton.mp hb]; exact Nat.le_refl _
      exact I1.fpOk hle (I1.hok.fresh hle)
  · cases e2
end
end Sd

/-! PyG4: a list of ours is written; pop. -/
namespace Sd
open PySem PySem.Spec PyProof.Rows L2

section
variable {G : Gx} {C : Calls} {X : Cx} {D : Ends} {σ : L2.St} {H : Hp}
theorem RelH.lst {ρ : List Addr} {h : Hh} {l : Nat} {v : V} {xs : List Sd.D} (R : RelH G ρ h H) (r : RD G ρ H (.ref l) v) (hl : h[l]? = some (.lst xs)) : ∃ p vs, v = .ref p ∧ ρ[l]? = some p ∧ H p = some (.lst vs) ∧ RDs G ρ H xs vs := by
  cases r with
  | @ref _ p hp =>
    obtain ⟨ob, eo, ro⟩ := R.lt hp
    rw [hl] at eo; cases eo
    obtain ⟨vs, ev, rs⟩ := ro
    exact ⟨p, vs, rfl, hp, ev, rs⟩
/-- a list of ours is written -/
theorem lst_put {ρ : List Addr} {h : Hh} {l : Nat} {p : Addr} {xs : List Sd.D} {vs : List V} (R : RelH G ρ h H) (hp : ρ[l]? = some p) (rs : RDs G ρ H xs vs) : Stp ρ ρ H (upd H p (.lst vs)) ∧ RelH G ρ (h.set l (.lst xs)) (upd H p (.lst vs)) := by
  have S4 : Stp ρ ρ H (upd H p (.lst vs)) := Stp.write (List.mem_of_getElem? hp)
  exact ⟨S4, R.write hp ⟨_, upd_same, rs.step S4⟩⟩
theorem tD_pop {a : E} {Q : VK} (hK : X.K = G.K) (q : tD G (evE C (.pop a)) σ H Q) : tBM0 X.K "list" rPop (tD G (evE C a)) σ H Q := by
  obtain ⟨av, ρ, h, σD, d, h', R, RE, e, q⟩ := q
  simp only [evE] at e
  obtain ⟨y, h1, e1, e2⟩ := Out.thn_eq_ok e
  split at e2
  · rename_i l
    split at e2
    · rename_i xs hl
      split at e2
      · rename_i z hz
        cases e2
        refine ⟨av, ρ, h, σD, _, h1, R, RE, e1, fun ρ1 H1 v S1 R1 r1 => ?_⟩
        have r1' : RD (G.at av) ρ1 H1 (.ref l) v := r1
        obtain ⟨p, vs, rfl, hp, ev, rs⟩ := R1.lst r1' hl
        rw [List.getLast?_eq_getElem?] at hz
        obtain ⟨w, hw, rw'⟩ := rs.get hz
        have rd : RDs (G.at av) ρ1 H1 xs.dropLast vs.dropLast := by
          rw [List.dropLast_eq_take, List.dropLast_eq_take, rs.length]; exact rs.take _
        obtain ⟨S3, R3⟩ := lst_put R1 hp rd
        refine ⟨.inl ⟨rfl, vs, .inl (.inl ev)⟩, p, vs, w, rfl, rfl, ev, by rw [← rs.length]; exact hw, q _ _ _ (S1.trans S3) R3 (rw'.step S3).rv⟩
      · cases e2
    · cases e2
  · cases e2
end
end Sd

/-! PyG5: zip of two. -/
namespace Sd
open PySem PySem.Spec PyProof.Rows L2

/-- the items of both, each two in a new pair -/
def IteZ (is1 is2 : Hp → List V → Prop) : L2.It :=
  ⟨fun i H => ∃ xs ys, is1 H xs ∧ is2 H ys ∧ i < xs.length ∧ i < ys.length,
    fun i H v H' => ∃ T x y, v = .ref T ∧ H T = none ∧ H' = upd H T (.tup [x, y]) ∧ (∀ xs, is1 H xs → xs[i]? = some x) ∧ ∀ ys, is2 H ys → ys[i]? = some y,
    fun i H => ∃ xs ys, is1 H xs ∧ is2 H ys ∧ i ≤ xs.length ∧ i ≤ ys.length ∧ (i = xs.length ∨ i = ys.length)⟩
theorem turn_zipG {P : Program} {w : World} {K : PySem.W.Frag} {is1 is2 : Hp → List V → Prop} {o1 o2 : Obj} {tn1 tn2 : Addr → Nat → Heap → Prop} {fp1 fp2 : List Addr} {u1 u2 : Value} (S1 : Src P w K is1 o1 tn1 fp1 u1) (S2 : Src P w K is2 o2 tn2 fp2 u2)
    {elts : List Expr} {kk : Nat} {tpos : Pos} {z TI TO i1 i2 : Addr} (Z : ZipSep2 z TI TO i1 i2 (i1 :: fp1) (i2 :: fp2)) :
    Turn P w K (.Tuple elts kk tpos) (IteZ is1 is2) [z, TI, TO, i1, i2] z (fun i h => IsZip h z TI TO .none ∧ IsTupOf2 h TI (.ref i1) (.ref i2) ∧ (∃ x y, IsTupOf2 h TO x y) ∧ tn1 i1 i h ∧ tn2 i2 i h) where
  mem := List.mem_cons_self
  obj := fun i h st c hc => by
    obtain ⟨hz, hTI, ⟨x, y, hTO⟩, h1, h2⟩ := st
    simp only [List.mem_cons, List.not_mem_nil, or_false] at hc
    rcases hc with rfl | rfl | rfl | rfl | rfl
    · exact ⟨_, hz, fun v q => nomatch q⟩
    · exact ⟨_, hTI, fun v q => nomatch q⟩
    · exact ⟨_, hTO, fun v q => nomatch q⟩
    · exact S1.obj _ i h h1
    · exact S2.obj _ i h h2
  keep := fun i h h' st k => by
    obtain ⟨hz, hTI, ⟨x, y, hTO⟩, h1, h2⟩ := st
    exact ⟨k z (by simp) _ hz, k TI (by simp) _ hTI, ⟨x, y, k TO (by simp) _ hTO⟩, S1.keep _ i h h' h1 (k i1 (by simp)), S2.keep _ i h h' h2 (k i2 (by simp))⟩
  item := by
    intro X hP hw hK hc i pins s σ H E I hf st hg
    obtain ⟨hz, hTI, ⟨x0, y0, hTO⟩, h1, h2⟩ := st
    obtain ⟨xs, ys, hqx, hqy, hx, hy⟩ := hg
    obtain ⟨Pv1, St1, D1, st1, hfp1, htn1, hv1⟩ := S1.draw X pins s σ H xs i1 i hP hw hK hc I hqx h1
    obtain ⟨Pv2, St2, D2, st2, hfp2, htn2, hv2⟩ := S2.draw X pins s σ H ys i2 i hP hw hK hc I hqy h2
    obtain ⟨oi1, ei1, _⟩ := S1.apart i1 i _ h1
    obtain ⟨oi2, ei2, _⟩ := S2.apart i2 i _ h2
    subst hP hw hK
    have hzl : z < s.heap.objs.size := Heap.lt_size hz
    refine wpAny_pyNext_zipD2_item Z D1 D2 hz hTI hTO st1 st2 hx hy fun v1 v2 h' tk p1 p2 z' TO' st1' st2' hT hsz hk => ?_
    obtain ⟨x, hxx, rx⟩ := hv1 i v1 p1
    obtain ⟨y, hyy, ry⟩ := hv2 i v2 p2
    refine ⟨_, rfl, wpAny_letOwnedTupleGo_zip (s := { s with heap := h', toks := tk }) z' fun h'' z'' sb => ?_⟩
    have hT2 : h''.get? s.heap.objs.size = some { cls := .type "tuple", data := .seq #[v1, v2] } := (sb.2 _ (Nat.ne_of_gt hzl)).trans hT
    have new : ObjOk X.prog X.w (upd H s.heap.objs.size (.tup [x, y])) h'' s.heap.objs.size (.tup [x, y]) :=
      ⟨show 2 ≤ sizeLine by rw [sizeLine_eq]; decide, [v1, v2], .cons rx (.cons ry .nil), ⟨_, hT2, rfl, _, rfl⟩⟩
    have far : ∀ b ob, b ∉ [z, TI, TO, i1, i2] → s.heap.get? b = some ob → h''.get? b = some ob := fun b ob hb q => by
      simp only [List.mem_cons, List.not_mem_nil, or_false, not_or] at hb
      exact (sb.2 b hb.1).trans (hk b ob hb.1 hb.2.2.1 hb.2.2.2.1 hb.2.2.2.2 q)
    have I1 : Inv X pins σ (upd H s.heap.objs.size (.tup [x, y])) { s with heap := h'', toks := tk } := I.turnedNew (ch := [z, TI, TO, i1, i2]) far hf (Nat.le_refl _) new
    refine ⟨.ref s.heap.objs.size, _, I1, rfl, ⟨_, x, y, rfl, I.hok.fresh (Nat.le_refl _), rfl, fun l hl => ?_, fun l hl => ?_⟩, ⟨z'', ?_, ⟨v1, v2, ?_⟩, ?_, ?_⟩, fun c hcm => ?_⟩
    · rw [S1.inj X pins s σ H l xs rfl rfl rfl I hl hqx]; exact hxx
    · rw [S2.inj X pins s σ H l ys rfl rfl rfl I hl hqy]; exact hyy
    · exact (sb.2 _ Z.TIz).trans (hk _ _ Z.TIz Z.TITO Z.TIi1 Z.TIi2 hTI)
    · exact (sb.2 _ Z.TOz).trans TO'
    · exact S1.keep _ (i + 1) h' h'' (htn1 _ _ st1') fun o q => (sb.2 _ (fun e => Z.zf1 (by rw [← e]; exact List.mem_cons_self))).trans q
    · exact S2.keep _ (i + 1) h' h'' (htn2 _ _ st2') fun o q => (sb.2 _ (fun e => Z.zf2 (by rw [← e]; exact List.mem_cons_self))).trans q
    · have hlt : c < s.heap.objs.size := by
        simp only [List.mem_cons, List.not_mem_nil, or_false] at hcm
        rcases hcm with rfl | rfl | rfl | rfl | rfl
        · exact hzl
        · exact Heap.lt_size hTI
        · exact Heap.lt_size hTO
        · exact Heap.lt_size ei1
        · exact Heap.lt_size ei2
      rw [upd_ne (Nat.ne_of_lt hlt)]
      exact (hf c hcm).1
  done := by
    intro X hP hw hK hc i pins s σ H E I hf st hg
    obtain ⟨hz, hTI, ⟨x0, y0, hTO⟩, h1, h2⟩ := st
    obtain ⟨xs, ys, hqx, hqy, hx, hy, he⟩ := hg
    obtain ⟨Pv1, St1, D1, st1, hfp1, htn1, hv1⟩ := S1.draw X pins s σ H xs i1 i hP hw hK hc I hqx h1
    obtain ⟨Pv2, St2, D2, st2, hfp2, htn2, hv2⟩ := S2.draw X pins s σ H ys i2 i hP hw hK hc I hqy h2
    subst hP hw hK
    refine wpAny_pyNext_zipD2_end Z D1 D2 hz hTI hTO st1 st2 hx hy he fun h' tk hk => ⟨rfl, I.turnedL (t' := tk) (ch := [z, TI, TO, i1, i2]) (fun b ob hb q => ?_) hf⟩
    simp only [List.mem_cons, List.not_mem_nil, or_false, not_or] at hb
    exact hk b ob hb.1 hb.2.2.1 hb.2.2.2.1 hb.2.2.2.2 q
  self := fun A i s Q E st h => wpAny_pyIter_zip st.1 h
theorem zipD_get : ∀ {xs ys : List D} {i : Nat} {d : D}, (zipD xs ys)[i]? = some d → ∃ x y, xs[i]? = some x ∧ ys[i]? = some y ∧ d = .tup [x, y]
  | [], _, _, _, h => by simp [zipD] at h
  | _ :: _, [], _, _, h => by simp [zipD] at h
  | x :: xs, y :: ys, 0, d, h => by simp [zipD] at h; exact ⟨x, y, rfl, rfl, h.symm⟩
  | x :: xs, y :: ys, i + 1, d, h => by
    simp only [zipD, List.getElem?_cons_succ] at h
    obtain ⟨a, b, h1, h2, rfl⟩ := zipD_get h
    exact ⟨a, b, by simpa using h1, by simpa using h2, rfl⟩
theorem zipD_len : ∀ {xs ys : List D}, (zipD xs ys).length = min xs.length ys.length
  | [], _ => by simp [zipD]
  | _ :: _, [] => by simp [zipD]
  | x :: xs, y :: ys => by simp only [zipD, List.length_cons, zipD_len]; omega
theorem WalkJ.zipG {G : Gx} {ρ0 : List Addr} {h0 : Hh} {H0 : Hp} {ws vs : List Nat} {xs ys : List D} {is1 is2 : Hp → List V → Prop} (A1 : AtJ G ρ0 h0 H0 ws xs is1) (A2 : AtJ G ρ0 h0 H0 vs ys is2) : WalkJ G true ρ0 h0 H0 (ws ++ vs) (zipD xs ys) (IteZ is1 is2) := by
  have w1 : ∀ {h : Hh}, Wat (ws ++ vs) h0 h → Wat ws h0 h := fun w l hl => w l (List.mem_append_left _ hl)
  have w2 : ∀ {h : Hh}, Wat (ws ++ vs) h0 h → Wat vs h0 h := fun w l hl => w l (List.mem_append_right _ hl)
  refine ⟨fun i d hd av' ρ h H ha s R w => ?_, fun av' ρ h H ha s R w => ?_⟩
  · obtain ⟨as, qa, ra⟩ := A1 av' ρ h H ha s R (w1 w)
    obtain ⟨bs, qb, rb⟩ := A2 av' ρ h H ha s R (w2 w)
    obtain ⟨x, y, hx, hy, rfl⟩ := zipD_get hd
    obtain ⟨v, hv, rx⟩ := ra.get hx
    obtain ⟨z, hz, ry⟩ := rb.get hy
    refine ⟨⟨as, bs, qa, qb, (List.getElem?_eq_some_iff.mp hv).1, (List.getElem?_eq_some_iff.mp hz).1⟩, fun y' H' yl => ?_⟩
    obtain ⟨T, x', y', rfl, n, rfl, e1, e2⟩ := yl
    have e1' := e1 as qa
    rw [hv] at e1'; cases e1'
    have e2' := e2 bs qb
    rw [hz] at e2'; cases e2'
    exact pair_ri R n rx ry
  · obtain ⟨as, qa, ra⟩ := A1 av' ρ h H ha s R (w1 w)
    obtain ⟨bs, qb, rb⟩ := A2 av' ρ h H ha s R (w2 w)
    have l1 := ra.length
    have l2 := rb.length
    exact ⟨as, bs, qa, qb, by rw [zipD_len]; omega, by rw [zipD_len]; omega, by rw [zipD_len]; omega⟩
section
variable {G : Gx} {C : Calls} {X : Cx} {e e2 : Expr} {a b : E}
theorem pi_zipF (hK : X.K = G.K) {p pos tpos : Pos} {elts : List Expr} {kk : Nat} (hg : Gl X "zip") (hm : X.mg "zip" = none) (ha : PE X e (tD G (evE C a))) (hb : PE X e2 (tD G (evE C b)))
    (hs : starEach [e, e2] X.env = (false, eval e X.env) :: starEach [e2] X.env) (hs2 : starEach [e2] X.env = [(false, eval e2 X.env)]) :
    PI X (.Tuple elts kk tpos) (.Call (.Name "zip" p) [e, e2] [] pos) (tI G true (evI C (.zip a b))) := by
  refine ⟨fun pins s σ H R I q => ?_⟩
  obtain ⟨av, ρ, h, σD, zs, ws, h', Rh, RE, ev, q⟩ := q
  simp only [evI] at ev
  obtain ⟨x, h1, e1, e4⟩ := Out.thn_eq_ok ev
  obtain ⟨y, h2, e3, e5⟩ := Out.thn_eq_ok e4
  split at e5
  · rename_i xs ws1 ys ws2 hw1 hw2
    cases e5
    have hK' : X.K = (G.at av).K := hK
    refine Call_ (ld_blt I hg hm PyProof.Rows.boot_zip (PyProof.Rows.callWith_type1 (thn ((pa_cons ha (pa_cons hb pa_nil hs2) hs).run pos pins s σ H (fun vs H1 => ∃ v w ρ1, vs = [v, w] ∧ Stp ρ ρ1 H H1 ∧ RelH (G.at av) ρ1 h' H1 ∧ RD (G.at av) ρ1 H1 x.keep v ∧ RD (G.at av) ρ1 H1 y.keep w) I
      ⟨av, ρ, h, σD, x, h1, Rh, RE, e1, fun ρ1 H1 v S1 R1 r1 => ⟨av, ρ1, h1, σD, y, _, R1, RE.step S1, e3, fun ρ2 H2 w S2 R2 r2 => ⟨v, w, ρ2, rfl, S1.trans S2, R2, r1.keep.step S2, r2.keep⟩⟩⟩) fun us s1 ⟨vs, H1, I1, r1, v, w, ρ1, ev1, S1, R1, rv, rw'⟩ => ?_) hs (by rw [hs2]; rfl)))
    subst ev1
    obtain ⟨u1, u2, rfl, ru1, ru2⟩ := r1.two
    obtain ⟨is1, o1, tn1, fp1, Sr1, A1⟩ := src_of (P := X.prog) (w := X.w) R1 rv (by rw [walkD_keep]; exact hw1) ru1
    obtain ⟨is2, o2, tn2, fp2, Sr2, A2⟩ := src_of (P := X.prog) (w := X.w) R1 rw' (by rw [walkD_keep]; exact hw2) ru2
    obtain ⟨as, has, _⟩ := A1 av ρ1 h' H1 (fun b hb => .inl hb) ⟨fun _ _ z => z, fun b o z n _ => ⟨z, n⟩⟩ R1 (fun _ _ => rfl)
    obtain ⟨bs, hbs, _⟩ := A2 av ρ1 h' H1 (fun b hb => .inl hb) ⟨fun _ _ z => z, fun b o z n _ => ⟨z, n⟩⟩ R1 (fun _ _ => rfl)
    rw [← hK'] at Sr1 Sr2
    obtain ⟨lt1, Hb1, B1, hb1⟩ := Sr1.begins X pins s1 σ H1 as rfl rfl rfl I1 has
    obtain ⟨lt2, Hb2, B2, hb2⟩ := Sr2.begins X pins s1 σ H1 bs rfl rfl rfl I1 hbs
    refine zip_begins2 B1 B2 hb1 hb2 fun h'' hz hTI hTO hi1 hi2 hsz hk => wpAny_pyIter_zip hz ?_
    have I2 : Inv X pins σ H1 { s1 with heap := h'' } := I1.kept (t' := s1.toks) hk
    refine ⟨s1.heap.objs.size + 4, [s1.heap.objs.size + 4, s1.heap.objs.size + 2, s1.heap.objs.size + 3, s1.heap.objs.size, s1.heap.objs.size + 1], _, _, H1, rfl, I2, turn_zipG Sr1 Sr2 (zip_sep2 lt1 lt2), ⟨hz, hTI, ⟨_, _, hTO⟩, Sr1.zero _ _ hi1, Sr2.zero _ _ hi2⟩, fun c hcm => ?_, q ρ1 H1 _ S1 R1 (WalkJ.zipG A1 A2)⟩
    have hle : s1.heap.objs.size ≤ c := by
      simp only [List.mem_cons, List.not_mem_nil, or_false] at hcm
      rcases hcm with rfl | rfl | rfl | rfl | rfl
      · exact Nat.le_add_right _ _
      · exact Nat.le_add_right _ _
      · exact Nat.le_add_right _ _
      · exact Nat.le_refl _
      · exact Nat.le_add_right _ _
    exact I1.fpOk hle (I1.hok.fresh hle)
  · cases e5
end
end Sd

/-! PyG6: d.get(k, x), {}. -/
namespace Sd
open PySem PySem.Spec PyProof.Rows L2

section
variable {G : Gx} {X : Cx} {C : Calls}
def isDF (G : Gx) (v : V) (H : Hp) : Prop := ∃ av ρ h x, RelH (G.at av) ρ h H ∧ RD (G.at av) ρ H x v ∧ isDic h x = true
def resF (G : Gx) (x y z : V) (H : Hp) (Q : VK) : Prop := ∃ av ρ h d k r, RelH (G.at av) ρ h H ∧ RD (G.at av) ρ H d x ∧ RD (G.at av) ρ H k y ∧ dlook h d k = some r ∧ ∀ u, (match r with | some q => RD (G.at av) ρ H q u | none => u = z) → Q u H
def tGetF (G : Gx) (td tk tz : TE) : TE := fun σ H Q => td σ H fun x H1 => isDF G x H1 ∧ tk σ H1 fun y H2 => tz σ H2 fun z H3 => resF G x y z H3 Q
def tGetF1 (G : Gx) (td tk : TE) : TE := fun σ H Q => td σ H fun x H1 => isDF G x H1 ∧ tk σ H1 fun y H2 => resF G x y .non H2 Q
theorem isDic_keep (h : Hh) (x : D) : isDic h x.keep = isDic h x := by cases x <;> rfl
theorem tD_dget {a k d : E} {σ : L2.St} {H : Hp} {Q : VK} (q : tD G (evE C (.dget a k d)) σ H Q) : tGetF G (tD G (evE C a)) (tD G (evE C k)) (tD G (evE C d)) σ H Q := by
  obtain ⟨av, ρ, h, σD, w, h', R, RE, e, q⟩ := q
  simp only [evE] at e
  obtain ⟨x, h1, e1, e2⟩ := Out.thn_eq_ok e
  split at e2
  · rename_i hx
    obtain ⟨y, h2, e3, e4⟩ := Out.thn_eq_ok e2
    obtain ⟨z, h3, e5, e6⟩ := Out.thn_eq_ok e4
    obtain ⟨r, h4, e7, e8⟩ := Out.thn_eq_ok e6
    obtain ⟨e7, rfl⟩ := Out.of_eq_ok e7
    cases e8
    refine ⟨av, ρ, h, σD, x, h1, R, RE, e1, fun ρ1 H1 v S1 R1 r1 => ⟨⟨av, ρ1, h1, x.keep, R1, r1.keep, by rw [isDic_keep]; exact hx⟩, ?_⟩⟩
    refine ⟨av, ρ1, h1, σD, y, h2, R1, RE.step S1, e3, fun ρ2 H2 u S2 R2 r2 => ⟨av, ρ2, h2, σD, z, _, R2, (RE.step S1).step S2, e5, fun ρ3 H3 t S3 R3 r3 => ?_⟩⟩
    refine ⟨av, ρ3, _, x.keep, y.keep, r, R3, (r1.keep.step S2).step S3, r2.keep.step S3, e7, fun u hu => ?_⟩
    cases r with
    | some p => exact q _ _ _ ((S1.trans S2).trans S3) R3 (RD.rv hu)
    | none =>
      cases hu
      exact q _ _ _ ((S1.trans S2).trans S3) R3 (r3.back (S1.trans S2) S3)
  · cases e2
theorem tD_dget1 {a k : E} {σ : L2.St} {H : Hp} {Q : VK} (q : tD G (evE C (.dget a k (.cst .non))) σ H Q) : tGetF1 G (tD G (evE C a)) (tD G (evE C k)) σ H Q := by
  obtain ⟨av, ρ, h, σD, w, h', R, RE, e, q⟩ := q
  simp only [evE] at e
  obtain ⟨x, h1, e1, e2⟩ := Out.thn_eq_ok e
  split at e2
  · rename_i hx
    obtain ⟨y, h2, e3, e4⟩ := Out.thn_eq_ok e2
    rw [Out.thn_ok] at e4
    obtain ⟨r, h4, e7, e8⟩ := Out.thn_eq_ok e4
    obtain ⟨e7, rfl⟩ := Out.of_eq_ok e7
    cases e8
    refine ⟨av, ρ, h, σD, x, h1, R, RE, e1, fun ρ1 H1 v S1 R1 r1 => ⟨⟨av, ρ1, h1, x.keep, R1, r1.keep, by rw [isDic_keep]; exact hx⟩, ?_⟩⟩
    refine ⟨av, ρ1, h1, σD, y, _, R1, RE.step S1, e3, fun ρ2 H2 u S2 R2 r2 => ?_⟩
    refine ⟨av, ρ2, _, x.keep, y.keep, r, R2, r1.keep.step S2, r2.keep, e7, fun u hu => ?_⟩
    cases r with
    | some p => exact q _ _ _ (S1.trans S2) R2 (RD.rv hu)
    | none =>
      cases hu
      exact q _ _ _ (S1.trans S2) R2 RD.non.rv
  · cases e2
theorem isDF_at (hW : X.prog = G.b.P ∧ X.w = G.b.w) (hK : X.K = G.K) {pins : List (Addr × Obj)} {σ : L2.St} {H : Hp} {s : Shared} {v : V} {u : Value} (I : Inv X pins σ H s) (d : isDF G v H) (r : RelV v u) :
    ∃ a, u = .ref a ∧ s.TypeIs (.ref a) "dict" ∧ ∀ b, Value.ref a = .ref b → ∃ ob, s.heap.get? b = some ob ∧ ob.dict = none := by
  obtain ⟨av, ρ, h, x, R, rx, e⟩ := d
  unfold isDic at e
  rw [Bool.or_eq_true] at e
  rcases e with e | e
  · obtain ⟨⟨ks, vs⟩, e⟩ := Option.isSome_iff_exists.mp e
    obtain ⟨a, kvs, rfl, q, _⟩ := RD.dict_inv R rx e
    cases r
    obtain ⟨t1, t2, _⟩ := isD_at I (.inl ⟨_, q⟩)
    exact ⟨a, rfl, t1, t2⟩
  · obtain ⟨⟨ks, vs⟩, e⟩ := Option.isSome_iff_exists.mp e
    obtain ⟨a, es, us, rfl, q, ek, rk, _⟩ := RD.dictn_inv R rx e
    cases r
    obtain ⟨_, _, dd⟩ := no_at (G := G.at av) hW hK I q rk ek
    refine ⟨a, rfl, dd.typeIs, fun b q => ?_⟩
    cases q
    obtain ⟨ob, _, _, h1, h2, _⟩ := dd
    exact ⟨ob, h1, h2.2.1⟩
theorem get_run {pins : List (Addr × Obj)} {σ : L2.St} {H : Hp} {s : Shared} {x y z : V} {x' y' z' : Value} {Q : VK} (hu : X.A.units + 200 < cLine) (hW : X.prog = G.b.P ∧ X.w = G.b.w) (hK : X.K = G.K) (I : Inv X pins σ H s) (rx : RelV x x') (ry : RelV y y') (rz : RelV z z') (q : resF G x y z H Q) :
    wpAny (model X.prog X.w) X.A (call (.builtin "dict.get") [x', y', z']) (EP X pins σ Q) X.xe s := by
  obtain ⟨av, ρ, h, d, k, r, R, rd, rk, e, q⟩ := q
  obtain ⟨a, rfl, c⟩ := look_at (G := G.at av) hW hK I R rd rk ry e
  cases rx
  rcases c with ⟨o, g, ro⟩ | ⟨es, k1, b, rfl, hm, hb, hd, c1, c2⟩
  · refine d_get2 (by omega) I g ry rz fun w' s4 I4 rw' => ⟨_, H, I4, rw', q _ ?_⟩
    cases r <;> cases o <;> first | exact ro.elim | exact ro | rfl
  · refine call_meetsIn PySem.F.slot_dict_get hd.typeIs PySem.F.entry_dict_get (PySem.F.args_dict_get_3 _ _ _) (meetsH_dict_get_default (nestedKind X.prog X.w) a b hm z') ⟨room_n hu, k1, es, hb, hd, ?_⟩
    cases r with
    | some p =>
      obtain ⟨p', v', hp, rv', rd'⟩ := c1 p rfl
      rw [hp]
      exact ⟨v', H, I.tok _, rv', q _ rd'⟩
    | none =>
      rw [c2 rfl]
      exact ⟨z, H, I.tok _, rz, q _ rfl⟩
theorem get_run1 {pins : List (Addr × Obj)} {σ : L2.St} {H : Hp} {s : Shared} {x y : V} {x' y' : Value} {Q : VK} (hu : X.A.units + 200 < cLine) (hW : X.prog = G.b.P ∧ X.w = G.b.w) (hK : X.K = G.K) (I : Inv X pins σ H s) (rx : RelV x x') (ry : RelV y y') (q : resF G x y .non H Q) :
    wpAny (model X.prog X.w) X.A (call (.builtin "dict.get") [x', y']) (EP X pins σ Q) X.xe s := by
  obtain ⟨av, ρ, h, d, k, r, R, rd, rk, e, q⟩ := q
  obtain ⟨a, rfl, c⟩ := look_at (G := G.at av) hW hK I R rd rk ry e
  cases rx
  rcases c with ⟨o, g, ro⟩ | ⟨es, k1, b, rfl, hm, hb, hd, c1, c2⟩
  · refine d_get1 (by omega) I g ry fun w' s4 I4 rw' => ⟨_, H, I4, rw', q _ ?_⟩
    cases r <;> cases o <;> first | exact ro.elim | exact ro | rfl
  · refine call_meetsIn PySem.F.slot_dict_get hd.typeIs PySem.F.entry_dict_get (PySem.F.args_dict_get_2 _ _) (meetsH_dict_get (nestedKind X.prog X.w) a b hm) ⟨room_n hu, k1, es, hb, hd, ?_⟩
    cases r with
    | some p =>
      obtain ⟨p', v', hp, rv', rd'⟩ := c1 p rfl
      rw [hp]
      exact ⟨v', H, I.tok _, rv', q _ rd'⟩
    | none =>
      rw [c2 rfl]
      exact ⟨.non, H, I.tok _, rfl, q _ rfl⟩
variable {o e f : Expr} {apos cpos : Pos} {td tk tz : TE}
theorem pe_getF (hu : X.A.units + 200 < cLine) (hW : X.prog = G.b.P ∧ X.w = G.b.w) (hK : X.K = G.K) (ho : PE X o td) (he : PE X e tk) (hf : PE X f tz) (m : M2 X o "get" apos e f cpos) : PE X (.Call (.Attribute o "get" apos) [e, f] [] cpos) (tGetF G td tk tz) := by
  refine ⟨fun pins s σ H Q I h => ?_⟩
  refine wpAny_Call_method m.base m.few m.line PySem.F.plainAttrs_dict PySem.F.slot_dict_get PySem.F.type_dict_get (thn (ho.run pins s σ H _ I h) fun u s1 ⟨x, H1, I1, rx, d, q1⟩ => ?_)
  obtain ⟨a, rfl, t1, t2⟩ := isDF_at hW hK I1 d rx
  refine ⟨t1, t2, ?_⟩
  rw [m.trees]
  refine Calls.callWith_builtin rfl (Calls.evalArgs_plain (Calls.spliced_cons (thn (he.run pins s1 σ H1 _ I1 q1) fun iv s2 ⟨y, H2, I2, ry, q2⟩ =>
    Calls.spliced_cons (thn (hf.run pins s2 σ H2 _ I2 q2) fun fv s3 ⟨z, H3, I3, rz, q3⟩ => Calls.spliced_nil ?_))))
  exact get_run hu hW hK I3 rx ry rz q3
theorem pe_getF1 (hu : X.A.units + 200 < cLine) (hW : X.prog = G.b.P ∧ X.w = G.b.w) (hK : X.K = G.K) (ho : PE X o td) (he : PE X e tk) (m : M1 X o "get" apos e cpos) : PE X (.Call (.Attribute o "get" apos) [e] [] cpos) (tGetF1 G td tk) := by
  refine ⟨fun pins s σ H Q I h => ?_⟩
  refine wpAny_Call_method m.base m.few m.line PySem.F.plainAttrs_dict PySem.F.slot_dict_get PySem.F.type_dict_get (thn (ho.run pins s σ H _ I h) fun u s1 ⟨x, H1, I1, rx, d, q1⟩ => ?_)
  obtain ⟨a, rfl, t1, t2⟩ := isDF_at hW hK I1 d rx
  refine ⟨t1, t2, ?_⟩
  rw [m.trees]
  refine Calls.callWith_builtin rfl (Calls.evalArgs_plain (Calls.spliced_cons (thn (he.run pins s1 σ H1 _ I1 q1) fun iv s2 ⟨y, H2, I2, ry, q2⟩ => Calls.spliced_nil ?_)))
  exact get_run1 hu hW hK I2 rx ry q2
theorem pe_dict0F {pos : Pos} : PE X (.Dict [] [] pos) (tD G (evE C .dict0)) := by
  refine PE.imp pe_dnewK fun σ H Q q p n => ?_
  obtain ⟨av, ρ, h, σD, d, h', R, RE, e, q⟩ := q
  simp only [evE] at e
  cases e
  exact q _ _ _ (Stp.new n) (R.new n) ⟨p, [], rfl, n, R.notAv n, upd_same, rfl, .nil, R.newHid n⟩
end
end Sd

/-! PyI: from the program's text to ours: expressions. -/
namespace Sd
open PySem PySem.Spec PyProof.Rows L2

/-- the classes: by their names; attributes and the classes that have them; methods; the displays that make objects that change -/
structure ClsT where
  mks : List (Str × String)
  ats : List (Str × String × List String)
  mts : List (Str × String)
  alp : List (Nat × Nat)
/-- what a text is turned with -/
structure Cc where
  N : List Str
  sc : Scope
  blk : Option Scope
  fns : List (Str × String)
  cons : List (Str × D)
  alc : List Nat
  cl : ClsT

def wrapP (c : Cc) (p : Pos) (e : E) : E := if c.cl.alp.contains (p.line, p.col) then .alc e else e
def visB (sc : Scope) (x : Str) : Bool := match sc.names.lookup x with
  | some .local => true
  | some .cell => true
  | some .free => true
  | _ => false
def glB (sc : Scope) (x : Str) : Bool := match sc.names.lookup x with
  | some .globalImplicit => true
  | _ => false
def ixOf (N : List Str) (x : Str) : Option Nat := (List.range N.length).find? fun i => decide (N[i]? = some x)
def fnB (c : Cc) (x : Str) : Bool := match c.blk with
  | none => true
  | some s => s.names.lookup x == some .cell
def storB (c : Cc) (x : Str) : Bool := match c.sc.names.lookup x with
  | some .local => true
  | some .cell => fnB c x
  | _ => false
def nameIx (c : Cc) : Expr → Option Nat
  | .Name x _ => if storB c x then ixOf c.N x else none
  | _ => none
def cPat (c : Cc) : Expr → Option Pat
  | .Tuple es _ _ => (mapO (nameIx c) es).map .t
  | e => (nameIx c e).map .n
def opOf : Operator → Option O2
  | .Add => some .add | .Sub => some .sub | .FloorDiv => some .div | .Mod => some .mod | .Mult => some .mul
  | _ => none
def cmpOf : CmpOp → Option O2
  | .Eq => some .eq | .NotEq => some .ne | .Lt => some .lt | .LtE => some .le | .Gt => some .gt | .GtE => some .ge | .In => some .isin | .NotIn => some .notin
  | _ => none
def cK : Const → Option D
  | .none => some .non
  | .bool b => some (.bl b)
  | .int i => some (.int i)
  | .str s => some (.str s.cps.toList)
  | _ => none
def isNoneK : Expr → Bool
  | .Constant .none _ _ => true
  | _ => false
def foldB (op : BoolOp) : List E → Option E
  | [] => none
  | [e] => some e
  | e :: es => (foldB op es).map fun r => match op with | .And => .and e r | .Or => .or e r
def bi1 (x : Str) : Option O1 :=
  if x = "len" then some .len else if x = "int" then some .int else if x = "str" then some .str else if x = "tuple" then some .tuple else if x = "list" then some .list
  else if x = "all" then some .all else if x = "any" then some .any else if x = "dict" then some .dict else if x = "sum" then some .sum else if x = "sorted" then some .sorted else none
/-- len(set(b)) -/
def lenSet (c : Cc) (x : Str) (a : Expr) : Option Expr := if x = "len" then match a with
    | .Call (.Name f _) [b] [] _ => if f = "set" && glB c.sc f && (c.fns.lookup f).isNone then some b else none
    | _ => none else none
def bi2 (x : Str) : Option O2 := if x = "min" then some .min else if x = "max" then some .max else none
def tyOf (y : Str) : Option Ty :=
  if y = "str" then some .str else if y = "tuple" then some .tup else if y = "list" then some .lst else if y = "int" then some .int else if y = "bool" then some .bool else if y = "dict" then some .dict else none
def baseOk : Expr → Bool
  | .Call (.Name _ _) [] [] _ => false
  | _ => true
def isSet : Expr → Bool
  | .Set _ _ _ => true
  | _ => false
def ownOf (N : List Str) (scope : Scope) : List (Str × Nat) := scope.names.filterMap fun y => match y.2 with
  | .local => (ixOf N y.1).map fun i => (y.1, i)
  | .cell => (ixOf N y.1).map fun i => (y.1, i)
  | _ => none
def Cc.inner (c : Cc) (scope : Scope) : Cc := { c with sc := relS scope c.sc, blk := some scope }
def cI (ce : Expr → Option E) (c : Cc) (pt : Bool) : Expr → Option It
  | .Call (.Name f p) args kws pos =>
    if f = "range" then (if glB c.sc f && (c.fns.lookup f).isNone && kws.isEmpty then match args with
      | [a] => (ce a).map .rng
      | [a, b] => match ce a, ce b with
        | some a', some b' => some (.rng2 a' b')
        | _, _ => none
      | _ => none else none)
    else if f = "enumerate" then (if pt && glB c.sc f && (c.fns.lookup f).isNone && kws.isEmpty then match args with
      | [a] => (ce a).map .enu
      | _ => none else none)
    else if f = "zip" then (if pt && glB c.sc f && (c.fns.lookup f).isNone && kws.isEmpty then match args with
      | [a, b] => match ce a, ce b with
        | some a', some b' => some (.zip a' b')
        | _, _ => none
      | _ => none else none)
    else (ce (.Call (.Name f p) args kws pos)).map .val
  | e => (ce e).map .val
def optE (ce : Expr → Option E) : Option Expr → Option E
  | none => some (.cst .non)
  | some e => (ce e).map (.o1 .ofI)
def cE : Nat → Cc → Expr → Option E
  | 0, _, _ => none
  | n + 1, c, e => match e with
    | .Constant k _ _ => (cK k).map .cst
    | .Name x _ => if x = "__debug__" ∨ x = "__classdict__" then none else if visB c.sc x then (ixOf c.N x).map .var else if glB c.sc x then (c.cons.lookup x).map .cst else none
    | .Tuple es _ _ => if es.length ≤ 1000 then (mapO (cE n c) es).map .tup else none
    | .Dict ks vs p => if ks.isEmpty && vs.isEmpty then some (wrapP c p .dict0) else none
    | .List es p => if es.length ≤ 1000 then (mapO (cE n c) es).map fun es' => wrapP c p (.lst es') else none
    | .Attribute o f _ => match c.cl.ats.lookup f with
      | some (s, cs) => if sOf s = f ∧ baseOk o = true then (cE n c o).map fun o' => .att cs o' s else none
      | none => none
    | .BinOp a op b _ => match opOf op, cE n c a, cE n c b with
      | some o, some a', some b' => some (.o2 o a' b')
      | _, _, _ => none
    | .UnaryOp op a _ => match op, cE n c a with
      | .USub, some a' => some (.o1 .neg a')
      | .Not, some a' => some (.o1 .not a')
      | _, _ => none
    | .BoolOp op vs _ => match mapO (cE n c) vs with
      | some es => foldB op es
      | none => none
    | .Compare a ops bs _ => match ops, bs with
      | [op], [b] => match cE n c a with
        | some a' => if op = .Is ∧ isNoneK b = true then some (.o1 .isN a') else if op = .IsNot ∧ isNoneK b = true then some (.o1 .notN a')
          else if behindInMarks op b then none else match cmpOf op, cE n c b with
            | some o, some b' => some (.o2 o a' b')
            | _, _ => none
        | none => none
      | [op, op2], [b, d] => if lastMarks [op, op2] [b, d] then none else match cmpOf op, cmpOf op2, cE n c a, cE n c b, cE n c d with
        | some o, some o2, some a', some b', some d' => some (.chn o o2 a' b' d')
        | _, _, _, _, _ => none
      | _, _ => none
    | .IfExp t a b _ => match cE n c t, cE n c a, cE n c b with
      | some t', some a', some b' => some (.ife t' a' b')
      | _, _, _ => none
    | .Call f args kws pos => if kws.isEmpty then match f with
        | .Name x _ => if x = "__debug__" ∨ x = "__name__" then none else if glB c.sc x then match c.fns.lookup x with
            | some m => (mapO (cE n c) args).map (.call "" m)
            | none => match c.cl.mks.lookup x with
            | some k => (mapO (cE n c) args).map (.mk k)
            | none => match args with
              | [a] => match lenSet c x a with
                | some b => (cE n c b).map (.o1 .lset)
                | none => match bi1 x, cE n c a with
                  | some o, some a' => some (.o1 o a')
                  | _, _ => none
              | [a, b] => if x = "isinstance" then match b with
                  | .Name y _ => if glB c.sc y && (c.fns.lookup y).isNone then match tyOf y, cE n c a with
                    | some t, some a' => some (.o1 (.isi t) a')
                    | _, _ => none else none
                  | _ => none
                else match bi2 x, cE n c a, cE n c b with
                  | some o, some a', some b' => some (.o2 o a' b')
                  | _, _, _ => none
              | _ => none
          else none
        | .Attribute o m apos => if m = "join" ∧ baseOk o = true ∧ (apos.endLine == pos.line) = true then match args with
            | [a] => match cE n c o, cE n c a with
              | some o', some a' => some (.o2 .join o' a')
              | _, _ => none
            | _ => none
          else if m = "get" ∧ baseOk o = true ∧ (apos.endLine == pos.line) = true then match args with
            | [a] => match cE n c o, cE n c a with
              | some o', some a' => some (.dget o' a' (.cst .non))
              | _, _ => none
            | [a, b] => match cE n c o, cE n c a, cE n c b with
              | some o', some a', some b' => some (.dget o' a' b')
              | _, _, _ => none
            | _ => none
          else if m = "pop" ∧ baseOk o = true ∧ (apos.endLine == pos.line) = true ∧ args.isEmpty = true then (cE n c o).map .pop
          else match c.cl.mts.lookup m with
            | some s => if sOf s = m ∧ baseOk o = true ∧ (apos.endLine == pos.line) = true ∧ args.length < 29 then match cE n c o, mapO (cE n c) args with
                | some o', some as => some (.meth o' s as)
                | _, _ => none
              else none
            | none => none
        | _ => none
      else none
    | .Subscript a i _ => match cE n c a with
      | some a' => match i with
        | .Slice lo hi st _ => match st with
          | none => match optE (cE n c) lo, optE (cE n c) hi with
            | some l, some h => some (.o3 .slice a' l h)
            | _, _ => none
          | some _ => none
        | i => match cE n c i with
          | some i' => some (.o2 .idx a' i')
          | none => none
      | none => none
    | .ListComp elt gens scope _ => if blkC c.N c.sc scope (ownOf c.N scope) then match gens with
        | [⟨tg, iter, ifs, as⟩] => if as = 0 ∧ isSet iter = false ∧ ifs.length ≤ 1 then match cPat (c.inner scope) tg with
            | some p => match cI (cE n c) c p.isT iter, mapO (cE n (c.inner scope)) ifs, cE n (c.inner scope) elt with
              | some it, some ifs', some elt' => if p.ix.all (fun i => (ownOf c.N scope).any fun q => q.2 == i) then some (.comp ((ownOf c.N scope).map (·.2)) elt' p it ifs') else none
              | _, _, _ => none
            | none => none
          else none
        | [⟨tg, iter, ifs, as⟩, ⟨tg1, iter1, ifs1, as1⟩] => if as = 0 ∧ as1 = 0 ∧ isSet iter = false ∧ isSet iter1 = false ∧ ifs.length ≤ 1 ∧ ifs1.length ≤ 1 then match cPat (c.inner scope) tg, cPat (c.inner scope) tg1 with
            | some p, some p1 => match cI (cE n c) c p.isT iter, mapO (cE n (c.inner scope)) ifs, cI (cE n (c.inner scope)) (c.inner scope) p1.isT iter1, mapO (cE n (c.inner scope)) ifs1, cE n (c.inner scope) elt with
              | some it, some ifs', some it1, some ifs1', some elt' => if p.ix.all (fun i => (ownOf c.N scope).any fun q => q.2 == i) && p1.ix.all (fun i => (ownOf c.N scope).any fun q => q.2 == i) then
                  some (.comp2 ((ownOf c.N scope).map (·.2)) elt' p it ifs' p1 it1 ifs1') else none
              | _, _, _, _, _ => none
            | _, _ => none
          else none
        | _ => none
      else none
    | _ => none

/-- the constant's value wherever it is read -/
def KD (G : Gx) (d : D) (v : V) : Prop := ∀ av ρ H, RD (G.at av) ρ H d v
def bnames : List Str := ["len", "int", "str", "tuple", "list", "all", "any", "dict", "sum", "min", "max", "isinstance", "range", "enumerate", "zip", "sorted", "set", "repr", "bool"]
structure Fits (G : Gx) (C : Calls) (c : Cc) (X : Cx) : Prop where
  N : X.N = c.N
  nd : c.N.Nodup
  sc : X.env.scope = c.sc
  calm : X.calm = true
  K : X.K = G.K
  pw : X.prog = G.b.P ∧ X.w = G.b.w
  kf : ∀ x, fnB c x = true → X.fn x = true
  units : X.A.units + 200 < cLine
  free : ∀ x ∈ bnames, c.fns.lookup x = none → X.mg x = none
  con : ∀ x d, c.cons.lookup x = some d → ∃ u v, X.mg x = some u ∧ RelV v u ∧ KD G d v
  fn : ∀ x m, c.fns.lookup x = some m → FnFit G X x (C "" m)
  xe : X.xe = fun _ _ => False
  cl : ClFit G X C
  mks : ∀ x k, c.cl.mks.lookup x = some k → MkFit G X x k (C k "__init__")
  ats : ∀ x f cs, c.cl.ats.lookup x = some (f, cs) → ∀ k ∈ cs, ∀ A, G.b.cls k = some A → NoAttr X.K A x

theorem ixOf_ok {N : List Str} {x : Str} {i : Nat} (h : ixOf N x = some i) : N[i]? = some x := by
  have := List.find?_some h
  exact of_decide_eq_true this
theorem visB_ok {sc : Scope} {x : Str} (h : visB sc x = true) : Vis sc x := by
  unfold visB at h
  split at h
  · exact .inl (by assumption)
  · exact .inr (.inl (by assumption))
  · exact .inr (.inr (by assumption))
  · cases h
theorem glB_ok {sc : Scope} {x : Str} (h : glB sc x = true) : sc.names.lookup x = some .globalImplicit := by
  unfold glB at h
  split at h
  · assumption
  · cases h
section
variable {G : Gx} {C : Calls} {c : Cc} {X : Cx}
theorem Fits.gl (F : Fits G C c X) {x : Str} (h : glB c.sc x = true) : Gl X x := by
  show X.env.kindOf x = _
  unfold Env.kindOf
  rw [F.sc]
  exact glB_ok h
theorem Fits.name (F : Fits G C c X) {e : Expr} {i : Nat} (h : nameIx c e = some i) : NameOk X e i := by
  unfold nameIx at h
  split at h
  · rename_i x pos
    split at h
    · rename_i hs
      refine ⟨x, pos, rfl, by rw [F.N]; exact ixOf_ok h, ?_, ?_⟩
      · unfold storB at hs
        unfold L2.Loc
        rw [F.sc]
        split at hs
        · exact .inl (by assumption)
        · exact .inr (by assumption)
        · cases hs
      · unfold storB at hs
        rw [F.sc]
        split at hs
        · exact .inr (by assumption)
        · exact .inl (F.kf x hs)
        · cases hs
    · cases h
  · cases h
theorem Fits.names (F : Fits G C c X) : ∀ {es : List Expr} {is : List Nat}, mapO (nameIx c) es = some is → NamesOk X es is
  | [], _, h => by cases h; exact .nil
  | e :: es, _, h => by
    cases h1 : nameIx c e with
    | none => simp [mapO, h1] at h
    | some i =>
      cases h2 : mapO (nameIx c) es with
      | none => simp [mapO, h1, h2] at h
      | some js =>
        simp only [mapO, h1, h2] at h
        cases h
        exact .cons (F.name h1) (F.names h2)
theorem Fits.pat (F : Fits G C c X) {e : Expr} {p : Pat} (h : cPat c e = some p) : PG X e (tP G p) := by
  have hN : X.N.Nodup := by rw [F.N]; exact F.nd
  cases e with
  | Tuple es k pos =>
    simp only [cPat, Option.map_eq_some_iff] at h
    obtain ⟨is, h, rfl⟩ := h
    exact pg_tupF F.K F.calm hN (F.names h)
  | _ =>
    simp only [cPat, Option.map_eq_some_iff] at h
    obtain ⟨i, h, rfl⟩ := h
    obtain ⟨x, pos, e, h1, h2, h3⟩ := (F.name h).ex
    rw [e]
    exact pg_nameF hN h1 h2 h3
theorem lookup_rel {scope sc : Scope} {x : Str} (h : (relS scope sc).names.lookup x = some .globalImplicit) : scope.names.lookup x = some .globalImplicit := by
  obtain ⟨k', h1, h2⟩ := lookup_relS (sc := sc) h
  rcases h2 with h2 | ⟨_, h2⟩
  · rw [← h2] at h1; exact h1
  · cases h2
theorem Fits.inner (F : Fits G C c X) (scope : Scope) (s : Shared) (H : Hp) (Ca : Addr) (cl : List (Str × Addr)) (fp : List Addr) : Fits G C (c.inner scope) (X.blk s H scope (compEnvC scope cl Ca X.env) fp) :=
  ⟨F.N, F.nd, by
    show relabel scope X.env = relS scope c.sc
    rw [← F.sc]; rfl, F.calm, F.K, F.pw, fun x h => h, F.units, F.free, F.con, fun x m h => ⟨(F.fn x m h).ex⟩, rfl, ⟨F.cl.cls, fun c m ds h d h' hc e => let ⟨A, h1, q⟩ := F.cl.mt c m ds h d h' hc e; ⟨A, h1, ⟨q.ex⟩⟩⟩, fun x k h => ⟨(F.mks x k h).ex⟩, F.ats⟩
theorem Fits.room (F : Fits G C c X) : X.A.units + 1 < cLine := by have := F.units; omega
end
end Sd

/-! PyI2: a text that is turned means what the program's text means. -/
namespace Sd
open PySem PySem.Spec PyProof.Rows L2

section
variable {G : Gx} {C : Calls} {X : Cx}
theorem op_mulF (hK : X.K = G.K) : OpR X (binaryOp .Mult) (U2 G (o2F .mul)) := by
  intro pins s σ H v w v' w' Q I rv rw' q
  obtain ⟨av, ρ, h, x, y, z, R, rx, ry, e, q⟩ := q
  unfold o2F at e
  split at e
  all_goals (try contradiction)
  · split at e
    · rename_i hj
      cases e
      cases rx; cases ry
      exact op_mul pins s σ H _ _ v' w' Q I rv rw' ⟨_, _, rfl, rfl, hj, fin_at R (RD.int _) q⟩
    · cases e
  · split at e
    · rename_i hj
      cases e
      exact op_repF hK I R rx ry rv rw' hj.1 hj.2.1 hj.2.2.1 hj.2.2.2 q
    · cases e
theorem un_negF : UnR X (unaryOp .USub) (U1 G (o1F .neg)) := by
  intro pins s σ H v v' Q I rv q
  obtain ⟨av, ρ, h, x, z, R, rx, e, q⟩ := q
  cases rx <;> simp only [o1F] at e <;> try contradiction
  cases e
  exact un_neg pins s σ H _ v' Q I rv ⟨_, rfl, fin_at R (RD.int _) q⟩

theorem star_of : ∀ {n : Nat} {c : Cc} {e : Expr} {e' : E}, cE n c e = some e' → ∀ (rest : List Expr) (env : PySem.Env), starEach (e :: rest) env = (false, eval e env) :: starEach rest env := by
  intro n c e e' h rest env
  cases n with
  | zero => cases h
  | succ n => cases e <;> first | rfl | (simp [cE] at h)
theorem stars_of {n : Nat} {c : Cc} : ∀ {es : List Expr} {es' : List E}, mapO (cE n c) es = some es' → ∀ (pos : Pos) (env : PySem.Env), (backTo pos (starEach es env)).any (·.1) = false
  | [], _, _, pos, env => by rfl
  | e :: es, _, h, pos, env => by
    cases h1 : cE n c e with
    | none => simp [mapO, h1] at h
    | some i =>
      cases h2 : mapO (cE n c) es with
      | none => simp [mapO, h1, h2] at h
      | some js =>
        rw [star_of h1]
        have := stars_of h2 pos env
        simp only [backTo, List.map_cons, List.any_cons, List.map_map, Bool.or_eq_false_iff] at this ⊢
        exact ⟨trivial, this⟩
theorem mapO_cons {α β : Type} {f : α → Option β} {x : α} {xs : List α} {ys : List β} (h : mapO f (x :: xs) = some ys) : ∃ y zs, f x = some y ∧ mapO f xs = some zs ∧ ys = y :: zs := by
  cases h1 : f x with
  | none => simp [mapO, h1] at h
  | some i =>
    cases h2 : mapO f xs with
    | none => simp [mapO, h1, h2] at h
    | some js => simp only [mapO, h1, h2] at h; cases h; exact ⟨_, _, rfl, rfl, rfl⟩
theorem mapO_len {α β : Type} {f : α → Option β} : ∀ {xs : List α} {ys : List β}, mapO f xs = some ys → ys.length = xs.length
  | [], _, h => by cases h; rfl
  | x :: xs, _, h => by
    obtain ⟨y, zs, _, h2, rfl⟩ := mapO_cons h
    rw [List.length_cons, List.length_cons, mapO_len h2]

/-- what is shown of a text that is turned -/
def Snd (G : Gx) (C : Calls) (n : Nat) : Prop := ∀ (c : Cc) (e : Expr) (e' : E), cE n c e = some e' → ∀ X, Fits G C c X → PE X e (tD G (evE C e')) ∧ PT X e (tDt G (evE C e'))
theorem plainT {e : Expr} {e' : E} (h : PE X e (tD G (evE C e'))) (he : ∀ whole, isTrue e X.env whole = (do let v ← whole; standAt e.pos; holding [v] (truthy v))) : PE X e (tD G (evE C e')) ∧ PT X e (tDt G (evE C e')) :=
  ⟨h, PT.imp (pt_val h he) fun _ _ _ q => tDt_tB q⟩

theorem args_of {n : Nat} {c : Cc} (S : Snd G C n) (F : Fits G C c X) : ∀ {es : List Expr} {es' : List E}, mapO (cE n c) es = some es' → PA X es (tDs G (evEs C es'))
  | [], _, h => by
    cases h
    exact PA.imp pa_nil fun _ _ _ q => tDs_nil q
  | e :: es, _, h => by
    obtain ⟨y, zs, h1, h2, rfl⟩ := mapO_cons h
    exact PA.imp (pa_cons (S c e _ h1 X F).1 (args_of S F h2) (star_of h1 _ _)) fun _ _ _ q => tDs_cons q

theorem fold_of {n : Nat} {c : Cc} (S : Snd G C n) (F : Fits G C c X) (op : BoolOp) (pos : Pos) : ∀ {es : List Expr} {es' : List E} {r : E}, mapO (cE n c) es = some es' → foldB op es' = some r → PE X (.BoolOp op es pos) (tD G (evE C r)) ∧ PW X (.BoolOp op es pos) (tDt G (evE C r))
  | [], _, r, h, hf => by cases h; cases hf
  | [e], _, r, h, hf => by
    obtain ⟨y, zs, h1, h2, rfl⟩ := mapO_cons h
    cases h2
    simp only [foldB] at hf
    cases hf
    have := S c e _ h1 X F
    refine ⟨pe_one this.1, ?_⟩
    cases op with
    | And => exact pw_and1 this.2
    | Or => exact pw_or1 this.2
  | e :: e2 :: es, _, r, h, hf => by
    obtain ⟨y, zs, h1, h2, rfl⟩ := mapO_cons h
    obtain ⟨y2, zs2, h3, h4, e0⟩ := mapO_cons h2
    subst e0
    simp only [foldB, Option.map_eq_some_iff] at hf
    obtain ⟨r2, hf, rfl⟩ := hf
    have a := S c e _ h1 X F
    have b := fold_of S F op pos h2 hf
    cases op with
    | And => exact ⟨PE.imp (pe_and a.1 b.1) fun _ _ _ q => tD_and q, PW.imp (pw_and a.2 b.2) fun _ _ _ q => tDt_and q⟩
    | Or => exact ⟨PE.imp (pe_or a.1 b.1) fun _ _ _ q => tD_or q, PW.imp (pw_or a.2 b.2) fun _ _ _ q => tDt_or q⟩

theorem op_of (F : ∃ c, Fits G C c X) {op : Operator} {o : O2} (h : opOf op = some o) : OpR X (binaryOp op) (U2 G (o2F o)) := by
  obtain ⟨c, F⟩ := F
  cases op <;> simp only [opOf] at h <;> first | contradiction | (cases h)
  · exact op_addF F.K
  · exact op_subF
  · exact op_mulF F.K
  · exact op_modF
  · exact op_divF
theorem cmp_of (F : ∃ c, Fits G C c X) {op : CmpOp} {o : O2} (h : cmpOf op = some o) : OpR X (compareOp op) (U2 G (o2F o)) := by
  obtain ⟨c, F⟩ := F
  cases op <;> simp only [cmpOf] at h <;> first | contradiction | (cases h)
  · exact op_eqF F.K F.units
  · exact op_neF F.K F.units
  · exact op_ltF
  · exact op_leF
  · exact op_gtF
  · exact op_geF
  · exact op_inF F.pw F.K F.units
  · exact op_notinF F.pw F.K F.units
theorem pt_ifExpF {c a b : Expr} {pos : Pos} {tA tB tC : TT} (hc : PT X c tA) (ha : PT X a tB) (hb : PT X b tC) : PT X (.IfExp c a b pos) (fun σ H Q => tA σ H fun k H1 => if k = true then tB σ H1 Q else tC σ H1 Q) := by
  refine ⟨fun pins s σ H Q I h => ?_⟩
  refine isTrue_IfExp (thn (hc.run pins s σ H _ I h) fun d s1 ⟨H1, I1, q1⟩ => ?_)
  cases d with
  | true => exact ha.run pins s1 σ H1 Q I1 q1
  | false => exact hb.run pins s1 σ H1 Q I1 q1
theorem tDt_ife {a b c : E} {σ : L2.St} {H : Hp} {Q : Bool → Hp → Prop} (q : tDt G (evE C (.ife c a b)) σ H Q) : tDt G (evE C c) σ H fun k H1 => if k = true then tDt G (evE C a) σ H1 Q else tDt G (evE C b) σ H1 Q := by
  obtain ⟨av, ρ, h, σD, d, h', R, RE, e, q⟩ := q
  simp only [evE] at e
  obtain ⟨x, h1, e1, e2⟩ := Out.thn_eq_ok e
  split at e2
  · exact ⟨av, ρ, h, σD, true, h1, R, RE, e1, fun ρ1 H1 S1 R1 => by
      show (if true = true then tDt G (evE C a) σ H1 Q else tDt G (evE C b) σ H1 Q)
      rw [if_pos rfl]
      exact ⟨av, ρ1, h1, σD, d, h', R1, RE.step S1, e2, fun ρ2 H2 S2 R2 => q _ _ (S1.trans S2) R2⟩⟩
  · exact ⟨av, ρ, h, σD, false, h1, R, RE, e1, fun ρ1 H1 S1 R1 => by
      show (if false = true then tDt G (evE C a) σ H1 Q else tDt G (evE C b) σ H1 Q)
      rw [if_neg (by decide)]
      exact ⟨av, ρ1, h1, σD, d, h', R1, RE.step S1, e2, fun ρ2 H2 S2 R2 => q _ _ (S1.trans S2) R2⟩⟩
  · cases e2
theorem non_iff {ρ : List Addr} {H : Hp} {x : D} {v : V} (r : RD G ρ H x v) : decide (v = V.non) = isNon x := by
  cases r <;> first | rfl | simp [isNon]
theorem isNon_keep (x : D) : isNon x.keep = isNon x := by cases x <;> rfl
theorem tD_isN {a : E} {σ : L2.St} {H : Hp} {Q : VK} (q : tD G (evE C (.o1 .isN a)) σ H Q) : tIsN (tD G (evE C a)) σ H Q := by
  obtain ⟨av, ρ, h, σD, d, h', R, RE, e, q⟩ := q
  simp only [evE] at e
  obtain ⟨x, h1, e1, e2⟩ := Out.thn_eq_ok e
  simp only [o1F] at e2
  cases e2
  refine ⟨av, ρ, h, σD, x, _, R, RE, e1, fun ρ1 H1 v S1 R1 r1 => ?_⟩
  show Q (V.bl (decide (v = V.non))) H1
  rw [non_iff r1.keep, isNon_keep]
  exact q _ _ _ S1 R1 (RD.bl _)
theorem tD_notN {a : E} {σ : L2.St} {H : Hp} {Q : VK} (q : tD G (evE C (.o1 .notN a)) σ H Q) : tNotN (tD G (evE C a)) σ H Q := by
  obtain ⟨av, ρ, h, σD, d, h', R, RE, e, q⟩ := q
  simp only [evE] at e
  obtain ⟨x, h1, e1, e2⟩ := Out.thn_eq_ok e
  simp only [o1F] at e2
  cases e2
  refine ⟨av, ρ, h, σD, x, _, R, RE, e1, fun ρ1 H1 v S1 R1 r1 => ?_⟩
  show Q (V.bl (!decide (v = V.non))) H1
  rw [non_iff r1.keep, isNon_keep]
  exact q _ _ _ S1 R1 (RD.bl _)
theorem tD_var {i : Nat} {σ : L2.St} {H : Hp} {Q : VK} (q : tD G (evE C (.var i)) σ H Q) : tVar i σ H Q := by
  obtain ⟨av, ρ, h, σD, d, h', R, RE, e, q⟩ := q
  simp only [evE] at e
  split at e
  · rename_i d' hd
    cases e
    obtain ⟨v, e1, r⟩ := RE.2 i _ hd
    exact ⟨v, e1, q _ _ _ (Stp.refl _ _) R r.rv⟩
  · cases e
theorem tD_cst {d : D} {v : V} {σ : L2.St} {H : Hp} {Q : VK} (k : KD G d v) (q : tD G (evE C (.cst d)) σ H Q) : tC v σ H Q := by
  obtain ⟨av, ρ, h, σD, d, h', R, RE, e, q⟩ := q
  simp only [evE] at e
  cases e
  exact q _ _ _ (Stp.refl _ _) R (k _ _ _).rv
theorem KD.non : KD G .non .non := fun _ _ _ => .non
theorem KD.bl (b : Bool) : KD G (.bl b) (.bl b) := fun _ _ _ => .bl b
theorem KD.int (b : Int) : KD G (.int b) (.int b) := fun _ _ _ => .int b
theorem KD.str (x : Str) : KD G (.str x.cps.toList) (.str x) := fun _ _ _ => by
  have h : (⟨x.cps.toList.toArray⟩ : Str) = x := by cases x; simp
  have := h ▸ RD.str (G := G) (ρ := []) (H := fun _ => none) x.cps.toList
  cases x
  exact .str _
theorem isNoneK_ok {e : Expr} (h : isNoneK e = true) : ∃ j pos, e = .Constant .none j pos := by
  unfold isNoneK at h
  split at h
  · exact ⟨_, _, rfl⟩
  · cases h
theorem base_ok {o : Expr} (h : baseOk o = true) (m : Str) (env : PySem.Env) (w : Sem Value) : attributeBase o m env w = w := by
  unfold baseOk at h
  split at h
  · cases h
  · rename_i hn
    unfold attributeBase
    split
    · rename_i id p pos _ _
      exact absurd rfl (hn _ _ _)
    · rfl
theorem set_ok {e : Expr} (h : isSet e = false) (env : PySem.Env) (x : Value) : foldedSetIterable e env x = pure x := by
  cases e <;> first | rfl | (simp [isSet] at h)
theorem pt_of_pw {op : BoolOp} {es : List Expr} {pos : Pos} {t : TT} (h : PW X (.BoolOp op es pos) t) : PT X (.BoolOp op es pos) t :=
  ⟨fun pins s σ H Q I q => h.run (eval (.BoolOp op es pos) X.env) pins s σ H Q I q⟩
theorem boolTest {t : TE} {a : E} (h : ∀ σ H Q, tD G (evE C a) σ H Q → t σ H Q) {σ : L2.St} {H : Hp} {Q : Bool → Hp → Prop} (q : tDt G (evE C a) σ H Q) : tTest t σ H Q := h σ H _ (tDt_test q)

def tO (G : Gx) (C : Calls) (l : E) : TO := fun σ H Q => tD G (evE C l) σ H fun v H1 => ∃ o, (v = .non ∧ o = none ∨ ∃ i, v = .int i ∧ o = some i) ∧ Q o H1
theorem PO.imp {e : Option Expr} {t t' : TO} (p : PO X e t) (h : ∀ σ H Q, t' σ H Q → t σ H Q) : PO X e t' := ⟨fun pins s σ H Q I q => p.run pins s σ H Q I (h σ H Q q)⟩
theorem opt_of {n : Nat} {c : Cc} (S : Snd G C n) (F : Fits G C c X) {o : Option Expr} {l : E} (h : optE (cE n c) o = some l) : PO X o (tO G C l) := by
  cases o with
  | none =>
    cases h
    refine PO.imp po_none fun σ H Q q => ?_
    obtain ⟨o, h1, h2⟩ := tD_cst KD.non q
    rcases h1 with ⟨_, rfl⟩ | ⟨i, h1, _⟩
    · exact h2
    · cases h1
  | some e =>
    simp only [optE, Option.map_eq_some_iff] at h
    obtain ⟨e', h, rfl⟩ := h
    refine PO.imp (po_some (S c e e' h X F).1) fun σ H Q q => ?_
    obtain ⟨av, ρ, h, σD, d, h', R, RE, e, r⟩ := q
    simp only [evE] at e
    obtain ⟨x, h1, e1, e2⟩ := Out.thn_eq_ok e
    obtain ⟨e2, rfl⟩ := Out.of_eq_ok e2
    cases x <;> simp only [o1F] at e2 <;> try contradiction
    cases e2
    refine ⟨av, ρ, h, σD, _, _, R, RE, e1, fun ρ' H' v S R r' => ?_⟩
    obtain ⟨o, h1, h2⟩ := r ρ' H' v S R r'
    cases r'
    rcases h1 with ⟨h1, _⟩ | ⟨i, h1, rfl⟩
    · cases h1
    · cases h1; exact ⟨_, rfl, h2⟩
theorem tD_slice {a l u : E} {σ : L2.St} {H : Hp} {Q : VK} (q : tD G (evE C (.o3 .slice a l u)) σ H Q) : tSl (U3 G) (tD G (evE C a)) (tO G C l) (tO G C u) σ H Q := by
  obtain ⟨av, ρ, h, σD, d, h', R, RE, e, q⟩ := q
  simp only [evE] at e
  obtain ⟨x, h1, e1, e2⟩ := Out.thn_eq_ok e
  obtain ⟨y, h2, e3, e4⟩ := Out.thn_eq_ok e2
  obtain ⟨z, h3, e5, e6⟩ := Out.thn_eq_ok e4
  obtain ⟨e6, rfl⟩ := Out.of_eq_ok e6
  simp only [o3F] at e6
  split at e6
  · rename_i lo hi hlo hhi
    have part : ∀ {x : D} {lo : Option Int} {ρ : List Addr} {H : Hp} {v : V} {av : List Addr}, partOf x = some lo → RD (G.at av) ρ H x.keep v → (v = .non ∧ lo = none ∨ ∃ i, v = .int i ∧ lo = some i) := by
      intro x lo ρ H v av hp r
      cases x <;> simp only [partOf] at hp <;> try contradiction
      · cases hp; cases r; exact .inl ⟨rfl, rfl⟩
      · cases hp; cases r; exact .inr ⟨_, rfl, rfl⟩
    refine ⟨av, ρ, h, σD, x, h1, R, RE, e1, fun ρ1 H1 v S1 R1 r1 => ?_⟩
    refine ⟨av, ρ1, h1, σD, y, h2, R1, RE.step S1, e3, fun ρ2 H2 v2 S2 R2 r2 => ⟨lo, part hlo r2.keep, ?_⟩⟩
    refine ⟨av, ρ2, h2, σD, z, _, R2, (RE.step S1).step S2, e5, fun ρ3 H3 v3 S3 R3 r3 => ⟨hi, part hhi r3.keep, ?_⟩⟩
    refine ⟨av, ρ3, _, x.keep, d, R3, (r1.keep.step S2).step S3, by rw [slice_keep]; exact e6, fun H4 v4 S4 R4 r4 => q _ _ _ (((S1.trans S2).trans S3).trans S4) R4 (r4.back ((S1.trans S2).trans S3) S4)⟩
  · cases e6
end
end Sd

/-! PyI3: every text that is turned. -/
namespace Sd
open PySem PySem.Spec PyProof.Rows L2

section
variable {G : Gx} {C : Calls} {X : Cx} {c : Cc}
inductive Bi (X : Cx) (x : Str) (r : List V → Hp → VK → Prop) : Prop
  | b (id : String) : bootBuiltins x = some (.builtin id) → CallR X (.builtin id) r → Bi X x r
  | t (T : String) : bootBuiltins x = some (.type T) → CallR X (.type T) r → Bi X x r
theorem bi1_ok (F : Fits G C c X) {x : Str} {o : O1} (h : bi1 x = some o) : Bi X x (C1 G (o1F o)) ∧ x ∈ bnames := by
  unfold bi1 at h
  split at h
  · cases h; subst_vars; exact ⟨.b "len" (by decide +kernel) (call_lenF F.K F.pw), by decide⟩
  split at h
  · cases h; subst_vars; exact ⟨.t "int" (by decide +kernel) call_intF, by decide⟩
  split at h
  · cases h; subst_vars; exact ⟨.t "str" (by decide +kernel) call_strF, by decide⟩
  split at h
  · cases h; subst_vars; exact ⟨.t "tuple" (by decide +kernel) (call_tupleF F.K), by decide⟩
  split at h
  · cases h; subst_vars; exact ⟨.t "list" (by decide +kernel) (call_listF F.K F.calm F.pw), by decide⟩
  split at h
  · cases h; subst_vars; exact ⟨.b "all" (by decide +kernel) (call_allF F.K F.calm), by decide⟩
  split at h
  · cases h; subst_vars; exact ⟨.b "any" (by decide +kernel) (call_anyF F.K F.calm), by decide⟩
  split at h
  · cases h; subst_vars; exact ⟨.t "dict" (by decide +kernel) (call_dictF F.K F.calm F.units F.pw), by decide⟩
  split at h
  · cases h; subst_vars; exact ⟨.b "sum" (by decide +kernel) (call_sumF F.K F.calm), by decide⟩
  split at h
  · cases h; subst_vars; exact ⟨.b "sorted" (by decide +kernel) (call_sortedF F.K F.units), by decide⟩
  cases h
theorem bi2_ok (F : Fits G C c X) {x : Str} {o : O2} (h : bi2 x = some o) : (∃ id, bootBuiltins x = some (.builtin id) ∧ CallR X (.builtin id) (C2 G (o2F o))) ∧ x ∈ bnames := by
  unfold bi2 at h
  split at h
  · cases h; subst_vars; exact ⟨⟨"min", by decide +kernel, call_minF F.calm⟩, by decide⟩
  split at h
  · cases h; subst_vars; exact ⟨⟨"max", by decide +kernel, call_maxF F.calm⟩, by decide⟩
  cases h
theorem tyOf_ok {x : Str} {t : Ty} (h : tyOf x = some t) : bootBuiltins x = some (.type (tyName t)) ∧ x ∈ bnames := by
  unfold tyOf at h
  split at h
  · cases h; subst_vars; exact ⟨by decide +kernel, by decide⟩
  split at h
  · cases h; subst_vars; exact ⟨by decide +kernel, by decide⟩
  split at h
  · cases h; subst_vars; exact ⟨by decide +kernel, by decide⟩
  split at h
  · cases h; subst_vars; exact ⟨by decide +kernel, by decide⟩
  split at h
  · cases h; subst_vars; exact ⟨by decide +kernel, by decide⟩
  split at h
  · cases h; subst_vars; exact ⟨by decide +kernel, by decide⟩
  cases h
theorem nodebug {x : Str} (h : ¬(x = "__debug__" ∨ x = "__name__")) : x ≠ "__name__" ∧ (x == ("__debug__" : Str)) = false := ⟨fun e => h (.inr e), by simpa using fun e => h (.inl e)⟩
theorem wrapP_of {p : Pos} {e : Expr} {a : E} (h : PE X e (tD G (evE C a))) : PE X e (tD G (evE C (wrapP c p a))) := by
  unfold wrapP
  split
  · exact PE.imp h fun _ _ _ q => tD_alc q
  · exact h
theorem meth_of {n : Nat} (S : Snd G C n) (F : Fits G C c X) {o : Expr} {m : Str} {s : String} {apos pos : Pos} {args : List Expr} {o' : E} {as : List E} (hs : sOf s = m) (hb : baseOk o = true) (hl : (apos.endLine == pos.line) = true) (hn : args.length < 29) (ho : cE n c o = some o') (ha : mapO (cE n c) args = some as) :
    PE X (.Call (.Attribute o m apos) args [] pos) (tD G (evE C (.meth o' s as))) := by
  subst hs
  have so := (S c o o' ho X F).1
  cases args with
  | nil =>
    cases ha
    exact pe_methF0 F.cl so (meth_tree (base_ok hb _ _ _) (pass_stars (by rfl) (by simp)) hl)
  | cons a args =>
    obtain ⟨y, zs, h1, h2, e0⟩ := mapO_cons ha
    exact pe_methF F.cl so (args_of S F ha) (star_of h1 _ _) (stars_of h2 _ _) (meth_tree (base_ok hb _ _ _) (pass_stars (stars_of ha _ _) hn) hl)
theorem call_of {n : Nat} (S : Snd G C n) (F : Fits G C c X) {x : Str} {p pos : Pos} {args : List Expr} {e' : E} (h : cE (n + 1) c (.Call (.Name x p) args [] pos) = some e') : PE X (.Call (.Name x p) args [] pos) (tD G (evE C e')) := by
  simp only [cE, List.isEmpty_nil, ↓reduceIte] at h
  split at h
  · cases h
  rename_i hx
  obtain ⟨hn, hd⟩ := nodebug hx
  split at h
  · rename_i hg
    split at h
    · rename_i m hm
      simp only [Option.map_eq_some_iff] at h
      obtain ⟨es, h, rfl⟩ := h
      cases args with
      | nil =>
        cases h
        exact pe_callF0 (F.fn x m hm) (F.gl hg) hd
      | cons a args =>
        obtain ⟨y, zs, h1, h2, e0⟩ := mapO_cons h
        exact pe_callF (F.fn x m hm) (F.gl hg) (args_of S F h) hd (star_of h1 _ _) (stars_of h2 _ _)
    · rename_i hm
      split at h
      · rename_i k hk
        simp only [Option.map_eq_some_iff] at h
        obtain ⟨es, h, rfl⟩ := h
        cases args with
        | nil =>
          cases h
          exact pe_makeF0 (F.mks x k hk) (F.gl hg) hd
        | cons a args =>
          obtain ⟨y, zs, h1, h2, e0⟩ := mapO_cons h
          exact pe_makeF (F.mks x k hk) (F.gl hg) (args_of S F h) hd (star_of h1 _ _) (stars_of h2 _ _)
      split at h
      · rename_i a
        split at h
        · rename_i b hb
          simp only [Option.map_eq_some_iff] at h
          obtain ⟨b', hb', rfl⟩ := h
          unfold lenSet at hb
          split at hb
          · rename_i hx1
            subst hx1
            split at hb
            · split at hb
              · rename_i hf
                cases hb
                simp only [Bool.and_eq_true, decide_eq_true_eq, Option.isNone_iff_eq_none] at hf
                obtain ⟨⟨rfl, hg2⟩, hf2⟩ := hf
                exact pe_lsetF F.K F.calm F.units (F.gl hg) (F.free _ (by decide) hm) (F.gl hg2) (F.free _ (by decide) hf2) (S c _ b' hb' X F).1 (star_of hb' _ _)
              · cases hb
            · cases hb
          · cases hb
        split at h
        · rename_i o a' ho ha
          cases h
          obtain ⟨hb, hbn⟩ := bi1_ok F ho
          have fm := F.free x hbn hm
          cases hb with
          | b id h1 h2 => exact pe_b1 h2 (F.gl hg) fm h1 (S c a a' ha X F).1 hn hd (star_of ha _ _)
          | t T h1 h2 => exact pe_t1 h2 (F.gl hg) fm h1 (S c a a' ha X F).1 hn hd (star_of ha _ _)
        · cases h
      · rename_i a b
        split at h
        · rename_i hi
          split at h
          · rename_i y p2
            split at h
            · rename_i hy
              rw [Bool.and_eq_true, Option.isNone_iff_eq_none] at hy
              split at h
              · rename_i t a' ht ha
                cases h
                obtain ⟨h1, h2⟩ := tyOf_ok ht
                subst hi
                refine pe_isiF F.K (F.gl hg) (F.free _ (by decide) hm) (F.gl hy.1) (F.free _ h2 hy.2) h1 ?_ ?_ (S c a a' ha X F).1 (star_of ha _ _)
                · rintro rfl; exact absurd h2 (by decide)
                · rw [beq_eq_false_iff_ne]; rintro rfl; exact absurd h2 (by decide)
              · cases h
            · cases h
          · cases h
        · split at h
          · rename_i o a' b' ho ha hb
            cases h
            obtain ⟨⟨id, h1, h2⟩, hbn⟩ := bi2_ok F ho
            exact pe_b2 h2 (F.gl hg) (F.free x hbn hm) h1 (S c a a' ha X F).1 (S c b b' hb X F).1 hn hd (star_of ha _ _) (star_of hb _ _)
          · cases h
      · cases h
  · cases h

theorem iter_of {n : Nat} (S : Snd G C n) (F : Fits G C c X) {pt : Bool} {e tg : Expr} {it : Sd.It} (ht : pt = true → ∃ es k p, tg = .Tuple es k p) (h : cI (cE n c) c pt e = some it) : PI X tg e (tI G pt (evI C it)) := by
  have val : ∀ {e : Expr} {it : Sd.It}, (cE n c e).map Sd.It.val = some it → PI X tg e (tI G pt (evI C it)) := by
    intro e it h
    simp only [Option.map_eq_some_iff] at h
    obtain ⟨a, h, rfl⟩ := h
    exact pi_valF F.K (S c e a h X F).1
  unfold cI at h
  split at h
  · split at h
    · rename_i hf
      subst hf
      split at h
      · rename_i hc
        simp only [Bool.and_eq_true, Option.isNone_iff_eq_none, List.isEmpty_iff] at hc
        obtain ⟨⟨hg, hl⟩, rfl⟩ := hc
        have fm := F.free _ (by decide) hl
        split at h
        · simp only [Option.map_eq_some_iff] at h
          obtain ⟨a', ha, rfl⟩ := h
          exact pi_rngF (F.gl hg) fm (S c _ _ ha X F).1 (star_of ha _ _)
        · split at h
          · rename_i a' b' ha hb
            cases h
            exact pi_rng2F (F.gl hg) fm (S c _ _ ha X F).1 (S c _ _ hb X F).1 (by rw [star_of ha, star_of hb]; rfl) (star_of hb _ _)
          · cases h
        · cases h
      · cases h
    · split at h
      · rename_i hf
        subst hf
        split at h
        · rename_i hc
          simp only [Bool.and_eq_true, Option.isNone_iff_eq_none, List.isEmpty_iff] at hc
          obtain ⟨⟨⟨rfl, hg⟩, hl⟩, rfl⟩ := hc
          obtain ⟨es, k, tp, rfl⟩ := ht rfl
          split at h
          · simp only [Option.map_eq_some_iff] at h
            obtain ⟨a', ha, rfl⟩ := h
            exact pi_enuF F.K (F.gl hg) (F.free _ (by decide) hl) (S c _ _ ha X F).1 (star_of ha _ _)
          · cases h
        · cases h
      · split at h
        · rename_i hf
          subst hf
          split at h
          · rename_i hc
            simp only [Bool.and_eq_true, Option.isNone_iff_eq_none, List.isEmpty_iff] at hc
            obtain ⟨⟨⟨rfl, hg⟩, hl⟩, rfl⟩ := hc
            obtain ⟨es, k, tp, rfl⟩ := ht rfl
            split at h
            · split at h
              · rename_i a' b' ha hb
                cases h
                exact pi_zipF F.K (F.gl hg) (F.free _ (by decide) hl) (S c _ _ ha X F).1 (S c _ _ hb X F).1 (star_of ha _ _) (star_of hb _ _)
              · cases h
            · cases h
          · cases h
        · exact val h
  · exact val h
theorem isT_ok {e : Expr} {p : Pat} (h : cPat c e = some p) : p.isT = true → ∃ es k q, e = .Tuple es k q := by
  intro hp
  cases e with
  | Tuple es k pos => exact ⟨_, _, _, rfl⟩
  | _ =>
    simp only [cPat, Option.map_eq_some_iff] at h
    obtain ⟨i, h, rfl⟩ := h
    cases hp

theorem ifs_of {n : Nat} (S : Snd G C n) (F : Fits G C c X) : ∀ {es : List Expr} {es' : List E}, es.length ≤ 1 → mapO (cE n c) es = some es' → PTs X es (tTs G (evTs C es'))
  | [], _, _, h => by cases h; exact pts_nilF
  | [e], _, _, h => by
    obtain ⟨y, zs, h1, h2, rfl⟩ := mapO_cons h
    cases h2
    exact pts_oneF (S c e _ h1 X F).2
  | _ :: _ :: _, _, hl, _ => by simp at hl
end
end Sd

/-! PyI4: every expression that is turned. -/
namespace Sd
open PySem PySem.Spec PyProof.Rows L2

section
variable {G : Gx} {C : Calls} {X : Cx} {c : Cc}
theorem name_of (F : Fits G C c X) {n : Nat} {x : Str} {pos : Pos} {e' : E} (h : cE (n + 1) c (.Name x pos) = some e') : PE X (.Name x pos) (tD G (evE C e')) := by
  simp only [cE] at h
  split at h
  · cases h
  rename_i hx
  have hd : (x == ("__debug__" : Str)) = false := by rw [beq_eq_false_iff_ne]; exact fun e => hx (.inl e)
  have hcd : (x == ("__classdict__" : Str)) = false := by rw [beq_eq_false_iff_ne]; exact fun e => hx (.inr e)
  split at h
  · rename_i hv
    simp only [Option.map_eq_some_iff] at h
    obtain ⟨i, h, rfl⟩ := h
    exact PE.imp (pe_var (i := i) (by rw [F.N]; exact ixOf_ok h) (by rw [F.sc]; exact visB_ok hv) hd hcd) fun _ _ _ q => tD_var q
  · split at h
    · rename_i hg
      simp only [Option.map_eq_some_iff] at h
      obtain ⟨d, h, rfl⟩ := h
      obtain ⟨u, v, hm, r, k⟩ := F.con x d h
      exact PE.imp (pe_glob (F.gl hg) hm r hd) fun _ _ _ q => tD_cst k q
    · cases h
theorem const_of {k : Const} {j : Nat} {pos : Pos} {d : D} (h : cK k = some d) : PE X (.Constant k j pos) (tD G (evE C (.cst d))) := by
  cases k <;> simp only [cK] at h <;> first | contradiction | cases h
  · exact PE.imp pe_non fun _ _ _ q => tD_cst KD.non q
  · exact PE.imp pe_bl fun _ _ _ q => tD_cst (KD.bl _) q
  · exact PE.imp pe_int fun _ _ _ q => tD_cst (KD.int _) q
  · exact PE.imp pe_str fun _ _ _ q => tD_cst (KD.str _) q
theorem cmp1_of {n : Nat} (S : Snd G C n) (F : Fits G C c X) {a b : Expr} {op : CmpOp} {pos : Pos} {e' : E} (h : cE (n + 1) c (.Compare a [op] [b] pos) = some e') : PE X (.Compare a [op] [b] pos) (tD G (evE C e')) ∧ PT X (.Compare a [op] [b] pos) (tDt G (evE C e')) := by
  simp only [cE] at h
  split at h
  · rename_i a' ha
    split at h
    · rename_i hh
      cases h
      obtain ⟨rfl, hb⟩ := hh
      obtain ⟨j, p, rfl⟩ := isNoneK_ok hb
      exact ⟨PE.imp (pe_cmp (pc_isN (S c a a' ha X F).1) (by rfl)) fun _ _ _ q => tD_isN q, PT.imp (pt_cmp (pc_isN (S c a a' ha X F).1) (by rfl)) fun _ _ _ q => tD_isN (tDt_test q)⟩
    split at h
    · rename_i hh
      cases h
      obtain ⟨rfl, hb⟩ := hh
      obtain ⟨j, p, rfl⟩ := isNoneK_ok hb
      exact ⟨PE.imp (pe_cmp (pc_notN (S c a a' ha X F).1) (by rfl)) fun _ _ _ q => tD_notN q, PT.imp (pt_cmp (pc_notN (S c a a' ha X F).1) (by rfl)) fun _ _ _ q => tD_notN (tDt_test q)⟩
    split at h
    · cases h
    rename_i hm
    rw [Bool.not_eq_true] at hm
    split at h
    · rename_i o b' ho hb
      cases h
      exact ⟨PE.imp (pe_cmpR (cmp_of ⟨c, F⟩ ho) (S c a a' ha X F).1 (S c b b' hb X F).1 hm) fun _ _ _ q => tD_o2 o q, PT.imp (pt_cmpR (cmp_of ⟨c, F⟩ ho) (S c a a' ha X F).1 (S c b b' hb X F).1 hm) fun _ _ _ q => boolTest (fun _ _ _ q => tD_o2 o q) q⟩
    · cases h
  · cases h
theorem cmp2_of {n : Nat} (S : Snd G C n) (F : Fits G C c X) {a b d : Expr} {op op2 : CmpOp} {pos : Pos} {e' : E} (h : cE (n + 1) c (.Compare a [op, op2] [b, d] pos) = some e') : PE X (.Compare a [op, op2] [b, d] pos) (tD G (evE C e')) ∧ PT X (.Compare a [op, op2] [b, d] pos) (tDt G (evE C e')) := by
  simp only [cE] at h
  split at h
  · cases h
  rename_i hm
  rw [Bool.not_eq_true] at hm
  split at h
  · rename_i o o2 a' b' d' ho ho2 ha hb hd
    cases h
    exact ⟨PE.imp (pe_chain (cmp_of ⟨c, F⟩ ho) (cmp_of ⟨c, F⟩ ho2) (S c a a' ha X F).1 (S c b b' hb X F).1 (S c d d' hd X F).1 hm) fun _ _ _ q => tD_chn q,
      PT.imp (pt_chain (cmp_of ⟨c, F⟩ ho) (cmp_of ⟨c, F⟩ ho2) (S c a a' ha X F).1 (S c b b' hb X F).1 (S c d d' hd X F).1 hm) fun _ _ _ q => boolTest (fun _ _ _ q => tD_chn q) q⟩
  · cases h
theorem own_ok {N : List Str} {scope : Scope} {ps : List Nat} (h : ps.all (fun i => (ownOf N scope).any fun q => q.2 == i) = true) : ∀ i ∈ ps, i ∈ (ownOf N scope).map (·.2) := by
  intro i hi
  have := List.all_eq_true.mp h i hi
  obtain ⟨q, hq, e⟩ := List.any_eq_true.mp this
  exact List.mem_map.mpr ⟨q, hq, by simpa using e⟩
theorem comp_of {n : Nat} (S : Snd G C n) (F : Fits G C c X) {elt : Expr} {gens : List Comprehension} {scope : Scope} {pos : Pos} {e' : E} (h : cE (n + 1) c (.ListComp elt gens scope pos) = some e') : PE X (.ListComp elt gens scope pos) (tD G (evE C e')) := by
  have hN : X.N.Nodup := by rw [F.N]; exact F.nd
  simp only [cE] at h
  split at h
  · rename_i hb
    have ok : BlkOk X.N X.env.scope scope (ownOf c.N scope) := by rw [F.N, F.sc]; exact blkOk_by hb
    split at h
    · split at h
      · rename_i tg iter ifs as hh
        obtain ⟨rfl, hs, hl⟩ := hh
        split at h
        · rename_i p hp
          split at h
          · rename_i it ifs' elt' h1 h2 h3
            split at h
            · rename_i hown
              cases h
              exact pe_compF F.calm hN (own_ok hown) (iter_of S F (isT_ok hp) h1) ok (fun s H Ca cl fp => (F.inner scope s H Ca cl fp).pat hp) (fun s H Ca cl fp => ifs_of S (F.inner scope s H Ca cl fp) hl h2)
                (fun s H Ca cl fp => (S _ _ _ h3 _ (F.inner scope s H Ca cl fp)).1) (fun x => set_ok hs _ x)
            · cases h
          · cases h
        · cases h
      · cases h
    · split at h
      · rename_i tg iter ifs as tg1 iter1 ifs1 as1 hh
        obtain ⟨rfl, rfl, hs, hs1, hl, hl1⟩ := hh
        split at h
        · rename_i p p1 hp hp1
          split at h
          · rename_i it ifs' it1 ifs1' elt' h1 h2 h4 h5 h3
            split at h
            · rename_i hown
              cases h
              rw [Bool.and_eq_true] at hown
              exact pe_comp2F F.calm hN (own_ok hown.1) (own_ok hown.2) (iter_of S F (isT_ok hp) h1) ok (fun s H Ca cl fp => (F.inner scope s H Ca cl fp).pat hp) (fun s H Ca cl fp => ifs_of S (F.inner scope s H Ca cl fp) hl h2)
                (fun s H Ca cl fp => iter_of S (F.inner scope s H Ca cl fp) (isT_ok hp1) h4) (fun s H Ca cl fp => (F.inner scope s H Ca cl fp).pat hp1) (fun s H Ca cl fp => ifs_of S (F.inner scope s H Ca cl fp) hl1 h5)
                (fun s H Ca cl fp => (S _ _ _ h3 _ (F.inner scope s H Ca cl fp)).1) (fun x => set_ok hs _ x) (fun env x => set_ok hs1 env x)
            · cases h
          · cases h
        · cases h
      · cases h
    · cases h
  · cases h
theorem pe_joinF (FF : Fits G C c X) {o a : Expr} {o' a' : E} {apos pos : Pos} (ho : PE X o (tD G (evE C o'))) (ha : PE X a (tD G (evE C a'))) (hs : starEach [a] X.env = [(false, eval a X.env)]) (hb : attributeBase o "join" X.env (eval o X.env) = eval o X.env) (hl : (apos.endLine == pos.line) = true) : PE X (.Call (.Attribute o "join" apos) [a] [] pos) (tD G (evE C (.o2 .join o' a'))) := by
  refine PE.imp (pe_m1 F.slot_str_join F.type_str_join (mt_joinF FF.K) ho ha hs hb hl) fun σ H Q q => ?_
  obtain ⟨av, ρ, h, σD, d, h', R, RE, e, q⟩ := q
  simp only [evE] at e
  obtain ⟨x, h1, e1, e2⟩ := Out.thn_eq_ok e
  obtain ⟨y, h2, e3, e4⟩ := Out.thn_eq_ok e2
  obtain ⟨e4, rfl⟩ := Out.of_eq_ok e4
  have hx : ∃ s, x = .str s := by
    cases x <;> simp only [o2F] at e4 <;> first | contradiction | exact ⟨_, rfl⟩
  obtain ⟨s, rfl⟩ := hx
  refine ⟨av, ρ, h, σD, _, h1, R, RE, e1, fun ρ1 H1 v S1 R1 r1 => ⟨⟨_, RD.str_inv r1⟩, ?_⟩⟩
  refine ⟨av, ρ1, h1, σD, y, _, R1, RE.step S1, e3, fun ρ2 H2 w S2 R2 r2 => ⟨w, rfl, ?_⟩⟩
  have r1' : RD (G.at av) ρ1 H1 (.str s) v := r1
  exact ⟨av, ρ2, _, .str s, y.keep, d, R2, r1'.step S2, r2.keep, by rw [show D.str s = (D.str s).keep from rfl, o2_keep]; exact e4, fun H' u S3 R3 r3 => q _ _ _ ((S1.trans S2).trans S3) R3 (r3.back (S1.trans S2) S3)⟩
theorem snd (G : Gx) (C : Calls) : ∀ n, Snd G C n := by
  intro n
  induction n with
  | zero => intro c e e' h; cases h
  | succ n S =>
    intro c e e' h X F
    cases e with
    | Constant k j pos =>
      simp only [cE, Option.map_eq_some_iff] at h
      obtain ⟨d, h, rfl⟩ := h
      exact plainT (const_of h) fun _ => rfl
    | Name x pos => exact plainT (name_of F h) fun _ => rfl
    | Tuple es k pos =>
      simp only [cE] at h
      split at h
      · rename_i hl
        simp only [Option.map_eq_some_iff] at h
        obtain ⟨es', h, rfl⟩ := h
        exact plainT (pe_tupF (args_of S F h) (by rw [mapO_len h]; exact hl)) fun _ => rfl
      · cases h
    | List es pos =>
      simp only [cE] at h
      split at h
      · rename_i hl
        simp only [Option.map_eq_some_iff] at h
        obtain ⟨es', h, rfl⟩ := h
        exact plainT (wrapP_of (pe_lstF (args_of S F h) (by rw [mapO_len h]; exact hl))) fun _ => rfl
      · cases h
    | Dict ks vs pos =>
      simp only [cE] at h
      split at h
      · rename_i hk
        simp only [Bool.and_eq_true, List.isEmpty_iff] at hk
        obtain ⟨rfl, rfl⟩ := hk
        cases h
        exact plainT (wrapP_of pe_dict0F) fun _ => rfl
      · cases h
    | Attribute o f pos =>
      simp only [cE] at h
      split at h
      · rename_i s cs hs
        split at h
        · rename_i hh
          obtain ⟨rfl, hb⟩ := hh
          simp only [Option.map_eq_some_iff] at h
          obtain ⟨o', ho, rfl⟩ := h
          exact plainT (pe_attF F.cl.cls (F.ats _ _ _ hs) (S c o o' ho X F).1 (base_ok hb _ _ _)) fun _ => rfl
        · cases h
      · cases h
    | BinOp a op b pos =>
      simp only [cE] at h
      split at h
      · rename_i o a' b' ho ha hb
        cases h
        exact plainT (PE.imp (pe_op (op_of ⟨c, F⟩ ho) (S c a a' ha X F).1 (S c b b' hb X F).1) fun _ _ _ q => tD_o2 o q) fun _ => rfl
      · cases h
    | UnaryOp op a pos =>
      simp only [cE] at h
      split at h
      · rename_i a' ha
        cases h
        exact plainT (PE.imp (pe_un un_negF (S c a a' ha X F).1) fun _ _ _ q => tD_o1 .neg q) fun _ => rfl
      · rename_i a' ha
        cases h
        exact ⟨PE.imp (pe_not (S c a a' ha X F).1) fun _ _ _ q => tD_not q, PT.imp (pt_not (S c a a' ha X F).2) fun _ _ _ q => tDt_not q⟩
      · cases h
    | BoolOp op vs pos =>
      simp only [cE] at h
      split at h
      · rename_i es hes
        have := fold_of S F op pos hes h
        exact ⟨this.1, pt_of_pw this.2⟩
      · cases h
    | Compare a ops bs pos =>
      cases ops with
      | nil => simp [cE] at h
      | cons op ops =>
        cases ops with
        | nil =>
          cases bs with
          | nil => simp [cE] at h
          | cons b bs =>
            cases bs with
            | nil => exact cmp1_of S F h
            | cons _ _ => simp [cE] at h
        | cons op2 ops =>
          cases ops with
          | nil =>
            cases bs with
            | nil => simp [cE] at h
            | cons b bs =>
              cases bs with
              | nil => simp [cE] at h
              | cons d bs =>
                cases bs with
                | nil => exact cmp2_of S F h
                | cons _ _ => simp [cE] at h
          | cons _ _ => simp [cE] at h
    | IfExp t a b pos =>
      simp only [cE] at h
      split at h
      · rename_i t' a' b' ht ha hb
        cases h
        have st := S c t t' ht X F
        have sa := S c a a' ha X F
        have sb := S c b b' hb X F
        exact ⟨PE.imp (pe_ifExp st.2 sa.1 sb.1) fun _ _ _ q => tD_ife q, PT.imp (pt_ifExpF st.2 sa.2 sb.2) fun _ _ _ q => tDt_ife q⟩
      · cases h
    | Call f args kws pos =>
      refine plainT ?_ fun _ => rfl
      have hk : kws = [] := by
        cases kws with
        | nil => rfl
        | cons k ks => simp [cE] at h
      subst hk
      cases f with
      | Name x p => exact call_of S F h
      | Attribute o m apos =>
        simp only [cE, List.isEmpty_nil, ↓reduceIte] at h
        split at h
        · rename_i hm
          obtain ⟨rfl, hb, hl⟩ := hm
          split at h
          · split at h
            · rename_i o' a' ho ha
              cases h
              exact pe_joinF F (S c _ _ ho X F).1 (S c _ _ ha X F).1 (star_of ha _ _) (base_ok hb _ _ _) hl
            · cases h
          · cases h
        split at h
        · rename_i hm
          obtain ⟨rfl, hb, hl⟩ := hm
          split at h
          · split at h
            · rename_i o' a' ho ha
              cases h
              refine PE.imp (pe_getF1 F.units F.pw F.K (S c _ _ ho X F).1 (S c _ _ ha X F).1 ⟨base_ok hb _ _ _, ?_, hl, ?_⟩) fun _ _ _ q => tD_dget1 q
              · rw [star_of ha]; rfl
              · rw [star_of ha]; rfl
            · cases h
          · split at h
            · rename_i o' a' b' ho ha hb'
              cases h
              refine PE.imp (pe_getF F.units F.pw F.K (S c _ _ ho X F).1 (S c _ _ ha X F).1 (S c _ _ hb' X F).1 ⟨base_ok hb _ _ _, ?_, hl, ?_⟩) fun _ _ _ q => tD_dget q
              · rw [star_of ha, star_of hb']; rfl
              · rw [star_of ha, star_of hb']; rfl
            · cases h
          · cases h
        · split at h
          · rename_i hm
            obtain ⟨rfl, hb, hl, hn⟩ := hm
            cases args with
            | cons _ _ => simp at hn
            | nil =>
              simp only [Option.map_eq_some_iff] at h
              obtain ⟨o', ho, rfl⟩ := h
              exact PE.imp (pe_bm0 PySem.F.plainAttrs_list PySem.F.slot_list_pop PySem.F.type_list_pop mt_pop (S c _ _ ho X F).1 (base_ok hb _ _ _) hl) fun _ _ _ q => tD_pop F.K q
          · split at h
            · split at h
              · rename_i hh
                split at h
                · rename_i o' as ho ha
                  cases h
                  exact meth_of S F hh.1 hh.2.1 hh.2.2.1 hh.2.2.2 ho ha
                · cases h
              · cases h
            · cases h
      | _ => simp [cE] at h
    | Subscript a i pos =>
      refine plainT ?_ fun _ => rfl
      simp only [cE] at h
      split at h
      · rename_i a' ha
        have sa := (S c a a' ha X F).1
        split at h
        · rename_i lo hi st p2
          cases st with
          | some st => cases h
          | none =>
            simp only at h
            split at h
            · rename_i l u hl hu
              cases h
              exact PE.imp (pe_slice (sl_F F.K) sa (opt_of S F hl) (opt_of S F hu)) fun _ _ _ q => tD_slice q
            · cases h
        · rename_i hns
          split at h
          · rename_i i' hi
            cases h
            refine PE.imp (pe_ix (ix_F F.pw F.K F.units) sa (S c i i' hi X F).1 ?_) fun _ _ _ q => tD_o2 .idx q
            intro o v
            cases i <;> first | rfl | (exact absurd rfl (hns _ _ _ _))
          · cases h
      · cases h
    | ListComp elt gens scope pos => exact plainT (comp_of S F h) fun _ => rfl
    | _ => simp [cE] at h
end
end Sd

/-! PyI5: x[k] = v, of lists and dicts. -/
namespace Sd
open PySem PySem.Spec PyProof.Rows L2

section
variable {G : Gx} {X : Cx} {ρ : List Addr} {H : Hp} {h : Hh} {pins : List (Addr × Obj)} {σ : L2.St} {s : Shared}
theorem kput_val {d : D} {v : V} (kk : Key) (rd : RD G ρ H d v) : ∀ {kvs : List (Key × V)} {vs : List D}, RDs G ρ H vs (kvs.map (·.2)) → RDs G ρ H (kput (keyD kk) d (kvs.map fun p => keyD p.1) vs) ((kvs.map fun kv => if kv.1 = kk then (kv.1, v) else kv).map (·.2))
  | [], _, r => by cases r; exact .nil
  | (k, u) :: kvs, y :: ys, .cons r rs => by
    show RDs G ρ H ((if eqKey (keyD k) (keyD kk) then d else y) :: kput (keyD kk) d (kvs.map fun p => keyD p.1) ys) _
    rw [eqKey_keyD, List.map_cons, List.map_cons]
    refine .cons ?_ (kput_val kk rd rs)
    by_cases e : k = kk
    · rw [if_pos (by simpa using e), if_pos e]; exact rd
    · rw [if_neg (by simpa using e), if_neg e]; exact r
theorem keys_repl (kk : Key) (v : V) (kvs : List (Key × V)) : (kvs.map fun kv => if kv.1 = kk then (kv.1, v) else kv).map (fun p => keyD p.1) = kvs.map fun p => keyD p.1 := by
  rw [List.map_map]
  refine List.map_congr_left fun p _ => ?_
  simp only [Function.comp]
  split <;> rfl
/-- what a dict of whole numbers and texts becomes -/
theorem put_dic {a : Addr} {kvs : List (Key × V)} {kk : Key} {vs : List D} {d : D} {v : V} {H' : Hp} (rs : RDs G ρ H vs (kvs.map (·.2))) (rd : RD G ρ H d v) (e : H a = some (.dK (putK kvs kk v))) :
    RO G ρ H a (match kget (keyD kk) (kvs.map fun p => keyD p.1) vs with
      | some _ => .dic (kvs.map fun p => keyD p.1) (kput (keyD kk) d (kvs.map fun p => keyD p.1) vs)
      | none => .dic ((kvs.map fun p => keyD p.1) ++ [keyD kk]) (vs ++ [d])) := by
  have g := kget_val (G := G) (ρ := ρ) (H := H) kk rs
  cases hv : valV kvs kk with
  | some u =>
    rw [hv] at g
    cases hk : kget (keyD kk) (kvs.map fun p => keyD p.1) vs with
    | none => rw [hk] at g; exact g.elim
    | some y =>
      have ep : putK kvs kk v = kvs.map fun kv => if kv.1 = kk then (kv.1, v) else kv := by
        unfold putK
        rw [valV_any, hv]; rfl
      rw [ep] at e
      exact ⟨_, e, (keys_repl kk v kvs).symm, kput_val kk rd rs⟩
  | none =>
    rw [hv] at g
    cases hk : kget (keyD kk) (kvs.map fun p => keyD p.1) vs with
    | some y => rw [hk] at g; exact g.elim
    | none =>
      have ep : putK kvs kk v = kvs ++ [(kk, v)] := L2.putK_new v hv
      rw [ep] at e
      refine ⟨_, e, by rw [List.map_append]; rfl, ?_⟩
      rw [List.map_append]
      exact rs.append (.cons rd .nil)
theorem mapO_append {α β : Type} (f : α → Option β) : ∀ {xs : List α} {ys : List β} {x : α} {y : β}, mapO f xs = some ys → f x = some y → mapO f (xs ++ [x]) = some (ys ++ [y])
  | [], _, x, y, e, e2 => by cases e; simp [mapO, e2]
  | z :: zs, _, x, y, e, e2 => by
    cases h1 : f z with
    | none => simp [mapO, h1] at e
    | some a =>
      cases h2 : mapO f zs with
      | none => simp [mapO, h1, h2] at e
      | some as =>
        simp only [mapO, h1, h2] at e
        cases e
        have := mapO_append f h2 e2
        simp [mapO, h1, this]
theorem nput_val {d : D} {v : V} {u : Value} (q : NestedKey) (rd : RD G ρ H d v) (rv : RelV v u) : ∀ {ks vs : List D} {es : List (NestedKey × Addr × Value)} {us : List V}, mapO kOf ks = some (es.map (·.1)) → Vals us (es.map (·.2.2)) → RDs G ρ H vs us →
    ∃ us', Vals us' ((es.map (putAt q u)).map (·.2.2)) ∧ RDs G ρ H (nput q d ks vs) us'
  | [], vs, [], us, _, r1, r2 => by
    cases r1; cases r2
    exact ⟨[], .nil, .nil⟩
  | [], _, _ :: _, _, e, _, _ => by simp [mapO] at e
  | x :: ks, _, [], _, e, _, _ => by
    cases h1 : kOf x with
    | none => simp [mapO, h1] at e
    | some k1 =>
      cases h2 : mapO kOf ks with
      | none => simp [mapO, h1, h2] at e
      | some ks' => simp [mapO, h1, h2] at e
  | x :: ks, vs, y :: es, us, e, r1, r2 => by
    cases h1 : kOf x with
    | none => simp [mapO, h1] at e
    | some k1 =>
      cases h2 : mapO kOf ks with
      | none => simp [mapO, h1, h2] at e
      | some ks' =>
        simp only [mapO, h1, h2, List.map_cons, Option.some.injEq, List.cons.injEq] at e
        obtain ⟨e1, e2⟩ := e
        cases r1 with
        | cons r0 r1 =>
          cases r2 with
          | cons rz r2 =>
            obtain ⟨us', a1, a2⟩ := nput_val q rd rv (ks := ks) (by rw [h2, e2]) r1 r2
            rw [nput, h1]
            by_cases hk : k1 = q
            · subst hk
              rw [if_pos rfl]
              refine ⟨v :: us', .cons ?_ a1, .cons rd a2⟩
              simp only [putAt, ← e1, if_true]
              exact rv
            · rw [if_neg (by simpa using hk)]
              refine ⟨_ :: us', .cons ?_ a1, .cons rz a2⟩
              have hne : ¬ y.1 = q := fun z => hk (e1.trans z)
              simp only [putAt, if_neg hne]
              exact r0
theorem putAt_keys (q : NestedKey) (u : Value) (es : List (NestedKey × Addr × Value)) : (es.map (putAt q u)).map (·.1) = es.map (·.1) ∧ (es.map (putAt q u)).map (fun x => V.ref x.2.1) = es.map fun x => V.ref x.2.1 := by
  constructor
  · rw [List.map_map]
    refine List.map_congr_left fun p _ => ?_
    simp only [Function.comp, putAt]
    split <;> rfl
  · rw [List.map_map]
    refine List.map_congr_left fun p _ => ?_
    simp only [Function.comp, putAt]
    split <;> rfl
/-- what a dict of tuples becomes -/
theorem put_din {a b : Addr} {es : List (NestedKey × Addr × Value)} {ks vs : List D} {us : List V} {k d : D} {q : NestedKey} {v : V} {u : Value} (ek : mapO kOf ks = some (es.map (·.1))) (rk : RDs G ρ H ks (es.map fun x => V.ref x.2.1)) (rv : Vals us (es.map (·.2.2))) (rs : RDs G ρ H vs us)
    (hq : kOf k = some q) (rb : RD G ρ H k (.ref b)) (rd : RD G ρ H d v) (ru : RelV v u) (e : NOx G.b H a (storedH es q b u)) :
    RO G ρ H a (match nget q ks vs with
      | some _ => .din ks (nput q d ks vs)
      | none => .din (ks ++ [k]) (vs ++ [d])) := by
  have g := nget_at (k := q) ek rv rs
  cases hg : nget q ks vs with
  | some y =>
    obtain ⟨p, y', hp, _, _⟩ := g.1 y hg
    rw [storedH_old hp] at e
    obtain ⟨us', a1, a2⟩ := nput_val q rd ru ek rv rs
    exact ⟨_, us', e, by rw [(putAt_keys q u es).1]; exact ek, by rw [(putAt_keys q u es).2]; exact rk, a1, a2⟩
  | none =>
    rw [storedH_new (g.2 hg)] at e
    refine ⟨_, us ++ [v], e, ?_, ?_, ?_, rs.append (.cons rd .nil)⟩
    · rw [List.map_append]; exact mapO_append kOf ek hq
    · rw [List.map_append]; exact rk.append (.cons rb .nil)
    · rw [List.map_append]; exact rv.append (.cons ru .nil)
theorem storedH_len (es : List (NestedKey × Addr × Value)) (q : NestedKey) (b : Addr) (u : Value) : (storedH es q b u).length ≤ es.length + 1 := by
  unfold storedH
  split
  · rw [List.length_map]; omega
  · rw [List.length_append]; simp
/-- d[k] = v, the keys tuples -/
theorem set_nested {E : Value → Shared → Prop} {Q : Unit → Shared → Prop} (hu : X.A.units + 200 < cLine) (hW : X.prog = G.b.P ∧ X.w = G.b.w) (I : Inv X pins σ H s) {a b : Addr} {es : List (NestedKey × Addr × Value)} {q : NestedKey} {u : Value} (mu : Mut (H a)) (hm : (a == sysModules) = false)
    (hb : (nestedKind X.prog X.w).is s.heap q b) (hd : s.heap.DictOfH (nestedKind X.prog X.w) a es) (hz : es.length < sizeLine) (k : ∀ o s', Inv X pins σ (upd H a (NO G.b a o (storedH es q b u))) s' → Q () s') :
    wpAny (model X.prog X.w) X.A (setItem (.ref a) (.ref b) u) Q E s := by
  refine wpAny_setItem_heap (hsz := Nat.le_of_lt hz) (room_n hu) hb hd fun h' dd' hs => ?_
  obtain ⟨o, en, ep, hq, h2, h3, h4, _, h5⟩ := dd'
  refine k o _ ?_
  have hl := storedH_len es q b u
  refine d_write I mu hs ⟨o, hq⟩ ⟨⟨hm, by omega, h5, hq, en, ep, h2, h3, by rw [← hW.1, ← hW.2]; exact h4⟩, ⟨o, hq⟩, ?_⟩
  rintro h1 h2 ⟨p1, p2, p3, p4, p5⟩ k
  exact ⟨p1, p2, p3, k o p4, p5⟩
def rSetF (G : Gx) : V → V → V → Hp → (Hp → Prop) → Prop := fun o i v H Q => ∃ av ρ h l k x ob ob', RelH (G.at av) ρ h H ∧ RD (G.at av) ρ H (.ref l) o ∧ RD (G.at av) ρ H k i ∧ RD (G.at av) ρ H x v ∧ h[l]? = some ob ∧ obPut ob k x = some ob' ∧
  ∀ H', Stp ρ ρ H H' → RelH (G.at av) ρ (h.set l ob') H' → Q H'
theorem mapO_length {α β : Type} {f : α → Option β} : ∀ {xs : List α} {ys : List β}, mapO f xs = some ys → xs.length = ys.length
  | [], _, e => by cases e; rfl
  | z :: zs, _, e => by
    cases h1 : f z with
    | none => simp [mapO, h1] at e
    | some a =>
      cases h2 : mapO f zs with
      | none => simp [mapO, h1, h2] at e
      | some as =>
        simp only [mapO, h1, h2] at e
        cases e
        rw [List.length_cons, List.length_cons, mapO_length h2]
theorem line_N : lineN = sizeLine := by rw [sizeLine_eq]; rfl
theorem set_F (hu : X.A.units + 200 < cLine) (hW : X.prog = G.b.P ∧ X.w = G.b.w) (hK : X.K = G.K) : PSet X (rSetF G) := by
  intro pins s σ H o i v ov iv u Q I ro ri rv q
  obtain ⟨av, ρ, h, l, k, x, ob, ob', R, r1, r2, r3, eo, ep, q⟩ := q
  have hK : X.K = (G.at av).K := hK
  cases r1 with
  | @ref _ p hp =>
  obtain ⟨ob1, eo1, rob⟩ := R.lt hp
  rw [eo] at eo1; cases eo1
  have hm : p ∈ ρ := List.mem_of_getElem? hp
  cases ro
  cases ob with
  | lst xs =>
    simp only [obPut] at ep
    split at ep
    · rename_i j
      obtain ⟨n, hn, rfl⟩ := Option.map_eq_some_iff.mp ep
      obtain ⟨vs, ev, rs⟩ := rob
      cases r2
      have S4 : Stp ρ ρ H (upd H p (.lst (vs.set n v))) := Stp.write hm
      exact set_list pins s σ H (.ref p) (.int j) v (.ref p) iv u Q I rfl ri rv ⟨p, vs, j, n, rfl, rfl, ev, by rw [← rs.length]; exact hn, q _ S4 (R.write hp ⟨_, upd_same, RDs.set n (rs.step S4) (r3.step S4)⟩)⟩
    · cases ep
  | dic ks vs =>
    obtain ⟨kvs, ev, rfl, rs⟩ := rob
    simp only [obPut] at ep
    split at ep
    · rename_i hk
      split at ep
      · rename_i hl
        cases ep
        obtain ⟨kk, rfl, rfl⟩ := key_inv hk r2
        have S4 : Stp ρ ρ H (upd H p (.dK (putK kvs kk v))) := Stp.write hm
        refine d_setItem (by omega) I (.inl ⟨kvs, kk, ev, rfl, by rw [List.length_map] at hl; rw [← line_N]; exact hl, rfl⟩) ri rv fun s' J => ⟨_, J, q _ S4 (R.write hp ?_)⟩
        exact put_dic (H' := H) (rs.step S4) (r3.step S4) upd_same
      · cases ep
    · split at ep
      · rename_i q1 hq1
        split at ep
        · rename_i hn
          cases ep
          simp only [Bool.and_eq_true, List.isEmpty_iff, List.map_eq_nil_iff] at hn
          obtain ⟨rfl, rfl⟩ := hn
          obtain ⟨b, rfl, rfl, hb⟩ := key_is hK I r2 hq1 ri
          obtain ⟨hm2, hd⟩ := dk0_nested I (es := []) (.inl ev) rfl
          refine set_nested hu hW I (by rw [ev]; exact True.intro) hm2 hb hd (by rw [sizeLine_eq]; decide) fun o' s' J => ?_
          have S4 : Stp ρ ρ H (upd H p (NO G.b p o' (storedH [] q1 b u))) := Stp.write hm
          refine ⟨_, J, q _ S4 (R.write hp ?_)⟩
          have := put_din (G := G.at av) (ρ := ρ) (H := upd H p (NO G.b p o' (storedH [] q1 b u))) (a := p) (es := []) (ks := []) (vs := []) (us := []) rfl .nil .nil .nil hq1 (r2.step S4) (r3.step S4) rv ⟨o', upd_same⟩
          exact this
        · cases ep
      · cases ep
  | din ks vs =>
    obtain ⟨es, us, ev, ek, rk, rvv, rs⟩ := rob
    simp only [obPut] at ep
    split at ep
    · rename_i q1 hq1
      split at ep
      · rename_i hl
        cases ep
        obtain ⟨b, rfl, rfl, hb⟩ := key_is hK I r2 hq1 ri
        obtain ⟨hm2, _, hd⟩ := no_at (G := G.at av) hW hK I ev rk ek
        have hlen := mapO_length ek
        rw [List.length_map] at hlen
        refine set_nested hu hW I (by obtain ⟨o0, ev⟩ := ev; rw [ev]; exact True.intro) hm2 hb hd (by rw [← hlen, ← line_N]; exact hl) fun o' s' J => ?_
        have S4 : Stp ρ ρ H (upd H p (NO G.b p o' (storedH es q1 b u))) := Stp.write hm
        refine ⟨_, J, q _ S4 (R.write hp ?_)⟩
        exact put_din (G := G.at av) (ρ := ρ) (H := upd H p (NO G.b p o' (storedH es q1 b u))) (a := p) ek (rk.step S4) rvv (rs.step S4) hq1 (r2.step S4) (r3.step S4) rv ⟨o', upd_same⟩
      · cases ep
    · cases ep
  | ins c fs => cases ep
end
end Sd

/-! PyJ: statements. -/
namespace Sd
open PySem PySem.Spec PyProof.Rows L2

/-- what is reached behind a statement -/
def EndF (G : Gx) (ρ : List Addr) (h : Hh) (H0 H : Hp) (D : Ends) : Fl → Prop
  | .nx σ' => ∀ σ1, RelE G ρ H σ' σ1 → D.nx σ1 H
  | .br σ' => ∀ σ1, RelE G ρ H σ' σ1 → D.bk σ1 H
  | .ct σ' => ∀ σ1, RelE G ρ H σ' σ1 → D.ct σ1 H
  | .rt d => ∀ v, RV G ρ h H0 H d v → D.rt v H
def tS (G : Gx) (m : Env → Hh → Out Fl) : TS := fun D σ H => ∃ av ρ h σD f h', RelH (G.at av) ρ h H ∧ RelE (G.at av) ρ H σD σ ∧ m σD h = .ok f h' ∧
  ∀ ρ' H', Stp ρ ρ' H H' → RelH (G.at av) ρ' h' H' → EndF (G.at av) ρ' h' H H' D f
theorem EndF.back {G : Gx} {ρ0 ρ ρ' : List Addr} {h : Hh} {H0 H1 H : Hp} {D : Ends} {f : Fl} (s : Stp ρ0 ρ H0 H1) (s2 : Stp ρ ρ' H1 H) (q : EndF G ρ' h H0 H D f) : EndF G ρ' h H1 H D f := by
  cases f with
  | rt d => exact fun v r => q v (r.back s s2)
  | _ => exact q

theorem kOf_keep (k : D) : kOf k.keep = kOf k := by cases k <;> rfl
theorem obPut_keep (o : Ob) (k v : D) : obPut o k.keep v = obPut o k v := by
  cases k <;> rfl
section
variable {G : Gx} {C : Calls} {D : Ends} {σ : L2.St} {H : Hp}
theorem tS_nil (q : tS G (evSs C []) D σ H) : tNext D σ H := by
  obtain ⟨av, ρ, h, σD, f, h', R, RE, e, q⟩ := q
  simp only [evSs] at e
  cases e
  exact q _ _ (Stp.refl _ _) R σ RE
theorem tS_cons {s : S} {ss : List S} (q : tS G (evSs C (s :: ss)) D σ H) : tSeq (tS G (evS C s)) (tS G (evSs C ss)) D σ H := by
  obtain ⟨av, ρ, h, σD, f, h', R, RE, e, q⟩ := q
  simp only [evSs] at e
  obtain ⟨f1, h1, e1, e2⟩ := Out.thn_eq_ok e
  refine ⟨av, ρ, h, σD, f1, h1, R, RE, e1, fun ρ1 H1 S1 R1 => ?_⟩
  cases f1 with
  | nx σ1 =>
    intro σ2 R2
    exact ⟨av, ρ1, h1, σ1, f, h', R1, R2, e2, fun ρ2 H2 S2 R3 => (q _ _ (S1.trans S2) R3).back S1 S2⟩
  | br σ1 => cases e2; exact q _ _ S1 R1
  | ct σ1 => cases e2; exact q _ _ S1 R1
  | rt d => cases e2; exact q _ _ S1 R1
theorem tS_set {p : Pat} {e : E} (q : tS G (evS C (.set p e)) D σ H) : tAsg (tD G (evE C e)) (tP G p) D σ H := by
  obtain ⟨av, ρ, h, σD, f, h', R, RE, e, q⟩ := q
  simp only [evS] at e
  obtain ⟨x, h1, e1, e2⟩ := Out.thn_eq_ok e
  split at e2
  · rename_i σ1 hs
    cases e2
    exact ⟨av, ρ, h, σD, x, _, R, RE, e1, fun ρ1 H1 v S1 R1 r1 => ⟨av, ρ1, σD, x.keep, σ1, RE.step S1, .inl r1.keep, hs, fun σ2 R2 _ => q _ _ S1 R1 σ2 R2⟩⟩
  · cases e2
theorem tP_name {i : Nat} {v : V} {Q : L2.St → Hp → Prop} (q : tP G (.n i) v σ H Q) : gName i v σ H Q := by
  obtain ⟨av, ρ, σD, d, σ', RE, ri, e, q⟩ := q
  simp only [setP] at e
  split at e
  · cases e
    rcases ri with ri | ⟨z, _⟩
    · exact q _ (RE.set ri) fun vs hv => wipe_set (hv i (by simp [Pat.ix]))
    · cases z
  · cases e
theorem tS_par {i j : Nat} {a b : E} (q : tS G (evS C (.par i j a b)) D σ H) : tPar i j (tCons (tD G (evE C a)) (tCons (tD G (evE C b)) tNil)) D σ H := by
  obtain ⟨av, ρ, h, σD, f, h', R, RE, e, q⟩ := q
  simp only [evS] at e
  obtain ⟨x, h1, e1, e2⟩ := Out.thn_eq_ok e
  obtain ⟨y, h2, e3, e4⟩ := Out.thn_eq_ok e2
  split at e4
  · cases e4
    refine ⟨av, ρ, h, σD, x, h1, R, RE, e1, fun ρ1 H1 v S1 R1 r1 => ⟨av, ρ1, h1, σD, y, _, R1, RE.step S1, e3, fun ρ2 H2 w S2 R2 r2 => ⟨v, w, rfl, ?_⟩⟩⟩
    exact q _ _ (S1.trans S2) R2 _ ((((RE.step S1).step S2).set (r1.keep.step S2)).set r2.keep)
  · cases e4
theorem tS_par3 {i j k : Nat} {a b c : E} (q : tS G (evS C (.par3 i j k a b c)) D σ H) : tPar3 i j k (tCons (tD G (evE C a)) (tCons (tD G (evE C b)) (tCons (tD G (evE C c)) tNil))) D σ H := by
  obtain ⟨av, ρ, h, σD, f, h', R, RE, e, q⟩ := q
  simp only [evS] at e
  obtain ⟨x, h1, e1, e2⟩ := Out.thn_eq_ok e
  obtain ⟨y, h2, e3, e4⟩ := Out.thn_eq_ok e2
  obtain ⟨z, h3, e5, e6⟩ := Out.thn_eq_ok e4
  split at e6
  · cases e6
    refine ⟨av, ρ, h, σD, x, h1, R, RE, e1, fun ρ1 H1 v S1 R1 r1 => ⟨av, ρ1, h1, σD, y, _, R1, RE.step S1, e3, fun ρ2 H2 w S2 R2 r2 => ⟨av, ρ2, h2, σD, z, _, R2, (RE.step S1).step S2, e5, fun ρ3 H3 u S3 R3 r3 => ⟨v, w, u, rfl, ?_⟩⟩⟩⟩
    exact q _ _ ((S1.trans S2).trans S3) R3 _ (((((((RE.step S1).step S2).step S3).set ((r1.keep.step S2).step S3)).set (r2.keep.step S3)).set r3.keep))
  · cases e6
theorem tS_exp {e : E} (q : tS G (evS C (.exp e)) D σ H) : tDrop (tD G (evE C e)) D σ H := by
  obtain ⟨av, ρ, h, σD, f, h', R, RE, e, q⟩ := q
  simp only [evS] at e
  obtain ⟨x, h1, e1, e2⟩ := Out.thn_eq_ok e
  cases e2
  exact ⟨av, ρ, h, σD, x, _, R, RE, e1, fun ρ1 H1 v S1 R1 r1 => q _ _ S1 R1 σ (RE.step S1)⟩
theorem tS_ret {e : E} (q : tS G (evS C (.ret e)) D σ H) : tRet (tD G (evE C e)) D σ H := by
  obtain ⟨av, ρ, h, σD, f, h', R, RE, e, q⟩ := q
  simp only [evS] at e
  obtain ⟨x, h1, e1, e2⟩ := Out.thn_eq_ok e
  cases e2
  exact ⟨av, ρ, h, σD, x, _, R, RE, e1, fun ρ1 H1 v S1 R1 r1 => q _ _ S1 R1 v r1⟩
theorem tS_retn (q : tS G (evS C .retn) D σ H) : tRetN D σ H := by
  obtain ⟨av, ρ, h, σD, f, h', R, RE, e, q⟩ := q
  simp only [evS] at e
  cases e
  exact q _ _ (Stp.refl _ _) R .non RD.non.rv
theorem tS_pass (q : tS G (evS C .pass) D σ H) : tNext D σ H := by
  obtain ⟨av, ρ, h, σD, f, h', R, RE, e, q⟩ := q
  simp only [evS] at e
  cases e
  exact q _ _ (Stp.refl _ _) R σ RE
theorem tS_cond {c : E} {a b : List S} (q : tS G (evS C (.cond c a b)) D σ H) : tIfS (tDt G (evE C c)) (tS G (evSs C a)) (tS G (evSs C b)) D σ H := by
  obtain ⟨av, ρ, h, σD, f, h', R, RE, e, q⟩ := q
  simp only [evS] at e
  obtain ⟨x, h1, e1, e2⟩ := Out.thn_eq_ok e
  split at e2
  · exact ⟨av, ρ, h, σD, true, h1, R, RE, e1, fun ρ1 H1 S1 R1 => iteT ⟨av, ρ1, h1, σD, f, h', R1, RE.step S1, e2, fun ρ2 H2 S2 R2 => (q _ _ (S1.trans S2) R2).back S1 S2⟩⟩
  · exact ⟨av, ρ, h, σD, false, h1, R, RE, e1, fun ρ1 H1 S1 R1 => iteF ⟨av, ρ1, h1, σD, f, h', R1, RE.step S1, e2, fun ρ2 H2 S2 R2 => (q _ _ (S1.trans S2) R2).back S1 S2⟩⟩
  · cases e2
theorem tS_whl {c : E} {a : List S} (q : tS G (evS C (.whl c a)) D σ H) : tWhile (tDt G (evE C c)) (tS G (evSs C a)) D σ H := by
  obtain ⟨av, ρ, h, σD, f, h', R, RE, e, q⟩ := q
  simp only [evS, whileF] at e
  split at e
  · rename_i hn
    generalize Classical.choose hn = n at e
    refine ⟨fun m σ1 H1 => ∃ ρ1 h1 σD1, Stp ρ ρ1 H H1 ∧ RelH (G.at av) ρ1 h1 H1 ∧ RelE (G.at av) ρ1 H1 σD1 σ1 ∧ whileN (fun σ h => evE C c σ h) (fun σ h => evSs C a σ h) m σD1 h1 = .ok f h', ⟨n, ρ, h, σD, Stp.refl _ _, R, RE, e⟩, ?_⟩
    rintro m σ1 H1 ⟨ρ1, h1, σD1, S1, R1, E1, e1⟩
    cases m with
    | zero => simp [whileN] at e1
    | succ m =>
      simp only [whileN] at e1
      obtain ⟨t, h2, e2, e3⟩ := Out.thn_eq_ok e1
      split at e3
      · obtain ⟨g, h3, e4, e5⟩ := Out.thn_eq_ok e3
        refine ⟨av, ρ1, h1, σD1, true, h2, R1, E1, e2, fun ρ2 H2 S2 R2 => iteT ⟨fun σ3 H3 => ∃ ρ3 h4 σD3, Stp ρ ρ3 H H3 ∧ RelH (G.at av) ρ3 h4 H3 ∧ RelE (G.at av) ρ3 H3 σD3 σ3 ∧ whileN (fun σ h => evE C c σ h) (fun σ h => evSs C a σ h) m σD3 h4 = .ok f h',
          fun σ3 H3 w => ⟨m, Nat.lt_succ_self m, w⟩, ?_⟩⟩
        refine ⟨av, ρ2, h2, σD1, g, h3, R2, E1.step S2, e4, fun ρ3 H3 S3 R3 => ?_⟩
        cases g with
        | nx σ4 => exact fun σ5 R5 => ⟨ρ3, h3, σ4, (S1.trans S2).trans S3, R3, R5, e5⟩
        | ct σ4 => exact fun σ5 R5 => ⟨ρ3, h3, σ4, (S1.trans S2).trans S3, R3, R5, e5⟩
        | br σ4 => cases e5; exact q _ _ ((S1.trans S2).trans S3) R3
        | rt d => cases e5; exact fun v r => q _ _ ((S1.trans S2).trans S3) R3 v (r.back (S1.trans S2) S3)
      · cases e3
        exact ⟨av, ρ1, h1, σD1, false, _, R1, E1, e2, fun ρ2 H2 S2 R2 => iteF (q _ _ (S1.trans S2) R2 σ1 (E1.step S2))⟩
      · cases e3
  · cases e
theorem forL_nil {body : Sd.D → Env → Hh → Out Fl} {okh : Hh → Prop} {σ : Env} {h h' : Hh} {f : Fl} (e : forL body okh [] σ h = .ok f h') : okh h ∧ f = .nx σ ∧ h' = h := by
  unfold forL at e
  split at e
  · cases e; exact ⟨by assumption, rfl, rfl⟩
  · cases e
theorem forL_cons {body : Sd.D → Env → Hh → Out Fl} {okh : Hh → Prop} {x : Sd.D} {xs : List Sd.D} {σ : Env} {h h' : Hh} {f : Fl} (e : forL body okh (x :: xs) σ h = .ok f h') :
    okh h ∧ ∃ g h1, body x σ h = .ok g h1 ∧ (match g with
      | .nx σ1 => forL body okh xs σ1 h1
      | .ct σ1 => forL body okh xs σ1 h1
      | .br σ1 => .ok (.nx σ1) h1
      | .rt v => .ok (.rt v) h1) = .ok f h' := by
  unfold forL at e
  split at e
  · obtain ⟨g, h1, e1, e2⟩ := Out.thn_eq_ok e
    refine ⟨by assumption, g, h1, e1, ?_⟩
    cases g <;> exact e2
  · cases e
theorem tS_for {p : Pat} {it : Sd.It} {a : List S} (q : tS G (evS C (.forr p it a)) D σ H) : tFor (tI G p.isT (evI C it)) (tP G p) (tS G (evSs C a)) D σ H := by
  obtain ⟨av, ρ, h, σD, f, h', R, RE, e, q⟩ := q
  simp only [evS] at e
  obtain ⟨⟨xs, ws⟩, h1, e1, e2⟩ := Out.thn_eq_ok e
  refine ⟨av, ρ, h, σD, xs, ws, h1, R, RE, e1, fun ρ1 H1 J S1 R1 WJ => ?_⟩
  generalize hb : (fun d σ h => match setP p d σ with
      | some σ1 => evSs C a σ1 h
      | none => Out.bad) = body at e2
  refine ⟨fun i m σ2 H2 => m = xs.length - i ∧ i ≤ xs.length ∧ ∃ ρ2 h2 σD2, Stp ρ1 ρ2 H1 H2 ∧ RelH (G.at av) ρ2 h2 H2 ∧ RelE (G.at av) ρ2 H2 σD2 σ2 ∧ forL body (Wat ws h1) (xs.drop i) σD2 h2 = .ok f h',
    ⟨xs.length, rfl, Nat.zero_le _, ρ1, h1, σD, Stp.refl _ _, R1, RE.step S1, e2⟩, ?_⟩
  rintro i m σ2 H2 ⟨hm, hi, ρ2, h2, σD2, S2, R2, E2, e3⟩
  by_cases hlt : i < xs.length
  · rw [List.drop_eq_getElem_cons hlt] at e3
    obtain ⟨hw, g, h3, e4, e5⟩ := forL_cons e3
    obtain ⟨jg, jy⟩ := WJ.go i xs[i] (List.getElem?_eq_getElem hlt) av ρ2 h2 H2 (fun b hb => .inl hb) S2.a R2 hw
    refine .inr ⟨jg, fun σ3 H3 => ∃ ρ3 h4 σD3, Stp ρ1 ρ3 H1 H3 ∧ RelH (G.at av) ρ3 h4 H3 ∧ RelE (G.at av) ρ3 H3 σD3 σ3 ∧ forL body (Wat ws h1) (xs.drop (i + 1)) σD3 h4 = .ok f h',
      fun σ3 H3 w => ⟨xs.length - (i + 1), by omega, rfl, hlt, w⟩, fun x H3 y => ?_⟩
    obtain ⟨S3, R3, ri⟩ := jy x H3 y
    rw [← hb] at e4
    simp only at e4
    split at e4
    · rename_i σ4 hs
      refine ⟨av, ρ2, σD2, xs[i], σ4, E2.step S3, ri, hs, fun σ5 R5 _ => ⟨av, ρ2, h2, σ4, g, h3, R3, R5, e4, fun ρ6 H6 S6 R6 => ?_⟩⟩
      have S := (S2.trans S3).trans S6
      cases g with
      | nx σ7 => exact fun σ8 R8 => ⟨ρ6, h3, σ7, S, R6, R8, e5⟩
      | ct σ7 => exact fun σ8 R8 => ⟨ρ6, h3, σ7, S, R6, R8, e5⟩
      | br σ7 => cases e5; exact q _ _ (S1.trans S) R6
      | rt d => cases e5; exact fun v r => q _ _ (S1.trans S) R6 v (r.back (S1.trans (S2.trans S3)) S6)
    · cases e4
  · have hi' : i = xs.length := by omega
    subst hi'
    rw [List.drop_length] at e3
    obtain ⟨hw, rfl, rfl⟩ := forL_nil e3
    exact .inl ⟨WJ.stop av ρ2 _ H2 (fun b hb => .inl hb) S2.a R2 hw, q _ _ (S1.trans S2) R2 σ2 E2⟩
theorem tS_seta {K : PySem.W.Frag} {o e : E} {cs : List String} {f : String} (cl : ∀ c A, G.b.cls c = some A → Cls K A) (na : ∀ c ∈ cs, ∀ A, G.b.cls c = some A → NoAttr K A (sOf f)) (q : tS G (evS C (.seta o cs f e)) D σ H) : sFld K (tD G (evE C o)) (tD G (evE C e)) (sOf f) D σ H := by
  obtain ⟨av, ρ, h, σD, fl, h', R, RE, e, q⟩ := q
  simp only [evS] at e
  obtain ⟨x, h1, e1, e2⟩ := Out.thn_eq_ok e
  obtain ⟨y, h2, e3, e4⟩ := Out.thn_eq_ok e2
  split at e4
  · rename_i l
    split at e4
    · rename_i c fs hl
      split at e4
      · rename_i hc
        cases e4
        refine ⟨av, ρ, h, σD, x, h1, R, RE, e1, fun ρ1 H1 v S1 R1 r1 => ⟨av, ρ1, h1, σD, _, h2, R1, RE.step S1, e3, fun ρ2 H2 w S2 R2 r2 => ?_⟩⟩
        obtain ⟨a, A, dx, vfs, rfl, hp, hA, hH, hn, rs⟩ := RD.ins_inv (G := G.at av) R2 r2 hl
        have hm : a ∈ ρ2 := List.mem_of_getElem? hp
        have hlen : vfs.length = fs.length := by simpa using congrArg List.length hn
        have S3 : Stp ρ2 ρ2 H2 (upd H2 a (.ins A dx (L2.putF (sOf f) v vfs))) := Stp.write hm
        obtain ⟨p1, p2⟩ := fld_put (f := f) ((r1.keep.step S2).step S3) hn (rs.step S3)
        refine ⟨a, A, dx, vfs, rfl, hH, cl c A hA, na c hc.1 A hA, by rw [hlen]; exact hc.2, ?_⟩
        exact q _ _ ((S1.trans S2).trans S3) (R2.write hp ⟨A, dx, _, hA, upd_same, p1, p2⟩) σ (RE.step ((S1.trans S2).trans S3))
      · cases e4
    · cases e4
  · cases e4
theorem tS_seti {o i e : E} (q : tS G (evS C (.seti o i e)) D σ H) : tAsg (tD G (evE C e)) (gSub (tD G (evE C o)) (tD G (evE C i)) (rSetF G)) D σ H := by
  obtain ⟨av, ρ, h, σD, f, h', R, RE, e, q⟩ := q
  simp only [evS] at e
  obtain ⟨x, h1, e1, e2⟩ := Out.thn_eq_ok e
  obtain ⟨y, h2, e3, e4⟩ := Out.thn_eq_ok e2
  obtain ⟨z, h3, e5, e6⟩ := Out.thn_eq_ok e4
  split at e6
  · rename_i l
    split at e6
    · rename_i ob hl
      split at e6
      · rename_i ob' hp
        cases e6
        refine ⟨av, ρ, h, σD, x, h1, R, RE, e1, fun ρ1 H1 v S1 R1 r1 => ⟨av, ρ1, h1, σD, _, h2, R1, RE.step S1, e3, fun ρ2 H2 w S2 R2 r2 => ⟨av, ρ2, h2, σD, z, h3, R2, (RE.step S1).step S2, e5, fun ρ3 H3 u S3 R3 r3 => ?_⟩⟩⟩
        have r2' : RD (G.at av) ρ2 H2 (.ref l) w := r2
        refine ⟨av, ρ3, h3, l, z.keep, x.keep, ob, ob', R3, r2'.step S3, r3.keep, (r1.keep.step S2).step S3, hl, by rw [obPut_keep]; exact hp, fun H' S R => q _ _ (((S1.trans S2).trans S3).trans S) R σ (RE.step (((S1.trans S2).trans S3).trans S))⟩
      · cases e6
    · cases e6
  · cases e6
end
end Sd

/-! PyJ2: append, extend, pop. -/
namespace Sd
open PySem PySem.Spec PyProof.Rows L2

theorem extend_any (l : Addr) (items : Array Value) (n : Nat) (b : Addr) (items2 : Array Value) (n2 : Nat) (dd2 : Option Addr) (sl2 : Array (Option Value)) (hc0 : ¬(!items.isEmpty && Builtin.List.listTooLong (items.size + items2.size)) = true) (hc1 : items.size ≤ sizeLine)
    (hz' : (items ++ items2).size ≤ sizeLine + 1) :
    Meets (Builtin.«list.extend» ⟨[.ref l, .ref b], []⟩) (fun _ R s => s.heap.get? l = some { cls := .type "list", data := .seq items n } ∧ s.heap.get? b = some { cls := .type "list", dict := dd2, data := .seq items2 n2, slots := sl2 } ∧
      R (.ok (.ret Value.none)) { s with heap := s.heap.update l (Obj.mapSeq fun x => x ++ items2) }) :=
  .of_wp fun prog w A R s hh => by
    obtain ⟨hp, g, d, tk, os⟩ := s
    obtain ⟨hl, hb, h⟩ := hh
    have k1 := AutoSeq1.idx_int
    have k2 := AutoSeq1.sub_tuple_tuple
    have k3 := AutoSeq1.sub_list_list
    have k4 := AutoSeq1.sub_tuple_list
    have k5 := AutoSeq1.sub_list_tuple
    wp_walk using (wpAny_updateSeq hl rfl (hz := hc1) (_hz' := hz')), AutoSeq1.wpAny_loadPart' hl, AutoSeq1.wpAny_loadPart' hb
    exact ⟨_, rfl, h⟩
def rExtF (K : PySem.W.Frag) : V → List V → Hp → VK → Prop := fun x vs H Q => ∃ l b xs zs, x = .ref l ∧ vs = [.ref b] ∧ H l = some (.lst xs) ∧ SqL K H b zs ∧ xs.length + zs.length ≤ sizeLine ∧ Q .non (upd H l (.lst (xs ++ zs)))
theorem mt_extF {X : Cx} : MtR X "list.extend" (rExtF X.K) := by
  intro pins s σ H x vs v us Q I rx rv h
  obtain ⟨l, b, xs, zs, rfl, rfl, hH, hB, hz, q⟩ := h
  cases rx
  obtain ⟨u, rfl, ru⟩ := rv.one
  cases ru
  obtain ⟨z, its, n, r, hl, e⟩ := I.lstM hH
  obtain ⟨its2, r2, p2, z2⟩ := I.list hB
  obtain ⟨⟨cls2, dd2, data2, sl2⟩, e2, hc2, n2, hd2⟩ := id p2.isList
  simp only at hc2 hd2
  subst hc2 hd2
  have l2 := r2.length
  have hsz : its.toArray.size + its2.toArray.size ≤ sizeLine := by rw [List.size_toArray, List.size_toArray]; omega
  have hlong : ¬ (!its.toArray.isEmpty && Builtin.List.listTooLong (its.toArray.size + its2.toArray.size)) = true := by
    rw [notLongL hsz, Bool.and_false]
    exact Bool.false_ne_true
  refine call_meets F.slot_list_extend ⟨_, e, rfl⟩ F.entry_list_extend (F.args_list_extend_2 _ _) (extend_any l its.toArray n b its2.toArray n2 dd2 sl2 hlong (by omega) (by rw [Array.size_append]; omega)) ⟨e, e2, ?_⟩
  refine ⟨.non, _, I.lset (its' := its ++ its2) hH e (by simp) (r.append r2) ?_, rfl, q⟩
  rw [List.length_append]
  omega

section
variable {G : Gx} {C : Calls} {X : Cx} {D : Ends} {σ : L2.St} {H : Hp}
theorem tS_app {o e : E} (hK : X.K = G.K) (q : tS G (evS C (.app o e)) D σ H) : tDrop (tBM X.K "list" rAppend (tD G (evE C o)) (tCons (tD G (evE C e)) tNil)) D σ H := by
  obtain ⟨av, ρ, h, σD, f, h', R, RE, e, q⟩ := q
  simp only [evS] at e
  obtain ⟨y, h1, e1, e2⟩ := Out.thn_eq_ok e
  split at e2
  · rename_i l
    split at e2
    · rename_i ys hl1
      obtain ⟨x, h2, e3, e4⟩ := Out.thn_eq_ok e2
      split at e4
      · rename_i xs hl
        split at e4
        · rename_i hlt
          cases e4
          refine ⟨av, ρ, h, σD, _, h1, R, RE, e1, fun ρ1 H1 v S1 R1 r1 => ?_⟩
          have r1' : RD (G.at av) ρ1 H1 (.ref l) v := r1
          obtain ⟨p, vs, rfl, hp, ev, rs⟩ := R1.lst r1' hl1
          refine ⟨.inl ⟨rfl, vs, .inl (.inl ev)⟩, av, ρ1, h1, σD, x, h2, R1, RE.step S1, e3, fun ρ2 H2 w S2 R2 r2 => ?_⟩
          obtain ⟨p2, ws, e5, hp2, ev2, rs2⟩ := R2.lst (r1'.step S2) hl
          cases e5
          obtain ⟨S3, R3⟩ := lst_put R2 hp2 (rs2.append (.cons r2.keep .nil))
          have S := (S1.trans S2).trans S3
          exact ⟨p, ws, w, rfl, rfl, ev2, by rw [← rs2.length, line_eq]; exact hlt, q _ _ S R3 σ (RE.step S)⟩
        · cases e4
      · cases e4
    · cases e2
  · cases e2
theorem tS_ext {o e : E} (hK : X.K = G.K) (q : tS G (evS C (.ext o e)) D σ H) : tDrop (tBM X.K "list" (rExtF X.K) (tD G (evE C o)) (tCons (tD G (evE C e)) tNil)) D σ H := by
  obtain ⟨av, ρ, h, σD, f, h', R, RE, e, q⟩ := q
  simp only [evS] at e
  obtain ⟨y, h1, e1, e2⟩ := Out.thn_eq_ok e
  split at e2
  · rename_i l
    split at e2
    · rename_i ys hl1
      obtain ⟨x, h2, e3, e4⟩ := Out.thn_eq_ok e2
      split at e4
      · rename_i xs zs hl hz
        split at e4
        · rename_i hlt
          cases e4
          refine ⟨av, ρ, h, σD, _, h1, R, RE, e1, fun ρ1 H1 v S1 R1 r1 => ?_⟩
          have r1' : RD (G.at av) ρ1 H1 (.ref l) v := r1
          obtain ⟨p, vs, rfl, hp, ev, rs⟩ := R1.lst r1' hl1
          refine ⟨.inl ⟨rfl, vs, .inl (.inl ev)⟩, av, ρ1, h1, σD, x, h2, R1, RE.step S1, e3, fun ρ2 H2 w S2 R2 r2 => ?_⟩
          obtain ⟨p2, ws, e5, hp2, ev2, rs2⟩ := R2.lst (r1'.step S2) hl
          cases e5
          obtain ⟨b, us, rfl, sq, rs3⟩ := r2.keep.items_inv R2 (by rw [items_keep]; exact hz)
          obtain ⟨S3, R3⟩ := lst_put R2 hp2 (rs2.append rs3)
          have S := (S1.trans S2).trans S3
          exact ⟨p, b, ws, us, rfl, rfl, ev2, by rw [hK]; exact sq, by rw [← rs2.length, ← rs3.length, line_eq]; exact hlt, q _ _ S R3 σ (RE.step S)⟩
        · cases e4
      · cases e4
    · cases e2
  · cases e2
end
end Sd

/-! PyJ3: from the program's text to ours: statements. -/
namespace Sd
open PySem PySem.Spec PyProof.Rows L2

def wrapA (c : Cc) (p : Pat) (e : E) : E := match p with
  | .n i => if c.alc.contains i then .alc e else e
  | _ => e
def swB (c : Cc) (y : Str) (py : Pos) : Expr → Bool
  | .ListComp _ _ scope pos => (c.sc.names.lookup y == some .local) && (py.line == pos.line) && !(scope.names.any fun (n, k) => n == y && (k == .local || k == .cell))
  | _ => false
def isComp : Expr → Bool
  | .ListComp _ _ _ _ => true
  | _ => false
def locB (c : Cc) (x : Str) : Bool := c.sc.names.lookup x == some .local
def cA (ce : Expr → Option E) (c : Cc) (tg e : Expr) : Option S := match tg with
  | .Tuple ts _ _ => match e with
    | .Tuple vs _ _ => if vs.all (foldedForSure 8) then (match cPat c tg, ce e with
        | some p, some e' => some (.set p e')
        | _, _ => none)
      else if vs.all (constantsAlone 8) then none else match ts, vs with
        | [.Name x px, .Name y py], [a, b] => if locB c x && locB c y && (py.line == px.line) && !(x == y) then match ixOf c.N x, ixOf c.N y, ce a, ce b with
            | some i, some j, some a', some b' => if i = j then none else some (.par i j (wrapA c (.n i) a') (wrapA c (.n j) b'))
            | _, _, _, _ => none
          else none
        | [.Name x px, .Name y py, .Name z pz], [a, b, d] => if locB c x && locB c y && locB c z && (py.line == px.line) && (pz.line == px.line) && !(x == y) && !(x == z) && !(y == z) then match ixOf c.N x, ixOf c.N y, ixOf c.N z, ce a, ce b, ce d with
            | some i, some j, some k, some a', some b', some d' => if i = j ∨ i = k ∨ j = k then none else some (.par3 i j k (wrapA c (.n i) a') (wrapA c (.n j) b') (wrapA c (.n k) d'))
            | _, _, _, _, _, _ => none
          else none
        | _, _ => none
    | _ => match cPat c tg, ce e with
      | some p, some e' => some (.set p e')
      | _, _ => none
  | .Name _ _ => match cPat c tg, ce e with
    | some p, some e' => some (.set p (wrapA c p e'))
    | _, _ => none
  | .Subscript o i _ => match ce o, ce i, ce e with
    | some o', some i', some e' => some (.seti o' i' e')
    | _, _, _ => none
  | .Attribute o f _ => match c.cl.ats.lookup f with
    | some (s, cs) => if sOf s = f then match ce o, ce e with
        | some o', some e' => some (.seta o' cs s e')
        | _, _ => none
      else none
    | none => none
  | _ => none
def cX (ce : Expr → Option E) : Expr → Option S
  | .Call f args kws cpos => match f with
    | .Attribute o m apos => if m = "append" ∨ m = "extend" then (if baseOk o && (apos.endLine == cpos.line) && kws.isEmpty then match args with
        | [a] => match ce o, ce a with
          | some o', some a' => if m = "append" then some (.app o' a') else some (.ext o' a')
          | _, _ => none
        | _ => none
        else none)
      else (ce (.Call f args kws cpos)).map .exp
    | f => (ce (.Call f args kws cpos)).map .exp
  | e => if isComp e then none else (ce e).map .exp
def cS : Nat → Cc → Stmt → Option S
  | 0, _, _ => none
  | n + 1, c, st => match st with
    | .Pass _ => some .pass
    | .Return none _ => some .retn
    | .Return (some e) _ => (cE n c e).map .ret
    | .Assign [tg] e _ => cA (cE n c) c tg e
    | .Expr e _ => cX (cE n c) e
    | .If t a b _ => match cE n c t, mapO (cS n c) a, mapO (cS n c) b with
      | some t', some a', some b' => some (.cond t' a' b')
      | _, _, _ => none
    | .While t a [] _ => match cE n c t, mapO (cS n c) a with
      | some t', some a' => some (.whl t' a')
      | _, _ => none
    | .For tg iter a [] _ => if isSet iter then none else match cPat c tg with
      | some p => match cI (cE n c) c p.isT iter, mapO (cS n c) a with
        | some it, some a' => some (.forr p it a')
        | _, _ => none
      | none => none
    | _ => none

structure FitsS (G : Gx) (C : Calls) (c : Cc) (X : Cx) : Prop where
  fit : Fits G C c X
  kind : X.env.scope.kind = .function
  blk : c.blk = none
def SndS (G : Gx) (C : Calls) (n : Nat) : Prop := ∀ (c : Cc) (st : Stmt) (s : S), cS n c st = some s → ∀ X, FitsS G C c X → PS X st (tS G (evS C s))
section
variable {G : Gx} {C : Calls} {X : Cx} {c : Cc}
theorem stmts_of {n : Nat} (T : SndS G C n) (F : FitsS G C c X) : ∀ {ss : List Stmt} {ss' : List S}, mapO (cS n c) ss = some ss' → PSs X ss (tS G (evSs C ss'))
  | [], _, h => by cases h; exact PSs.imp pss_nil fun _ _ _ q => tS_nil q
  | s :: ss, _, h => by
    obtain ⟨y, zs, h1, h2, rfl⟩ := mapO_cons h
    exact PSs.imp (pss_cons (T c s _ h1 X F) (stmts_of T F h2)) fun _ _ _ q => tS_cons q
theorem tD_mono {m : Env → Hh → Out D} {σ : L2.St} {H : Hp} {Q Q' : VK} (q : tD G m σ H Q) (h : ∀ v H, Q v H → Q' v H) : tD G m σ H Q' := by
  obtain ⟨av, ρ, h', σD, d, h'', R, RE, e, q⟩ := q
  exact ⟨av, ρ, h', σD, d, h'', R, RE, e, fun ρ1 H1 v S1 R1 r1 => h _ _ (q ρ1 H1 v S1 R1 r1)⟩
theorem tD_wrap {p : Pat} {e : E} {σ : L2.St} {H : Hp} {Q : VK} (q : tD G (evE C (wrapA c p e)) σ H Q) : tD G (evE C e) σ H Q := by
  unfold wrapA at q
  split at q
  · split at q
    · exact tD_alc q
    · exact q
  · exact q
theorem swaps_eq {n : Nat} {e : Expr} {e' : E} (F : FitsS G C c X) (h : cE n c e = some e') (y : Str) (py : Pos) (l : Nat) : swapsWith e (some (.Name y py)) l X.env = pure (swB c y py e) := by
  cases n with
  | zero => cases h
  | succ n =>
    have hb : X.env.blockKind = .function := by unfold PySem.Env.blockKind; rw [F.kind]; rfl
    cases e with
    | ListComp elt gens scope pos =>
      have hk : X.env.kindOf y = c.sc.names.lookup y := by unfold PySem.Env.kindOf; rw [F.fit.sc]
      unfold swapsWith swB
      simp only [hb, hk, Expr.pos]
      rfl
    | SetComp => simp [cE] at h
    | DictComp => simp [cE] at h
    | _ => rfl
theorem swaps_not {n : Nat} {e tg : Expr} {e' : E} (h : cE n c e = some e') (ht : ∀ y py, tg ≠ .Name y py) (l : Nat) : swapsWith e (some tg) l X.env = pure false := by
  cases n with
  | zero => cases h
  | succ n =>
    cases e with
    | ListComp elt gens scope pos =>
      cases tg with
      | Name y py => exact absurd rfl (ht y py)
      | _ => rfl
    | SetComp => simp [cE] at h
    | DictComp => simp [cE] at h
    | _ => rfl
theorem set_of {tg e : Expr} {pos : Pos} {p : Pat} {e' : E} (F : FitsS G C c X) (hp : cPat c tg = some p) (he : PE X e (tD G (evE C e'))) (hs : swapsWithSole [tg] e pos.line X.env = pure false) (hw : swappedStores [tg] e X.env = pure none) (h1 : (assignEach [tg] X.env).map (·.2) = [assign tg X.env]) :
    PS X (.Assign [tg] e pos) (tS G (evS C (.set p e'))) := PS.imp (ps_asg he (F.fit.pat hp) hs hw h1) fun _ _ _ q => tS_set q
end
end Sd

/-! PyJ4: every statement that is turned. -/
namespace Sd
open PySem PySem.Spec PyProof.Rows L2

section
variable {G : Gx} {C : Calls} {X : Cx} {c : Cc}
theorem lookup_of_sw {y : Str} {py : Pos} {e : Expr} (h : swB c y py e = true) : c.sc.names.lookup y = some .local := by
  unfold swB at h
  split at h
  · simp only [Bool.and_eq_true] at h
    simpa using h.1.1
  · cases h
theorem setLc_of {n : Nat} (S : Snd G C n) (FS : FitsS G C c X) {y : Str} {py spos : Pos} {i : Nat} {elt : Expr} {gens : List Comprehension} {scope : Scope} {pos : Pos} {e' : E} (hy : c.N[i]? = some y) (hsw : swB c y py (.ListComp elt gens scope pos) = true)
    (h : cE (n + 1) c (.ListComp elt gens scope pos) = some e') : PS X (.Assign [.Name y py] (.ListComp elt gens scope pos) spos) (tAsg (tD G (evE C e')) (gName i)) := by
  have F := FS.fit
  have hN : X.N.Nodup := by rw [F.N]; exact F.nd
  have hyN : X.N[i]? = some y := by rw [F.N]; exact hy
  have hyl : X.env.scope.names.lookup y = some .local := by rw [F.sc]; exact lookup_of_sw hsw
  have hs := swaps_eq FS h y py spos.line
  rw [hsw] at hs
  simp only [cE] at h
  split at h
  · rename_i hb
    have ok : BlkOk X.N X.env.scope scope (ownOf c.N scope) := by rw [F.N, F.sc]; exact blkOk_by hb
    split at h
    · split at h
      · rename_i tg iter ifs as hh
        obtain ⟨rfl, hset, hl⟩ := hh
        split at h
        · rename_i p hp
          split at h
          · rename_i it ifs' elt' h1 h2 h3
            split at h
            · rename_i hown
              cases h
              exact PS.imp (ps_setLc F.calm hN hyN hyl hs (iter_of S F (isT_ok hp) h1) ok (fun s H Ca cl fp => (F.inner scope s H Ca cl fp).pat hp) (fun s H Ca cl fp => ifs_of S (F.inner scope s H Ca cl fp) hl h2)
                (fun s H Ca cl fp => (S _ _ _ h3 _ (F.inner scope s H Ca cl fp)).1) (fun x => set_ok hset _ x)) fun _ _ _ q => tD_comp (own_ok hown) q
            · cases h
          · cases h
        · cases h
      · cases h
    · split at h
      · rename_i tg iter ifs as tg1 iter1 ifs1 as1 hh
        obtain ⟨rfl, rfl, hset, hset1, hl, hl1⟩ := hh
        split at h
        · rename_i p p1 hp hp1
          split at h
          · rename_i it ifs' it1 ifs1' elt' h1 h2 h4 h5 h3
            split at h
            · rename_i hown
              cases h
              rw [Bool.and_eq_true] at hown
              exact PS.imp (ps_setLc2 F.calm hN hyN hyl hs (iter_of S F (isT_ok hp) h1) ok (own_ok hown.2) (fun s H Ca cl fp => (F.inner scope s H Ca cl fp).pat hp) (fun s H Ca cl fp => ifs_of S (F.inner scope s H Ca cl fp) hl h2)
                (fun s H Ca cl fp => iter_of S (F.inner scope s H Ca cl fp) (isT_ok hp1) h4) (fun s H Ca cl fp => (F.inner scope s H Ca cl fp).pat hp1) (fun s H Ca cl fp => ifs_of S (F.inner scope s H Ca cl fp) hl1 h5)
                (fun s H Ca cl fp => (S _ _ _ h3 _ (F.inner scope s H Ca cl fp)).1) (fun x => set_ok hset _ x) (fun env x => set_ok hset1 env x)) fun _ _ _ q => tD_comp2 (own_ok hown.1) q
            · cases h
          · cases h
        · cases h
      · cases h
    · cases h
  · cases h
theorem nameIx_inv {x : Str} {p : Pos} {i : Nat} (h : nameIx c (.Name x p) = some i) : c.N[i]? = some x := by
  have h' : (if storB c x = true then ixOf c.N x else none) = some i := h
  split at h'
  · exact ixOf_ok h'
  · cases h'
theorem name_asg {n : Nat} (S : ∀ n, Snd G C n) (FS : FitsS G C c X) {y : Str} {py spos : Pos} {p : Pat} {e : Expr} {e' : E} (hp : cPat c (.Name y py) = some p) (h : cE n c e = some e') : PS X (.Assign [.Name y py] e spos) (tS G (evS C (.set p (wrapA c p e')))) := by
  have hs := swaps_eq FS h y py spos.line
  cases hb : swB c y py e with
  | false =>
    rw [hb] at hs
    exact set_of FS hp (PE.imp (S n c e e' h X FS.fit).1 fun _ _ _ q => tD_wrap q) hs (by rfl) (by rfl)
  | true =>
    cases n with
    | zero => cases h
    | succ n =>
      cases e with
      | ListComp elt gens scope pos =>
        simp only [cPat, Option.map_eq_some_iff] at hp
        obtain ⟨i, hi, rfl⟩ := hp
        refine PS.imp (setLc_of (S n) FS (nameIx_inv hi) hb h) fun D σ H q => ?_
        exact tD_mono (tD_wrap (tS_set q)) fun v H q => tP_name q
      | _ => cases hb
theorem swap2 {env : PySem.Env} {x y : Str} {px py pt pt2 : Pos} {kt k2 : Nat} {a b : Expr} (hk : env.scope.kind = .function) (hx : env.scope.names.lookup x = some .local) (hy : env.scope.names.lookup y = some .local) (hl : (py.line == px.line) = true) (hne : (x == y) = false)
    (hf : ([a, b].all (foldedForSure 8)) = false) (hc : ([a, b].all (constantsAlone 8)) = false) (ha : ∀ e p, a ≠ .Starred e p) (hb : ∀ e p, b ≠ .Starred e p) : swappedStores [.Tuple [.Name x px, .Name y py] kt pt] (.Tuple [a, b] k2 pt2) env = pure (some [x, y]) := by
  have hblk : env.blockKind = .function := by unfold PySem.Env.blockKind; rw [hk]; rfl
  have kx : env.kindOf x = some .local := hx
  have ky : env.kindOf y = some .local := hy
  have hne' : ¬ x = y := by simpa using hne
  have hyx : (y == x) = false := by rw [beq_eq_false_iff_ne]; exact fun e => hne' e.symm
  have hl' : py.line = px.line := by simpa using hl
  have hsa : (match a with | .Starred .. => true | _ => false) = false := by cases a <;> first | rfl | exact absurd rfl (ha _ _)
  have hsb : (match b with | .Starred .. => true | _ => false) = false := by cases b <;> first | rfl | exact absurd rfl (hb _ _)
  unfold swappedStores
  simp only [List.any_cons, List.any_nil, hsa, hsb, hblk, List.filterMap_cons, List.filterMap_nil, kx, ky, hl', List.head?_cons, Option.map_some, Option.getD_some, Expr.pos, hf, hc, List.length_cons, List.length_nil, beq_self_eq_true, Bool.and_self, if_true, List.eraseDups_cons, hyx]
  simp [List.eraseDups_cons, hyx]
theorem swap3 {env : PySem.Env} {x y z : Str} {px py pz pt pt2 : Pos} {kt k2 : Nat} {a b d : Expr} (hk : env.scope.kind = .function) (hx : env.scope.names.lookup x = some .local) (hy : env.scope.names.lookup y = some .local) (hz : env.scope.names.lookup z = some .local) (hl : (py.line == px.line) = true) (hl2 : (pz.line == px.line) = true) (hxy : (x == y) = false) (hxz : (x == z) = false) (hyz : (y == z) = false)
    (hf : ([a, b, d].all (foldedForSure 8)) = false) (hc : ([a, b, d].all (constantsAlone 8)) = false) (ha : ∀ e p, a ≠ .Starred e p) (hb : ∀ e p, b ≠ .Starred e p) (hd : ∀ e p, d ≠ .Starred e p) : swappedStores [.Tuple [.Name x px, .Name y py, .Name z pz] kt pt] (.Tuple [a, b, d] k2 pt2) env = pure (some [x, y, z]) := by
  have hblk : env.blockKind = .function := by unfold PySem.Env.blockKind; rw [hk]; rfl
  have kx : env.kindOf x = some .local := hx
  have ky : env.kindOf y = some .local := hy
  have kz : env.kindOf z = some .local := hz
  have hyx : (y == x) = false := by rw [beq_eq_false_iff_ne] at *; exact fun e => hxy e.symm
  have hzx : (z == x) = false := by rw [beq_eq_false_iff_ne] at *; exact fun e => hxz e.symm
  have hzy : (z == y) = false := by rw [beq_eq_false_iff_ne] at *; exact fun e => hyz e.symm
  have hl' : py.line = px.line := by simpa using hl
  have hl2' : pz.line = px.line := by simpa using hl2
  have hsa : (match a with | .Starred .. => true | _ => false) = false := by cases a <;> first | rfl | exact absurd rfl (ha _ _)
  have hsb : (match b with | .Starred .. => true | _ => false) = false := by cases b <;> first | rfl | exact absurd rfl (hb _ _)
  have hsd : (match d with | .Starred .. => true | _ => false) = false := by cases d <;> first | rfl | exact absurd rfl (hd _ _)
  unfold swappedStores
  simp only [List.any_cons, List.any_nil, hsa, hsb, hsd, hblk, List.filterMap_cons, List.filterMap_nil, kx, ky, kz, hl', hl2', List.head?_cons, Option.map_some, Option.getD_some, Expr.pos, hf, hc, List.length_cons, List.length_nil, beq_self_eq_true, Bool.and_self, if_true, List.eraseDups_cons, hyx, hzx, hzy]
  simp [List.eraseDups_cons, hyx, hzx, hzy]
theorem swapNone {env : PySem.Env} {ts vs : List Expr} {pt pt2 : Pos} {kt k2 : Nat} (hf : vs.all (foldedForSure 8) = true) : swappedStores [.Tuple ts kt pt] (.Tuple vs k2 pt2) env = pure none := by
  unfold swappedStores
  simp only [hf]
  split
  · rfl
  · split
    · rfl
    · split
      · rfl
      · rfl
theorem noStar {n : Nat} {e : Expr} {e' : E} (h : cE n c e = some e') : ∀ x p, e ≠ .Starred x p := by
  rintro x p rfl
  cases n with
  | zero => cases h
  | succ n => simp [cE] at h
end
end Sd

/-! PyJ5: every statement that is turned, joined. -/
namespace Sd
open PySem PySem.Spec PyProof.Rows L2

section
variable {G : Gx} {C : Calls} {X : Cx} {c : Cc}
theorem single_each {tg : Expr} {env : PySem.Env} (h : ∀ x p, tg ≠ .Starred x p) : (assignEach [tg] env).map (·.2) = [assign tg env] := by
  cases tg <;> first | rfl | exact absurd rfl (h _ _)
theorem sole_not {n : Nat} {e : Expr} {e' : E} (h : cE n c e = some e') (tg : Expr) (ht : ∀ y py, tg ≠ .Name y py) (l : Nat) : swapsWithSole [tg] e l X.env = pure false := by
  show swapsWith e (some tg) l X.env = pure false
  exact swaps_not h ht l
theorem sub_assign {n : Nat} {o i : Expr} {i' : E} {pos : Pos} {env : PySem.Env} (h : cE n c i = some i') (v : Value) : assign (.Subscript o i pos) env v = (do
      let ov ← holding [v] (eval o env)
      let iv ← holding [v, ov] (eval i env)
      standAt pos
      holding [v, ov, iv] (setItem ov iv v)
      release [v, ov, iv] []) := by
  cases n with
  | zero => cases h
  | succ n => cases i <;> first | rfl | simp [cE] at h
theorem tup_asg {n : Nat} (FS : FitsS G C c X) {ts : List Expr} {kt : Nat} {pt spos : Pos} {p : Pat} {e : Expr} {e' : E} (hp : cPat c (.Tuple ts kt pt) = some p) (h : cE n c e = some e') (hw : swappedStores [.Tuple ts kt pt] e X.env = pure none) : PS X (.Assign [.Tuple ts kt pt] e spos) (tS G (evS C (.set p e'))) :=
  set_of FS hp (snd G C n c e e' h X FS.fit).1 (sole_not h (.Tuple ts kt pt) (fun _ _ q => nomatch q) _) hw (by rfl)
theorem par_of {n : Nat} (FS : FitsS G C c X) {x y : Str} {px py pt pt2 spos : Pos} {kt k2 i j : Nat} {a b : Expr} {a' b' : E} (hx : locB c x = true) (hy : locB c y = true) (hl : (py.line == px.line) = true) (hne : (x == y) = false)
    (hf : ([a, b].all (foldedForSure 8)) = false) (hc : ([a, b].all (constantsAlone 8)) = false) (hi : ixOf c.N x = some i) (hj : ixOf c.N y = some j) (hij : i ≠ j) (ha : cE n c a = some a') (hb : cE n c b = some b') :
    PS X (.Assign [.Tuple [.Name x px, .Name y py] kt pt] (.Tuple [a, b] k2 pt2) spos) (tS G (evS C (.par i j (wrapA c (.n i) a') (wrapA c (.n j) b')))) := by
  have F := FS.fit
  have hN : X.N.Nodup := by rw [F.N]; exact F.nd
  have hx' : X.env.scope.names.lookup x = some .local := by rw [F.sc]; simpa [locB] using hx
  have hy' : X.env.scope.names.lookup y = some .local := by rw [F.sc]; simpa [locB] using hy
  have sa := (snd G C n c a a' ha X F).1
  have sb := (snd G C n c b b' hb X F).1
  refine PS.imp (ps_par F.calm hN (by rw [F.N]; exact ixOf_ok hi) (by rw [F.N]; exact ixOf_ok hj) hij hx' hy' (pa_cons sa (pa_cons sb pa_nil (star_of hb _ _)) (star_of ha _ _)) (swap2 FS.kind hx' hy' hl hne hf hc (noStar ha) (noStar hb)) (by rfl)) fun D σ H q => ?_
  obtain ⟨av, ρ, h, σD, d, h', R, RE, e, q⟩ := tS_par q
  refine tD_wrap (c := c) (p := .n i) ⟨av, ρ, h, σD, d, h', R, RE, e, fun ρ1 H1 v S1 R1 r1 => ?_⟩
  have q1 := q ρ1 H1 v S1 R1 r1
  exact tD_wrap (c := c) (p := .n j) q1
theorem par3_of {n : Nat} (FS : FitsS G C c X) {x y z : Str} {px py pz pt pt2 spos : Pos} {kt k2 i j k : Nat} {a b d : Expr} {a' b' d' : E} (hx : locB c x = true) (hy : locB c y = true) (hz : locB c z = true) (hl : (py.line == px.line) = true) (hl2 : (pz.line == px.line) = true) (hxy : (x == y) = false) (hxz : (x == z) = false) (hyz : (y == z) = false)
    (hf : ([a, b, d].all (foldedForSure 8)) = false) (hc : ([a, b, d].all (constantsAlone 8)) = false) (hi : ixOf c.N x = some i) (hj : ixOf c.N y = some j) (hk : ixOf c.N z = some k) (hij : i ≠ j) (hik : i ≠ k) (hjk : j ≠ k) (ha : cE n c a = some a') (hb : cE n c b = some b') (hd : cE n c d = some d') :
    PS X (.Assign [.Tuple [.Name x px, .Name y py, .Name z pz] kt pt] (.Tuple [a, b, d] k2 pt2) spos) (tS G (evS C (.par3 i j k (wrapA c (.n i) a') (wrapA c (.n j) b') (wrapA c (.n k) d')))) := by
  have F := FS.fit
  have hN : X.N.Nodup := by rw [F.N]; exact F.nd
  have hx' : X.env.scope.names.lookup x = some .local := by rw [F.sc]; simpa [locB] using hx
  have hy' : X.env.scope.names.lookup y = some .local := by rw [F.sc]; simpa [locB] using hy
  have hz' : X.env.scope.names.lookup z = some .local := by rw [F.sc]; simpa [locB] using hz
  have sa := (snd G C n c a a' ha X F).1
  have sb := (snd G C n c b b' hb X F).1
  have sd := (snd G C n c d d' hd X F).1
  refine PS.imp (ps_par3 F.calm hN (by rw [F.N]; exact ixOf_ok hi) (by rw [F.N]; exact ixOf_ok hj) (by rw [F.N]; exact ixOf_ok hk) hij hik hjk hx' hy' hz' (pa_cons sa (pa_cons sb (pa_cons sd pa_nil (star_of hd _ _)) (star_of hb _ _)) (star_of ha _ _)) (swap3 FS.kind hx' hy' hz' hl hl2 hxy hxz hyz hf hc (noStar ha) (noStar hb) (noStar hd)) (by rfl)) fun D σ H q => ?_
  obtain ⟨av, ρ, h, σD, d1, h', R, RE, e, q⟩ := tS_par3 q
  refine tD_wrap (c := c) (p := .n i) ⟨av, ρ, h, σD, d1, h', R, RE, e, fun ρ1 H1 v S1 R1 r1 => ?_⟩
  obtain ⟨av, ρ, h, σD, d1, h', R, RE, e, q⟩ := q ρ1 H1 v S1 R1 r1
  refine tD_wrap (c := c) (p := .n j) ⟨av, ρ, h, σD, d1, h', R, RE, e, fun ρ1 H1 v S1 R1 r1 => ?_⟩
  exact tD_wrap (c := c) (p := .n k) (q ρ1 H1 v S1 R1 r1)
theorem asg_of {n : Nat} (FS : FitsS G C c X) {tg e : Expr} {spos : Pos} {s : S} (h : cA (cE n c) c tg e = some s) : PS X (.Assign [tg] e spos) (tS G (evS C s)) := by
  cases tg with
  | Tuple ts kt pt =>
    cases e with
    | Tuple vs k2 pt2 =>
      simp only [cA] at h
      split at h
      · rename_i hf
        split at h
        · rename_i p e' hp he
          cases h
          exact tup_asg FS hp he (swapNone hf)
        · cases h
      · rename_i hf
        split at h
        · cases h
        · rename_i hc
          rw [Bool.not_eq_true] at hf hc
          split at h
          · split at h
            · rename_i hh
              simp only [Bool.and_eq_true, Bool.not_eq_true'] at hh
              obtain ⟨⟨⟨hx, hy⟩, hl⟩, hne⟩ := hh
              split at h
              · rename_i i j a' b' hi hj ha hb
                split at h
                · cases h
                · rename_i hij
                  cases h
                  exact par_of FS hx hy hl hne hf hc hi hj hij ha hb
              · cases h
            · cases h
          · split at h
            · rename_i hh
              simp only [Bool.and_eq_true, Bool.not_eq_true'] at hh
              obtain ⟨⟨⟨⟨⟨⟨⟨hx, hy⟩, hz⟩, hl⟩, hl2⟩, hxy⟩, hxz⟩, hyz⟩ := hh
              split at h
              · rename_i i j k a' b' d' hi hj hk ha hb hd
                split at h
                · cases h
                · rename_i hij
                  simp only [not_or] at hij
                  cases h
                  exact par3_of FS hx hy hz hl hl2 hxy hxz hyz hf hc hi hj hk hij.1 hij.2.1 hij.2.2 ha hb hd
              · cases h
            · cases h
          · cases h
    | _ =>
      simp only [cA] at h
      split at h
      · rename_i p e' hp he
        cases h
        exact tup_asg FS hp he (by rfl)
      · cases h
  | Name y py =>
    simp only [cA] at h
    split at h
    · rename_i p e' hp he
      cases h
      exact name_asg (snd G C) FS hp he
    · cases h
  | Subscript o i pos =>
    simp only [cA] at h
    split at h
    · rename_i o' i' e' ho hi he
      cases h
      have F := FS.fit
      exact PS.imp (ps_asg (snd G C n c e e' he X F).1 (pg_sub (snd G C n c o o' ho X F).1 (snd G C n c i i' hi X F).1 (set_F F.units F.pw F.K) (sub_assign hi)) (sole_not he (.Subscript o i pos) (fun _ _ q => nomatch q) _) (by rfl) (by rfl)) fun _ _ _ q => tS_seti q
    · cases h
  | Attribute o f pos =>
    simp only [cA] at h
    split at h
    · rename_i s cs hs
      split at h
      · rename_i hf
        split at h
        · rename_i o' e' ho he
          cases h
          subst hf
          have F := FS.fit
          exact PS.imp (ps_fld (snd G C n c o o' ho X F).1 (snd G C n c e e' he X F).1 (swaps_not (tg := .Attribute o (sOf s) pos) he (fun _ _ q => nomatch q) _)) fun _ _ _ q => tS_seta F.cl.cls (F.ats _ _ _ hs) q
        · cases h
      · cases h
    · cases h
  | _ => simp [cA] at h
theorem few_of {n : Nat} {a : Expr} {a' : E} (ha : cE n c a = some a') {cpos : Pos} {env : PySem.Env} : ((backTo cpos (starEach [a] env)).all (fun x => !x.1) && (backToKw cpos (keywordEach [] env)).all (fun x => x.1.isSome)
      && decide ([a].length + ([] : List Keyword).length + (if ([] : List Keyword).isEmpty then 0 else 1) < 30)) = true := by
  rw [star_of ha]
  rfl
theorem swapsN {n : Nat} {e : Expr} {e' : E} (h : cE n c e = some e') (hc : isComp e = false) (l : Nat) : swapsWith e none l X.env = pure false := by
  cases n with
  | zero => cases h
  | succ n =>
    cases e with
    | ListComp => cases hc
    | SetComp => simp [cE] at h
    | DictComp => simp [cE] at h
    | _ => rfl
theorem exp_of {n : Nat} (FS : FitsS G C c X) {e : Expr} {pos : Pos} {s : S} (hc : isComp e = false) (h : (cE n c e).map S.exp = some s) : PS X (.Expr e pos) (tS G (evS C s)) := by
  simp only [Option.map_eq_some_iff] at h
  obtain ⟨e', h, rfl⟩ := h
  exact PS.imp (ps_expr (snd G C n c e e' h X FS.fit).1 (swapsN h hc _)) fun _ _ _ q => tS_exp q
theorem expr_of {n : Nat} (FS : FitsS G C c X) {e : Expr} {pos : Pos} {s : S} (h : cX (cE n c) e = some s) : PS X (.Expr e pos) (tS G (evS C s)) := by
  cases e with
  | Call f args kws cpos =>
    cases f with
    | Attribute o m apos =>
      simp only [cX] at h
      split at h
      · rename_i hm
        split at h
        · rename_i hb
          simp only [Bool.and_eq_true, List.isEmpty_iff] at hb
          obtain ⟨⟨hb, hl⟩, rfl⟩ := hb
          split at h
          · split at h
            · rename_i o' a' ho ha
              have F := FS.fit
              have so := (snd G C n c _ o' ho X F).1
              have sa := (snd G C n c _ a' ha X F).1
              split at h
              · rename_i hm
                cases h
                subst hm
                exact PS.imp (ps_expr (pe_bm PySem.F.plainAttrs_list PySem.F.slot_list_append PySem.F.type_list_append mt_append so (pa_cons sa pa_nil (star_of ha _ _)) (base_ok hb _ _ _) (few_of ha) hl (star_of ha _ _) (by rfl)) (by rfl)) fun _ _ _ q => tS_app F.K q
              · rename_i hm2
                cases h
                rcases hm with hm | hm
                · exact absurd hm hm2
                · subst hm
                  exact PS.imp (ps_expr (pe_bm PySem.F.plainAttrs_list PySem.F.slot_list_extend PySem.F.type_list_extend mt_extF so (pa_cons sa pa_nil (star_of ha _ _)) (base_ok hb _ _ _) (few_of ha) hl (star_of ha _ _) (by rfl)) (by rfl)) fun _ _ _ q => tS_ext F.K q
            · cases h
          · cases h
        · cases h
      · exact exp_of FS (by rfl) h
    | _ => exact exp_of FS (by rfl) h
  | ListComp => simp [cX, isComp] at h
  | _ => exact exp_of FS (by rfl) (by simpa [cX, isComp] using h)
theorem sndS (G : Gx) (C : Calls) : ∀ n, SndS G C n := by
  intro n
  induction n with
  | zero => intro c e e' h; cases h
  | succ n T =>
    intro c st s h X FS
    have F := FS.fit
    have hp : PassesOwn (model X.prog X.w) X.A X.env X.xe := by rw [F.xe]; exact PassesOwn.never
    cases st with
    | Pass pos =>
      simp only [cS] at h
      cases h
      exact PS.imp ps_pass fun _ _ _ q => tS_pass q
    | Return v pos =>
      cases v with
      | none =>
        simp only [cS] at h
        cases h
        exact PS.imp ps_retN fun _ _ _ q => tS_retn q
      | some e =>
        simp only [cS, Option.map_eq_some_iff] at h
        obtain ⟨e', h, rfl⟩ := h
        exact PS.imp (ps_ret (snd G C n c e e' h X F).1) fun _ _ _ q => tS_ret q
    | Assign tgs e pos =>
      cases tgs with
      | nil => simp [cS] at h
      | cons tg tgs =>
        cases tgs with
        | nil => exact asg_of FS (by simpa only [cS] using h)
        | cons _ _ => simp [cS] at h
    | Expr e pos => exact expr_of FS (by simpa only [cS] using h)
    | If t a b pos =>
      simp only [cS] at h
      split at h
      · rename_i t' a' b' ht ha hb
        cases h
        exact PS.imp (ps_if (snd G C n c t t' ht X F).2 (stmts_of T FS ha) (stmts_of T FS hb)) fun _ _ _ q => tS_cond q
      · cases h
    | While t a o pos =>
      cases o with
      | cons _ _ => simp [cS] at h
      | nil =>
        simp only [cS] at h
        split at h
        · rename_i t' a' ht ha
          cases h
          exact PS.imp (ps_while hp (snd G C n c t t' ht X F).2 (stmts_of T FS ha)) fun _ _ _ q => tS_whl q
        · cases h
    | For tg iter a o pos =>
      cases o with
      | cons _ _ => simp [cS] at h
      | nil =>
        simp only [cS] at h
        split at h
        · cases h
        · rename_i hset
          rw [Bool.not_eq_true] at hset
          split at h
          · rename_i p hpat
            split at h
            · rename_i it a' hi ha
              cases h
              exact PS.imp (ps_for hp F.calm (iter_of (snd G C n) F (isT_ok hpat) hi) (F.pat hpat) (stmts_of T FS ha) (fun x => set_ok hset _ x)) fun _ _ _ q => tS_for q
            · cases h
          · cases h
    | _ => simp [cS] at h
end
end Sd

/-! PyK: calls: what is the callee's own goes with it. -/
namespace Sd
open PySem PySem.Spec PyProof.Rows L2

structure Df where
  ps : Nat
  n : Nat
  body : List S
  /-- what it has made and left in older objects is not changed any more -/
  fz : Bool := false
abbrev Tb := String → String → Option Df
def startD (n : Nat) (args : List D) : Env := args.map some ++ List.replicate (n - args.length) none
/-- what is handed back: the callee's own list as a new one -/
def freeze (h1 : Hh) (n0 : Nat) : D → D
  | .ref l => if l < n0 then .ref l else match h1[l]? with
    | some (.lst xs) => .lv xs
    | some (.dic ks vs) => .dv ks vs
    | some (.din ks vs) => .dvn ks vs
    | _ => .ref l
  | v => v
def undV (n : Nat) : D → Bool
  | .lv xs => D.undAll n xs
  | .dv ks vs => D.undAll n ks && D.undAll n vs
  | .dvn ks vs => D.undAll n ks && D.undAll n vs
  | d => d.und n
def okOld (h h1 : Hh) : Prop := ∀ (l : Nat) (o : Ob), l < h.length → h1[l]? = some o → h[l]? = some o ∨ o.und h.length = true
/-- what was made by the callee, as it stands at the end -/
def frz (h1 : Hh) (n0 : Nat) : Nat → D → D
  | 0, d => d
  | n + 1, .tup xs => .tup (xs.map (frz h1 n0 n))
  | n + 1, .fz xs => .fz (xs.map (frz h1 n0 n))
  | n + 1, .lv xs => .lv (xs.map (frz h1 n0 n))
  | n + 1, .fd ks vs => .fd ks (vs.map (frz h1 n0 n))
  | n + 1, .fdn ks vs => .fdn ks (vs.map (frz h1 n0 n))
  | n + 1, .ref l => if l < n0 then .ref l else match h1[l]? with
    | some (.lst xs) => .fz (xs.map (frz h1 n0 n))
    | some (.dic ks vs) => .fd ks (vs.map (frz h1 n0 n))
    | some (.din ks vs) => .fdn ks (vs.map (frz h1 n0 n))
    | _ => .ref l
  | _, d => d
def Ob.mapD (g : D → D) : Ob → Ob
  | .lst xs => .lst (xs.map g)
  | .dic ks vs => .dic ks (vs.map g)
  | .din ks vs => .din ks (vs.map g)
  | .ins c fs => .ins c (fs.map fun p => (p.1, g p.2))
section
open Classical
noncomputable def frzO (h1 : Hh) (n : Nat) (o o1 : Ob) : Ob := if o1 = o then o else o1.mapD (frz h1 n 60)
noncomputable def frzH (h h1 : Hh) : Hh := List.zipWith (frzO h1 h.length) h h1
noncomputable def finZ (h h1 : Hh) (v : D) : Out D :=
  if h1.length = h.length then .ok v h1 else
  if undV h.length (frz h1 h.length 60 v) = true ∧ ∀ (l : Nat) (o o1 : Ob), h[l]? = some o → h1[l]? = some o1 → o1 = o ∨ (o1.mapD (frz h1 h.length 60)).und h.length = true then .ok (frz h1 h.length 60 v) (frzH h h1) else .bad
noncomputable def fin (h h1 : Hh) (v : D) : Out D :=
  if h1.length = h.length then .ok v h1 else
  if undV h.length (freeze h1 h.length v) = true ∧ okOld h h1 then .ok (freeze h1 h.length v) (h1.take h.length) else .ok v h1
noncomputable def finB (b : Bool) (h h1 : Hh) (v : D) : Out D := match b with
  | true => finZ h h1 v
  | false => fin h h1 v
noncomputable def endF (b : Bool) (h h1 : Hh) : Fl → Out D
  | .nx _ => finB b h h1 .non
  | .rt v => finB b h h1 v
  | _ => .bad
noncomputable def callF (T : Tb) : Nat → Calls
  | 0 => fun _ _ _ _ => .bad
  | d + 1 => fun c m args h => match T c m with
    | none => .bad
    | some f => if args.length = f.ps then (evSs (callF T d) f.body (startD f.n args) h).thn fun r h1 => endF f.fz h h1 r else .bad
end

section
variable {G : Gx} {ρ ρ1 : List Addr} {H H1 : Hp} {h h1 : Hh}
mutual
theorem RD.und : ∀ {d : D} {v : V}, RD G ρ H d v → d.und ρ.length = true
  | _, _, .non => by simp only [D.und]
  | _, _, .bl b => by simp only [D.und]
  | _, _, .int i => by simp only [D.und]
  | _, _, .str x => by simp only [D.und]
  | _, _, .tup h d n m r => by simp only [D.und]; exact RDs.und r
  | _, _, .tupK h r => by simp only [D.und]; exact RDs.und r
  | _, _, .fz h n m r => by simp only [D.und]; exact RDs.und r
  | _, _, .fzK h r => by simp only [D.und]; exact RDs.und r
  | _, _, .fd (kvs := kvs) h n m r => by
    simp only [D.und, Bool.and_eq_true]
    refine ⟨?_, RDs.und r⟩
    generalize kvs = l
    induction l with
    | nil => simp only [List.map_nil, D.undAll]
    | cons p l ih =>
      simp only [List.map_cons, D.undAll, Bool.and_eq_true]
      refine ⟨?_, ih⟩
      cases hp : p.1 <;> simp only [keyD, D.und]
  | _, _, .fdn h n m e rk rv r => by
    simp only [D.und, Bool.and_eq_true]
    exact ⟨RDs.und rk, RDs.und r⟩
  | _, _, .ref h => by
    simp only [D.und, decide_eq_true_eq]
    exact (List.getElem?_eq_some_iff.mp h).1
  | _, _, .bm h _ _ _ _ _ => by
    simp only [D.und, decide_eq_true_eq]
    exact (List.getElem?_eq_some_iff.mp h).1
theorem RDs.und : ∀ {ds : List D} {vs : List V}, RDs G ρ H ds vs → D.undAll ρ.length ds = true
  | _, _, .nil => by simp only [D.undAll]
  | _, _, .cons r rs => by
    simp only [D.undAll, Bool.and_eq_true]
    exact ⟨RD.und r, RDs.und rs⟩
end
theorem keys_und (n : Nat) (kvs : List (Key × V)) : D.undAll n (kvs.map fun p => keyD p.1) = true := by
  induction kvs with
  | nil => simp only [List.map_nil, D.undAll]
  | cons p l ih =>
    simp only [List.map_cons, D.undAll, Bool.and_eq_true]
    refine ⟨?_, ih⟩
    cases hp : p.1 <;> simp only [keyD, D.und]
theorem RO.und {a : Addr} {o : Ob} (r : RO G ρ H a o) : o.und ρ.length = true := by
  cases o with
  | lst xs => obtain ⟨vs, e, rs⟩ := r; exact rs.und
  | dic ks vs => obtain ⟨kvs, e, q, rs⟩ := r; subst q; simp only [Ob.und, Bool.and_eq_true]; exact ⟨keys_und _ _, rs.und⟩
  | din ks vs => obtain ⟨es, us, e, q, rk, rv, rs⟩ := r; simp only [Ob.und, Bool.and_eq_true]; exact ⟨rk.und, rs.und⟩
  | ins c fs => obtain ⟨C, dx, vfs, e1, e, q, rs⟩ := r; exact rs.und
mutual
theorem RD.trunc {av av2 : List Addr} {n : Nat} (hsub : ∀ b ∈ ρ, b ∈ ρ1) (hpre : ∀ (l : Nat) (a : Addr), l < n → ρ1[l]? = some a → ρ[l]? = some a) (hav : ∀ b ∈ av2, b ∈ av ∨ b ∈ ρ1) :
    ∀ {d : D} {v : V}, RD (G.at av) ρ1 H d v → d.und n = true → RD (G.at av2) ρ H d v
  | _, _, .non, _ => .non
  | _, _, .bl b, _ => .bl b
  | _, _, .int i, _ => .int i
  | _, _, .str x, _ => .str x
  | _, _, .tup h d n m r, u => .tup h d (fun z => n (hsub _ z)) (fun z => (hav _ z).elim m n) (RDs.trunc hsub hpre hav r (by simpa only [D.und] using u))
  | _, _, .tupK h r, u => .tupK h (RDs.trunc hsub hpre hav r (by simpa only [D.und] using u))
  | _, _, .fz h n m r, u => .fz h (fun z => n (hsub _ z)) (fun z => (hav _ z).elim m n) (RDs.trunc hsub hpre hav r (by simpa only [D.und] using u))
  | _, _, .fzK h r, u => .fzK h (RDs.trunc hsub hpre hav r (by simpa only [D.und] using u))
  | _, _, .fd h n m r, u => .fd h (fun z => n (hsub _ z)) (fun z => (hav _ z).elim m n) (RDs.trunc hsub hpre hav r (by simp only [D.und, Bool.and_eq_true] at u; exact u.2))
  | _, _, .fdn h n m e rk rv r, u => .fdn h (fun z => n (hsub _ z)) (fun z => (hav _ z).elim m n) e (RDs.trunc hsub hpre hav rk (by simp only [D.und, Bool.and_eq_true] at u; exact u.1)) rv (RDs.trunc hsub hpre hav r (by simp only [D.und, Bool.and_eq_true] at u; exact u.2))
  | _, _, .ref h, u => .ref (hpre _ _ (by simpa only [D.und, decide_eq_true_eq] using u) h)
  | _, _, .bm h h2 h3 h4 n m, u => .bm (hpre _ _ (by simpa only [D.und, decide_eq_true_eq] using u) h) h2 h3 h4 (fun z => n (hsub _ z)) (fun z => (hav _ z).elim m n)
theorem RDs.trunc {av av2 : List Addr} {n : Nat} (hsub : ∀ b ∈ ρ, b ∈ ρ1) (hpre : ∀ (l : Nat) (a : Addr), l < n → ρ1[l]? = some a → ρ[l]? = some a) (hav : ∀ b ∈ av2, b ∈ av ∨ b ∈ ρ1) :
    ∀ {d : List D} {v : List V}, RDs (G.at av) ρ1 H d v → D.undAll n d = true → RDs (G.at av2) ρ H d v
  | _, _, .nil, _ => .nil
  | _, _, .cons r rs, u => by
    simp only [D.undAll, Bool.and_eq_true] at u
    exact .cons (RD.trunc hsub hpre hav r u.1) (RDs.trunc hsub hpre hav rs u.2)
end
theorem RO.trunc {av av2 : List Addr} {n : Nat} {a : Addr} {o : Ob} (hsub : ∀ b ∈ ρ, b ∈ ρ1) (hpre : ∀ (l : Nat) (a : Addr), l < n → ρ1[l]? = some a → ρ[l]? = some a) (hav : ∀ b ∈ av2, b ∈ av ∨ b ∈ ρ1)
    (r : RO (G.at av) ρ1 H a o) (u : o.und n = true) : RO (G.at av2) ρ H a o := by
  cases o with
  | lst xs => obtain ⟨vs, e, rs⟩ := r; exact ⟨vs, e, rs.trunc hsub hpre hav u⟩
  | dic ks vs =>
    obtain ⟨kvs, e, q, rs⟩ := r
    simp only [Ob.und, Bool.and_eq_true] at u
    exact ⟨kvs, e, q, rs.trunc hsub hpre hav u.2⟩
  | din ks vs =>
    obtain ⟨es, us, e, q, rk, rv, rs⟩ := r
    simp only [Ob.und, Bool.and_eq_true] at u
    exact ⟨es, us, e, q, rk.trunc hsub hpre hav u.1, rv, rs.trunc hsub hpre hav u.2⟩
  | ins c fs => obtain ⟨C, dx, vfs, e1, e, q, rs⟩ := r; exact ⟨C, dx, vfs, e1, e, q, rs.trunc hsub hpre hav u⟩
theorem RelH.trunc {av0 av av2 : List Addr} (R : RelH (G.at av0) ρ h H) (S : Stp ρ ρ1 H H1) (R1 : RelH (G.at av) ρ1 h1 H1) (old : okOld h h1) (hav : ∀ b ∈ av2, b ∈ av ∨ b ∈ ρ1) (hd : ∀ b ∈ av2, b ∉ ρ) : RelH (G.at av2) ρ (h1.take h.length) H1 := by
  have hsub := S.mem
  have hpre : ∀ (l : Nat) (a : Addr), l < h.length → ρ1[l]? = some a → ρ[l]? = some a := fun l a hl e => by
    rw [← R.len] at hl
    have e2 := S.pre l _ (List.getElem?_eq_getElem hl)
    rw [e] at e2; cases e2
    exact List.getElem?_eq_getElem hl
  have hle : h.length ≤ h1.length := by
    rw [← R.len, ← R1.len]
    rcases Nat.lt_or_ge ρ1.length ρ.length with hlt | hge
    · have e2 := S.pre ρ1.length _ (List.getElem?_eq_getElem hlt)
      rw [List.getElem?_eq_none (Nat.le_refl _)] at e2; cases e2
    · exact hge
  refine ⟨by rw [List.length_take, R.len]; omega, R.nd, fun l o e => ?_, fun b hb => ?_, hd⟩
  · rw [List.getElem?_take] at e
    split at e
    · rename_i hl
      obtain ⟨a, e1, ro⟩ := R1.obj l o e
      refine ⟨a, hpre l a hl e1, ro.trunc hsub hpre hav ?_⟩
      rcases old l o hl e with e0 | u
      · obtain ⟨a0, _, ro0⟩ := R.obj l o e0
        rw [← R.len]
        exact ro0.und
      · exact u
    · cases e
  · rcases hav b hb with hb | hb
    · exact R1.avd b hb
    · exact R1.mem hb
/-- behind a call -/
theorem fin_ok {av : List Addr} {v d : D} {h2 : Hh} (R : RelH (G.at av) ρ h H) (S : Stp ρ ρ1 H H1) (R1 : RelH (G.at av) ρ1 h1 H1) (e : fin h h1 v = .ok d h2) :
    ∃ ρ2, Stp ρ ρ2 H H1 ∧ RelH (G.at av) ρ2 h2 H1 ∧ ∀ u, RV (G.at av) ρ1 h1 H H1 v u → RV (G.at av) ρ2 h2 H H1 d u := by
  unfold fin at e
  split at e
  · cases e
    exact ⟨ρ1, S, R1, fun u r => r⟩
  · split at e
    · rename_i hh
      obtain ⟨hu, old⟩ := hh
      cases e
      have hsub := S.mem
      have hpre : ∀ (l : Nat) (a : Addr), l < h.length → ρ1[l]? = some a → ρ[l]? = some a := fun l a hl e => by
        rw [← R.len] at hl
        have e2 := S.pre l _ (List.getElem?_eq_getElem hl)
        rw [e] at e2; cases e2
        exact List.getElem?_eq_getElem hl
      have S0 : Stp ρ ρ H H1 := ⟨fun _ _ z => z, fun b o e n => ⟨(S.frm b o e n).1, n⟩⟩
      have RT : RelH (G.at av) ρ (h1.take h.length) H1 := RelH.trunc R S R1 old (fun b hb => .inl hb) R.avn
      refine ⟨ρ, S0, RT, fun u r => ?_⟩
      have plain : ∀ {d : D}, d.und h.length = true → RD (G.at av) ρ1 H1 d u → RD (G.at av) ρ H1 d u := fun hu r => r.trunc hsub hpre (fun b hb => .inl hb) hu
      cases v with
      | lv xs =>
        obtain ⟨a, vs, rfl, n0, na, ea, rs, Rh⟩ := r
        have na1 : a ∉ ρ1 := Rh.avn a List.mem_cons_self
        have na0 : a ∉ ρ := fun z => na1 (hsub _ z)
        refine ⟨a, vs, rfl, n0, na, ea, ?_, ?_⟩
        · exact RDs.trunc (G := G) (av := a :: av) (av2 := a :: av) hsub hpre (fun b hb => .inl hb) rs hu
        · refine RelH.trunc (av := a :: av) (av2 := a :: av) R S Rh old (fun b hb => .inl hb) fun b hb => ?_
          rcases List.mem_cons.mp hb with rfl | hb
          · exact na0
          · exact R.avn b hb
      | dv ks vs =>
        obtain ⟨a, kvs, rfl, n0, na, ea, ek, rs, Rh⟩ := r
        have na1 : a ∉ ρ1 := Rh.avn a List.mem_cons_self
        have na0 : a ∉ ρ := fun z => na1 (hsub _ z)
        simp only [freeze, undV, Bool.and_eq_true] at hu
        refine ⟨a, kvs, rfl, n0, na, ea, ek, ?_, ?_⟩
        · exact RDs.trunc (G := G) (av := a :: av) (av2 := a :: av) hsub hpre (fun b hb => .inl hb) rs hu.2
        · refine RelH.trunc (av := a :: av) (av2 := a :: av) R S Rh old (fun b hb => .inl hb) fun b hb => ?_
          rcases List.mem_cons.mp hb with rfl | hb
          · exact na0
          · exact R.avn b hb
      | dvn ks vs =>
        obtain ⟨a, es, us, rfl, n0, na, ea, ek, rk, rv, rs, Rh⟩ := r
        have na1 : a ∉ ρ1 := Rh.avn a List.mem_cons_self
        have na0 : a ∉ ρ := fun z => na1 (hsub _ z)
        simp only [freeze, undV, Bool.and_eq_true] at hu
        refine ⟨a, es, us, rfl, n0, na, ea, ek, ?_, rv, ?_, ?_⟩
        · exact RDs.trunc (G := G) (av := a :: av) (av2 := a :: av) hsub hpre (fun b hb => .inl hb) rk hu.1
        · exact RDs.trunc (G := G) (av := a :: av) (av2 := a :: av) hsub hpre (fun b hb => .inl hb) rs hu.2
        · refine RelH.trunc (av := a :: av) (av2 := a :: av) R S Rh old (fun b hb => .inl hb) fun b hb => ?_
          rcases List.mem_cons.mp hb with rfl | hb
          · exact na0
          · exact R.avn b hb
      | ref l =>
        have r' : RD (G.at av) ρ1 H1 (.ref l) u := r
        by_cases hl : l < h.length
        · have ef : freeze h1 h.length (.ref l) = .ref l := by simp only [freeze, if_pos hl]
          rw [ef] at hu ⊢
          exact (plain (d := .ref l) (by simpa only [D.und, decide_eq_true_eq] using hl) r').rv
        · cases r' with
          | @ref _ a ha =>
            have ha1 : a ∈ ρ1 := List.mem_of_getElem? ha
            have na0 : a ∉ ρ := fun z => by
              obtain ⟨i, hi, ei⟩ := List.mem_iff_getElem.mp z
              have e2 := S.pre i a (by rw [← ei]; exact List.getElem?_eq_getElem hi)
              have := ixInj R1.nd ha e2
              rw [← R.len] at hl
              omega
            have n0 : H a = none := by
              cases q : H a with
              | none => rfl
              | some o => exact absurd ha1 (S.frm a o q na0).2
            have na : a ∉ av := fun z => R1.avn a z ha1
            obtain ⟨o, eo, ro⟩ := R1.lt ha
            have hav : ∀ b ∈ a :: av, b ∈ av ∨ b ∈ ρ1 := fun b hb => by
              rcases List.mem_cons.mp hb with rfl | hb
              · exact .inr ha1
              · exact .inl hb
            have hd : ∀ b ∈ a :: av, b ∉ ρ := fun b hb => by
              rcases List.mem_cons.mp hb with rfl | hb
              · exact na0
              · exact R.avn b hb
            have RT2 := RelH.trunc (av2 := a :: av) R S R1 old hav hd
            cases o with
            | lst xs =>
              have ef : freeze h1 h.length (.ref l) = .lv xs := by simp only [freeze, if_neg hl, eo]
              rw [ef] at hu ⊢
              obtain ⟨vs, ev, rs⟩ := ro
              exact ⟨a, vs, rfl, n0, na, ev, RDs.trunc (G := G) (av := av) (av2 := a :: av) hsub hpre hav rs hu, RT2⟩
            | dic ks vs =>
              have ef : freeze h1 h.length (.ref l) = .dv ks vs := by simp only [freeze, if_neg hl, eo]
              rw [ef] at hu ⊢
              simp only [undV, Bool.and_eq_true] at hu
              obtain ⟨kvs, ev, ek, rs⟩ := ro
              exact ⟨a, kvs, rfl, n0, na, ev, ek, RDs.trunc (G := G) (av := av) (av2 := a :: av) hsub hpre hav rs hu.2, RT2⟩
            | din ks vs =>
              have ef : freeze h1 h.length (.ref l) = .dvn ks vs := by simp only [freeze, if_neg hl, eo]
              rw [ef] at hu ⊢
              simp only [undV, Bool.and_eq_true] at hu
              obtain ⟨es, us, ev, ek, rk, rv, rs⟩ := ro
              exact ⟨a, es, us, rfl, n0, na, ev, ek, RDs.trunc (G := G) (av := av) (av2 := a :: av) hsub hpre hav rk hu.1, rv, RDs.trunc (G := G) (av := av) (av2 := a :: av) hsub hpre hav rs hu.2, RT2⟩
            | ins c fs =>
              have ef : freeze h1 h.length (.ref l) = .ref l := by simp only [freeze, if_neg hl, eo]
              rw [ef] at hu
              simp only [undV, D.und, decide_eq_true_eq] at hu
              exact absurd hu hl
      | _ =>
        first
        | exact (plain (by simpa only [undV, freeze] using hu) r).rv
    · cases e
      exact ⟨ρ1, S, R1, fun u r => r⟩
/-! ### what is left in older objects -/
theorem RDs.mapF {av n} {g : D → D} (hg : ∀ (d : D) (v : V), RD (G.at av) ρ1 H1 d v → (g d).und n = true → RD (G.at av) ρ H1 (g d) v) : ∀ {ds : List D} {vs : List V}, RDs (G.at av) ρ1 H1 ds vs → D.undAll n (ds.map g) = true → RDs (G.at av) ρ H1 (ds.map g) vs
  | _, _, .nil, _ => .nil
  | _, _, .cons r rs, u => by
    simp only [List.map_cons, D.undAll, Bool.and_eq_true] at u
    exact .cons (hg _ _ r u.1) (RDs.mapF hg rs u.2)
theorem RD.frz {av : List Addr} {n : Nat} (R1 : RelH (G.at av) ρ1 h1 H1) (hsub : ∀ b ∈ ρ, b ∈ ρ1) (hpre : ∀ (l : Nat) (a : Addr), l < n → ρ1[l]? = some a → ρ[l]? = some a) (hout : ∀ (l : Nat) (a : Addr), ¬ l < n → ρ1[l]? = some a → a ∉ ρ) :
    ∀ (k : Nat) (d : D) (v : V), RD (G.at av) ρ1 H1 d v → (Sd.frz h1 n k d).und n = true → RD (G.at av) ρ H1 (Sd.frz h1 n k d) v := by
  intro k
  induction k with
  | zero => intro d v r u; exact r.trunc (av2 := av) hsub hpre (fun b hb => .inl hb) u
  | succ k ih =>
    intro d v r u
    have same : Sd.frz h1 n (k + 1) d = d → RD (G.at av) ρ H1 (Sd.frz h1 n (k + 1) d) v := fun e => by
      rw [e] at u ⊢
      exact r.trunc (av2 := av) hsub hpre (fun b hb => .inl hb) u
    cases d with
    | tup xs =>
      simp only [Sd.frz, D.und] at u ⊢
      cases r with
      | tup h d nn m rs => exact .tup h d (fun z => nn (hsub _ z)) m (RDs.mapF ih rs u)
      | tupK h rs => exact .tupK h (RDs.mapF ih rs u)
    | fz xs =>
      simp only [Sd.frz, D.und] at u ⊢
      cases r with
      | fz h nn m rs => exact .fz h (fun z => nn (hsub _ z)) m (RDs.mapF ih rs u)
      | fzK h rs => exact .fzK h (RDs.mapF ih rs u)
    | fd ks vs =>
      simp only [Sd.frz, D.und, Bool.and_eq_true] at u ⊢
      cases r with
      | fd h nn m rs => exact .fd h (fun z => nn (hsub _ z)) m (RDs.mapF ih rs u.2)
    | fdn ks vs =>
      simp only [Sd.frz, D.und, Bool.and_eq_true] at u ⊢
      cases r with
      | fdn h nn m e rk rv rs => exact .fdn h (fun z => nn (hsub _ z)) m e (RDs.trunc hsub hpre (fun b hb => .inl hb) rk u.1) rv (RDs.mapF ih rs u.2)
    | ref l =>
      by_cases hl : l < n
      · exact same (by simp only [Sd.frz, if_pos hl])
      · cases r with
        | @ref _ a ha =>
          obtain ⟨o, eo, ro⟩ := R1.lt ha
          have na : a ∉ ρ := hout l a hl ha
          have nv : a ∉ (G.at av).av := fun z => R1.avn a z (List.mem_of_getElem? ha)
          cases o with
          | lst xs =>
            have e : Sd.frz h1 n (k + 1) (.ref l) = .fz (xs.map (Sd.frz h1 n k)) := by simp only [Sd.frz, if_neg hl, eo]
            rw [e] at u ⊢
            obtain ⟨vs, ev, rs⟩ := ro
            exact .fz (.inl ev) na nv (RDs.mapF ih rs (by simpa only [D.und] using u))
          | dic ks vs =>
            have e : Sd.frz h1 n (k + 1) (.ref l) = .fd ks (vs.map (Sd.frz h1 n k)) := by simp only [Sd.frz, if_neg hl, eo]
            rw [e] at u ⊢
            obtain ⟨kvs, ev, rfl, rs⟩ := ro
            simp only [D.und, Bool.and_eq_true] at u
            exact .fd (.inl ev) na nv (RDs.mapF ih rs u.2)
          | din ks vs =>
            have e : Sd.frz h1 n (k + 1) (.ref l) = .fdn ks (vs.map (Sd.frz h1 n k)) := by simp only [Sd.frz, if_neg hl, eo]
            rw [e] at u ⊢
            obtain ⟨es, us, ev, ek, rk, rv, rs⟩ := ro
            simp only [D.und, Bool.and_eq_true] at u
            exact .fdn ev na nv ek (RDs.trunc hsub hpre (fun b hb => .inl hb) rk u.1) rv (RDs.mapF ih rs u.2)
          | ins c fs =>
            have e : Sd.frz h1 n (k + 1) (.ref l) = .ref l := by simp only [Sd.frz, if_neg hl, eo]
            rw [e] at u
            simp only [D.und, decide_eq_true_eq] at u
            exact absurd u hl
    | _ => first | exact same rfl | cases r
theorem RO.frz {av : List Addr} {n k : Nat} {a : Addr} {o : Ob} (R1 : RelH (G.at av) ρ1 h1 H1) (hsub : ∀ b ∈ ρ, b ∈ ρ1) (hpre : ∀ (l : Nat) (a : Addr), l < n → ρ1[l]? = some a → ρ[l]? = some a) (hout : ∀ (l : Nat) (a : Addr), ¬ l < n → ρ1[l]? = some a → a ∉ ρ)
    (r : RO (G.at av) ρ1 H1 a o) (u : (o.mapD (Sd.frz h1 n k)).und n = true) : RO (G.at av) ρ H1 a (o.mapD (Sd.frz h1 n k)) := by
  have ih := RD.frz (G := G) (k := k) R1 hsub hpre hout
  cases o with
  | lst xs => obtain ⟨vs, e, rs⟩ := r; exact ⟨vs, e, RDs.mapF ih rs u⟩
  | dic ks vs =>
    obtain ⟨kvs, e, q, rs⟩ := r
    simp only [Ob.mapD, Ob.und, Bool.and_eq_true] at u
    exact ⟨kvs, e, q, RDs.mapF ih rs u.2⟩
  | din ks vs =>
    obtain ⟨es, us, e, q, rk, rv, rs⟩ := r
    simp only [Ob.mapD, Ob.und, Bool.and_eq_true] at u
    exact ⟨es, us, e, q, rk.trunc hsub hpre (fun b hb => .inl hb) u.1, rv, RDs.mapF ih rs u.2⟩
  | ins c fs =>
    obtain ⟨C, dx, vfs, e1, e, q, rs⟩ := r
    simp only [Ob.mapD, Ob.und, List.map_map] at u
    refine ⟨C, dx, vfs, e1, e, by rw [q, List.map_map]; rfl, ?_⟩
    have e2 : (fs.map fun p => (p.1, Sd.frz h1 n k p.2)).map (·.2) = (fs.map (·.2)).map (Sd.frz h1 n k) := by rw [List.map_map, List.map_map]; rfl
    show RDs (G.at av) ρ H1 ((fs.map fun p => (p.1, Sd.frz h1 n k p.2)).map (·.2)) _
    rw [e2]
    refine RDs.mapF ih rs ?_
    rw [List.map_map]
    exact u
theorem RelH.frz {av0 av : List Addr} (R : RelH (G.at av0) ρ h H) (S : Stp ρ ρ1 H H1) (R1 : RelH (G.at av) ρ1 h1 H1) (hu : ∀ (l : Nat) (o o1 : Ob), h[l]? = some o → h1[l]? = some o1 → o1 = o ∨ (o1.mapD (Sd.frz h1 h.length 60)).und h.length = true) (hd : ∀ b ∈ av, b ∉ ρ) :
    RelH (G.at av) ρ (frzH h h1) H1 ∧ (∀ (l : Nat) (a : Addr), l < h.length → ρ1[l]? = some a → ρ[l]? = some a) ∧ (∀ (l : Nat) (a : Addr), ¬ l < h.length → ρ1[l]? = some a → a ∉ ρ) := by
  have hsub := S.mem
  have hpre : ∀ (l : Nat) (a : Addr), l < h.length → ρ1[l]? = some a → ρ[l]? = some a := fun l a hl e => by
    rw [← R.len] at hl
    have e2 := S.pre l _ (List.getElem?_eq_getElem hl)
    rw [e] at e2; cases e2
    exact List.getElem?_eq_getElem hl
  have hout : ∀ (l : Nat) (a : Addr), ¬ l < h.length → ρ1[l]? = some a → a ∉ ρ := fun l a hl ha z => by
    obtain ⟨i, hi, ei⟩ := List.mem_iff_getElem.mp z
    have e2 := S.pre i a (by rw [← ei]; exact List.getElem?_eq_getElem hi)
    have := ixInj R1.nd ha e2
    rw [← R.len] at hl
    omega
  have hle : h.length ≤ h1.length := by
    rw [← R.len, ← R1.len]
    rcases Nat.lt_or_ge ρ1.length ρ.length with hlt | hge
    · have e2 := S.pre ρ1.length _ (List.getElem?_eq_getElem hlt)
      rw [List.getElem?_eq_none (Nat.le_refl _)] at e2; cases e2
    · exact hge
  refine ⟨⟨by unfold frzH; rw [List.length_zipWith, R.len]; omega, R.nd, fun l o e => ?_, fun b hb => R1.avd b hb, hd⟩, hpre, hout⟩
  unfold frzH at e
  rw [List.getElem?_zipWith] at e
  cases e0 : h[l]? with
  | none => rw [e0] at e; cases e
  | some o0 =>
    cases e1 : h1[l]? with
    | none => rw [e0, e1] at e; cases e
    | some o1 =>
      rw [e0, e1] at e
      have hl : l < h.length := (List.getElem?_eq_some_iff.mp e0).1
      obtain ⟨a, e2, ro⟩ := R1.obj l o1 e1
      refine ⟨a, hpre l a hl e2, ?_⟩
      simp only [Option.some.injEq] at e
      subst e
      unfold frzO
      split
      · rename_i he
        subst he
        obtain ⟨a0, _, ro0⟩ := R.obj l _ e0
        exact ro.trunc (av2 := av) hsub hpre (fun b hb => .inl hb) (by rw [← R.len]; exact ro0.und)
      · rename_i he
        rcases hu l o0 o1 e0 e1 with z | z
        · exact absurd z he
        · exact ro.frz R1 hsub hpre hout z
theorem finZ_ok {av : List Addr} {v d : D} {h2 : Hh} (R : RelH (G.at av) ρ h H) (S : Stp ρ ρ1 H H1) (R1 : RelH (G.at av) ρ1 h1 H1) (e : finZ h h1 v = .ok d h2) :
    ∃ ρ2, Stp ρ ρ2 H H1 ∧ RelH (G.at av) ρ2 h2 H1 ∧ ∀ u, RV (G.at av) ρ1 h1 H H1 v u → RV (G.at av) ρ2 h2 H H1 d u := by
  unfold finZ at e
  split at e
  · cases e
    exact ⟨ρ1, S, R1, fun u r => r⟩
  · split at e
    · rename_i hh
      obtain ⟨hv, hu⟩ := hh
      cases e
      have hsub := S.mem
      have S0 : Stp ρ ρ H H1 := ⟨fun _ _ z => z, fun b o e n => ⟨(S.frm b o e n).1, n⟩⟩
      obtain ⟨RT, hpre, hout⟩ := RelH.frz R S R1 hu R.avn
      refine ⟨ρ, S0, RT, fun u r => ?_⟩
      cases v with
      | lv xs =>
        obtain ⟨a, vs, rfl, n0, na, ea, rs, Rh⟩ := r
        have na0 : a ∉ ρ := fun z => Rh.avn a List.mem_cons_self (hsub _ z)
        have hd : ∀ b ∈ a :: av, b ∉ ρ := fun b hb => by
          rcases List.mem_cons.mp hb with rfl | hb
          · exact na0
          · exact R.avn b hb
        obtain ⟨RT2, _, _⟩ := RelH.frz (G := G) (av := a :: av) R S Rh hu hd
        exact ⟨a, vs.map id, rfl, n0, na, by rw [List.map_id]; exact ea, by rw [List.map_id]; exact RDs.mapF (G := G) (av := a :: av) (RD.frz (G := G) (k := 59) Rh hsub hpre hout) rs (by simpa only [Sd.frz, undV] using hv), RT2⟩
      | dv ks vs =>
        obtain ⟨a, kvs, rfl, n0, na, ea, ek, rs, Rh⟩ := r
        have na0 : a ∉ ρ := fun z => Rh.avn a List.mem_cons_self (hsub _ z)
        have hd : ∀ b ∈ a :: av, b ∉ ρ := fun b hb => by
          rcases List.mem_cons.mp hb with rfl | hb
          · exact na0
          · exact R.avn b hb
        obtain ⟨RT2, _, _⟩ := RelH.frz (G := G) (av := a :: av) R S Rh hu hd
        simp only [Sd.frz, undV, Bool.and_eq_true] at hv
        exact ⟨a, kvs, rfl, n0, na, ea, ek, RDs.trunc (G := G) (av := a :: av) (av2 := a :: av) hsub hpre (fun b hb => .inl hb) rs hv.2, RT2⟩
      | dvn ks vs =>
        obtain ⟨a, es, us, rfl, n0, na, ea, ek, rk, rv, rs, Rh⟩ := r
        have na0 : a ∉ ρ := fun z => Rh.avn a List.mem_cons_self (hsub _ z)
        have hd : ∀ b ∈ a :: av, b ∉ ρ := fun b hb => by
          rcases List.mem_cons.mp hb with rfl | hb
          · exact na0
          · exact R.avn b hb
        obtain ⟨RT2, _, _⟩ := RelH.frz (G := G) (av := a :: av) R S Rh hu hd
        simp only [Sd.frz, undV, Bool.and_eq_true] at hv
        exact ⟨a, es, us, rfl, n0, na, ea, ek, RDs.trunc (G := G) (av := a :: av) (av2 := a :: av) hsub hpre (fun b hb => .inl hb) rk hv.1, rv, RDs.trunc (G := G) (av := a :: av) (av2 := a :: av) hsub hpre (fun b hb => .inl hb) rs hv.2, RT2⟩
      | ref l =>
        have r' : RD (G.at av) ρ1 H1 (.ref l) u := r
        refine RD.rv (RD.frz (G := G) (k := 60) R1 hsub hpre hout _ _ r' ?_)
        revert hv
        generalize hg : Sd.frz h1 h.length 60 (.ref l) = g
        intro hv
        cases g <;> first | exact hv | (exfalso; revert hg; simp only [Sd.frz]; split; (intro z; cases z); split <;> intro z <;> cases z)
      | tup xs => exact RD.rv (RD.frz (G := G) (k := 60) R1 hsub hpre hout (.tup xs) u r hv)
      | fz xs => exact RD.rv (RD.frz (G := G) (k := 60) R1 hsub hpre hout (.fz xs) u r hv)
      | fd ks vs => exact RD.rv (RD.frz (G := G) (k := 60) R1 hsub hpre hout (.fd ks vs) u r hv)
      | fdn ks vs => exact RD.rv (RD.frz (G := G) (k := 60) R1 hsub hpre hout (.fdn ks vs) u r hv)
      | non => exact RD.rv (RD.frz (G := G) (k := 60) R1 hsub hpre hout .non u r hv)
      | bl b => exact RD.rv (RD.frz (G := G) (k := 60) R1 hsub hpre hout (.bl b) u r hv)
      | int b => exact RD.rv (RD.frz (G := G) (k := 60) R1 hsub hpre hout (.int b) u r hv)
      | str b => exact RD.rv (RD.frz (G := G) (k := 60) R1 hsub hpre hout (.str b) u r hv)
      | bm c l m => exact RD.rv (RD.frz (G := G) (k := 60) R1 hsub hpre hout (.bm c l m) u r hv)
    · cases e
theorem finB_ok {av : List Addr} {v d : D} {h2 : Hh} {b : Bool} (R : RelH (G.at av) ρ h H) (S : Stp ρ ρ1 H H1) (R1 : RelH (G.at av) ρ1 h1 H1) (e : finB b h h1 v = .ok d h2) :
    ∃ ρ2, Stp ρ ρ2 H H1 ∧ RelH (G.at av) ρ2 h2 H1 ∧ ∀ u, RV (G.at av) ρ1 h1 H H1 v u → RV (G.at av) ρ2 h2 H H1 d u := by
  unfold finB at e
  split at e
  · exact finZ_ok R S R1 e
  · exact fin_ok R S R1 e
end
end Sd

/-! PyK2: the defs of a text, each as the evaluator has it. -/
namespace Sd
open PySem PySem.Spec PyProof.Rows L2

theorem evEs_bad_call {T : Tb} {c m : String} {ds : List D} {h : Hh} {d : D} {h' : Hh} {n : Nat} (e : callF T n c m ds h = .ok d h') : ∃ f k, n = k + 1 ∧ T c m = some f ∧ ds.length = f.ps ∧ ∃ r h1, evSs (callF T k) f.body (startD f.n ds) h = .ok r h1 ∧ endF f.fz h h1 r = .ok d h' := by
  cases n with
  | zero => cases e
  | succ k =>
    unfold callF at e
    split at e
    · cases e
    · rename_i f hf
      split at e
      · rename_i hl
        obtain ⟨r, h1, e1, e2⟩ := Out.thn_eq_ok e
        exact ⟨f, k, rfl, hf, hl, r, h1, e1, e2⟩
      · cases e
/-- a def as it stands in the text and as it is turned; k: the class ("": none), by kx in the text; q: the qualified name -/
structure DefI where
  x : Str
  q : Str
  k : String
  kx : Str
  m : String
  st : Stmt
  ps : List Str
  N : List Str
  alc : List Nat
  fz : Bool
  body : List S
def DefI.cc (i : DefI) (fns : List (Str × String)) (cons : List (Str × D)) (cl : ClsT) : Cc := ⟨i.N, (defScope i.st), none, fns, cons, i.alc, cl⟩
abbrev DefI.fn (K : PySem.W.Frag) (i : DefI) (f : Addr) (fd : FuncData) : Prop := FunD K i.x i.q (defArgs i.st) (defBody i.st) (defScope i.st) [] [] f fd
def DefI.df (i : DefI) : Df := ⟨i.ps.length, i.N.length, i.body, i.fz⟩
def Tof (L : List DefI) : Tb := fun c m => (L.find? fun i => i.k == c && i.m == m).map DefI.df
def fnsOf (L : List DefI) : List (Str × String) := (L.filter fun i => i.k == "").map fun i => (i.x, i.m)
/-- what is looked at in the text -/
structure DefI.Ok (i : DefI) (T : Tb) (fns : List (Str × String)) (cons : List (Str × D)) (cl : ClsT) (n : Nat) : Prop where
  sc : FnScope i.N i.ps (defScope i.st)
  cmp : mapO (cS n (i.cc fns cons cl)) (defBody i.st) = some i.body
  tab : T i.k i.m = some i.df
  bd : ∀ (kV doc pm : Value) (an : Option Addr) (cdv ct : Value) (us : List Value), us.length = i.ps.length → bindArgs (PySem.W.fnOf i.x i.q (defArgs i.st) (defBody i.st) (defScope i.st) .none kV doc pm an cdv ct) ⟨us, []⟩ = pure (i.ps.zip us)

section
variable {G : Gx} {P : Program} {w : World} {mg : Str → Option Value} {base : Heap}
theorem start_rel {ρ : List Addr} {H : Hp} {N : List Str} {ds : List D} {vs : List V} (r : RDs G ρ H ds vs) : RelE G ρ H (startD N.length ds) (L2.start N vs) := by
  have hl := r.length
  refine ⟨?_, fun i d e => ?_⟩
  · unfold startD L2.start
    simp [hl]
  · unfold startD at e
    unfold L2.start
    by_cases hi : i < ds.length
    · rw [List.getElem?_append_left (by simpa using hi), List.getElem?_map] at e
      obtain ⟨x, hx, ex⟩ := Option.map_eq_some_iff.mp e
      cases ex
      obtain ⟨v, hv, rv⟩ := r.get hx
      refine ⟨v, ?_, rv⟩
      rw [List.getElem?_append_left (by rw [List.length_map, ← hl]; exact hi), List.getElem?_map, hv]
      rfl
    · rw [List.getElem?_append_right (by simpa using hi)] at e
      rw [List.getElem?_replicate] at e
      split at e
      · cases e
      · cases e
/-- a def at a level -/
def FnAt (G : Gx) (P : Program) (w : World) (mg : Str → Option Value) (base : Heap) (T : Tb) (d : Nat) (c m : String) (f : Addr) : Prop := ∃ fd ps, PySem.W.keepIn G.K (.ref f) = true ∧ Binds G.K fd ps [] ∧ FnOk P w G.K mg base CX0 (2 * d) f fd ps (spC G ps.length (callF T d c m)) ∧ ∀ ds h d' h', callF T d c m ds h = .ok d' h' → ds.length = ps.length
/-- the module's names as they stand, the defs at a level -/
structure Wf (G : Gx) (P : Program) (w : World) (mg : Str → Option Value) (base : Heap) (T : Tb) (fns : List (Str × String)) (cons : List (Str × D)) (cl : ClsT) (d : Nat) : Prop where
  pw : P = G.b.P ∧ w = G.b.w
  free : ∀ x ∈ bnames, fns.lookup x = none → mg x = none
  con : ∀ x d, cons.lookup x = some d → ∃ u v, mg x = some u ∧ RelV v u ∧ KD G d v
  fn : ∀ x m, fns.lookup x = some m → ∃ f, mg x = some (.ref f) ∧ FnAt G P w mg base T d "" m f
  cls : ∀ c A, G.b.cls c = some A → Cls G.K A
  mt : ∀ c m, c ≠ "" → (T c m).isSome = true → ∃ A f, G.b.cls c = some A ∧ Meth G.K A (sOf m) f ∧ FnAt G P w mg base T d c m f
  mks : ∀ x k, cl.mks.lookup x = some k → ∃ A f, mg x = some (.ref A) ∧ G.b.cls k = some A ∧ Mk G.K A f ∧ FnAt G P w mg base T d k "__init__" f
  ats : ∀ x f cs, cl.ats.lookup x = some (f, cs) → ∀ k ∈ cs, ∀ A, G.b.cls k = some A → NoAttr G.K A x
theorem fn_step {T : Tb} {fns : List (Str × String)} {cons : List (Str × D)} {cl : ClsT} {d n : Nat} {i : DefI} {f : Addr} {fd : FuncData} (W : Wf G P w mg base T fns cons cl d) (ok : i.Ok T fns cons cl n) (F : i.fn G.K f fd) :
    FnOk P w G.K mg base CX0 (2 * (d + 1)) f fd i.ps (spC G i.ps.length (callF T (d + 1) i.k i.m)) := by
  refine F.ok (k := 2 * d + 1) ok.sc (fun vs H Q E h => h.1) fun cdv A outer s H vs Q E hr h => ⟨tS G (evSs (callF T d) i.body), PSs.nox ?_, ?_⟩
  · refine stmts_of (sndS G (callF T d) n) ⟨⟨rfl, ok.sc.nd, rfl, rfl, rfl, W.pw, fun _ _ => rfl, ?_, W.free, W.con, fun x m hx => ?_, rfl, ⟨W.cls, fun c m ds h d' h' hc e => ?_⟩, fun x k hx => ?_, W.ats⟩, ok.sc.kind, rfl⟩ ok.cmp
    · have := hr.un
      show (A.deeper _).units + 200 < cLine
      omega
    · obtain ⟨f', h1, fd', ps', h2, h3, h4, h5⟩ := W.fn x m hx
      exact ⟨2 * d, f', fd', ps', h1, h2, h3, hr.mono (by omega), h4, h5⟩
    · obtain ⟨df, k, _, ht, _⟩ := evEs_bad_call e
      obtain ⟨A, f', h1, h2, fd', ps', h3, h4, h5, h6⟩ := W.mt c m hc (by rw [ht]; rfl)
      exact ⟨A, h1, 2 * d, f', fd', ps', h2, h4, hr.mono (by omega), h5, h6⟩
    · obtain ⟨A, f', h1, h2, h3, fd', ps', h4, h5, h6, h7⟩ := W.mks x k hx
      exact ⟨A, 2 * d, f', fd', ps', h1, h2, h3, h5, hr, h6, h7⟩
  · obtain ⟨hl, av, ρ, h0, ds, d', h', R, rs, e, q⟩ := h
    obtain ⟨f', k, ek, ht, hlen, r, h1, e1, e2⟩ := evEs_bad_call e
    cases ek
    rw [ok.tab] at ht
    cases ht
    refine ⟨av, ρ, h0, startD i.N.length ds, r, h1, R, start_rel rs, e1, fun ρ1 H1 S1 R1 => ?_⟩
    cases r with
    | nx σ' =>
      intro σ1 _
      obtain ⟨ρ2, S2, R2, rv⟩ := finB_ok R S1 R1 e2
      exact q _ _ _ S2 R2 (rv _ RD.non.rv)
    | rt v =>
      intro u ru
      obtain ⟨ρ2, S2, R2, rv⟩ := finB_ok R S1 R1 e2
      exact q _ _ _ S2 R2 (rv _ ru)
    | br σ' => cases e2
    | ct σ' => cases e2
theorem Tof_mem {L : List DefI} {c m : String} (h : (Tof L c m).isSome = true) : ∃ i ∈ L, i.k = c ∧ i.m = m := by
  unfold Tof at h
  rw [Option.isSome_map] at h
  obtain ⟨i, hi⟩ := Option.isSome_iff_exists.mp h
  have h1 := List.find?_some hi
  simp only [Bool.and_eq_true, beq_iff_eq] at h1
  exact ⟨i, List.mem_of_find?_eq_some hi, h1.1, h1.2⟩
theorem fns_mem {L : List DefI} {x : Str} {m : String} (h : (fnsOf L).lookup x = some m) : ∃ i ∈ L, i.k = "" ∧ i.x = x ∧ i.m = m := by
  unfold fnsOf at h
  have h0 : ∀ i ∈ L.filter (fun i => i.k == ""), i ∈ L ∧ i.k = "" := fun i hi => by
    have := List.mem_filter.mp hi
    exact ⟨this.1, by simpa using this.2⟩
  revert h h0
  generalize L.filter (fun i => i.k == "") = M
  intro h h0
  induction M with
  | nil => cases h
  | cons i M ih =>
    rw [List.map_cons, List.lookup_cons] at h
    split at h
    · rename_i hx
      cases h
      have := h0 i List.mem_cons_self
      exact ⟨i, this.1, this.2, by simpa using (beq_iff_eq.mp hx).symm, rfl⟩
    · exact ih h fun j hj => h0 j (List.mem_cons_of_mem _ hj)
/-- all defs at each level -/
theorem wf_all {L : List DefI} {cons : List (Str × D)} {cl : ClsT} {n : Nat} (hpw : P = G.b.P ∧ w = G.b.w) (hfree : ∀ x ∈ bnames, (fnsOf L).lookup x = none → mg x = none) (hcon : ∀ x d, cons.lookup x = some d → ∃ u v, mg x = some u ∧ RelV v u ∧ KD G d v)
    (hok : ∀ i ∈ L, i.Ok (Tof L) (fnsOf L) cons cl n) (hf : ∀ i ∈ L, ∃ f fd, i.fn G.K f fd ∧ (i.k = "" → mg i.x = some (.ref f)) ∧ (i.k ≠ "" → ∃ A, G.b.cls i.k = some A ∧ Meth G.K A (sOf i.m) f))
    (hcls : ∀ c A, G.b.cls c = some A → Cls G.K A) (hmk : ∀ x k, cl.mks.lookup x = some k → ∃ A f fd, mg x = some (.ref A) ∧ G.b.cls k = some A ∧ Mk G.K A f ∧ ∃ i ∈ L, i.k = k ∧ i.m = "__init__" ∧ i.fn G.K f fd)
    (hat : ∀ x f cs, cl.ats.lookup x = some (f, cs) → ∀ k ∈ cs, ∀ A, G.b.cls k = some A → NoAttr G.K A x) : ∀ d, Wf G P w mg base (Tof L) (fnsOf L) cons cl d := by
  have lens : ∀ i ∈ L, ∀ d ds h d' h', callF (Tof L) d i.k i.m ds h = .ok d' h' → ds.length = i.ps.length := fun i hi d ds h d' h' e => by
    obtain ⟨f', k, ek, ht, hlen, _⟩ := evEs_bad_call e
    rw [(hok i hi).tab] at ht
    cases ht
    exact hlen
  have of : ∀ d, (∀ i ∈ L, ∀ f fd, i.fn G.K f fd → FnAt G P w mg base (Tof L) d i.k i.m f) → Wf G P w mg base (Tof L) (fnsOf L) cons cl d := fun d h => by
    refine ⟨hpw, hfree, hcon, fun x m hx => ?_, hcls, fun c m hc ht => ?_, fun x k hx => ?_, hat⟩
    · obtain ⟨i, hi, hk, rfl, rfl⟩ := fns_mem hx
      obtain ⟨f, fd, F, h1, _⟩ := hf i hi
      exact ⟨f, h1 hk, hk ▸ h i hi f fd F⟩
    · obtain ⟨i, hi, rfl, rfl⟩ := Tof_mem ht
      obtain ⟨f, fd, F, _, h2⟩ := hf i hi
      obtain ⟨A, h3, h4⟩ := h2 hc
      exact ⟨A, f, h3, h4, h i hi f fd F⟩
    · obtain ⟨A, f, fd, h1, h2, h3, i, hi, rfl, hm, F⟩ := hmk x k hx
      exact ⟨A, f, h1, h2, h3, hm ▸ h i hi f fd F⟩
  intro d
  induction d with
  | zero =>
    refine of 0 fun i hi f fd F => ⟨fd, i.ps, F.kp, F.bindsN (hok i hi).bd, ⟨fun vs H Q E h => h.1, fun A outer s H args us vs Q E _ _ _ _ h => by
      obtain ⟨_, av, ρ, h0, ds, d', h', R, rs, e, q⟩ := h
      cases e⟩, lens i hi 0⟩
  | succ d ih => exact of (d + 1) fun i hi f fd F => ⟨fd, i.ps, F.kp, F.bindsN (hok i hi).bd, fn_step ih (hok i hi) F, lens i hi (d + 1)⟩
/-- the classes by their names in the text -/
def clsOf (K : PySem.W.Frag) (cl : ClsT) : String → Option Addr := fun c => (cl.mks.find? fun p => p.2 == c).map fun p => He.ga K p.1
theorem clsOf_mem {K : PySem.W.Frag} {cl : ClsT} {c : String} {A : Addr} (h : clsOf K cl c = some A) : ∃ p ∈ cl.mks, p.2 = c ∧ A = He.ga K p.1 := by
  unfold clsOf at h
  obtain ⟨p, hp, rfl⟩ := Option.map_eq_some_iff.mp h
  exact ⟨p, List.mem_of_find?_eq_some hp, by simpa using List.find?_some hp, rfl⟩
theorem lookup_mem {α β : Type} [BEq α] [LawfulBEq α] {x : α} {v : β} : ∀ {l : List (α × β)}, l.lookup x = some v → (x, v) ∈ l
  | [], h => by cases h
  | (a, b) :: l, h => by
    rw [List.lookup_cons] at h
    split at h
    · rename_i hx
      cases h
      rw [eq_of_beq hx]
      exact List.mem_cons_self
    · exact List.mem_cons_of_mem _ (lookup_mem h)
end
end Sd
namespace Sd
open PySem PySem.Spec PyProof.Rows L2
theorem KD.strE {G : Gx} {s : List Nat} {x : Str} (h : x.cps.toList = s) : KD G (.str s) (.str x) := h ▸ KD.str x
/-- the law's promise -/
def spEnd (K : PySem.W.Frag) : Sp := fun vs H Q _ => ∃ (a : Addr) (ns : List Int), vs = [.ref a] ∧ ns.length ≤ 63 ∧ SqL K H a (ns.map V.int) ∧ ∀ H', Q (.bl true) H'
theorem ints_rds {G : Gx} {H : Hp} (ns : List Int) : RDs G [] H (ns.map D.int) (ns.map V.int) := by
  induction ns with
  | nil => exact .nil
  | cons n ns ih => exact .cons (.int n) ih
theorem sp_end {B : Gb} {T : Tb} {d : Nat} {vs : List V} {H : Hp} {Q : VK} {E : XK} (hlaw : ∀ ns : List Int, ns.length ≤ 63 → ∃ h', callF T d "" "law" [.fz (ns.map .int)] [] = .ok (.bl true) h') (hs : spEnd B.K vs H Q E) :
    spC ⟨B, []⟩ 1 (callF T d "" "law") vs H Q E := by
  obtain ⟨a, ns, rfl, hl, hS, hQ⟩ := hs
  obtain ⟨h', e⟩ := hlaw ns hl
  refine ⟨rfl, [], [], [], [.fz (ns.map .int)], _, h', ⟨rfl, List.nodup_nil, fun l o e => by simp at e, fun b hb => by simp at hb, fun b hb => by simp at hb⟩, .cons ?_ .nil, e, fun ρ' H' v S R r => ?_⟩
  · rcases hS with h | h
    · exact .fz h (by simp) (by simp) (ints_rds ns)
    · exact .fzK h (ints_rds ns)
  · have r' : RD _ ρ' H' (.bl true) v := r
    cases r'
    exact hQ H'
end Sd

/-! PyP: reasoning about the evaluator: what is wanted behind it. -/
namespace Sd

/-- it gives a value, for which Q holds -/
def Ok {α : Type} (o : Out α) (Q : α → Hh → Prop) : Prop := ∃ a h, o = .ok a h ∧ Q a h
section
variable {α β : Type}
theorem Ok.ok {a : α} {h : Hh} {Q : α → Hh → Prop} (q : Q a h) : Ok (.ok a h) Q := ⟨a, h, rfl, q⟩
theorem Ok.thn {o : Out α} {f : α → Hh → Out β} {Q : β → Hh → Prop} (h : Ok o fun a h => Ok (f a h) Q) : Ok (o.thn f) Q := by
  obtain ⟨a, h, rfl, q⟩ := h
  exact q
theorem Ok.mono {o : Out α} {Q R : α → Hh → Prop} (h : Ok o Q) (k : ∀ a h, Q a h → R a h) : Ok o R := by
  obtain ⟨a, h, e, q⟩ := h
  exact ⟨a, h, e, k a h q⟩
theorem Ok.bind {o : Out α} {f : α → Hh → Out β} {Q : α → Hh → Prop} {R : β → Hh → Prop} (h : Ok o Q) (k : ∀ a h, Q a h → Ok (f a h) R) : Ok (o.thn f) R := Ok.thn (h.mono k)
theorem Ok.eq {o o' : Out α} {Q : α → Hh → Prop} (e : o = o') (h : Ok o' Q) : Ok o Q := e ▸ h
theorem Ok.ofEq {o : Out α} {a : α} {h : Hh} {Q : α → Hh → Prop} (e : o = .ok a h) (q : Q a h) : Ok o Q := ⟨a, h, e, q⟩
end
/-! ### loops -/
theorem forL_ok {body : D → Env → Hh → Out Fl} {okh : Hh → Prop} {Q : Fl → Hh → Prop} (I : Nat → Env → Hh → Prop) : ∀ {xs : List D} {k : Nat} {σ : Env} {h : Hh}, I k σ h → (∀ i σ h, I i σ h → okh h) →
    (∀ i x σ h, xs[i]? = some x → I (k + i) σ h → Ok (body x σ h) fun f h1 => match f with
      | .nx σ1 => I (k + i + 1) σ1 h1
      | .ct σ1 => I (k + i + 1) σ1 h1
      | .br σ1 => Q (.nx σ1) h1
      | .rt v => Q (.rt v) h1) → (∀ σ h, I (k + xs.length) σ h → Q (.nx σ) h) → Ok (forL body okh xs σ h) Q
  | [], k, σ, h, h0, hk, _, hd => by
    unfold forL
    rw [if_pos (hk _ _ _ h0)]
    exact .ok (hd σ h (by simpa using h0))
  | x :: xs, k, σ, h, h0, hk, hs, hd => by
    unfold forL
    rw [if_pos (hk _ _ _ h0)]
    have rest : ∀ σ1 h1, I (k + 0 + 1) σ1 h1 → Ok (forL body okh xs σ1 h1) Q := fun σ1 h1 i1 => by
      refine forL_ok I (k := k + 1) i1 hk (fun i y σ h hy hi => ?_) fun σ h hi => hd σ h ?_
      · have := hs (i + 1) y σ h (by simpa using hy) (by rw [show k + (i + 1) = k + 1 + i by omega]; exact hi)
        rw [show k + (i + 1) + 1 = k + 1 + i + 1 by omega] at this
        exact this
      · rw [show k + (x :: xs).length = k + 1 + xs.length by simp; omega]; exact hi
    refine Ok.bind (hs 0 x σ h rfl h0) fun f h1 q => ?_
    cases f with
    | nx σ1 => exact rest σ1 h1 q
    | ct σ1 => exact rest σ1 h1 q
    | br σ1 => exact .ok q
    | rt v => exact .ok q
theorem compL_ok {turn : D → Hh → Out (List D)} {okh : Hh → Prop} {Q : List D → Hh → Prop} (I : Nat → List D → Hh → Prop) : ∀ {xs : List D} {k : Nat} {acc : List D} {h : Hh}, I k acc h → (∀ i acc h, I i acc h → okh h) →
    (∀ i x acc h, xs[i]? = some x → I (k + i) acc h → Ok (turn x h) fun ys h1 => I (k + i + 1) (acc ++ ys) h1) → (∀ ys h, I (k + xs.length) (acc ++ ys) h → Q ys h) → Ok (compL turn okh xs h) Q
  | [], k, acc, h, h0, hk, _, hd => by
    unfold compL
    rw [if_pos (hk _ _ _ h0)]
    exact .ok (hd [] h (by simpa using h0))
  | x :: xs, k, acc, h, h0, hk, hs, hd => by
    unfold compL
    rw [if_pos (hk _ _ _ h0)]
    refine Ok.bind (hs 0 x acc h rfl h0) fun ys h1 q => ?_
    have rest : Ok (compL turn okh xs h1) fun zs h2 => Q (ys ++ zs) h2 := by
      refine compL_ok I (k := k + 1) (acc := acc ++ ys) q hk (fun i y acc h hy hi => ?_) fun zs h hi => hd _ h ?_
      · have := hs (i + 1) y acc h (by simpa using hy) (by rw [show k + (i + 1) = k + 1 + i by omega]; exact hi)
        rw [show k + (i + 1) + 1 = k + 1 + i + 1 by omega] at this
        exact this
      · rw [show k + (x :: xs).length = k + 1 + xs.length by simp; omega, ← List.append_assoc]; exact hi
    exact Ok.bind rest fun zs h2 q2 => .ok q2
/-- where the heap stays -/
theorem compL_map {turn : D → Hh → Out (List D)} {okh : Hh → Prop} {f : D → List D} {h : Hh} (ho : okh h) : ∀ {xs : List D}, (∀ x ∈ xs, turn x h = .ok (f x) h) → compL turn okh xs h = .ok (xs.flatMap f) h
  | [], _ => by unfold compL; rw [if_pos ho]; rfl
  | x :: xs, hs => by
    unfold compL
    rw [if_pos ho, hs x List.mem_cons_self, Out.thn_ok, compL_map ho fun y hy => hs y (List.mem_cons_of_mem _ hy), Out.thn_ok, List.flatMap_cons]
theorem wat_nil (h0 h : Hh) : Wat [] h0 h := fun _ hl => by simp at hl
theorem wat_refl (ws : List Nat) (h : Hh) : Wat ws h h := fun _ _ => rfl
/-! ### calls -/
theorem call_eq {T : Tb} {c m : String} {f : Df} {d : Nat} {args : List D} {h : Hh} (hT : T c m = some f) (hl : args.length = f.ps) : callF T (d + 1) c m args h = (evSs (callF T d) f.body (startD f.n args) h).thn fun r h1 => endF f.fz h h1 r := by
  show (match T c m with
    | none => Out.bad
    | some f => if args.length = f.ps then (evSs (callF T d) f.body (startD f.n args) h).thn fun r h1 => endF f.fz h h1 r else .bad) = _
  rw [hT]
  simp only [if_pos hl]
theorem fin_same {h h1 : Hh} {v : D} (e : h1.length = h.length) : fin h h1 v = .ok v h1 := by
  unfold fin
  rw [if_pos e]
theorem fin_self {h : Hh} {v : D} : fin h h v = .ok v h := fin_same rfl
theorem fin_drop {h h1 : Hh} {v : D} (hn : h1.length ≠ h.length) (hu : undV h.length (freeze h1 h.length v) = true) (ho : okOld h h1) : fin h h1 v = .ok (freeze h1 h.length v) (h1.take h.length) := by
  unfold fin
  rw [if_neg hn, if_pos ⟨hu, ho⟩]
@[simp] theorem endF_rt {h h1 : Hh} {v : D} : endF false h h1 (.rt v) = fin h h1 v := rfl
@[simp] theorem endF_nx {h h1 : Hh} {σ : Env} : endF false h h1 (.nx σ) = fin h h1 .non := rfl
/-! ### data -/
theorem pd_str {h : Hh} {s : List Nat} : pd h deep (.str s) = some (.str ⟨s.toArray⟩) := rfl
theorem pd_int {h : Hh} {i : Int} : pd h deep (.int i) = some (.int i) := rfl
theorem pd_bl {h : Hh} {b : Bool} : pd h deep (.bl b) = some (.bool b) := rfl
end Sd

/-! PyP2: the evaluator, step by step. -/
namespace Sd
namespace W
variable {C : Calls} {σ : Env} {h : Hh} {Q : D → Hh → Prop} {R : Fl → Hh → Prop}
/-- behind a statement -/
def Nx (C : Calls) (ss : List S) (R : Fl → Hh → Prop) : Fl → Hh → Prop
  | .nx σ, h => Ok (evSs C ss σ h) R
  | f, h => R f h
theorem nx {ss : List S} (q : Ok (evSs C ss σ h) R) : Nx C ss R (.nx σ) h := q
theorem rt {ss : List S} {v : D} (q : R (.rt v) h) : Nx C ss R (.rt v) h := q
theorem nil (q : R (.nx σ) h) : Ok (evSs C [] σ h) R := by
  simp only [evSs]
  exact .ok q
theorem cons {s : S} {ss : List S} (q : Ok (evS C s σ h) (Nx C ss R)) : Ok (evSs C (s :: ss) σ h) R := by
  simp only [evSs]
  refine Ok.bind q fun f h1 n => ?_
  cases f with
  | nx σ1 => exact n
  | _ => exact .ok n
/-- behind a call -/
def En (h : Hh) (Q : D → Hh → Prop) : Fl → Hh → Prop := fun f h1 => Ok (endF false h h1 f) Q
/-- .. of a def whose traces are not changed any more -/
def EnZ (h : Hh) (Q : D → Hh → Prop) : Fl → Hh → Prop := fun f h1 => Ok (endF true h h1 f) Q
theorem enZ {h1 : Hh} {v : D} (q : Ok (finZ h h1 v) Q) : EnZ h Q (.rt v) h1 := q
theorem enZN {h1 : Hh} (q : Ok (finZ h h1 .non) Q) : EnZ h Q (.nx σ) h1 := q
theorem en {h1 : Hh} {v : D} (q : Ok (fin h h1 v) Q) : En h Q (.rt v) h1 := q
theorem enN {h1 : Hh} (q : Ok (fin h h1 .non) Q) : En h Q (.nx σ) h1 := q
theorem fn {T : Tb} {c m : String} {ps n d : Nat} {body : List S} {args : List D} (hT : T c m = some ⟨ps, n, body, false⟩) (hl : args.length = ps) (q : Ok (evSs (callF T d) body (startD n args) h) (En h Q)) : Ok (callF T (d + 1) c m args h) Q := by
  rw [call_eq hT hl]
  exact Ok.bind q fun _ _ z => z
theorem fnZ {T : Tb} {c m : String} {ps n d : Nat} {body : List S} {args : List D} (hT : T c m = some ⟨ps, n, body, true⟩) (hl : args.length = ps) (q : Ok (evSs (callF T d) body (startD n args) h) (EnZ h Q)) : Ok (callF T (d + 1) c m args h) Q := by
  rw [call_eq hT hl]
  exact Ok.bind q fun _ _ z => z
theorem set {i : Nat} {e : E} (q : Ok (evE C e σ h) fun x h1 => i < σ.length ∧ R (.nx (σ.set i (some x.keep))) h1) : Ok (evS C (.set (.n i) e) σ h) R := by
  simp only [evS]
  refine Ok.bind q fun x h1 z => ?_
  simp only [setP, if_pos z.1]
  exact .ok z.2
theorem setT {p : Pat} {e : E} (q : Ok (evE C e σ h) fun x h1 => ∃ σ1, setP p x.keep σ = some σ1 ∧ R (.nx σ1) h1) : Ok (evS C (.set p e) σ h) R := by
  simp only [evS]
  refine Ok.bind q fun x h1 z => ?_
  obtain ⟨σ1, e, z⟩ := z
  simp only [e]
  exact .ok z
theorem par {i j : Nat} {a b : E} (q : Ok (evE C a σ h) fun x h1 => Ok (evE C b σ h1) fun y h2 => (i < σ.length ∧ j < σ.length ∧ i ≠ j) ∧ R (.nx ((σ.set i (some x.keep)).set j (some y.keep))) h2) : Ok (evS C (.par i j a b) σ h) R := by
  simp only [evS]
  refine Ok.bind q fun x h1 z => Ok.bind z fun y h2 w => ?_
  rw [if_pos w.1]
  exact .ok w.2
theorem seti {o i e : E} (q : Ok (evE C e σ h) fun x h1 => Ok (evE C o σ h1) fun y h2 => Ok (evE C i σ h2) fun z h3 => ∃ l k xs j, y = .ref l ∧ z = .int k ∧ h3[l]? = some (.lst xs) ∧ ixN xs.length k = some j ∧ R (.nx σ) (h3.set l (.lst (xs.set j x.keep)))) :
    Ok (evS C (.seti o i e) σ h) R := by
  simp only [evS]
  refine Ok.bind q fun x h1 z => Ok.bind z fun y h2 w => Ok.bind w fun u h3 v => ?_
  obtain ⟨l, k, xs, j, rfl, rfl, e1, e2, r⟩ := v
  simp only [e1, obPut, e2, Option.map_some]
  exact .ok r
theorem setiD {o i e : E} (q : Ok (evE C e σ h) fun x h1 => Ok (evE C o σ h1) fun y h2 => Ok (evE C i σ h2) fun z h3 => ∃ l ob ob', y = .ref l ∧ h3[l]? = some ob ∧ obPut ob z x.keep = some ob' ∧ R (.nx σ) (h3.set l ob')) :
    Ok (evS C (.seti o i e) σ h) R := by
  simp only [evS]
  refine Ok.bind q fun x h1 z => Ok.bind z fun y h2 w => Ok.bind w fun u h3 v => ?_
  obtain ⟨l, ob, ob', rfl, e1, e2, r⟩ := v
  simp only [e1, e2]
  exact .ok r
theorem app {o e : E} (q : Ok (evE C o σ h) fun y h1 => ∃ l zs, y = .ref l ∧ h1[l]? = some (.lst zs) ∧ Ok (evE C e σ h1) fun x h2 => ∃ xs, h2[l]? = some (.lst xs) ∧ xs.length < line ∧ R (.nx σ) (h2.set l (.lst (xs ++ [x.keep])))) : Ok (evS C (.app o e) σ h) R := by
  simp only [evS]
  refine Ok.bind q fun y h1 z => ?_
  obtain ⟨l, zs, rfl, e1, z⟩ := z
  simp only [e1]
  refine Ok.bind z fun x h2 w => ?_
  obtain ⟨xs, e2, hl, r⟩ := w
  simp only [e2, if_pos hl]
  exact .ok r
theorem ext {o e : E} (q : Ok (evE C o σ h) fun y h1 => ∃ l zs, y = .ref l ∧ h1[l]? = some (.lst zs) ∧ Ok (evE C e σ h1) fun x h2 => ∃ xs ys, h2[l]? = some (.lst xs) ∧ items h2 x = some ys ∧ xs.length + ys.length ≤ line ∧ R (.nx σ) (h2.set l (.lst (xs ++ ys)))) : Ok (evS C (.ext o e) σ h) R := by
  simp only [evS]
  refine Ok.bind q fun y h1 z => ?_
  obtain ⟨l, zs, rfl, e1, z⟩ := z
  simp only [e1]
  refine Ok.bind z fun x h2 w => ?_
  obtain ⟨xs, ys, e2, e3, hl, r⟩ := w
  simp only [e2, e3, if_pos hl]
  exact .ok r
theorem exp {e : E} (q : Ok (evE C e σ h) fun _ h1 => R (.nx σ) h1) : Ok (evS C (.exp e) σ h) R := by
  simp only [evS]
  exact Ok.bind q fun x h1 z => .ok z
theorem ret {e : E} (q : Ok (evE C e σ h) fun x h1 => R (.rt x) h1) : Ok (evS C (.ret e) σ h) R := by
  simp only [evS]
  exact Ok.bind q fun x h1 z => .ok z
theorem cond {c : E} {a b : List S} (q : Ok (evE C c σ h) fun x h1 => ∃ k, x = .bl k ∧ (k = true → Ok (evSs C a σ h1) R) ∧ (k = false → Ok (evSs C b σ h1) R)) : Ok (evS C (.cond c a b) σ h) R := by
  simp only [evS]
  refine Ok.bind q fun x h1 z => ?_
  obtain ⟨k, rfl, z1, z2⟩ := z
  cases k with
  | true => exact z1 rfl
  | false => exact z2 rfl
theorem pass (q : R (.nx σ) h) : Ok (evS C .pass σ h) R := by
  simp only [evS]
  exact .ok q
/-- a body of a loop, the item taken first -/
def Bd (C : Calls) (p : Pat) (a : List S) (x : D) (σ : Env) (h : Hh) (R : Fl → Hh → Prop) : Prop := ∃ σ1, setP p x σ = some σ1 ∧ Ok (evSs C a σ1 h) R
theorem forr {p : Pat} {it : It} {a : List S} (q : Ok (evI C it σ h) fun r h1 => ∃ I : Nat → Env → Hh → Prop, I 0 σ h1 ∧ (∀ i σ h, I i σ h → Wat r.2 h1 h) ∧ (∀ i x σ h, r.1[i]? = some x → I i σ h → Bd C p a x σ h fun f h2 => match f with
      | .nx σ1 => I (i + 1) σ1 h2
      | .ct σ1 => I (i + 1) σ1 h2
      | .br σ1 => R (.nx σ1) h2
      | .rt v => R (.rt v) h2) ∧ (∀ σ h, I r.1.length σ h → R (.nx σ) h)) : Ok (evS C (.forr p it a) σ h) R := by
  simp only [evS]
  refine Ok.bind q fun r h1 z => ?_
  obtain ⟨I, i0, iw, is, ie⟩ := z
  refine forL_ok I (k := 0) i0 iw (fun i x σ h hx hi => ?_) (fun σ h hi => ie σ h (by simpa using hi))
  rw [Nat.zero_add] at hi ⊢
  obtain ⟨σ1, e, ok⟩ := is i x σ h hx hi
  simp only [e]
  exact ok.mono fun f h2 q => by cases f <;> exact q
/-! ### expressions -/
theorem cst {d : D} (q : Q d h) : Ok (evE C (.cst d) σ h) Q := by
  simp only [evE]
  exact .ok q
theorem var {i : Nat} {d : D} (e : σ[i]? = some (some d)) (q : Q d h) : Ok (evE C (.var i) σ h) Q := by
  simp only [evE, e]
  exact .ok q
theorem tup {es : List E} (q : Ok (evEs C es σ h) fun xs h1 => Q (.tup xs) h1) : Ok (evE C (.tup es) σ h) Q := by
  simp only [evE]
  exact Ok.bind q fun x h1 z => .ok z
theorem lst {es : List E} (q : Ok (evEs C es σ h) fun xs h1 => Q (.lv xs) h1) : Ok (evE C (.lst es) σ h) Q := by
  simp only [evE]
  exact Ok.bind q fun x h1 z => .ok z
theorem es0 {P : List D → Hh → Prop} (q : P [] h) : Ok (evEs C [] σ h) P := by
  simp only [evEs]
  exact .ok q
theorem es {e : E} {es : List E} {P : List D → Hh → Prop} (q : Ok (evE C e σ h) fun x h1 => Ok (evEs C es σ h1) fun xs h2 => P (x.keep :: xs) h2) : Ok (evEs C (e :: es) σ h) P := by
  simp only [evEs]
  exact Ok.bind q fun x h1 z => Ok.bind z fun y h2 w => .ok w
theorem o1 {o : O1} {a : E} (q : Ok (evE C a σ h) fun x h1 => ∃ z, o1F o h1 x = some z ∧ Q z h1) : Ok (evE C (.o1 o a) σ h) Q := by
  simp only [evE]
  refine Ok.bind q fun x h1 z => ?_
  obtain ⟨y, e, r⟩ := z
  rw [e]
  exact .ok r
theorem o2 {o : O2} {a b : E} (q : Ok (evE C a σ h) fun x h1 => Ok (evE C b σ h1) fun y h2 => ∃ z, o2F o h2 x y = some z ∧ Q z h2) : Ok (evE C (.o2 o a b) σ h) Q := by
  simp only [evE]
  refine Ok.bind q fun x h1 z => Ok.bind z fun y h2 w => ?_
  obtain ⟨y, e, r⟩ := w
  rw [e]
  exact .ok r
theorem slice {a b c : E} (q : Ok (evE C a σ h) fun x h1 => Ok (evE C b σ h1) fun y h2 => Ok (evE C c σ h2) fun z h3 => ∃ w, o3F .slice h3 x y z = some w ∧ Q w h3) : Ok (evE C (.o3 .slice a b c) σ h) Q := by
  simp only [evE]
  refine Ok.bind q fun x h1 z => Ok.bind z fun y h2 w => Ok.bind w fun u h3 v => ?_
  obtain ⟨y, e, r⟩ := v
  rw [e]
  exact .ok r
theorem chn {o p : O2} {a b c : E} (q : Ok (evE C a σ h) fun x h1 => Ok (evE C b σ h1) fun y h2 => ∃ k, o2F o h2 x y = some (.bl k) ∧ (k = true → Ok (evE C c σ h2) fun z h4 => ∃ w, o2F p h4 y z = some w ∧ Q w h4) ∧ (k = false → Q (.bl false) h2)) : Ok (evE C (.chn o p a b c) σ h) Q := by
  simp only [evE]
  refine Ok.bind q fun x h1 z => Ok.bind z fun y h2 w => ?_
  obtain ⟨k, e, r1, r2⟩ := w
  rw [e, Out.of_some, Out.thn_ok]
  cases k with
  | true =>
    refine Ok.bind (r1 rfl) fun u h4 v => ?_
    obtain ⟨y, e, r⟩ := v
    rw [e]
    exact .ok r
  | false => exact .ok (r2 rfl)
theorem and {a b : E} (q : Ok (evE C a σ h) fun x h1 => ∃ k, x = .bl k ∧ (k = true → Ok (evE C b σ h1) Q) ∧ (k = false → Q (.bl false) h1)) : Ok (evE C (.and a b) σ h) Q := by
  simp only [evE]
  refine Ok.bind q fun x h1 z => ?_
  obtain ⟨k, rfl, r1, r2⟩ := z
  cases k with
  | true => exact r1 rfl
  | false => exact .ok (r2 rfl)
theorem or {a b : E} (q : Ok (evE C a σ h) fun x h1 => ∃ k, x = .bl k ∧ (k = false → Ok (evE C b σ h1) Q) ∧ (k = true → Q (.bl true) h1)) : Ok (evE C (.or a b) σ h) Q := by
  simp only [evE]
  refine Ok.bind q fun x h1 z => ?_
  obtain ⟨k, rfl, r1, r2⟩ := z
  cases k with
  | false => exact r1 rfl
  | true => exact .ok (r2 rfl)
theorem ife {c a b : E} (q : Ok (evE C c σ h) fun x h1 => ∃ k, x = .bl k ∧ (k = true → Ok (evE C a σ h1) Q) ∧ (k = false → Ok (evE C b σ h1) Q)) : Ok (evE C (.ife c a b) σ h) Q := by
  simp only [evE]
  refine Ok.bind q fun x h1 z => ?_
  obtain ⟨k, rfl, r1, r2⟩ := z
  cases k with
  | true => exact r1 rfl
  | false => exact r2 rfl
theorem call {c m : String} {es : List E} (q : Ok (evEs C es σ h) fun xs h1 => Ok (C c m xs h1) Q) : Ok (evE C (.call c m es) σ h) Q := by
  simp only [evE]
  exact Ok.bind q fun x h1 z => z
theorem alcL {a : E} (q : Ok (evE C a σ h) fun x h1 => ∃ xs, x = .lv xs ∧ Q (.ref h1.length) (h1 ++ [.lst xs])) : Ok (evE C (.alc a) σ h) Q := by
  simp only [evE]
  refine Ok.bind q fun x h1 z => ?_
  obtain ⟨xs, rfl, r⟩ := z
  exact .ok r
/-- a value that is no list just made -/
theorem alcR {a : E} (q : Ok (evE C a σ h) fun x h1 => ∃ l, x = .ref l ∧ Q (.ref l) h1) : Ok (evE C (.alc a) σ h) Q := by
  simp only [evE]
  refine Ok.bind q fun x h1 z => ?_
  obtain ⟨xs, rfl, r⟩ := z
  exact .ok r
theorem pop {a : E} (q : Ok (evE C a σ h) fun x h1 => ∃ l xs y, x = .ref l ∧ h1[l]? = some (.lst xs) ∧ xs.getLast? = some y ∧ Q y (h1.set l (.lst xs.dropLast))) : Ok (evE C (.pop a) σ h) Q := by
  simp only [evE]
  refine Ok.bind q fun x h1 z => ?_
  obtain ⟨l, xs, y, rfl, e1, e2, r⟩ := z
  simp only [e1, e2]
  exact .ok r
/-- the tests of a clause -/
theorem ts0 {P : Bool → Hh → Prop} (q : P true h) : Ok (evTs C [] σ h) P := by
  simp only [evTs]
  exact .ok q
theorem ts1 {e : E} {P : Bool → Hh → Prop} (q : Ok (evE C e σ h) fun x h1 => ∃ k, x = .bl k ∧ P k h1) : Ok (evTs C [e] σ h) P := by
  simp only [evTs]
  refine Ok.bind q fun x h1 z => ?_
  obtain ⟨k, rfl, r⟩ := z
  cases k with
  | true => exact .ok r
  | false => exact .ok r
/-- an item of a comprehension -/
def It1 (C : Calls) (own : List Nat) (elt : E) (p : Pat) (ifs : List E) (σ : Env) (x : D) (h : Hh) (P : List D → Hh → Prop) : Prop :=
  ∃ σ1, setP p x (Sd.wipe σ own) = some σ1 ∧ Ok (evTs C ifs σ1 h) fun t h1 => (t = true → Ok (evE C elt σ1 h1) fun y h2 => P [y.keep] h2) ∧ (t = false → P [] h1)
theorem it1_ok {own : List Nat} {elt : E} {p : Pat} {ifs : List E} {x : D} {P : List D → Hh → Prop} (q : It1 C own elt p ifs σ x h P) : Ok (match setP p x (Sd.wipe σ own) with
        | some σ2 => (evTs C ifs σ2 h).thn fun t h3 => if t then (evE C elt σ2 h3).thn fun y h4 => .ok [y.keep] h4 else .ok [] h3
        | none => .bad) P := by
  obtain ⟨σ1, e, q⟩ := q
  simp only [e]
  refine Ok.bind q fun t h1 z => ?_
  cases t with
  | true => exact Ok.bind (z.1 rfl) fun y h2 w => .ok w
  | false => exact .ok (z.2 rfl)
theorem comp {own : List Nat} {elt : E} {p : Pat} {it : It} {ifs : List E} (q : Ok (evI C it σ h) fun r h1 => ∃ I : Nat → List D → Hh → Prop, I 0 [] h1 ∧ (∀ i ys h, I i ys h → Wat r.2 h1 h) ∧ (∀ i x ys h, r.1[i]? = some x → I i ys h → It1 C own elt p ifs σ x h fun zs h2 => I (i + 1) (ys ++ zs) h2) ∧
    (∀ ys h, I r.1.length ys h → ys.length ≤ line ∧ Q (.lv ys) h)) : Ok (evE C (.comp own elt p it ifs) σ h) Q := by
  simp only [evE]
  refine Ok.bind q fun r h1 z => ?_
  obtain ⟨I, i0, iw, is, ie⟩ := z
  refine Ok.bind (Q := fun ys h2 => ys.length ≤ line ∧ Q (.lv ys) h2) ?_ fun ys h2 w => ?_
  · refine compL_ok I (k := 0) (acc := []) i0 iw (fun i x acc h hx hi => ?_) (fun ys h hi => ie ys h (by simpa using hi))
    rw [Nat.zero_add] at hi ⊢
    exact it1_ok (is i x acc h hx hi)
  · rw [if_pos w.1]
    exact .ok w.2
/-- where the heap stays and each item gives what f tells -/
theorem compM {own : List Nat} {elt : E} {p : Pat} {it : It} {ifs : List E} (f : D → List D) (q : Ok (evI C it σ h) fun r h1 => (∀ x ∈ r.1, It1 C own elt p ifs σ x h1 fun zs h2 => zs = f x ∧ h2 = h1) ∧ (r.1.flatMap f).length ≤ line ∧ Q (.lv (r.1.flatMap f)) h1) : Ok (evE C (.comp own elt p it ifs) σ h) Q := by
  refine comp (q.mono fun r h1 z => ?_)
  obtain ⟨zs, hl, zq⟩ := z
  refine ⟨fun i ys h => ys = (r.1.take i).flatMap f ∧ h = h1, ⟨by simp, rfl⟩, fun i ys h z => z.2 ▸ wat_refl _ _, fun i x ys h hx z => ?_, fun ys h z => ?_⟩
  · obtain ⟨rfl, rfl⟩ := z
    obtain ⟨σ1, e, ok⟩ := zs x (List.mem_of_getElem? hx)
    refine ⟨σ1, e, ok.mono fun t h2 w => ⟨fun ht => (w.1 ht).mono fun y h3 u => ⟨?_, u.2⟩, fun ht => ⟨?_, (w.2 ht).2⟩⟩⟩
    · rw [u.1, List.take_succ, hx, List.flatMap_append]; simp
    · rw [(w.2 ht).1, List.take_succ, hx, List.flatMap_append]; simp
  · obtain ⟨rfl, rfl⟩ := z
    rw [List.take_length]
    exact ⟨hl, zq⟩
/-- two clauses, where the heap stays -/
theorem comp2M {own : List Nat} {elt : E} {p p2 : Pat} {it it2 : It} {ifs ifs2 : List E} (f : D → List D) (q : Ok (evI C it σ h) fun r h1 => (∀ x ∈ r.1, ∃ σ1, setP p x (Sd.wipe σ own) = some σ1 ∧ Ok (evTs C ifs σ1 h1) fun t h2 => h2 = h1 ∧ (t = true → Ok (evI C it2 σ1 h1) fun r2 h3 => h3 = h1 ∧
      ∃ g : D → List D, (∀ y ∈ r2.1, It1 C p2.ix elt p2 ifs2 σ1 y h1 fun zs h4 => zs = g y ∧ h4 = h1) ∧ r2.1.flatMap g = f x) ∧ (t = false → f x = [])) ∧ (r.1.flatMap f).length ≤ line ∧ Q (.lv (r.1.flatMap f)) h1) : Ok (evE C (.comp2 own elt p it ifs p2 it2 ifs2) σ h) Q := by
  simp only [evE]
  refine Ok.bind q fun r h1 z => ?_
  obtain ⟨zs, hl, zq⟩ := z
  have e : compL (fun d h2 => match setP p d (Sd.wipe σ own) with
        | some σ2 => (evTs C ifs σ2 h2).thn fun t h3 => if t then (evI C it2 σ2 h3).thn fun r2 h4 =>
            compL (fun d2 h5 => match setP p2 d2 (Sd.wipe σ2 p2.ix) with
              | some σ3 => (evTs C ifs2 σ3 h5).thn fun t2 h6 => if t2 then (evE C elt σ3 h6).thn fun y h7 => .ok [y.keep] h7 else .ok [] h6
              | none => .bad) (Wat r2.2 h4) r2.1 h4
          else .ok [] h3
        | none => .bad) (Wat r.2 h1) r.1 h1 = .ok (r.1.flatMap f) h1 := by
    refine compL_map (wat_refl _ _) fun x hx => ?_
    obtain ⟨σ1, e1, t, h2, e2, rfl, z1, z2⟩ := zs x hx
    simp only [e1, e2, Out.thn_ok]
    cases t with
    | true =>
      obtain ⟨r2, h3, e3, rfl, g, hg, hf⟩ := z1 rfl
      simp only [if_true, e3, Out.thn_ok]
      rw [compL_map (f := g) (wat_refl _ _) fun y hy => ?_, hf]
      obtain ⟨zs, h4, e4, rfl, rfl⟩ := it1_ok (hg y hy)
      exact e4
    | false =>
      simp only [Bool.false_eq_true, if_false, z2 rfl]
  refine Ok.bind (Q := fun ys h2 => ys = r.1.flatMap f ∧ h2 = h1) ⟨_, _, e, rfl, rfl⟩ fun ys h2 w => ?_
  obtain ⟨rfl, rfl⟩ := w
  rw [if_pos hl]
  exact .ok zq
theorem val {e : E} {P : List D × List Nat → Hh → Prop} (q : Ok (evE C e σ h) fun x h1 => ∃ r, walkA h1 x = some r ∧ P r h1) : Ok (evI C (.val e) σ h) P := by
  simp only [evI]
  refine Ok.bind q fun x h1 z => ?_
  obtain ⟨r, e, w⟩ := z
  rw [e]
  exact .ok w
theorem rng {e : E} {P : List D × List Nat → Hh → Prop} (q : Ok (evE C e σ h) fun x h1 => ∃ i, x = .int i ∧ small i = true ∧ P (rngD 0 i, []) h1) : Ok (evI C (.rng e) σ h) P := by
  simp only [evI]
  refine Ok.bind q fun x h1 z => ?_
  obtain ⟨i, rfl, e, w⟩ := z
  simp only [e, if_true]
  exact .ok w
theorem rng2 {a b : E} {P : List D × List Nat → Hh → Prop} (q : Ok (evE C a σ h) fun x h1 => Ok (evE C b σ h1) fun y h2 => ∃ i j, x = .int i ∧ y = .int j ∧ small i = true ∧ small j = true ∧ P (rngD i j, []) h2) : Ok (evI C (.rng2 a b) σ h) P := by
  simp only [evI]
  refine Ok.bind q fun x h1 z => Ok.bind z fun y h2 w => ?_
  obtain ⟨i, j, rfl, rfl, e, e2, w⟩ := w
  simp only [e, e2, Bool.and_self, if_true]
  exact .ok w
theorem enu {a : E} {P : List D × List Nat → Hh → Prop} (q : Ok (evE C a σ h) fun x h1 => ∃ r, walkD h1 x = some r ∧ P (enuD 0 r.1, r.2) h1) : Ok (evI C (.enu a) σ h) P := by
  simp only [evI]
  refine Ok.bind q fun x h1 z => ?_
  obtain ⟨r, e, w⟩ := z
  rw [e]
  exact .ok w
/-! ### lists of ours -/
theorem get_set {l : Nat} {o ob : Ob} (hl : h[l]? = some o) : (h.set l ob)[l]? = some ob := List.getElem?_set_self (List.getElem?_eq_some_iff.mp hl).1
theorem getR {v l : Nat} {k : Int} {xs : List D} {x : D} (hσ : σ[v]? = some (some (.ref l))) (hl : h[l]? = some (.lst xs)) (hx : atI xs k = some x) (q : Q x h) : Ok (evE C (.o2 .idx (.var v) (.cst (.int k))) σ h) Q := by
  refine o2 (var hσ (cst ⟨x, ?_, q⟩))
  simp only [o2F, seqs, items, hl]
  exact hx
theorem lenR {v l : Nat} {xs : List D} (hσ : σ[v]? = some (some (.ref l))) (hl : h[l]? = some (.lst xs)) (q : Q (.int xs.length) h) : Ok (evE C (.o1 .len (.var v)) σ h) Q := by
  refine o1 (var hσ ⟨.int xs.length, ?_, q⟩)
  simp only [o1F, seqs, items, hl]
theorem setR {v l : Nat} {k : Int} {e : E} (hσ : σ[v]? = some (some (.ref l))) (q : Ok (evE C e σ h) fun x h1 => ∃ xs j, h1[l]? = some (.lst xs) ∧ ixN xs.length k = some j ∧ ((h1.set l (.lst (xs.set j x.keep)))[l]? = some (.lst (xs.set j x.keep)) → R (.nx σ) (h1.set l (.lst (xs.set j x.keep))))) :
    Ok (evS C (.seti (.var v) (.cst (.int k)) e) σ h) R := by
  refine seti (q.mono fun x h1 z => ?_)
  obtain ⟨xs, j, e1, e2, z⟩ := z
  exact var hσ (cst ⟨l, k, xs, j, rfl, rfl, e1, e2, z (get_set e1)⟩)
theorem atI_some {α : Type} {xs : List α} {i : Int} (h0 : 0 ≤ i) (h1 : i < xs.length) : ∃ x, atI xs i = some x ∧ xs[i.toNat]? = some x := by
  have hl : i.toNat < xs.length := by omega
  refine ⟨xs[i.toNat], ?_, List.getElem?_eq_getElem hl⟩
  simp only [atI, ixN, if_pos h0, if_pos h1, Option.bind_some]
  exact List.getElem?_eq_getElem hl
/-! ### leaves -/
theorem mulK {i j : Int} (hj : -(2 ^ 64) < j ∧ j < 2 ^ 64) : o2F .mul h (.int i) (.int j) = some (.int (i * j)) := by
  simp only [o2F]
  rw [if_pos (.inr hj)]
theorem modK {i j : Int} (hj : 0 < j) : o2F .mod h (.int i) (.int j) = some (.int (i % j)) := by
  simp only [o2F]
  rw [if_pos hj]
theorem divK {i j : Int} (hj : 0 < j) (hj2 : j < 1073741824) : o2F .div h (.int i) (.int j) = some (.int (i / j)) := by
  simp only [o2F]
  rw [if_pos ⟨hj, hj2⟩]
/-! ### looks at a goal -/
theorem isVar {i : Nat} (q : Ok (evE C (.var i) σ h) Q) : Ok (evE C (.var i) σ h) Q := q
theorem isGetR {v : Nat} {k : Int} (q : Ok (evE C (.o2 .idx (.var v) (.cst (.int k))) σ h) Q) : Ok (evE C (.o2 .idx (.var v) (.cst (.int k))) σ h) Q := q
theorem isLenR {v : Nat} (q : Ok (evE C (.o1 .len (.var v)) σ h) Q) : Ok (evE C (.o1 .len (.var v)) σ h) Q := q
theorem isSetR {v : Nat} {k : Int} {e : E} (q : Ok (evS C (.seti (.var v) (.cst (.int k)) e) σ h) R) : Ok (evS C (.seti (.var v) (.cst (.int k)) e) σ h) R := q
theorem isLf {o : Option D} {P : D → Prop} (q : ∃ z, o = some z ∧ P z) : ∃ z, o = some z ∧ P z := q
theorem isLt {i : Nat} {P : Prop} (q : i < σ.length ∧ P) : i < σ.length ∧ P := q
theorem isMul {x y : D} {P : D → Prop} (q : ∃ z, o2F .mul h x y = some z ∧ P z) : ∃ z, o2F .mul h x y = some z ∧ P z := q
theorem isLfS {l : Nat} {k : Int} {P : List D → Nat → Prop} (q : ∃ xs j, h[l]? = some (.lst xs) ∧ ixN xs.length k = some j ∧ P xs j) : ∃ xs j, h[l]? = some (.lst xs) ∧ ixN xs.length k = some j ∧ P xs j := q
theorem isEq {x y : D} {P : D → Prop} (q : ∃ z, o2F .eq h x y = some z ∧ P z) : ∃ z, o2F .eq h x y = some z ∧ P z := q
theorem isNe {x y : D} {P : D → Prop} (q : ∃ z, o2F .ne h x y = some z ∧ P z) : ∃ z, o2F .ne h x y = some z ∧ P z := q
theorem strEq (a b : List Nat) : PySem.PyData.eqv (.str ⟨a.toArray⟩) (.str ⟨b.toArray⟩) = decide (a = b) := by
  show ((⟨a.toArray⟩ : PySem.Str) == ⟨b.toArray⟩) = _
  by_cases hab : a = b
  · subst hab; simp
  · rw [decide_eq_false hab, beq_eq_false_iff_ne]
    intro e
    apply hab
    have := congrArg (fun x : PySem.Str => x.cps.toList) e
    simpa using this
theorem eqS {a b : List Nat} : o2F .eq h (.str a) (.str b) = some (.bl (decide (a = b))) := by
  show some (D.bl (PySem.PyData.eqv (.str ⟨a.toArray⟩) (.str ⟨b.toArray⟩))) = _
  rw [strEq]
theorem neS {a b : List Nat} : o2F .ne h (.str a) (.str b) = some (.bl (!decide (a = b))) := by
  show some (D.bl (!PySem.PyData.eqv (.str ⟨a.toArray⟩) (.str ⟨b.toArray⟩))) = _
  rw [strEq]
theorem eqI {i j : Int} : o2F .eq h (.int i) (.int j) = some (.bl (decide (i = j))) := by
  show some (D.bl (PySem.PyData.eqv (.int i) (.int j))) = _
  simp only [PySem.PyData.eqv]
  rw [Bool.beq_eq_decide_eq]
theorem neI {i j : Int} : o2F .ne h (.int i) (.int j) = some (.bl (!decide (i = j))) := by
  show some (D.bl (!PySem.PyData.eqv (.int i) (.int j))) = _
  simp only [PySem.PyData.eqv]
  rw [Bool.beq_eq_decide_eq]
theorem isBr {x : D} {A B : Prop} (q : ∃ k, x = .bl k ∧ (k = true → A) ∧ (k = false → B)) : ∃ k, x = .bl k ∧ (k = true → A) ∧ (k = false → B) := q
/-- objects of classes -/
theorem att {cs : List String} {a : E} {f : String} (q : Ok (evE C a σ h) fun x h1 => ∃ l c fs z, x = .ref l ∧ h1[l]? = some (.ins c fs) ∧ c ∈ cs ∧ fs.lookup f = some z ∧ Q z h1) : Ok (evE C (.att cs a f) σ h) Q := by
  simp only [evE]
  refine Ok.bind q fun x h1 z => ?_
  obtain ⟨l, c, fs, z, rfl, e1, e2, e3, r⟩ := z
  simp only [e1, if_pos e2, e3]
  exact .ok r
theorem seta {cs : List String} {o e : E} {f : String} (q : Ok (evE C e σ h) fun x h1 => Ok (evE C o σ h1) fun y h2 => ∃ l c fs, y = .ref l ∧ h2[l]? = some (.ins c fs) ∧ (c ∈ cs ∧ fs.length < 1000) ∧ R (.nx σ) (h2.set l (.ins c (putA f x.keep fs)))) : Ok (evS C (.seta o cs f e) σ h) R := by
  simp only [evS]
  refine Ok.bind q fun x h1 z => Ok.bind z fun y h2 w => ?_
  obtain ⟨l, c, fs, rfl, e1, e2, r⟩ := w
  simp only [e1, if_pos e2]
  exact .ok r
theorem meth {a : E} {m : String} {es : List E} (q : Ok (evE C a σ h) fun x h1 => ∃ l c fs, x = .ref l ∧ h1[l]? = some (.ins c fs) ∧ (c ≠ "" ∧ fs.lookup m = none) ∧ Ok (evEs C es σ h1) fun xs h2 => Ok (C c m (.ref l :: xs) h2) Q) : Ok (evE C (.meth a m es) σ h) Q := by
  simp only [evE]
  refine Ok.bind q fun x h1 z => ?_
  obtain ⟨l, c, fs, rfl, e1, e2, r⟩ := z
  simp only [e1, if_pos e2]
  exact Ok.bind r fun _ _ z => z
theorem mk {c : String} {es : List E} (q : Ok (evEs C es σ h) fun xs h1 => Ok (C c "__init__" (.ref h1.length :: xs) (h1 ++ [.ins c []])) fun r h2 => r = .non ∧ Q (.ref h1.length) h2) : Ok (evE C (.mk c es) σ h) Q := by
  simp only [evE]
  refine Ok.bind q fun xs h1 z => Ok.bind z fun r h2 w => ?_
  obtain ⟨rfl, w⟩ := w
  exact .ok w
theorem alcD {a : E} (q : Ok (evE C a σ h) fun x h1 => ∃ ks vs, x = .dv ks vs ∧ Q (.ref h1.length) (h1 ++ [.dic ks vs])) : Ok (evE C (.alc a) σ h) Q := by
  simp only [evE]
  refine Ok.bind q fun x h1 z => ?_
  obtain ⟨ks, vs, rfl, r⟩ := z
  exact .ok r
theorem dict0 (q : Q (.dv [] []) h) : Ok (evE C .dict0 σ h) Q := by
  simp only [evE]
  exact .ok q
theorem isBr2 {x : D} {A B : Prop} (q : ∃ k, x = .bl k ∧ (k = false → A) ∧ (k = true → B)) : ∃ k, x = .bl k ∧ (k = false → A) ∧ (k = true → B) := q
end W
end Sd

/-! PyP3: while, and more steps. -/
namespace Sd
theorem whileN_succ {c : Env → Hh → Out D} {b : Env → Hh → Out Fl} : ∀ (n : Nat) (σ : Env) (h : Hh), whileN c b n σ h ≠ .bad → whileN c b (n + 1) σ h = whileN c b n σ h
  | 0, _, _, hn => absurd rfl hn
  | n + 1, σ, h, hn => by
    unfold whileN at hn ⊢
    cases hc : c σ h with
    | bad => rfl
    | ex k d h1 => rfl
    | ok t h1 =>
      rw [hc] at hn
      simp only [Out.thn_ok] at hn ⊢
      cases t with
      | bl k =>
        cases k with
        | false => rfl
        | true =>
          simp only at hn ⊢
          cases hb : b σ h1 with
          | bad => rfl
          | ex k d h2 => rfl
          | ok f h2 =>
            rw [hb] at hn
            simp only [Out.thn_ok] at hn ⊢
            cases f with
            | nx σ1 => exact whileN_succ n σ1 h2 hn
            | ct σ1 => exact whileN_succ n σ1 h2 hn
            | br σ1 => rfl
            | rt v => rfl
      | _ => rfl
theorem whileN_le {c : Env → Hh → Out D} {b : Env → Hh → Out Fl} {σ : Env} {h : Hh} {n : Nat} (hn : whileN c b n σ h ≠ .bad) : ∀ k, whileN c b (n + k) σ h = whileN c b n σ h
  | 0 => rfl
  | k + 1 => by rw [← Nat.add_assoc, whileN_succ _ _ _ (by rw [whileN_le hn k]; exact hn), whileN_le hn k]
theorem whileN_eq {c : Env → Hh → Out D} {b : Env → Hh → Out Fl} {σ : Env} {h : Hh} {n m : Nat} (hn : whileN c b n σ h ≠ .bad) (hm : whileN c b m σ h ≠ .bad) : whileN c b n σ h = whileN c b m σ h := by
  rcases Nat.le_total n m with z | z
  · obtain ⟨k, rfl⟩ := Nat.exists_eq_add_of_le z
    exact (whileN_le hn k).symm
  · obtain ⟨k, rfl⟩ := Nat.exists_eq_add_of_le z
    exact whileN_le hm k
theorem whileF_ok {c : Env → Hh → Out D} {b : Env → Hh → Out Fl} {σ : Env} {h : Hh} {Q : Fl → Hh → Prop} (n : Nat) (q : Ok (whileN c b n σ h) Q) : Ok (whileF c b σ h) Q := by
  obtain ⟨f, h1, e, r⟩ := q
  have hn : whileN c b n σ h ≠ .bad := by rw [e]; exact fun z => nomatch z
  unfold whileF
  rw [dif_pos ⟨n, hn⟩]
  have := whileN_eq (Classical.choose_spec (⟨n, hn⟩ : ∃ n, whileN c b n σ h ≠ .bad)) hn
  exact ⟨f, h1, this.trans e, r⟩
namespace W
variable {C : Calls} {σ : Env} {h : Hh} {Q : D → Hh → Prop} {R : Fl → Hh → Prop}
/-- while: something goes down at each turn -/
theorem whl {c : E} {a : List S} (I : Nat → Env → Hh → Prop) (i0 : ∃ n, I n σ h) (hs : ∀ n σ h, I n σ h → Ok (evE C c σ h) fun x h1 => ∃ k, x = .bl k ∧ (k = true → Ok (evSs C a σ h1) fun f h2 => match f with
      | .nx σ1 => ∃ m, m < n ∧ I m σ1 h2
      | .ct σ1 => ∃ m, m < n ∧ I m σ1 h2
      | .br σ1 => R (.nx σ1) h2
      | .rt v => R (.rt v) h2) ∧ (k = false → R (.nx σ) h1)) : Ok (evS C (.whl c a) σ h) R := by
  obtain ⟨n, i0⟩ := i0
  have go : ∀ n σ h, I n σ h → Ok (whileN (fun σ h => evE C c σ h) (fun σ h => evSs C a σ h) (n + 1) σ h) R := by
    intro n
    induction n using Nat.strongRecOn with
    | ind n ih =>
      intro σ h hi
      unfold whileN
      refine Ok.bind (hs n σ h hi) fun x h1 z => ?_
      obtain ⟨k, rfl, z1, z2⟩ := z
      cases k with
      | false => exact .ok (z2 rfl)
      | true =>
        refine Ok.bind (z1 rfl) fun f h2 w => ?_
        have more : ∀ σ1 m, m < n → I m σ1 h2 → Ok (whileN (fun σ h => evE C c σ h) (fun σ h => evSs C a σ h) n σ1 h2) R := fun σ1 m hm im => by
          obtain ⟨g, h3, e, r⟩ := ih m hm σ1 h2 im
          obtain ⟨k, rfl⟩ := Nat.exists_eq_add_of_le (show m + 1 ≤ n from hm)
          exact ⟨g, h3, by rw [whileN_le (by rw [e]; exact fun z => nomatch z), e], r⟩
        cases f with
        | nx σ1 => obtain ⟨m, hm, im⟩ := w; exact more σ1 m hm im
        | ct σ1 => obtain ⟨m, hm, im⟩ := w; exact more σ1 m hm im
        | br σ1 => exact .ok w
        | rt v => exact .ok w
  simp only [evS]
  exact whileF_ok _ (go n σ h i0)
theorem zip {a b : E} {P : List D × List Nat → Hh → Prop} (q : Ok (evE C a σ h) fun x h1 => Ok (evE C b σ h1) fun y h2 => ∃ r u, walkD h2 x = some r ∧ walkD h2 y = some u ∧ P (zipD r.1 u.1, r.2 ++ u.2) h2) : Ok (evI C (.zip a b) σ h) P := by
  simp only [evI]
  refine Ok.bind q fun x h1 z => Ok.bind z fun y h2 w => ?_
  obtain ⟨r, u, e1, e2, w⟩ := w
  rw [e1, e2]
  exact .ok w
theorem dget {a k e : E} (q : Ok (evE C a σ h) fun x h1 => isDic h1 x = true ∧ Ok (evE C k σ h1) fun y h2 => Ok (evE C e σ h2) fun z h3 => ∃ r, dlook h3 x.keep y.keep = some r ∧ Q (r.getD z) h3) : Ok (evE C (.dget a k e) σ h) Q := by
  simp only [evE]
  refine Ok.bind q fun x h1 z => ?_
  rw [if_pos z.1]
  refine Ok.bind z.2 fun y h2 w => Ok.bind w fun u h3 v => ?_
  obtain ⟨r, e, v⟩ := v
  rw [e]
  exact .ok v
theorem alcLst {es : List E} (q : Ok (evEs C es σ h) fun xs h1 => Q (.ref h1.length) (h1 ++ [.lst xs])) : Ok (evE C (.alc (.lst es)) σ h) Q := alcL (lst (q.mono fun xs _ z => ⟨xs, rfl, z⟩))
theorem alcDic (q : Q (.ref h.length) (h ++ [.dic [] []])) : Ok (evE C (.alc .dict0) σ h) Q := alcD (dict0 ⟨[], [], rfl, q⟩)
theorem ofEq {o : Out D} {x : D} (q : Ok o fun v h' => v = x ∧ h' = h) : o = .ok x h := by
  obtain ⟨v, h', e, rfl, rfl⟩ := q
  exact e
/-- a list that is filled -/
theorem last_get {h1 : Hh} {o : Ob} : (h1 ++ [o])[h1.length]? = some o := by
  rw [List.getElem?_append_right (Nat.le_refl _), Nat.sub_self]; rfl
theorem last_set {h1 : Hh} {o o2 : Ob} : (h1 ++ [o]).set h1.length o2 = h1 ++ [o2] := by
  rw [List.set_append_right _ _ (Nat.le_refl _), Nat.sub_self]; rfl
theorem appL {v : Nat} {h0 : Hh} {xs : List D} {e : E} (y : D) (hσ : σ[v]? = some (some (.ref h0.length))) (hl : xs.length < line) (he : Ok (evE C e σ (h0 ++ [.lst xs])) fun x h1 => x.keep = y ∧ h1 = h0 ++ [.lst xs]) (q : R (.nx σ) (h0 ++ [.lst (xs ++ [y])])) :
    Ok (evS C (.app (.var v) e) σ (h0 ++ [.lst xs])) R := by
  refine app (var hσ ⟨_, _, rfl, last_get, he.mono fun x h1 z => ?_⟩)
  obtain ⟨rfl, rfl⟩ := z
  exact ⟨_, last_get, hl, by rw [last_set]; exact q⟩
/-- [elt for k in range(m)] -/
theorem compR {own : List Nat} {elt e : E} {i m : Nat} (g : Nat → D) (hm : m ≤ 1000000) (hi : i < (Sd.wipe σ own).length) (he : Ok (evE C e σ h) fun x h1 => x = .int m ∧ h1 = h) (hp : ∀ p : Nat, p < m → Ok (evE C elt ((Sd.wipe σ own).set i (some (.int p))) h) fun y h2 => y.keep = g p ∧ h2 = h)
    (q : Q (.lv ((List.range m).map g)) h) : Ok (evE C (.comp own elt (.n i) (.rng e) []) σ h) Q := by
  let F : D → List D := fun x => match x with
    | .int p => [g p.toNat]
    | _ => []
  have hF : (rngD 0 m).flatMap F = (List.range m).map g := by
    unfold rngD
    rw [show ((m : Int) - 0).toNat = m by omega]
    generalize List.range m = l
    induction l with
    | nil => rfl
    | cons p l ih =>
      simp only [List.map_cons, List.flatMap_cons, ih]
      show [g (0 + (p : Int)).toNat] ++ _ = _
      rw [show (0 + (p : Int)).toNat = p by omega]
      rfl
  refine compM F (rng (he.mono fun x h1 z => ?_))
  obtain ⟨rfl, rfl⟩ := z
  refine ⟨_, rfl, ?_, fun x hx => ?_, ?_, ?_⟩
  · simp only [small, Bool.and_eq_true, decide_eq_true_eq]; omega
  · obtain ⟨k, hk⟩ := List.getElem?_of_mem hx
    unfold rngD at hk
    rw [List.getElem?_map] at hk
    obtain ⟨y, hy, rfl⟩ := Option.map_eq_some_iff.mp hk
    obtain ⟨hlt, ey⟩ := List.getElem?_eq_some_iff.mp hy
    simp only [List.length_range] at hlt
    rw [List.getElem_range] at ey
    subst ey
    have hlt' : k < m := by omega
    refine ⟨_, by simp only [setP]; rw [if_pos hi], ts0 ⟨fun _ => ?_, fun z => Bool.noConfusion z⟩⟩
    rw [Int.zero_add]
    refine (hp k hlt').mono fun y h2 z => ⟨?_, z.2⟩
    rw [z.1]
    show _ = [g (k : Int).toNat]
    rw [Int.toNat_natCast]
  · rw [hF, List.length_map, List.length_range]; unfold line; omega
  · rw [hF]; exact q
/-- [elt for x in xs] -/
theorem compV {α : Type} {own : List Nat} {elt e : E} {i : Nat} {xs : List α} (f g : α → D) (hl : xs.length ≤ line) (hi : i < (Sd.wipe σ own).length) (he : Ok (evE C e σ h) fun x h1 => (∃ ws, walkA h1 x = some (xs.map f, ws)) ∧ h1 = h) (hp : ∀ a ∈ xs, Ok (evE C elt ((Sd.wipe σ own).set i (some (f a))) h) fun y h2 => y.keep = g a ∧ h2 = h)
    (q : Q (.lv (xs.map g)) h) : Ok (evE C (.comp own elt (.n i) (.val e) []) σ h) Q := by
  refine comp (val (he.mono fun x h1 z => ?_))
  obtain ⟨⟨ws, e1⟩, rfl⟩ := z
  refine ⟨_, e1, fun k ys h' => ys = (xs.take k).map g ∧ h' = h1, ⟨rfl, rfl⟩, fun k ys h' z => by rw [z.2]; exact wat_refl _ _, fun k x ys h' hx z => ?_, fun ys h' z => ?_⟩
  · obtain ⟨rfl, rfl⟩ := z
    simp only [List.getElem?_map] at hx
    obtain ⟨a, ha, rfl⟩ := Option.map_eq_some_iff.mp hx
    refine ⟨_, by simp only [setP]; rw [if_pos hi], ts0 ⟨fun _ => ?_, fun z => Bool.noConfusion z⟩⟩
    refine (hp a (List.mem_of_getElem? ha)).mono fun y h2 z => ⟨?_, z.2⟩
    rw [z.1, List.take_succ, ha]
    simp
  · obtain ⟨rfl, rfl⟩ := z
    simp only [List.length_map, List.take_length]
    exact ⟨hl, q⟩
/-- for x in xs: .., a list out of the heap or one that stays -/
theorem forV {α : Type} {e : E} {i : Nat} {ws : List Nat} {xs : List α} {a : List S} (f : α → D) (I : Nat → Env → Hh → Prop) (he : Ok (evE C e σ h) fun x h1 => walkA h1 x = some (xs.map f, ws) ∧ I 0 σ h1 ∧ (∀ k σ h, I k σ h → i < σ.length) ∧ (∀ k σ h, I k σ h → Wat ws h1 h))
    (hs : ∀ k x σ h, xs[k]? = some x → I k σ h → Ok (evSs C a (σ.set i (some (f x))) h) fun g h2 => match g with
      | .nx σ1 => I (k + 1) σ1 h2
      | .ct σ1 => I (k + 1) σ1 h2
      | .br σ1 => R (.nx σ1) h2
      | .rt v => R (.rt v) h2) (hd : ∀ σ h, I xs.length σ h → R (.nx σ) h) : Ok (evS C (.forr (.n i) (.val e) a) σ h) R := by
  refine forr (val (he.mono fun x h1 z => ?_))
  obtain ⟨e1, i0, il, iw⟩ := z
  refine ⟨_, e1, I, i0, iw, fun k x σ h hx hi => ?_, fun σ h hi => hd σ h (by simpa using hi)⟩
  simp only [List.getElem?_map] at hx
  obtain ⟨y, hy, rfl⟩ := Option.map_eq_some_iff.mp hx
  exact ⟨_, by simp only [setP]; rw [if_pos (il k σ h hi)], hs k y σ h hy hi⟩
/-- for k in range(m): .. -/
theorem forR {e : E} {i m : Nat} {a : List S} (I : Nat → Env → Hh → Prop) (hm : m ≤ 1000000) (he : Ok (evE C e σ h) fun x h1 => x = .int m ∧ I 0 σ h1) (il : ∀ k σ h, I k σ h → i < σ.length)
    (hs : ∀ k σ h, k < m → I k σ h → Ok (evSs C a (σ.set i (some (.int k))) h) fun g h2 => match g with
      | .nx σ1 => I (k + 1) σ1 h2
      | .ct σ1 => I (k + 1) σ1 h2
      | .br σ1 => R (.nx σ1) h2
      | .rt v => R (.rt v) h2) (hd : ∀ σ h, I m σ h → R (.nx σ) h) : Ok (evS C (.forr (.n i) (.rng e) a) σ h) R := by
  refine forr (rng (he.mono fun x h1 z => ?_))
  obtain ⟨rfl, i0⟩ := z
  refine ⟨_, rfl, ?_, I, i0, fun _ _ _ _ => wat_nil _ _, fun k x σ h hx hi => ?_, fun σ h hi => hd σ h ?_⟩
  · simp only [small, Bool.and_eq_true, decide_eq_true_eq]; omega
  · unfold rngD at hx
    rw [List.getElem?_map] at hx
    obtain ⟨y, hy, rfl⟩ := Option.map_eq_some_iff.mp hx
    obtain ⟨hlt, ey⟩ := List.getElem?_eq_some_iff.mp hy
    simp only [List.length_range] at hlt
    rw [List.getElem_range] at ey
    subst ey
    rw [Int.zero_add]
    exact ⟨_, by simp only [setP]; rw [if_pos (il k σ h hi)], hs k σ h (by omega) hi⟩
  · simp only [rngD, List.length_map, List.length_range] at hi
    rw [show ((m : Int) - 0).toNat = m by omega] at hi
    exact hi
end W
/-! ### what is the callee's own goes -/
theorem fin_fresh {h : Hh} {xs : List D} (hx : D.undAll h.length xs = true) : fin h (h ++ [.lst xs]) (.ref h.length) = .ok (.lv xs) h := by
  have e : freeze (h ++ [.lst xs]) h.length (.ref h.length) = .lv xs := by
    simp only [freeze, Nat.lt_irrefl, if_false, W.last_get]
  rw [fin_drop (by simp) (by rw [e]; exact hx) fun l o hl ho => .inl (by rw [List.getElem?_append_left hl] at ho; exact ho), e, List.take_left]
/-- new objects ex, the value has none of them -/
theorem fin_app {h ex : Hh} {v : D} (hv : v.und h.length = true) (hf : ∀ l, v ≠ .ref l) : fin h (h ++ ex) v = .ok v h := by
  cases ex with
  | nil => rw [List.append_nil]; exact fin_self
  | cons o ex =>
    have e : freeze (h ++ o :: ex) h.length v = v := by
      cases v <;> first | rfl | exact absurd rfl (hf _)
    rw [fin_drop (by simp) (by rw [e]; cases v <;> first | exact hv | (simp [D.und] at hv)) fun l o hl ho => .inl (by rw [List.getElem?_append_left hl] at ho; exact ho), e, List.take_left]
theorem undAll_mem {n : Nat} : ∀ {xs : List D}, (∀ x ∈ xs, x.und n = true) → D.undAll n xs = true
  | [], _ => by simp [D.undAll]
  | x :: xs, h => by
    simp only [D.undAll, Bool.and_eq_true]
    exact ⟨h x List.mem_cons_self, undAll_mem fun y hy => h y (List.mem_cons_of_mem _ hy)⟩
theorem undAll_map {α : Type} {n : Nat} {f : α → D} (h : ∀ a, (f a).und n = true) (xs : List α) : D.undAll n (xs.map f) = true := undAll_mem fun x hx => by
  obtain ⟨a, _, rfl⟩ := List.mem_map.mp hx
  exact h a
theorem nodup_le {α : Type} [DecidableEq α] : ∀ {l u : List α}, l.Nodup → (∀ x ∈ l, x ∈ u) → l.length ≤ u.length
  | [], _, _, _ => Nat.zero_le _
  | x :: l, u, hn, hs => by
    obtain ⟨h1, h2⟩ := List.nodup_cons.mp hn
    have hx := hs x List.mem_cons_self
    have := nodup_le (l := l) (u := u.erase x) h2 fun y hy => (List.mem_erase_of_ne (fun e => h1 (by rw [← e]; exact hy))).mpr (hs y (List.mem_cons_of_mem _ hy))
    rw [List.length_erase_of_mem hx] at this
    have hp : 0 < u.length := List.length_pos_of_mem hx
    simp only [List.length_cons]
    omega
end Sd
namespace Sd
/-! ### what is left in older objects -/
theorem undAll_of {n : Nat} {xs : List D} (h : D.undAll n xs = true) : ∀ x ∈ xs, x.und n = true := by
  induction xs with
  | nil => intro x hx; simp at hx
  | cons y xs ih =>
    simp only [D.undAll, Bool.and_eq_true] at h
    intro x hx
    rcases List.mem_cons.mp hx with rfl | hx
    · exact h.1
    · exact ih h.2 x hx
theorem map_same {f : D → D} {xs : List D} (h : ∀ x ∈ xs, f x = x) : xs.map f = xs := by
  induction xs with
  | nil => rfl
  | cons x xs ih => rw [List.map_cons, h x List.mem_cons_self, ih fun y hy => h y (List.mem_cons_of_mem _ hy)]
theorem frz_und {h1 : Hh} {n : Nat} : ∀ (k : Nat) (d : D), d.und n = true → frz h1 n k d = d
  | 0, _, _ => rfl
  | k + 1, d, hu => by
    have sub : ∀ {xs : List D}, D.undAll n xs = true → xs.map (frz h1 n k) = xs := fun h => map_same fun x hx => frz_und k x (undAll_of h x hx)
    cases d with
    | tup xs => simp only [D.und] at hu; simp only [frz, sub hu]
    | fz xs => simp only [D.und] at hu; simp only [frz, sub hu]
    | fd ks vs => simp only [D.und, Bool.and_eq_true] at hu; simp only [frz, sub hu.2]
    | fdn ks vs => simp only [D.und, Bool.and_eq_true] at hu; simp only [frz, sub hu.2]
    | ref l => simp only [D.und, decide_eq_true_eq] at hu; simp only [frz, if_pos hu]
    | lv xs => simp [D.und] at hu
    | _ => rfl
theorem finZ_at {h ex : Hh} {i : Nat} {ob ob' : Ob} {v v' : D} (hi : i < h.length) (hex : ex ≠ []) (hv : frz (h.set i ob ++ ex) h.length 60 v = v') (hu : undV h.length v' = true) (ho : ob.mapD (frz (h.set i ob ++ ex) h.length 60) = ob') (hou : ob'.und h.length = true) (hne : h[i]? ≠ some ob) :
    finZ h (h.set i ob ++ ex) v = .ok v' (h.set i ob') := by
  have hl : (h.set i ob ++ ex).length ≠ h.length := by
    rw [List.length_append, List.length_set]
    have := List.length_pos_iff.mpr hex
    omega
  have at_ : ∀ l, l < h.length → (h.set i ob ++ ex)[l]? = if i = l then some ob else h[l]? := fun l hl => by
    rw [List.getElem?_append_left (by rw [List.length_set]; exact hl), List.getElem?_set]
    split
    · rename_i e; subst e; simp [hi]
    · rfl
  have cond : ∀ (l : Nat) (o o1 : Ob), h[l]? = some o → (h.set i ob ++ ex)[l]? = some o1 → o1 = o ∨ (o1.mapD (frz (h.set i ob ++ ex) h.length 60)).und h.length = true := fun l o o1 e0 e1 => by
    have hl := (List.getElem?_eq_some_iff.mp e0).1
    rw [at_ l hl] at e1
    split at e1
    · cases e1
      right; rw [ho]; exact hou
    · rw [e0] at e1; cases e1; exact .inl rfl
  have heap : frzH h (h.set i ob ++ ex) = h.set i ob' := by
    apply List.ext_getElem?
    intro l
    unfold frzH
    rw [List.getElem?_zipWith, List.getElem?_set]
    by_cases hl : l < h.length
    · rw [at_ l hl, List.getElem?_eq_getElem hl]
      by_cases e : i = l
      · subst e
        simp only [if_true, hl]
        unfold frzO
        rw [if_neg (fun z => hne (by rw [List.getElem?_eq_getElem hi, z])), ho]
      · simp only [if_neg e, List.getElem?_eq_getElem hl]
        unfold frzO
        rw [if_pos rfl]
    · rw [List.getElem?_eq_none (by omega)]
      by_cases e : i = l
      · omega
      · simp [if_neg e]
  unfold finZ
  rw [if_neg hl, if_pos ⟨by rw [hv]; exact hu, cond⟩, hv, heap]
theorem finZ_same {h h1 : Hh} {v : D} (e : h1.length = h.length) : finZ h h1 v = .ok v h1 := by
  unfold finZ
  rw [if_pos e]
end Sd

/-! PyP4: dicts whose keys are tuples of one kind. -/
namespace Sd
/-- how keys stand -/
structure Enc (α : Type) where
  d : α → D
  k : α → PySem.NestedKey
  of : ∀ a, kOf (d a) = some (k a)
  inj : ∀ a b, k a = k b → a = b
theorem kOf_tup {d : D} {k : PySem.NestedKey} (h : kOf d = some k) : ∃ xs, d = .tup xs := by
  cases d <;> first | exact ⟨_, rfl⟩ | (simp [kOf] at h)
namespace Enc
variable {α : Type} [DecidableEq α] (e : Enc α) {h : Hh} {l : Nat}
/-- a dict of such keys: the keys, and what is there -/
def ob (v : α → D) : List α → Ob
  | [] => .dic [] []
  | q :: qs => .din ((q :: qs).map e.d) ((q :: qs).map v)
theorem nget_of (v : α → D) (q : α) : ∀ qs : List α, nget (e.k q) (qs.map e.d) (qs.map v) = if q ∈ qs then some (v q) else none
  | [] => by simp [nget]
  | p :: qs => by
    simp only [List.map_cons, nget, e.of, Option.some.injEq, nget_of v q qs]
    by_cases z : p = q
    · subst z; simp
    · have e1 : ¬ e.k p = e.k q := fun w => z (e.inj _ _ w)
      have e2 : ¬ q = p := fun w => z w.symm
      simp [e1, e2]
theorem nput_of (v : α → D) (q : α) (d : D) : ∀ qs : List α, nput (e.k q) d (qs.map e.d) (qs.map v) = qs.map fun p => if p = q then d else v p
  | [] => by simp [nput]
  | p :: qs => by
    simp only [List.map_cons, nput, e.of, Option.some.injEq, nput_of v q d qs]
    by_cases z : p = q
    · subst z; simp
    · have e1 : ¬ e.k p = e.k q := fun w => z (e.inj _ _ w)
      simp [e1, z]
theorem look {v : α → D} {qs : List α} (q : α) (hl : h[l]? = some (e.ob v qs)) : dlook h (.ref l) (e.d q) = some (if q ∈ qs then some (v q) else none) := by
  obtain ⟨xs, hx⟩ := kOf_tup (e.of q)
  cases qs with
  | nil =>
    have hk : isKey (e.d q) = false := by rw [hx]; rfl
    simp only [dlook, dict, hl, ob, hk, e.of]
    simp
  | cons p qs =>
    have hd : dict h (.ref l) = none := by simp only [dict, hl, ob]
    have hn : dictn h (.ref l) = some ((p :: qs).map e.d, (p :: qs).map v) := by simp only [dictn, hl, ob]
    simp only [dlook, hd, hn, e.of, Option.map_some, nget_of]
/-- .. as values -/
def fdV (v : α → D) : List α → D
  | [] => .fd [] []
  | q :: qs => .fdn ((q :: qs).map e.d) ((q :: qs).map v)
theorem lookV {v : α → D} {qs : List α} (q : α) : dlook h (e.fdV v qs) (e.d q) = some (if q ∈ qs then some (v q) else none) := by
  obtain ⟨xs, hx⟩ := kOf_tup (e.of q)
  cases qs with
  | nil =>
    have hk : isKey (e.d q) = false := by rw [hx]; rfl
    simp only [dlook, dict, fdV, hk, e.of]
    simp
  | cons p qs => simp only [dlook, dict, dictn, fdV, e.of, Option.map_some, nget_of]
theorem put_new {v : α → D} {qs : List α} {q : α} (hn : q ∉ qs) (hl : qs.length < lineN) : obPut (e.ob v qs) (e.d q) (v q) = some (e.ob v (qs ++ [q])) := by
  obtain ⟨xs, hx⟩ := kOf_tup (e.of q)
  cases qs with
  | nil =>
    have hk : isKey (e.d q) = false := by rw [hx]; rfl
    simp only [ob, obPut, hk, e.of]
    simp [ob]
  | cons p qs =>
    simp only [ob, obPut, e.of]
    rw [List.length_map, if_pos hl, nget_of, if_neg hn]
    simp [ob]
theorem notin {v : α → D} {qs : List α} (q : α) (hl : h[l]? = some (e.ob v qs)) : o2F .notin h (e.d q) (.ref l) = some (.bl (!decide (q ∈ qs))) := by
  have hs : seqs h (.ref l) = none := by cases qs <;> simp only [seqs, items, hl, ob]
  have w := e.look q hl
  obtain ⟨xs, hx⟩ := kOf_tup (e.of q)
  rw [hx] at w ⊢
  simp only [o2F, hs, w, Option.map_some]
  by_cases hq : q ∈ qs <;> simp [hq]
theorem isin {v : α → D} {qs : List α} (q : α) (hl : h[l]? = some (e.ob v qs)) : o2F .isin h (e.d q) (.ref l) = some (.bl (decide (q ∈ qs))) := by
  have hs : seqs h (.ref l) = none := by cases qs <;> simp only [seqs, items, hl, ob]
  have w := e.look q hl
  obtain ⟨xs, hx⟩ := kOf_tup (e.of q)
  rw [hx] at w ⊢
  simp only [o2F, hs, w, Option.map_some]
  by_cases hq : q ∈ qs <;> simp [hq]
theorem len {v : α → D} {qs : List α} (hl : h[l]? = some (e.ob v qs)) : o1F .len h (.ref l) = some (.int qs.length) := by
  have hs : seqs h (.ref l) = none := by cases qs <;> simp only [seqs, items, hl, ob]
  cases qs with
  | nil => simp only [o1F, hs, keysD, dict, hl, ob, Option.map_some]; rfl
  | cons p qs => simp only [o1F, hs, keysD, dict, dictn, hl, ob, Option.map_some, List.length_map]
end Enc
end Sd

local macro_rules | `(tactic| walk_at "S") => `(tactic| repeat (first
  | with_reducible refine Sd.W.cons ?_ | with_reducible refine Sd.W.set ?_ | with_reducible refine Sd.W.ret ?_ | with_reducible refine Sd.W.cst ?_ | (with_reducible refine Sd.W.isVar ?_; refine Sd.W.var rfl ?_)
  | (with_reducible refine Sd.W.isGetR ?_; refine Sd.W.getR rfl (by assumption) rfl ?_) | (with_reducible refine Sd.W.isLenR ?_; refine Sd.W.lenR rfl (by assumption) ?_) | (with_reducible refine Sd.W.isSetR ?_; refine Sd.W.setR rfl ?_)
  | with_reducible refine Sd.W.o2 ?_ | with_reducible refine Sd.W.o1 ?_ | with_reducible refine Sd.W.call ?_ | with_reducible refine Sd.W.es ?_ | with_reducible refine Sd.W.es0 ?_ | with_reducible refine Sd.W.nx ?_ | with_reducible refine Sd.W.rt ?_ | with_reducible refine Sd.W.tup ?_ | with_reducible refine Sd.W.lst ?_
  | with_reducible refine Sd.W.slice ?_ | with_reducible refine Sd.W.val ?_ | with_reducible refine Sd.W.rng ?_ | with_reducible refine Sd.W.enu ?_ | with_reducible refine Sd.W.seti ?_ | with_reducible refine Sd.W.ts0 ?_ | with_reducible refine Sd.W.ts1 ?_ | with_reducible refine Sd.W.cond ?_ | with_reducible refine Sd.W.and ?_
  | with_reducible refine Sd.W.or ?_ | with_reducible refine Sd.W.ife ?_ | with_reducible refine Sd.W.nil ?_ | with_reducible refine Sd.W.par ?_ | with_reducible refine Sd.W.app ?_ | with_reducible refine Sd.W.ext ?_
  | with_reducible refine Sd.W.dict0 ?_ | with_reducible refine Sd.W.alcLst ?_ | with_reducible refine Sd.W.alcDic ?_ | with_reducible refine Sd.W.meth ?_ | with_reducible refine Sd.W.mk ?_ | with_reducible refine Sd.W.seta ?_
  | (with_reducible refine Sd.W.isLt ?_; refine ⟨by simp, ?_⟩) | (with_reducible refine Sd.W.isMul ?_; refine ⟨_, Sd.W.mulK (by decide), ?_⟩) | (with_reducible refine Sd.W.isEq ?_; first | refine ⟨_, Sd.W.eqI, ?_⟩ | refine ⟨_, Sd.W.eqS, ?_⟩) | (with_reducible refine Sd.W.isNe ?_; first | refine ⟨_, Sd.W.neI, ?_⟩ | refine ⟨_, Sd.W.neS, ?_⟩)
  | (with_reducible refine Sd.W.isLf ?_; refine ⟨_, rfl, ?_⟩)
  | (with_reducible refine Sd.W.isBr ?_; first | refine ⟨_, rfl, fun _ => ?_, fun hf => Bool.noConfusion hf⟩ | refine ⟨_, rfl, fun hf => Bool.noConfusion hf, fun _ => ?_⟩)
  | (with_reducible refine Sd.W.isBr2 ?_; first | refine ⟨_, rfl, fun _ => ?_, fun hf => Bool.noConfusion hf⟩ | refine ⟨_, rfl, fun hf => Bool.noConfusion hf, fun _ => ?_⟩)
  | (with_reducible refine Sd.W.isLfS ?_; refine ⟨_, _, (by assumption), rfl, fun hl => ?_⟩)))
local macro_rules | `(tactic| walk_at "E") => `(tactic| repeat (first
  | with_reducible refine Sd.W.set ?_ | with_reducible refine Sd.W.ret ?_ | with_reducible refine Sd.W.cst ?_ | (with_reducible refine Sd.W.isVar ?_; refine Sd.W.var rfl ?_)
  | (with_reducible refine Sd.W.isGetR ?_; refine Sd.W.getR rfl (by assumption) rfl ?_) | (with_reducible refine Sd.W.isLenR ?_; refine Sd.W.lenR rfl (by assumption) ?_) | (with_reducible refine Sd.W.isSetR ?_; refine Sd.W.setR rfl ?_)
  | with_reducible refine Sd.W.o2 ?_ | with_reducible refine Sd.W.o1 ?_ | with_reducible refine Sd.W.call ?_ | with_reducible refine Sd.W.es ?_ | with_reducible refine Sd.W.es0 ?_ | with_reducible refine Sd.W.rt ?_ | with_reducible refine Sd.W.tup ?_ | with_reducible refine Sd.W.lst ?_
  | with_reducible refine Sd.W.slice ?_ | with_reducible refine Sd.W.val ?_ | with_reducible refine Sd.W.rng ?_ | with_reducible refine Sd.W.enu ?_ | with_reducible refine Sd.W.seti ?_ | with_reducible refine Sd.W.ts0 ?_ | with_reducible refine Sd.W.ts1 ?_ | with_reducible refine Sd.W.cond ?_ | with_reducible refine Sd.W.and ?_
  | with_reducible refine Sd.W.or ?_ | with_reducible refine Sd.W.ife ?_ | with_reducible refine Sd.W.nil ?_ | with_reducible refine Sd.W.par ?_ | with_reducible refine Sd.W.app ?_ | with_reducible refine Sd.W.ext ?_
  | with_reducible refine Sd.W.dict0 ?_ | with_reducible refine Sd.W.alcLst ?_ | with_reducible refine Sd.W.alcDic ?_ | with_reducible refine Sd.W.meth ?_ | with_reducible refine Sd.W.mk ?_ | with_reducible refine Sd.W.seta ?_
  | (with_reducible refine Sd.W.isLt ?_; refine ⟨by simp, ?_⟩) | (with_reducible refine Sd.W.isMul ?_; refine ⟨_, Sd.W.mulK (by decide), ?_⟩) | (with_reducible refine Sd.W.isEq ?_; first | refine ⟨_, Sd.W.eqI, ?_⟩ | refine ⟨_, Sd.W.eqS, ?_⟩) | (with_reducible refine Sd.W.isNe ?_; first | refine ⟨_, Sd.W.neI, ?_⟩ | refine ⟨_, Sd.W.neS, ?_⟩)
  | (with_reducible refine Sd.W.isLf ?_; refine ⟨_, rfl, ?_⟩)
  | (with_reducible refine Sd.W.isBr ?_; first | refine ⟨_, rfl, fun _ => ?_, fun hf => Bool.noConfusion hf⟩ | refine ⟨_, rfl, fun hf => Bool.noConfusion hf, fun _ => ?_⟩)
  | (with_reducible refine Sd.W.isBr2 ?_; first | refine ⟨_, rfl, fun _ => ?_, fun hf => Bool.noConfusion hf⟩ | refine ⟨_, rfl, fun hf => Bool.noConfusion hf, fun _ => ?_⟩)
  | (with_reducible refine Sd.W.isLfS ?_; refine ⟨_, _, (by assumption), rfl, fun hl => ?_⟩)))
/-! GenA: the functions by which the laws draw their inputs. -/
namespace Sd
namespace Gen
/-- _law_same: 0 actual, 1 due, 2 k -/
def b_law_same : List S := [
  (.cond (.or (.o1 (.isi .tup) (.var 1)) (.o1 (.isi .lst) (.var 1))) [(.cond (.or (.o2 .ne (.o1 (.isi .tup) (.var 1)) (.o1 (.isi .tup) (.var 0))) (.o2 .ne (.o1 (.isi .lst) (.var 1)) (.o1 (.isi .lst) (.var 0)))) [(.ret (.cst (.bl false)))] []), (.cond (.o2 .ne (.o1 .len (.var 0)) (.o1 .len (.var 1))) [(.ret (.cst (.bl false)))] []), (.ret (.o2 .eq (.o1 .len (.comp [2] (.var 2) (.n 2) (.rng (.o1 .len (.var 1))) [(.o1 .not (.call "" "_law_same" [(.o2 .idx (.var 0) (.var 2)), (.o2 .idx (.var 1) (.var 2))]))])) (.cst (.int 0))))] []),
  (.cond (.o1 .isN (.var 1)) [(.ret (.o1 .isN (.var 0)))] []),
  (.cond (.or (.o1 (.isi .bool) (.var 1)) (.o1 (.isi .bool) (.var 0))) [(.ret (.and (.o1 (.isi .bool) (.var 1)) (.and (.o1 (.isi .bool) (.var 0)) (.o2 .eq (.var 0) (.var 1)))))] []),
  (.cond (.o1 (.isi .int) (.var 1)) [(.ret (.and (.o1 (.isi .int) (.var 0)) (.o2 .eq (.var 0) (.var 1))))] []),
  (.ret (.and (.o1 (.isi .str) (.var 0)) (.o2 .eq (.var 0) (.var 1))))]
/-- _law_pool: 0 script, 1 salt, 2 cell -/
def b_law_pool : List S := [
  (.set (.n 1) (.cst (.int 7))),
  (.forr (.n 2) (.val (.o3 .slice (.var 0) (.cst .non) (.o1 .ofI (.cst (.int 63))))) [(.set (.n 1) (.o2 .mod (.o1 .int (.o2 .add (.o2 .mul (.var 1) (.cst (.int 31))) (.var 2))) (.cst (.int 1000003))))]),
  (.ret (.lst [(.o1 .list (.var 0)), (.cst (.int 0)), (.cst (.int 0)), (.cst (.int 0)), (.var 1)]))]
/-- _law_spread: 0 cell, 1 blended, 2 whole_sum, 3 k -/
def b_law_spread : List S := [
  (.set (.n 1) (.o2 .mod (.o1 .int (.var 0)) (.cst (.int 2147483647)))),
  (.set (.n 2) (.cst (.int 1))),
  (.forr (.n 3) (.rng (.cst (.int 4))) [(.set (.n 1) (.o2 .mod (.o1 .int (.o2 .add (.o2 .add (.o2 .mul (.var 1) (.cst (.int 48271))) (.cst (.int 12345))) (.var 3))) (.cst (.int 2147483647)))), (.set (.n 2) (.o2 .add (.o2 .mul (.var 2) (.cst (.int 2147483647))) (.var 1)))]),
  (.ret (.var 2))]
/-- _law_draw: 0 pool, 1 many, 2 cell, 3 blended, 4 value -/
def b_law_draw : List S := [
  (.cond (.and (.o2 .le (.o2 .idx (.var 0) (.cst (.int 2))) (.cst (.int 0))) (.o2 .lt (.o2 .idx (.var 0) (.cst (.int 1))) (.o1 .len (.o2 .idx (.var 0) (.cst (.int 0)))))) [(.set (.n 2) (.o2 .idx (.o2 .idx (.var 0) (.cst (.int 0))) (.o2 .idx (.var 0) (.cst (.int 1))))), (.seti (.var 0) (.cst (.int 1)) (.o2 .add (.o2 .idx (.var 0) (.cst (.int 1))) (.cst (.int 1)))), (.seti (.var 0) (.cst (.int 2)) (.var 2)), (.cond (.o2 .lt (.var 2) (.cst (.int 1000000000000000000))) [(.seti (.var 0) (.cst (.int 2)) (.call "" "_law_spread" [(.var 2)]))] [])] []),
  (.seti (.var 0) (.cst (.int 3)) (.o2 .add (.o2 .idx (.var 0) (.cst (.int 3))) (.cst (.int 1)))),
  (.cond (.o2 .le (.o2 .idx (.var 0) (.cst (.int 2))) (.cst (.int 0))) [(.set (.n 3) (.o2 .mod (.o1 .int (.o2 .add (.o2 .add (.o2 .mul (.o2 .idx (.var 0) (.cst (.int 4))) (.cst (.int 48271))) (.o2 .mul (.o2 .idx (.var 0) (.cst (.int 3))) (.cst (.int 69621)))) (.cst (.int 1)))) (.cst (.int 2147483647)))), (.set (.n 3) (.o2 .mod (.o1 .int (.o2 .add (.o2 .mul (.var 3) (.cst (.int 16807))) (.o2 .idx (.var 0) (.cst (.int 3))))) (.cst (.int 2147483629)))), (.ret (.o2 .mod (.o2 .div (.var 3) (.cst (.int 5))) (.var 1)))] []),
  (.set (.n 4) (.o2 .mod (.o1 .int (.o2 .idx (.var 0) (.cst (.int 2)))) (.var 1))),
  (.seti (.var 0) (.cst (.int 2)) (.o2 .div (.o2 .idx (.var 0) (.cst (.int 2))) (.var 1))),
  (.ret (.var 4))]
/-- _law_sounds: 0 pool -/
def b_law_sounds : List S := [
  (.ret (.o2 .idx (.tup [(.cst (.str [97, 98])), (.cst (.str [97, 98, 99])), (.cst (.str [97])), (.cst (.str [97, 98]))]) (.call "" "_law_draw" [(.var 0), (.cst (.int 4))])))]
/-- _law_lot: 0 pool, 1 sounds, 2 found, 3 one -/
def b_law_lot : List S := [
  (.set (.n 2) (.o2 .join (.cst (.str [])) (.comp [3] (.var 3) (.n 3) (.val (.var 1)) [(.o2 .eq (.call "" "_law_draw" [(.var 0), (.cst (.int 2))]) (.cst (.int 0)))]))),
  (.ret (.ife (.o2 .ne (.var 2) (.cst (.str []))) (.var 2) (.o2 .idx (.var 1) (.call "" "_law_draw" [(.var 0), (.o1 .len (.var 1))]))))]
/-- _law_word: 0 pool, 1 sounds, 2 most, 3 k -/
def b_law_word : List S := [
  (.ret (.o2 .join (.cst (.str [])) (.comp [3] (.o2 .idx (.var 1) (.call "" "_law_draw" [(.var 0), (.o1 .len (.var 1))])) (.n 3) (.rng (.call "" "_law_draw" [(.var 0), (.o2 .add (.var 2) (.cst (.int 1)))])) [])))]
/-- _law_slots: 0 pool, 1 sounds, 2 edge, 3 found, 4 k -/
def b_law_slots : List S := [
  (.set (.n 3) (.alc (.comp [4] (.call "" "_law_lot" [(.var 0), (.var 1)]) (.n 4) (.rng (.o2 .idx (.tup [(.cst (.int 0)), (.cst (.int 0)), (.cst (.int 1)), (.cst (.int 1)), (.cst (.int 2))]) (.call "" "_law_draw" [(.var 0), (.cst (.int 5))]))) []))),
  (.cond (.and (.o2 .gt (.o1 .len (.var 3)) (.cst (.int 0))) (.o2 .eq (.call "" "_law_draw" [(.var 0), (.cst (.int 4))]) (.cst (.int 0)))) [(.seti (.var 3) (.ife (.o2 .eq (.var 2) (.cst (.int 0))) (.cst (.int 0)) (.o2 .sub (.o1 .len (.var 3)) (.cst (.int 1)))) (.cst (.str [35])))] []),
  (.ret (.o1 .tuple (.var 3)))]
/-- _law_law: 0 pool, 1 sounds, 2 changes, 3 one -/
def b_law_law : List S := [
  (.set (.n 2) (.o1 .tuple (.comp [3] (.tup [(.var 3), (.call "" "_law_word" [(.var 0), (.var 1), (.cst (.int 2))])]) (.n 3) (.val (.var 1)) [(.o2 .eq (.call "" "_law_draw" [(.var 0), (.cst (.int 2))]) (.cst (.int 0)))]))),
  (.cond (.o2 .eq (.o1 .len (.var 2)) (.cst (.int 0))) [(.set (.n 2) (.tup [(.tup [(.o2 .idx (.var 1) (.cst (.int 0))), (.call "" "_law_word" [(.var 0), (.var 1), (.cst (.int 2))])])]))] []),
  (.ret (.tup [(.var 2), (.call "" "_law_slots" [(.var 0), (.var 1), (.cst (.int 0))]), (.call "" "_law_slots" [(.var 0), (.var 1), (.cst (.int 1))])]))]
/-- _law_history: 0 pool, 1 sounds, 2 most, 3 found, 4 slots, 5 k, 6 law -/
def b_law_history : List S := [
  (.set (.t [3, 4]) (.tup [(.tup []), (.cst (.int 0))])),
  (.forr (.n 5) (.rng (.call "" "_law_draw" [(.var 0), (.o2 .add (.var 2) (.cst (.int 1)))])) [(.set (.n 6) (.call "" "_law_law" [(.var 0), (.var 1)])), (.set (.n 4) (.o2 .add (.o2 .add (.var 4) (.o1 .len (.o2 .idx (.var 6) (.cst (.int 1))))) (.o1 .len (.o2 .idx (.var 6) (.cst (.int 2)))))), (.set (.n 3) (.o2 .add (.var 3) (.ife (.o2 .lt (.var 4) (.cst (.int 5))) (.tup [(.var 6)]) (.tup [(.tup [(.o2 .idx (.var 6) (.cst (.int 0))), (.tup []), (.tup [])])]))))]),
  (.ret (.var 3))]

structure GT (T : Tb) : Prop where
  same : T "" "_law_same" = some ⟨2, 3, b_law_same, false⟩
  pool : T "" "_law_pool" = some ⟨1, 3, b_law_pool, false⟩
  spread : T "" "_law_spread" = some ⟨1, 4, b_law_spread, false⟩
  draw : T "" "_law_draw" = some ⟨2, 5, b_law_draw, false⟩
  sounds : T "" "_law_sounds" = some ⟨1, 1, b_law_sounds, false⟩
  lot : T "" "_law_lot" = some ⟨2, 4, b_law_lot, false⟩
  word : T "" "_law_word" = some ⟨3, 4, b_law_word, false⟩
  slots : T "" "_law_slots" = some ⟨3, 5, b_law_slots, false⟩
  law : T "" "_law_law" = some ⟨2, 4, b_law_law, false⟩
  history : T "" "_law_history" = some ⟨3, 7, b_law_history, false⟩
/-- a pool: the script, the place, the cell, the number of draws, the salt -/
def PoolOb (o : Ob) : Prop := ∃ (ns : List Int) (i c k s : Int), o = .lst [.fz (ns.map .int), .int i, .int c, .int k, .int s] ∧ 0 ≤ i
theorem rng_get {a b : Int} {i : Nat} {x : D} (h : (rngD a b)[i]? = some x) : x = .int (a + (i : Nat)) ∧ (i : Int) < b - a := by
  unfold rngD at h
  rw [List.getElem?_map] at h
  obtain ⟨y, hy, rfl⟩ := Option.map_eq_some_iff.mp h
  obtain ⟨hl, e⟩ := List.getElem?_eq_some_iff.mp hy
  simp only [List.length_range] at hl
  rw [List.getElem_range] at e
  subst e
  exact ⟨rfl, by omega⟩
section
variable {T : Tb} {d : Nat} {h : Hh}
theorem spread_ok (hT : T "" "_law_spread" = some ⟨1, 4, b_law_spread, false⟩) (c : Int) : Ok (callF T (d + 1) "" "_law_spread" [.int c] h) fun v h1 => h1 = h ∧ ∃ i : Int, v = .int i := by
  refine W.fn hT rfl ?_
  unfold b_law_spread
  simp only [startD, List.map_cons, List.map_nil, List.cons_append, List.nil_append, List.length_cons, List.length_nil, List.replicate, Nat.reduceAdd, Nat.reduceSub]
  walk_at "S"
  refine W.forr ?_
  walk_at "S"
  refine ⟨_, rfl, by decide, fun i σ h' => ∃ a b o, σ = [some (.int c), some (.int a), some (.int b), o] ∧ h' = h, ⟨_, _, _, rfl, rfl⟩, fun _ _ _ _ => wat_nil _ _, ?_, ?_⟩
  · rintro i x σ h' hx ⟨a, b, o, rfl, rfl⟩
    obtain ⟨rfl, _⟩ := rng_get hx
    refine ⟨_, rfl, ?_⟩
    walk_at "S"
    exact ⟨_, _, _, rfl, rfl⟩
  · rintro σ h' ⟨a, b, o, rfl, rfl⟩
    walk_at "S"
    refine W.en ?_
    rw [fin_self]
    refine Ok.ok ?_
    exact ⟨rfl, _, rfl⟩
/-- what a draw tells: a number below many, and the pool goes on -/
def Drawn (l : Nat) (h : Hh) (P : D → Prop) (v : D) (h1 : Hh) : Prop := P v ∧ ∃ ob, h1 = h.set l ob ∧ PoolOb ob
theorem draw_ok (G : GT T) {l : Nat} {o : Ob} {many : Int} (hl : h[l]? = some o) (hp : PoolOb o) (h0 : 0 < many) (h1 : many < 1073741824) :
    Ok (callF T (d + 2) "" "_law_draw" [.ref l, .int many] h) (Drawn l h fun v => ∃ i : Int, v = .int i ∧ 0 ≤ i ∧ i < many) := by
  obtain ⟨ns, i, c, k, s, rfl, hi⟩ := hp
  refine W.fn G.draw rfl ?_
  unfold b_law_draw
  simp only [startD, List.map_cons, List.map_nil, List.cons_append, List.nil_append, List.length_cons, List.length_nil, List.replicate, Nat.reduceAdd, Nat.reduceSub]
  refine W.cons ?_
  refine Ok.mono (Q := fun f h1 => ∃ i c σ2, f = .nx [some (.ref l), some (.int many), σ2, none, none] ∧ h1 = h.set l (.lst [.fz (ns.map .int), .int i, .int c, .int k, .int s]) ∧ 0 ≤ i) ?_ ?_
  · have same : h = h.set l (.lst [.fz (ns.map .int), .int i, .int c, .int k, .int s]) := by
      obtain ⟨hlt, e⟩ := List.getElem?_eq_some_iff.mp hl
      rw [← e, List.set_getElem_self]
    walk_at "S"
    refine ⟨_, rfl, fun _ => ?_, fun _ => ⟨_, rfl, fun hc => (nomatch hc), fun _ => W.nil ⟨i, c, none, rfl, same, hi⟩⟩⟩
    walk_at "S"
    refine ⟨_, rfl, fun hc => ?_, fun _ => W.nil ⟨i, c, none, rfl, same, hi⟩⟩
    simp only [decide_eq_true_eq] at hc
    obtain ⟨x, ex, ex2⟩ := W.atI_some hi hc
    obtain ⟨n, hn⟩ : ∃ n : Int, x = .int n := by
      have := List.mem_of_getElem? ex2
      obtain ⟨n, _, e⟩ := List.mem_map.mp this
      exact ⟨n, e.symm⟩
    subst hn
    walk_at "S"
    refine ⟨.int n, ex, ?_⟩
    walk_at "S"
    refine ⟨_, rfl, fun _ => ?_, fun _ => ?_⟩
    · walk_at "S"
      refine (spread_ok G.spread n).mono fun v h2 z => ?_
      obtain ⟨rfl, b, rfl⟩ := z
      walk_at "S"
      refine ⟨i + 1, b, _, rfl, ?_, by omega⟩
      simp only [List.set_set, List.set_cons_zero, List.set_cons_succ]
      rfl
    · walk_at "S"
      refine ⟨i + 1, n, _, rfl, ?_, by omega⟩
      simp only [List.set_set, List.set_cons_zero, List.set_cons_succ]
      rfl
  rintro f h2 ⟨i, c, σ2, rfl, rfl, hi⟩
  have hl := W.get_set (ob := .lst [.fz (ns.map .int), .int i, .int c, .int k, .int s]) hl
  walk_at "S"
  refine ⟨_, rfl, fun _ => ?_, fun hc => ?_⟩
  · walk_at "S"
    refine ⟨_, W.modK h0, ?_⟩
    walk_at "S"
    refine W.en ?_
    rw [fin_same (by simp)]
    refine Ok.ok ⟨⟨_, rfl, Int.emod_nonneg _ (by omega), Int.emod_lt_of_pos _ h0⟩, .lst [.fz (ns.map .int), .int i, .int c, .int (k + 1), .int s], ?_, ?_⟩
    · simp only [List.set_set]
      rfl
    · exact ⟨ns, i, c, _, s, rfl, hi⟩
  · walk_at "S"
    refine ⟨_, W.modK h0, ?_⟩
    walk_at "S"
    refine ⟨_, W.divK h0 h1, ?_⟩
    walk_at "S"
    refine W.en ?_
    rw [fin_same (by simp)]
    refine Ok.ok ⟨⟨_, rfl, Int.emod_nonneg _ (by omega), Int.emod_lt_of_pos _ h0⟩, .lst [.fz (ns.map .int), .int i, .int (c / many), .int (k + 1), .int s], ?_, ?_⟩
    · simp only [List.set_set]
      rfl
    · exact ⟨ns, i, _, _, s, rfl, hi⟩
/-- the pool at l as it goes on from h -/
def At (l : Nat) (h h' : Hh) : Prop := ∃ ob, h' = h.set l ob ∧ PoolOb ob ∧ h'[l]? = some ob
theorem At.start {l : Nat} {o : Ob} (hl : h[l]? = some o) (hp : PoolOb o) : At l h h := by
  refine ⟨o, ?_, hp, hl⟩
  obtain ⟨hlt, e⟩ := List.getElem?_eq_some_iff.mp hl
  rw [← e, List.set_getElem_self]
theorem At.trans {l : Nat} {h1 h2 : Hh} (a : At l h h1) (b : At l h1 h2) : At l h h2 := by
  obtain ⟨o, rfl, p, e⟩ := a
  obtain ⟨o2, rfl, p2, e2⟩ := b
  exact ⟨o2, by rw [List.set_set], p2, e2⟩
theorem At.len {l : Nat} {h1 : Hh} (a : At l h h1) : h1.length = h.length := by
  obtain ⟨o, rfl, p, e⟩ := a
  rw [List.length_set]
theorem At.at {l : Nat} {h1 : Hh} (a : At l h h1) : At l h1 h1 := by
  obtain ⟨o, _, p, e⟩ := a
  exact At.start e p
theorem At.other {l j : Nat} {h1 : Hh} (a : At l h h1) (hj : j ≠ l) : h1[j]? = h[j]? := by
  obtain ⟨o, rfl, p, e⟩ := a
  rw [List.getElem?_set_ne (Ne.symm hj)]
theorem draw_at (G : GT T) {l : Nat} {h0 : Hh} {many : Int} (a : At l h0 h) (h1 : 0 < many) (h2 : many < 1073741824) :
    Ok (callF T (d + 2) "" "_law_draw" [.ref l, .int many] h) fun v h' => (∃ i : Int, v = .int i ∧ 0 ≤ i ∧ i < many) ∧ At l h0 h' := by
  obtain ⟨o, e, p, hl⟩ := a
  refine (draw_ok G hl p h1 h2).mono fun v h' q => ⟨q.1, ?_⟩
  obtain ⟨ob, rfl, pb⟩ := q.2
  refine At.trans ⟨o, e, p, hl⟩ ⟨ob, rfl, pb, W.get_set hl⟩
theorem strs_map {α : Type} (f : α → List Nat) : ∀ xs : List α, strsOf (xs.map fun x => .str (f x)) = some (xs.map f)
  | [] => rfl
  | x :: xs => by simp only [List.map_cons, strsOf, strs_map f xs, Option.map_some]
theorem joined_nil : ∀ ss : List (List Nat), joined [] ss = ss.flatten
  | [] => rfl
  | [x] => by simp [joined]
  | x :: y :: r => by rw [joined, joined_nil]; simp
theorem join_map {α : Type} (f : α → List Nat) {xs : List α} (hl : ((xs.map f).map List.length).sum ≤ line) : o2F .join h (.str []) (.lv (xs.map fun x => .str (f x))) = some (.str (xs.map f).flatten) := by
  simp only [o2F, items, strs_map f xs, List.length_nil, Nat.mul_zero, Nat.add_zero, if_pos hl, joined_nil]
theorem flatten_ones (cs : List Nat) : (cs.map fun c => [c]).flatten = cs := by
  induction cs with
  | nil => rfl
  | cons c cs ih => simp [ih]
theorem sum_ones (cs : List Nat) : ((cs.map fun c => [c]).map List.length).sum = cs.length := by
  induction cs with
  | nil => rfl
  | cons c cs ih => simp only [List.map_cons, List.sum_cons, ih, List.length_cons, List.length_nil]; omega
theorem join_ones {cs : List Nat} (hl : cs.length ≤ line) : o2F .join h (.str []) (.lv (cs.map fun c => .str [c])) = some (.str cs) := by
  have := join_map (h := h) (fun c => [c]) (xs := cs) (by rw [sum_ones]; exact hl)
  rw [flatten_ones] at this
  exact this
theorem idx_str {s : List Nat} {i : Int} (hs : s.length ≤ line) (h0 : 0 ≤ i) (h1 : i < s.length) : ∃ c, o2F .idx h (.str s) (.int i) = some (.str [c]) ∧ s[i.toNat]? = some c := by
  obtain ⟨c, e, e2⟩ := W.atI_some h0 h1
  refine ⟨c, ?_, e2⟩
  simp only [o2F, if_pos hs, e, Option.map_some]
theorem len_str {s : List Nat} (hs : s.length ≤ line) : o1F .len h (.str s) = some (.int s.length) := by
  simp only [o1F, if_pos hs]
theorem small_of {i : Int} (h0 : 0 ≤ i) (h1 : i < 1073741824) : small i = true := by
  simp only [small, Bool.and_eq_true, decide_eq_true_eq]
  omega
/-- a word of up to most sounds -/
theorem word_ok (G : GT T) {l : Nat} {h0 : Hh} {s : List Nat} {most : Int} (a : At l h0 h) (hs : s ≠ []) (hs2 : s.length < 1000) (hm : 0 ≤ most) (hm2 : most < 1000) :
    Ok (callF T (d + 3) "" "_law_word" [.ref l, .str s, .int most] h) fun v h' => (∃ w, v = .str w ∧ (∀ c ∈ w, c ∈ s) ∧ (w.length : Int) ≤ most) ∧ At l h0 h' := by
  have hsl : s.length ≤ line := by unfold line; omega
  have hpos : 0 < s.length := List.length_pos_iff.mpr hs
  refine W.fn G.word rfl ?_
  unfold b_law_word
  simp only [startD, List.map_cons, List.map_nil, List.cons_append, List.nil_append, List.length_cons, List.length_nil, List.replicate, Nat.reduceAdd, Nat.reduceSub]
  walk_at "S"
  refine W.comp ?_
  walk_at "S"
  refine (draw_at G a (by omega) (by omega)).mono fun v h1 q => ?_
  obtain ⟨⟨k, rfl, k0, k1⟩, a1⟩ := q
  refine ⟨k, rfl, small_of k0 (by omega), fun i ys h' => ∃ cs : List Nat, ys = cs.map (fun c => D.str [c]) ∧ cs.length = i ∧ (∀ c ∈ cs, c ∈ s) ∧ At l h0 h', ⟨[], rfl, rfl, by simp, a1⟩, fun _ _ _ _ => wat_nil _ _, ?_, ?_⟩
  · rintro i x ys h' hx ⟨cs, rfl, hc, hin, a2⟩
    obtain ⟨rfl, _⟩ := rng_get hx
    refine ⟨_, rfl, ?_⟩
    walk_at "S"
    refine ⟨fun _ => ?_, fun hf => (nomatch hf)⟩
    walk_at "S"
    refine ⟨_, len_str hsl, ?_⟩
    walk_at "S"
    refine (draw_at G a2 (by omega) (by omega)).mono fun v h3 q => ?_
    obtain ⟨⟨j, rfl, j0, j1⟩, a3⟩ := q
    obtain ⟨c, e, e2⟩ := idx_str (h := h3) hsl j0 j1
    refine ⟨_, e, cs ++ [c], by simp [D.keep], by simp [hc], fun b hb => ?_, a3⟩
    rcases List.mem_append.mp hb with hb | hb
    · exact hin b hb
    · rw [List.mem_singleton.mp hb]; exact List.mem_of_getElem? e2
  · rintro ys h' ⟨cs, rfl, hc, hin, a2⟩
    simp only [rngD, List.length_map, List.length_range] at hc
    have hl : cs.length ≤ line := by unfold line; omega
    refine ⟨by simpa using hl, ?_⟩
    refine ⟨_, join_ones hl, ?_⟩
    walk_at "S"
    refine W.en ?_
    rw [fin_same (by rw [a2.len, a.len])]
    exact Ok.ok ⟨⟨cs, rfl, hin, by omega⟩, a2⟩
/-- a lot: some of the sounds, as they are ordered -/
theorem lot_ok (G : GT T) {l : Nat} {h0 : Hh} {s : List Nat} (a : At l h0 h) (hs : s ≠ []) (hs2 : s.length < 1000) :
    Ok (callF T (d + 3) "" "_law_lot" [.ref l, .str s] h) fun v h' => (∃ w, v = .str w ∧ w ≠ [] ∧ w.Sublist s) ∧ At l h0 h' := by
  have hsl : s.length ≤ line := by unfold line; omega
  have hpos : 0 < s.length := List.length_pos_iff.mpr hs
  refine W.fn G.lot rfl ?_
  unfold b_law_lot
  simp only [startD, List.map_cons, List.map_nil, List.cons_append, List.nil_append, List.length_cons, List.length_nil, List.replicate, Nat.reduceAdd, Nat.reduceSub]
  walk_at "S"
  refine W.comp ?_
  refine W.val ?_
  walk_at "S"
  refine ⟨_, rfl, fun i ys h' => ∃ cs : List Nat, ys = cs.map (fun c => D.str [c]) ∧ cs.Sublist (s.take i) ∧ At l h0 h', ⟨[], rfl, by simp, a⟩, fun _ _ _ _ => wat_nil _ _, ?_, ?_⟩
  · rintro i x ys h' hx ⟨cs, rfl, hc, a2⟩
    rw [List.getElem?_map] at hx
    obtain ⟨c, hc2, rfl⟩ := Option.map_eq_some_iff.mp hx
    refine ⟨_, rfl, ?_⟩
    walk_at "S"
    refine (draw_at G a2 (by decide) (by decide)).mono fun v h3 q => ?_
    obtain ⟨⟨j, rfl, j0, j1⟩, a3⟩ := q
    walk_at "S"
    refine ⟨_, rfl, fun _ => ?_, fun _ => ?_⟩
    · walk_at "S"
      refine ⟨cs ++ [c], by simp [D.keep], ?_, a3⟩
      rw [List.take_succ, hc2]
      exact List.Sublist.append hc (List.Sublist.refl _)
    · refine ⟨cs, by simp, ?_, a3⟩
      rw [List.take_succ, hc2]
      exact hc.trans (List.sublist_append_left _ _)
  · rintro ys h' ⟨cs, rfl, hc, a2⟩
    rw [List.length_map, List.take_length] at hc
    have hl : cs.length ≤ line := Nat.le_trans hc.length_le hsl
    refine ⟨by simpa using hl, ?_⟩
    refine ⟨_, join_ones hl, ?_⟩
    walk_at "S"
    refine ⟨_, rfl, fun hk => ?_, fun _ => ?_⟩
    · walk_at "S"
      refine W.en ?_
      rw [fin_same (by rw [a2.len, a.len])]
      exact Ok.ok ⟨⟨cs, rfl, by simpa using hk, hc⟩, a2⟩
    · walk_at "S"
      refine ⟨_, len_str hsl, ?_⟩
      walk_at "S"
      refine (draw_at G a2 (by omega) (by omega)).mono fun v h3 q => ?_
      obtain ⟨⟨j, rfl, j0, j1⟩, a3⟩ := q
      obtain ⟨c, e, e2⟩ := idx_str (h := h3) hsl j0 j1
      refine ⟨_, e, ?_⟩
      walk_at "S"
      refine W.en ?_
      rw [fin_same (by rw [a3.len, a.len])]
      exact Ok.ok ⟨⟨[c], rfl, by simp, List.singleton_sublist.mpr (List.mem_of_getElem? e2)⟩, a3⟩
theorem ints_und (n : Nat) : ∀ xs : List Int, D.undAll n (xs.map D.int) = true
  | [] => by simp only [List.map_nil, D.undAll]
  | x :: xs => by simp only [List.map_cons, D.undAll, D.und, ints_und n xs, Bool.and_self]
/-- what was made meanwhile is dropped -/
theorem fin_at {l : Nat} {h1 ex : Hh} {v : D} (a : At l h h1) (hv : v.und h.length = true) (hf : ∀ l, v ≠ .ref l) (hx : ex ≠ []) : fin h (h1 ++ ex) v = .ok v h1 := by
  have hl := a.len
  have hfz : freeze (h1 ++ ex) h.length v = v := by
    cases v <;> first | rfl | exact absurd rfl (hf _)
  have hu : undV h.length v = true := by
    cases v <;> first | exact hv | (simp only [D.und] at hv; cases hv)
  rw [fin_drop (by rw [List.length_append, hl]; have := List.length_pos_iff.mpr hx; omega) (by rw [hfz]; exact hu) ?_, hfz, ← hl, List.take_left']
  · rfl
  · intro j o hj e
    rw [List.getElem?_append_left (by rw [hl]; exact hj)] at e
    by_cases hjl : j = l
    · subst hjl
      obtain ⟨ob, rfl, p, e2⟩ := a
      rw [e2] at e
      cases e
      obtain ⟨ns, i, c, k, s, rfl, _⟩ := p
      refine .inr ?_
      simp only [Ob.und, D.undAll, D.und, Bool.and_true, ints_und]
    · exact .inl (by rw [← a.other hjl]; exact e)
theorem strs_und {α : Type} (f : α → List Nat) (n : Nat) : ∀ xs : List α, D.undAll n (xs.map fun x => .str (f x)) = true
  | [] => by simp only [List.map_nil, D.undAll]
  | x :: xs => by simp only [List.map_cons, D.undAll, D.und, strs_und f n xs, Bool.and_self]
theorem At.lt {l : Nat} {h1 : Hh} (a : At l h h1) : l < h1.length := by
  obtain ⟨o, _, _, e⟩ := a
  exact (List.getElem?_eq_some_iff.mp e).1
theorem At.app {l : Nat} {h1 : Hh} (a : At l h h1) (ex : Hh) : At l (h1 ++ ex) (h1 ++ ex) := by
  have hl := a.lt
  obtain ⟨o, _, p, e⟩ := a
  exact At.start (o := o) (by rw [List.getElem?_append_left hl]; exact e) p
theorem At.unapp {l : Nat} {h1 h2 ex : Hh} (a : At l h h1) (b : At l (h1 ++ ex) h2) : ∃ h3, h2 = h3 ++ ex ∧ At l h h3 := by
  have hl := a.lt
  obtain ⟨o, rfl, p, e⟩ := b
  have e2 : (h1 ++ ex).set l o = h1.set l o ++ ex := by rw [List.set_append_left _ _ hl]
  refine ⟨h1.set l o, e2, a.trans ⟨o, rfl, p, ?_⟩⟩
  rw [e2, List.getElem?_append_left (by rw [List.length_set]; exact hl)] at e
  exact e
theorem last_get {h1 : Hh} {o : Ob} : (h1 ++ [o])[h1.length]? = some o := by
  rw [List.getElem?_append_right (Nat.le_refl _), Nat.sub_self]; rfl
theorem last_set {h1 : Hh} {o o2 : Ob} : (h1 ++ [o]).set h1.length o2 = h1 ++ [o2] := by
  rw [List.set_append_right _ _ (Nat.le_refl _), Nat.sub_self]; rfl
/-- a lot of sounds -/
def Lot (s x : List Nat) : Prop := x ≠ [] ∧ x.Sublist s
/-- slots: lots, perhaps one of them the edge -/
def Slots (edge : Int) (s : List Nat) (ss : List (List Nat)) : Prop := ss.length ≤ 2 ∧ ((∀ x ∈ ss, Lot s x) ∨ ∃ (ts : List (List Nat)) (j : Nat), (∀ x ∈ ts, Lot s x) ∧ j < ts.length ∧ (j = if edge = 0 then 0 else ts.length - 1) ∧ ss = ts.set j [35])
theorem pick5 {j : Int} (h0 : 0 ≤ j) (h1 : j < 5) : ∃ n : Int, o2F .idx h (.tup [.int 0, .int 0, .int 1, .int 1, .int 2]) (.int j) = some (.int n) ∧ 0 ≤ n ∧ n ≤ 2 := by
  have : j = 0 ∨ j = 1 ∨ j = 2 ∨ j = 3 ∨ j = 4 := by omega
  rcases this with rfl | rfl | rfl | rfl | rfl <;> exact ⟨_, rfl, by decide, by decide⟩
theorem slots_ok (G : GT T) {l : Nat} {h0 : Hh} {s : List Nat} {edge : Int} (a : At l h0 h) (hs : s ≠ []) (hs2 : s.length < 1000) :
    Ok (callF T (d + 4) "" "_law_slots" [.ref l, .str s, .int edge] h) fun v h' => (∃ ss, v = .tup (ss.map D.str) ∧ Slots edge s ss) ∧ At l h0 h' := by
  refine W.fn G.slots rfl ?_
  unfold b_law_slots
  simp only [startD, List.map_cons, List.map_nil, List.cons_append, List.nil_append, List.length_cons, List.length_nil, List.replicate, Nat.reduceAdd, Nat.reduceSub]
  refine W.cons ?_
  refine W.set ?_
  refine W.alcL ?_
  refine W.comp ?_
  walk_at "S"
  refine (draw_at G a (by decide) (by decide)).mono fun v h1 q => ?_
  obtain ⟨⟨j, rfl, j0, j1⟩, a1⟩ := q
  obtain ⟨n, en, n0, n1⟩ := pick5 (h := h1) j0 j1
  refine ⟨_, en, n, rfl, small_of n0 (by omega), fun i ys h' => ∃ ss : List (List Nat), ys = ss.map D.str ∧ ss.length = i ∧ (∀ x ∈ ss, Lot s x) ∧ At l h0 h', ⟨[], rfl, rfl, by simp, a1⟩, fun _ _ _ _ => wat_nil _ _, ?_, ?_⟩
  · rintro i x ys h' hx ⟨ss, rfl, hc, hin, a2⟩
    obtain ⟨rfl, _⟩ := rng_get hx
    refine ⟨_, rfl, ?_⟩
    walk_at "S"
    refine ⟨fun _ => ?_, fun hf => (nomatch hf)⟩
    walk_at "S"
    refine (lot_ok G a2 hs hs2).mono fun v h3 q => ?_
    obtain ⟨⟨w, rfl, w0, w1⟩, a3⟩ := q
    refine ⟨ss ++ [w], by simp [D.keep], by simp [hc], fun x hx => ?_, a3⟩
    rcases List.mem_append.mp hx with hx | hx
    · exact hin x hx
    · rw [List.mem_singleton.mp hx]; exact ⟨w0, w1⟩
  rintro ys h2 ⟨ss, rfl, hc, hin, a2⟩
  simp only [rngD, List.length_map, List.length_range] at hc
  have hc2 : ss.length ≤ 2 := by omega
  refine ⟨by rw [List.length_map]; unfold line; omega, _, rfl, by simp, W.nx ?_⟩
  -- the end, with what the slots have become
  have done : ∀ (h3 : Hh) (ts : List (List Nat)), At l h0 h3 → Slots edge s ts → Ok (evSs (callF T (d + 3)) [.ret (.o1 .tuple (.var 3))] [some (.ref l), some (.str s), some (.int edge), some (.ref h2.length), none] (h3 ++ [.lst (ts.map D.str)])) (W.En h fun v h' => (∃ ss, v = .tup (ss.map D.str) ∧ Slots edge s ss) ∧ At l h0 h') := by
    intro h3 ts a3 hts
    walk_at "S"
    have e3 : (h3 ++ [Ob.lst (ts.map D.str)])[h2.length]? = some (.lst (ts.map D.str)) := by
      rw [a2.len, ← a3.len]; exact last_get
    refine ⟨.tup (ts.map D.str), by simp only [o1F, seqs, items, e3, Option.map_some], ?_⟩
    walk_at "S"
    refine W.en ?_
    have a4 : At l h h3 := by
      obtain ⟨o, e, p, e2⟩ := a
      obtain ⟨o3, e5, p3, e6⟩ := a3
      exact ⟨o3, by rw [e5, e, List.set_set], p3, e6⟩
    rw [fin_at a4 (by simp only [D.und]; exact strs_und _ _ _) (fun _ => by simp) (by simp)]
    exact Ok.ok ⟨⟨ts, rfl, hts⟩, a3⟩
  have e3 : (h2 ++ [Ob.lst (ss.map D.str)])[h2.length]? = some (.lst (ss.map D.str)) := last_get
  have plain : Slots edge s ss := ⟨hc2, .inl hin⟩
  refine W.cons ?_
  refine W.cond (W.and (W.o2 (W.lenR rfl e3 ?_)))
  walk_at "S"
  refine ⟨_, rfl, fun hk => ?_, fun _ => ⟨_, rfl, fun hf => (nomatch hf), fun _ => W.nil (W.nx (done h2 ss a2 plain))⟩⟩
  simp only [decide_eq_true_eq, List.length_map] at hk
  walk_at "S"
  refine (draw_at G (a2.app [Ob.lst (ss.map D.str)]) (by decide) (by decide)).mono fun v h3 q => ?_
  obtain ⟨⟨j, rfl, j0, j1⟩, a3⟩ := q
  obtain ⟨h4, rfl, a4⟩ := a2.unapp a3
  have len4 : h4.length = h2.length := by rw [a4.len, a2.len]
  have e4 : (h4 ++ [Ob.lst (ss.map D.str)])[h2.length]? = some (.lst (ss.map D.str)) := by rw [← len4]; exact last_get
  walk_at "S"
  refine ⟨_, rfl, fun hk2 => ?_, fun _ => W.nil (W.nx (done h4 ss a4 plain))⟩
  have put : ∀ j : Nat, j < ss.length → (j = if edge = 0 then 0 else ss.length - 1) → Ok (evSs (callF T (d + 3)) [.ret (.o1 .tuple (.var 3))] [some (.ref l), some (.str s), some (.int edge), some (.ref h2.length), none] ((h4 ++ [Ob.lst (ss.map D.str)]).set h2.length (.lst ((ss.map D.str).set j (.str [35]))))) (W.En h fun v h' => (∃ ss, v = .tup (ss.map D.str) ∧ Slots edge s ss) ∧ At l h0 h') := by
    intro j hj he
    rw [← len4, last_set, show (ss.map D.str).set j (.str [35]) = (ss.set j [35]).map D.str by rw [List.map_set]]
    rw [len4]
    exact done h4 _ a4 ⟨by rw [List.length_set]; exact hc2, .inr ⟨ss, j, hin, hj, he, rfl⟩⟩
  refine W.cons (W.seti ?_)
  walk_at "S"
  refine ⟨_, rfl, fun he => ?_, fun he => ?_⟩
  · walk_at "S"
    refine ⟨_, _, _, 0, rfl, rfl, e4, ?_, W.nx (W.nil (W.nx (put 0 (by omega) ?_)))⟩
    · simp only [ixN, List.length_map]
      rw [if_pos (by decide), if_pos (by omega)]
      rfl
    · rw [if_pos (by simpa using he)]
  · refine W.o2 (W.lenR rfl e4 ?_)
    walk_at "S"
    refine ⟨_, _, _, ss.length - 1, rfl, rfl, e4, ?_, W.nx (W.nil (W.nx (put _ (by omega) ?_)))⟩
    · simp only [ixN, List.length_map]
      rw [if_pos (by omega), if_pos (by omega)]
      congr 1
      omega
    · rw [if_neg (by simpa using he)]
structure Rule where
  ch : List (Nat × List Nat)
  bf : List (List Nat)
  bh : List (List Nat)
def chD (ch : List (Nat × List Nat)) : List D := ch.map fun p => .tup [.str [p.1], .str p.2]
def ruleD (r : Rule) : D := .tup [.tup (chD r.ch), .tup (r.bf.map D.str), .tup (r.bh.map D.str)]
structure ChOk (s : List Nat) (ch : List (Nat × List Nat)) : Prop where
  sub : (ch.map (·.1)).Sublist s
  ne : ch ≠ []
  out : ∀ p ∈ ch, (∀ c ∈ p.2, c ∈ s) ∧ p.2.length ≤ 2
structure RuleOk (s : List Nat) (r : Rule) : Prop where
  ch : ChOk s r.ch
  bf : Slots 0 s r.bf
  bh : Slots 1 s r.bh
theorem law_ok (G : GT T) {l : Nat} {h0 : Hh} {s : List Nat} (a : At l h0 h) (hs : s ≠ []) (hs2 : s.length < 1000) :
    Ok (callF T (d + 5) "" "_law_law" [.ref l, .str s] h) fun v h' => (∃ r, v = ruleD r ∧ RuleOk s r) ∧ At l h0 h' := by
  have hsl : s.length ≤ line := by unfold line; omega
  have hpos : 0 < s.length := List.length_pos_iff.mpr hs
  refine W.fn G.law rfl ?_
  unfold b_law_law
  simp only [startD, List.map_cons, List.map_nil, List.cons_append, List.nil_append, List.length_cons, List.length_nil, List.replicate, Nat.reduceAdd, Nat.reduceSub]
  refine W.cons (W.set (W.o1 (W.comp (W.val ?_))))
  walk_at "S"
  refine ⟨_, rfl, fun i ys h' => ∃ ch : List (Nat × List Nat), ys = chD ch ∧ (ch.map (·.1)).Sublist (s.take i) ∧ (∀ p ∈ ch, (∀ c ∈ p.2, c ∈ s) ∧ p.2.length ≤ 2) ∧ At l h0 h', ⟨[], rfl, by simp, by simp, a⟩, fun _ _ _ _ => wat_nil _ _, ?_, ?_⟩
  · rintro i x ys h' hx ⟨ch, rfl, hc, hin, a2⟩
    rw [List.getElem?_map] at hx
    obtain ⟨c, hc2, rfl⟩ := Option.map_eq_some_iff.mp hx
    refine ⟨_, rfl, ?_⟩
    walk_at "S"
    refine (draw_at G a2 (by decide) (by decide)).mono fun v h3 q => ?_
    obtain ⟨⟨j, rfl, j0, j1⟩, a3⟩ := q
    walk_at "S"
    refine ⟨_, rfl, fun _ => ?_, fun _ => ?_⟩
    · walk_at "S"
      refine (word_ok G a3 hs hs2 (by decide) (by decide)).mono fun v h4 q => ?_
      obtain ⟨⟨w, rfl, w0, w1⟩, a4⟩ := q
      walk_at "S"
      refine ⟨ch ++ [(c, w)], by simp [chD, D.keep], ?_, fun p hp => ?_, a4⟩
      · rw [List.take_succ, hc2, List.map_append]
        exact List.Sublist.append hc (List.Sublist.refl _)
      · rcases List.mem_append.mp hp with hp | hp
        · exact hin p hp
        · rw [List.mem_singleton.mp hp]; exact ⟨w0, by simp only; omega⟩
    · refine ⟨ch, by simp, ?_, hin, a3⟩
      rw [List.take_succ, hc2]
      exact hc.trans (List.sublist_append_left _ _)
  rintro ys h2 ⟨ch, rfl, hc, hin, a2⟩
  rw [List.length_map, List.take_length] at hc
  have hlen : ch.length ≤ s.length := by have := hc.length_le; simpa using this
  refine ⟨by simp only [chD, List.length_map]; omega, _, rfl, by simp, W.nx ?_⟩
  have done : ∀ (h3 : Hh) (ch : List (Nat × List Nat)), At l h0 h3 → ChOk s ch → Ok (evSs (callF T (d + 4)) [(.ret (.tup [(.var 2), (.call "" "_law_slots" [(.var 0), (.var 1), (.cst (.int 0))]), (.call "" "_law_slots" [(.var 0), (.var 1), (.cst (.int 1))])]))] [some (.ref l), some (.str s), some (.tup (chD ch)), none] h3) (W.En h fun v h' => (∃ r, v = ruleD r ∧ RuleOk s r) ∧ At l h0 h') := by
    intro h3 ch a3 hch
    walk_at "S"
    refine (slots_ok G a3 hs hs2).mono fun v h4 q => ?_
    obtain ⟨⟨ss, rfl, q1⟩, a4⟩ := q
    walk_at "S"
    refine (slots_ok G a4 hs hs2).mono fun v h5 q => ?_
    obtain ⟨⟨ts, rfl, q2⟩, a5⟩ := q
    walk_at "S"
    refine W.en ?_
    rw [fin_same (by rw [a5.len, a.len])]
    exact Ok.ok ⟨⟨⟨ch, ss, ts⟩, rfl, hch, q1, q2⟩, a5⟩
  refine W.cons ?_
  walk_at "S"
  refine ⟨_, rfl, fun hk => ?_, fun hk => W.nil (W.nx (done h2 ch a2 ⟨hc, fun e => ?_, hin⟩))⟩
  · obtain ⟨c, e, e2⟩ := idx_str (h := h2) (i := 0) hsl (by decide) (by omega)
    walk_at "S"
    refine ⟨_, e, ?_⟩
    walk_at "S"
    refine (word_ok G a2 hs hs2 (by decide) (by decide)).mono fun v h4 q => ?_
    obtain ⟨⟨w, rfl, w0, w1⟩, a4⟩ := q
    walk_at "E"
    refine W.nx (W.nil (W.nx ?_))
    exact done h4 [(c, w)] a4 ⟨List.singleton_sublist.mpr (List.mem_of_getElem? e2), by simp, fun p hp => by rw [List.mem_singleton.mp hp]; exact ⟨w0, by simp only; omega⟩⟩
  · subst e
    simp [chD] at hk
theorem addT {xs ys : List D} (hl : xs.length + ys.length ≤ line) : o2F .add h (.tup xs) (.tup ys) = some (.tup (xs ++ ys)) := by
  simp only [o2F, if_pos hl]
theorem Slots.nil (e : Int) (s : List Nat) : Slots e s [] := ⟨by simp, .inl (by simp)⟩
theorem history_ok (G : GT T) {l : Nat} {h0 : Hh} {s : List Nat} {most : Int} (a : At l h0 h) (hs : s ≠ []) (hs2 : s.length < 1000) (hm : 0 ≤ most) (hm2 : most < 1000) :
    Ok (callF T (d + 6) "" "_law_history" [.ref l, .str s, .int most] h) fun v h' => (∃ rs : List Rule, v = .tup (rs.map ruleD) ∧ (∀ r ∈ rs, RuleOk s r) ∧ (rs.length : Int) ≤ most) ∧ At l h0 h' := by
  refine W.fn G.history rfl ?_
  unfold b_law_history
  simp only [startD, List.map_cons, List.map_nil, List.cons_append, List.nil_append, List.length_cons, List.length_nil, List.replicate, Nat.reduceAdd, Nat.reduceSub]
  refine W.cons (W.setT ?_)
  walk_at "S"
  refine ⟨_, rfl, W.nx (W.cons (W.forr ?_))⟩
  walk_at "S"
  refine (draw_at G a (by omega) (by omega)).mono fun v h1 q => ?_
  obtain ⟨⟨k, rfl, k0, k1⟩, a1⟩ := q
  refine ⟨k, rfl, small_of k0 (by omega), fun i σ h' => ∃ (rs : List Rule) (n : Int) (o5 o6 : Option D), σ = [some (.ref l), some (.str s), some (.int most), some (.tup (rs.map ruleD)), some (.int n), o5, o6] ∧ rs.length = i ∧ (∀ r ∈ rs, RuleOk s r) ∧ At l h0 h',
    ⟨[], 0, none, none, rfl, rfl, by simp, a1⟩, fun _ _ _ _ => wat_nil _ _, ?_, ?_⟩
  · rintro i x σ h' hx ⟨rs, n, o5, o6, rfl, hc, hin, a2⟩
    obtain ⟨rfl, hi⟩ := rng_get hx
    refine ⟨_, rfl, ?_⟩
    walk_at "S"
    refine (law_ok G a2 hs hs2).mono fun v h3 q => ?_
    obtain ⟨⟨r, rfl, hr⟩, a3⟩ := q
    walk_at "S"
    have hl : (rs.map ruleD).length + 1 ≤ line := by rw [List.length_map]; unfold line; omega
    refine ⟨_, rfl, fun _ => ?_, fun _ => ?_⟩
    · walk_at "S"
      refine ⟨_, addT hl, ?_⟩
      walk_at "S"
      refine ⟨rs ++ [r], _, _, _, (by simp only [List.map_append, List.map_cons, List.map_nil]; rfl), by simp [hc], fun x hx => ?_, a3⟩
      · rcases List.mem_append.mp hx with hx | hx
        · exact hin x hx
        · rw [List.mem_singleton.mp hx]; exact hr
    · walk_at "S"
      refine ⟨_, addT hl, ?_⟩
      walk_at "S"
      refine ⟨rs ++ [⟨r.ch, [], []⟩], _, _, _, (by simp only [List.map_append, List.map_cons, List.map_nil]; rfl), by simp [hc], fun x hx => ?_, a3⟩
      · rcases List.mem_append.mp hx with hx | hx
        · exact hin x hx
        · rw [List.mem_singleton.mp hx]; exact ⟨hr.ch, Slots.nil _ _, Slots.nil _ _⟩
  · rintro σ h' ⟨rs, n, o5, o6, rfl, hc, hin, a2⟩
    simp only [rngD, List.length_map, List.length_range] at hc
    walk_at "S"
    refine W.en ?_
    rw [fin_same (by rw [a2.len, a.len])]
    exact Ok.ok ⟨⟨rs, rfl, hin, by omega⟩, a2⟩
/-- the sounds that are drawn -/
def Sounds (s : List Nat) : Prop := s = [97, 98] ∨ s = [97, 98, 99] ∨ s = [97]
theorem sounds_ok (G : GT T) {l : Nat} {h0 : Hh} (a : At l h0 h) : Ok (callF T (d + 3) "" "_law_sounds" [.ref l] h) fun v h' => (∃ s, v = .str s ∧ Sounds s) ∧ At l h0 h' := by
  refine W.fn G.sounds rfl ?_
  unfold b_law_sounds
  simp only [startD, List.map_cons, List.map_nil, List.cons_append, List.nil_append, List.length_cons, List.length_nil, List.replicate, Nat.reduceAdd, Nat.reduceSub]
  walk_at "S"
  refine (draw_at G a (by decide) (by decide)).mono fun v h1 q => ?_
  obtain ⟨⟨j, rfl, j0, j1⟩, a1⟩ := q
  have pick : ∃ s, o2F .idx h1 (.tup [.str [97, 98], .str [97, 98, 99], .str [97], .str [97, 98]]) (.int j) = some (.str s) ∧ Sounds s := by
    have : j = 0 ∨ j = 1 ∨ j = 2 ∨ j = 3 := by omega
    rcases this with rfl | rfl | rfl | rfl
    · exact ⟨_, rfl, .inl rfl⟩
    · exact ⟨_, rfl, .inr (.inl rfl)⟩
    · exact ⟨_, rfl, .inr (.inr rfl)⟩
    · exact ⟨_, rfl, .inl rfl⟩
  obtain ⟨s, e, hs⟩ := pick
  refine ⟨_, e, ?_⟩
  walk_at "S"
  refine W.en ?_
  rw [fin_same (by rw [a1.len, a.len])]
  exact Ok.ok ⟨⟨s, rfl, hs⟩, a1⟩
theorem Sounds.ne {s : List Nat} (hs : Sounds s) : s ≠ [] := by rcases hs with rfl | rfl | rfl <;> simp
theorem Sounds.len {s : List Nat} (hs : Sounds s) : s.length ≤ 3 := by rcases hs with rfl | rfl | rfl <;> simp
theorem Sounds.nodup {s : List Nat} (hs : Sounds s) : s.Nodup := by rcases hs with rfl | rfl | rfl <;> decide
theorem pool_ok (G : GT T) (ns : List Int) : Ok (callF T (d + 1) "" "_law_pool" [.fz (ns.map .int)] h) fun v h' => h' = h ∧ ∃ xs, v = .lv xs ∧ PoolOb (.lst xs) := by
  refine W.fn G.pool rfl ?_
  unfold b_law_pool
  simp only [startD, List.map_cons, List.map_nil, List.cons_append, List.nil_append, List.length_cons, List.length_nil, List.replicate, Nat.reduceAdd, Nat.reduceSub]
  walk_at "S"
  refine W.forr ?_
  walk_at "S"
  refine ⟨_, rfl, fun i σ h' => ∃ (n : Int) (o : Option D), σ = [some (.fz (ns.map .int)), some (.int n), o] ∧ h' = h, ⟨_, _, rfl, rfl⟩, fun _ _ _ _ => wat_nil _ _, ?_, ?_⟩
  · rintro i x σ h' hx ⟨n, o, rfl, rfl⟩
    have hm := List.mem_of_getElem? hx
    have hm2 : x ∈ ns.map D.int := by
      have := List.mem_of_mem_take hm
      exact List.mem_of_mem_drop this
    obtain ⟨m, _, rfl⟩ := List.mem_map.mp hm2
    refine ⟨_, rfl, ?_⟩
    walk_at "S"
    exact ⟨_, _, rfl, rfl⟩
  · rintro σ h' ⟨n, o, rfl, rfl⟩
    walk_at "S"
    refine W.en ?_
    rw [fin_self]
    exact Ok.ok ⟨rfl, _, rfl, ns, 0, 0, 0, n, rfl, by decide⟩
end
end Gen
end Sd

/-! GenB: what is the same is told to be the same. -/
namespace Sd
namespace Gen
section
variable {T : Tb} {d : Nat} {h : Hh}
/-- plain data: no dicts, no objects, at most n deep -/
def dat : Nat → D → Bool
  | _, .non => true
  | _, .bl _ => true
  | _, .int _ => true
  | _, .str _ => true
  | n + 1, .tup xs => xs.all (dat n) && decide (xs.length ≤ 1000000)
  | n + 1, .fz xs => xs.all (dat n) && decide (xs.length ≤ 1000000)
  | _, _ => false
theorem dat_keep {n : Nat} {x : D} (hx : dat n x = true) : x.keep = x := by
  cases x <;> first | rfl | (cases n <;> simp [dat] at hx)
theorem same_items {n : Nat} {xs : List D} {v u : D} {R : Fl → Hh → Prop} (r : R (.rt (.bl true)) h) (ih : ∀ x ∈ xs, Ok (callF T (d + n + 1) "" "_law_same" [x, x] h) fun v h' => v = .bl true ∧ h' = h) (hkx : ∀ x ∈ xs, x.keep = x) (hl : xs.length ≤ 1000000)
    (hlen : o1F .len h u = some (.int xs.length)) (hidx : ∀ i : Nat, o2F .idx h v (.int (0 + (i : Nat))) = atI xs (0 + (i : Nat))) (hidu : ∀ i : Nat, o2F .idx h u (.int (0 + (i : Nat))) = atI xs (0 + (i : Nat))) :
    Ok (evSs (callF T (d + n + 1)) [(.ret (.o2 .eq (.o1 .len (.comp [2] (.var 2) (.n 2) (.rng (.o1 .len (.var 1))) [(.o1 .not (.call "" "_law_same" [(.o2 .idx (.var 0) (.var 2)), (.o2 .idx (.var 1) (.var 2))]))])) (.cst (.int 0))))] [some v, some u, none] h)
      R := by
  refine W.cons (W.ret (W.o2 (W.o1 (W.compM (fun _ => []) (W.rng (W.o1 (W.var rfl ?_)))))))
  have hnil : (rngD 0 xs.length).flatMap (fun _ => ([] : List D)) = [] := by simp
  refine ⟨_, hlen, _, rfl, ?_, ?_, ?_, ?_⟩
  · simp only [small, Bool.and_eq_true, decide_eq_true_eq]; omega
  · intro x hx
    obtain ⟨i, hi⟩ := List.getElem?_of_mem hx
    obtain ⟨rfl, hlt⟩ := rng_get hi
    have hlt' : i < xs.length := by omega
    have e0 : atI xs (0 + (i : Nat)) = some xs[i] := by
      obtain ⟨y, e1, e2⟩ := W.atI_some (xs := xs) (i := 0 + (i : Nat)) (by omega) (by omega)
      rw [e1, ← e2]
      rw [show ((0 : Int) + (i : Nat)).toNat = i by omega]
      exact List.getElem?_eq_getElem hlt'
    have hk := hkx _ (List.getElem_mem hlt')
    refine ⟨_, rfl, ?_⟩
    refine W.ts1 (W.o1 (W.call (W.es (W.o2 (W.var rfl (W.var rfl ⟨xs[i], by rw [hidx, e0], W.es (W.o2 (W.var rfl (W.var rfl ⟨xs[i], by rw [hidu, e0], W.es0 ?_⟩)))⟩))))))
    rw [hk]
    refine (ih _ (List.getElem_mem hlt')).mono fun v h' q => ?_
    obtain ⟨rfl, rfl⟩ := q
    walk_at "S"
    exact ⟨rfl, rfl⟩
  · rw [hnil]; simp [line]
  · rw [hnil]
    refine ⟨_, rfl, ?_⟩
    walk_at "E"
    exact r
theorem same_leaf (G : GT T) (x : D) (hx : dat 0 x = true) : Ok (callF T (d + 1) "" "_law_same" [x, x] h) fun v h' => v = .bl true ∧ h' = h := by
  refine W.fn G.same rfl ?_
  unfold b_law_same
  simp only [startD, List.map_cons, List.map_nil, List.cons_append, List.nil_append, List.length_cons, List.length_nil, List.replicate, Nat.reduceAdd, Nat.reduceSub]
  cases x with
  | non =>
    walk_at "S"
    refine W.en ?_
    rw [fin_self]
    exact Ok.ok ⟨rfl, rfl⟩
  | bl b =>
    cases b <;> (
      walk_at "S"
      refine W.en ?_
      rw [fin_self]
      exact Ok.ok ⟨rfl, rfl⟩)
  | int i =>
    walk_at "S"
    refine W.en ?_
    rw [fin_self]
    exact Ok.ok ⟨by simp [D.keep], rfl⟩
  | str i =>
    walk_at "S"
    refine W.en ?_
    rw [fin_self]
    exact Ok.ok ⟨by simp [D.keep], rfl⟩
  | _ => simp [dat] at hx
theorem same_ok (G : GT T) : ∀ (n : Nat) (x : D), dat n x = true → Ok (callF T (d + n + 1) "" "_law_same" [x, x] h) fun v h' => v = .bl true ∧ h' = h := by
  intro n
  induction n with
  | zero => exact fun x hx => same_leaf G x hx
  | succ n ih =>
    intro x hx
    cases x with
    | fz xs =>
      simp only [dat, Bool.and_eq_true, List.all_eq_true, decide_eq_true_eq] at hx
      refine W.fn G.same rfl ?_
      unfold b_law_same
      simp only [startD, List.map_cons, List.map_nil, List.cons_append, List.nil_append, List.length_cons, List.length_nil, List.replicate, Nat.reduceAdd, Nat.reduceSub]
      walk_at "S"
      refine ⟨_, rfl, fun hf => absurd hf (by simp), fun _ => ?_⟩
      refine W.nil (W.nx ?_)
      have hend : W.En h (fun v h' => v = .bl true ∧ h' = h) (.rt (.bl true)) h := by
        refine W.en ?_
        rw [fin_self]
        exact Ok.ok ⟨rfl, rfl⟩
      exact same_items (T := T) (d := d) (h := h) (v := .fz xs) (u := .fz xs) (W.rt hend) (fun x hm => ih x (hx.1 x hm)) (fun x hm => dat_keep (hx.1 x hm)) hx.2 rfl (fun _ => rfl) (fun _ => rfl)
    | tup xs =>
      simp only [dat, Bool.and_eq_true, List.all_eq_true, decide_eq_true_eq] at hx
      refine W.fn G.same rfl ?_
      unfold b_law_same
      simp only [startD, List.map_cons, List.map_nil, List.cons_append, List.nil_append, List.length_cons, List.length_nil, List.replicate, Nat.reduceAdd, Nat.reduceSub]
      walk_at "S"
      refine ⟨_, rfl, fun hf => absurd hf (by simp), fun _ => ?_⟩
      refine W.nil (W.nx ?_)
      have hend : W.En h (fun v h' => v = .bl true ∧ h' = h) (.rt (.bl true)) h := by
        refine W.en ?_
        rw [fin_self]
        exact Ok.ok ⟨rfl, rfl⟩
      exact same_items (T := T) (d := d) (h := h) (v := .tup xs) (u := .tup xs) (W.rt hend) (fun x hm => ih x (hx.1 x hm)) (fun x hm => dat_keep (hx.1 x hm)) hx.2 rfl (fun _ => rfl) (fun _ => rfl)
    | lv _ => simp [dat] at hx
    | fd _ _ => simp [dat] at hx
    | dv _ _ => simp [dat] at hx
    | ref _ => simp [dat] at hx
    | fdn _ _ => simp [dat] at hx
    | dvn _ _ => simp [dat] at hx
    | bm _ _ _ => simp [dat] at hx
    | _ =>
      rw [show d + (n + 1) + 1 = (d + (n + 1)) + 1 from rfl]
      exact same_leaf G _ rfl
/-- a list and one that may change, of the same items -/
theorem same_ref (G : GT T) {n : Nat} {xs : List D} {l : Nat} (hx : ∀ x ∈ xs, dat n x = true) (hl : xs.length ≤ 1000000) (hr : h[l]? = some (.lst xs)) : Ok (callF T (d + (n + 1) + 1) "" "_law_same" [.fz xs, .ref l] h) fun v h' => v = .bl true ∧ h' = h := by
  have i1 : o1F (.isi .tup) h (.ref l) = some (.bl false) := by simp only [o1F, isTy, hr, Option.map_some]; rfl
  have i2 : o1F (.isi .lst) h (.ref l) = some (.bl true) := by simp only [o1F, isTy, hr, Option.map_some]; rfl
  have i3 : o1F .len h (.ref l) = some (.int xs.length) := by simp only [o1F, seqs, items, hr]
  refine W.fn G.same rfl ?_
  unfold b_law_same
  simp only [startD, List.map_cons, List.map_nil, List.cons_append, List.nil_append, List.length_cons, List.length_nil, List.replicate, Nat.reduceAdd, Nat.reduceSub]
  refine W.cons (W.cond (W.or (W.o1 (W.var rfl ⟨_, i1, _, rfl, fun _ => W.o1 (W.var rfl ⟨_, i2, _, rfl, fun _ => ?_, fun hf => Bool.noConfusion hf⟩), fun hf => Bool.noConfusion hf⟩))))
  refine W.cons (W.cond (W.or (W.o2 (W.o1 (W.var rfl ⟨_, i1, W.o1 (W.var rfl ⟨_, rfl, _, rfl, _, rfl, fun _ => W.o2 (W.o1 (W.var rfl ⟨_, i2, W.o1 (W.var rfl ⟨_, rfl, _, rfl, _, rfl, fun hf => Bool.noConfusion hf, fun _ => W.nil (W.nx ?_)⟩)⟩)), fun hf => Bool.noConfusion hf⟩)⟩)))))
  refine W.cons (W.cond (W.o2 (W.o1 (W.var rfl ⟨_, rfl, W.o1 (W.var rfl ⟨_, i3, _, W.neI, _, rfl, fun hf => absurd hf (by simp), fun _ => W.nil (W.nx ?_)⟩)⟩))))
  have hend : W.En h (fun v h' => v = .bl true ∧ h' = h) (.rt (.bl true)) h := by
    refine W.en ?_
    rw [fin_self]
    exact Ok.ok ⟨rfl, rfl⟩
  exact same_items (T := T) (d := d) (n := n) (h := h) (v := .fz xs) (u := .ref l) (W.rt hend) (fun x hm => same_ok G n x (hx x hm)) (fun x hm => dat_keep (hx x hm)) hl i3 (fun _ => rfl) (fun i => by simp only [o2F, seqs, items, hr])
end
end Gen
end Sd

/-! MachA: stands of rules and of histories, in plain words. -/
namespace Sd
namespace Mach
open Gen
open PySem (PyData NestedKey)
/-! ### sorted, of items that have one form -/
def sortG {α : Type} (eP : α → PyData) (xs : List α) : List α := xs.mergeSort (fun a b => PySem.W.dataLe false eP a b)
theorem sortG_perm {α : Type} (eP : α → PyData) (xs : List α) : (sortG eP xs).Perm xs := List.mergeSort_perm _ _
theorem pds_map {α : Type} {h : Hh} {n : Nat} {eD : α → D} {eP : α → PyData} (hpd : ∀ a, pd h n (eD a) = some (eP a)) : ∀ xs : List α, mapO (pd h n) (xs.map eD) = some (xs.map eP)
  | [] => rfl
  | x :: xs => by simp [mapO, hpd x, pds_map hpd xs]
theorem zip_maps {α β γ : Type} (f : α → β) (g : α → γ) : ∀ xs : List α, (xs.map f).zip (xs.map g) = xs.map fun a => (f a, g a)
  | [] => rfl
  | x :: xs => by simp [zip_maps f g xs]
theorem sortedF_map {α : Type} {h : Hh} {eD : α → D} {eP : α → PyData} (hpd : ∀ a, pd h deep (eD a) = some (eP a)) {xs : List α} (hal : ∀ a ∈ xs, ∀ b ∈ xs, PySem.W.alike (eP a) (eP b) = true)
    (hk : (xs.length ≤ 1 ∧ ∀ a ∈ xs, notNon (eP a) = true) ∨ (∀ a ∈ xs, isTup1 (eP a) = true) ∨ ∀ a ∈ xs, notTN (eP a) = true) (hl : xs.length ≤ line) : sortedF h (xs.map eD) = some ((sortG eP xs).map eD) := by
  unfold sortedF
  rw [show pds h deep (xs.map eD) = some (xs.map eP) from pds_map hpd xs]
  have c : (((xs.map eP).all fun x => (xs.map eP).all fun y => PySem.W.alike x y) && (decide ((xs.map eP).length ≤ 1) && (xs.map eP).all notNon || (xs.map eP).all isTup1 || (xs.map eP).all notTN) && decide ((xs.map eD).length ≤ line)) = true := by
    simp only [Bool.and_eq_true, Bool.or_eq_true, decide_eq_true_eq, List.all_eq_true, List.mem_map, List.length_map]
    refine ⟨⟨?_, ?_⟩, hl⟩
    · rintro _ ⟨a, ha, rfl⟩ _ ⟨b, hb, rfl⟩
      exact hal a ha b hb
    · rcases hk with ⟨h1, h2⟩ | h1 | h1
      · exact .inl (.inl ⟨h1, by rintro _ ⟨a, ha, rfl⟩; exact h2 a ha⟩)
      · exact .inl (.inr (by rintro _ ⟨a, ha, rfl⟩; exact h1 a ha))
      · exact .inr (by rintro _ ⟨a, ha, rfl⟩; exact h1 a ha)
  show (if _ then _ else _) = _
  rw [if_pos c, zip_maps]
  congr 1
  unfold sortG
  have e := List.map_mergeSort (r := fun a b => PySem.W.dataLe false eP a b) (s := PySem.W.dataLe false Prod.snd) (f := fun a => (eD a, eP a)) (l := xs) (fun a _ b _ => rfl)
  rw [← e, List.map_map]
  rfl

/-! ### flags -/
abbrev Fg := List Bool
def fgD (f : Fg) : D := .tup (f.map .bl)
def fgP (f : Fg) : PyData := .tuple (f.map .bool)
def fgK (f : Fg) : NestedKey := .tup (f.map fun b => .num (if b then 1 else 0))
def fgs : Nat → List Fg
  | 0 => [[]]
  | n + 1 => (fgs n).flatMap fun f => [false :: f, true :: f]
theorem fgs_mem : ∀ f : Fg, f ∈ fgs f.length
  | [] => by simp [fgs]
  | b :: f => by
    simp only [List.length_cons, fgs, List.mem_flatMap]
    exact ⟨f, fgs_mem f, by cases b <;> simp⟩
theorem fgs_len : ∀ n, (fgs n).length = 2 ^ n
  | 0 => rfl
  | n + 1 => by
    have : ∀ l : List Fg, (l.flatMap fun f => [false :: f, true :: f]).length = 2 * l.length := by
      intro l
      induction l with
      | nil => rfl
      | cons x l ih => simp only [List.flatMap_cons, List.length_append, List.length_cons, List.length_nil, ih]; omega
    rw [fgs, this, fgs_len n, Nat.pow_succ]; omega
theorem mapO_map {α β γ : Type} {f : β → Option γ} {e : α → β} {g : α → γ} (h : ∀ a, f (e a) = some (g a)) : ∀ xs : List α, mapO f (xs.map e) = some (xs.map g)
  | [] => rfl
  | x :: xs => by simp [mapO, h x, mapO_map h xs]
theorem pd_tup {h : Hh} {n : Nat} {xs : List D} : pd h (n + 1) (.tup xs) = (mapO (pd h n) xs).map .tuple := rfl
theorem nk_tup {n : Nat} {xs : List D} : nk (n + 1) (.tup xs) = (mapO (nk n) xs).map .tup := rfl
theorem fg_pd {h : Hh} {n : Nat} (f : Fg) : pd h (n + 2) (fgD f) = some (fgP f) := by
  unfold fgD fgP
  rw [pd_tup, mapO_map (f := pd h (n + 1)) (g := PyData.bool) (fun b => rfl)]
  rfl
theorem fg_nk {n : Nat} (f : Fg) : nk (n + 2) (fgD f) = some (fgK f) := by
  unfold fgD fgK
  rw [nk_tup, mapO_map (f := nk (n + 1)) (g := fun b => NestedKey.num (if b then 1 else 0)) (fun b => rfl)]
  rfl
theorem notin_seq {h : Hh} {x v : D} {ys : List D} (hx : ∀ s, x ≠ .str s) (hv : seqs h v = some ys) : o2F .notin h x v = (memF h x ys).map fun b => .bl (!b) := by
  cases x <;> first | exact absurd rfl (hx _) | simp only [o2F, hv]
theorem fg_und (n : Nat) (f : Fg) : (fgD f).und n = true := by
  simp only [fgD, D.und]
  exact undAll_map (fun b => by simp [D.und]) f
theorem fg_inj {f g : Fg} (e : fgD f = fgD g) : f = g := by
  simp only [fgD, D.tup.injEq] at e
  exact (List.map_inj_right (fun x y h => by simpa using h)).mp e
theorem fgK_inj {f g : Fg} (e : fgK f = fgK g) : f = g := by
  simp only [fgK, NestedKey.tup.injEq] at e
  refine (List.map_inj_right (fun x y h => ?_)).mp e
  cases x <;> cases y <;> first | rfl | simp at h
theorem alike_bools : ∀ xs ys : List Bool, PySem.W.alikeAll (xs.map PyData.bool) (ys.map PyData.bool) = true
  | [], _ => by simp [PySem.W.alikeAll]
  | _ :: _, [] => by simp [PySem.W.alikeAll]
  | x :: xs, y :: ys => by simp [PySem.W.alikeAll, PySem.W.alike, alike_bools xs ys]
theorem fg_alike (f g : Fg) : PySem.W.alike (fgP f) (fgP g) = true := by simp [fgP, PySem.W.alike, alike_bools]
theorem eqv_bools : ∀ xs ys : List Bool, PyData.eqvAll (xs.map PyData.bool) (ys.map PyData.bool) = decide (xs = ys)
  | [], [] => by simp [PyData.eqvAll]
  | [], _ :: _ => by simp [PyData.eqvAll]
  | _ :: _, [] => by simp [PyData.eqvAll]
  | x :: xs, y :: ys => by
    simp only [List.map_cons, PyData.eqvAll, PyData.eqv, eqv_bools xs ys]
    cases x <;> cases y <;> by_cases h : xs = ys <;> simp [h]
theorem fg_eqv (f g : Fg) : PyData.eqv (fgP f) (fgP g) = decide (f = g) := by simp only [fgP, PyData.eqv, eqv_bools]
theorem fg_eq {h : Hh} (f g : Fg) : o2F .eq h (fgD f) (fgD g) = some (.bl (decide (f = g))) := by
  simp only [o2F, eqF, deep, fg_pd (n := 58), fg_eqv, Option.map_some]
theorem fg_ne {h : Hh} (f g : Fg) : o2F .ne h (fgD f) (fgD g) = some (.bl (!decide (f = g))) := by
  simp only [o2F, eqF, deep, fg_pd (n := 58), fg_eqv, Option.map_some]
theorem any_eqv {α : Type} [DecidableEq α] {eP : α → PyData} (he : ∀ a b, PyData.eqv (eP a) (eP b) = decide (a = b)) (k : α) : ∀ xs : List α, ((xs.map eP).any fun q => PyData.eqv q (eP k)) = decide (k ∈ xs)
  | [] => by simp
  | x :: xs => by
    simp only [List.map_cons, List.any_cons, he, any_eqv he k xs]
    by_cases h : x = k
    · subst h; simp
    · have : ¬ k = x := fun z => h z.symm
      simp [h, this]
/-- k not in xs, xs a list -/
theorem notin_list {α : Type} [DecidableEq α] {h : Hh} {eD : α → D} {eP : α → PyData} (hns : ∀ a s, eD a ≠ .str s) (hpd : ∀ a, pd h deep (eD a) = some (eP a)) (he : ∀ a b, PyData.eqv (eP a) (eP b) = decide (a = b)) {v : D} {xs : List α} {k : α} (hv : seqs h v = some (xs.map eD)) :
    o2F .notin h (eD k) v = some (.bl (!decide (k ∈ xs))) := by
  have hm : memF h (eD k) (xs.map eD) = some (decide (k ∈ xs)) := by
    unfold memF
    rw [hpd k, show pds h deep (xs.map eD) = some (xs.map eP) from pds_map hpd xs]
    simp only [any_eqv he]
  rw [notin_seq (hns k) hv, hm]
  rfl
/-! ### what a rule knows -/
def befStart (r : Rule) : Fg := (List.range r.bf.length).map fun k => decide (k = 0) && decide (r.bf.getD 0 [] = [35])
def befStep (r : Rule) (f : Fg) (c : Nat) : Fg := (List.range r.bf.length).map fun k => (r.bf.getD k []).contains c && (decide (k = 0) || f.getD (k - 1) false)
def behEnd (r : Rule) : Fg := (List.range r.bh.length).map fun k => decide (k + 1 = r.bh.length) && decide (r.bh.getD k [] = [35])
def behStep (r : Rule) (f : Fg) (c : Nat) : Fg := (List.range r.bh.length).map fun k => (r.bh.getD k []).contains c && (decide (k + 1 = r.bh.length) || f.getD (k + 1) false)
@[simp] theorem befStart_len (r : Rule) : (befStart r).length = r.bf.length := by simp [befStart]
@[simp] theorem befStep_len (r : Rule) (f : Fg) (c : Nat) : (befStep r f c).length = r.bf.length := by simp [befStep]
@[simp] theorem behEnd_len (r : Rule) : (behEnd r).length = r.bh.length := by simp [behEnd]
@[simp] theorem behStep_len (r : Rule) (f : Fg) (c : Nat) : (behStep r f c).length = r.bh.length := by simp [behStep]
/-- a search, the last of what is left first -/
def srch {α : Type} [DecidableEq α] (nx : α → List α) : Nat → List α → List α → List α
  | 0, found, _ => found
  | n + 1, found, left => match left.getLast? with
    | none => found
    | some k => if k ∈ found then srch nx n found left.dropLast else srch nx n (found ++ [k]) (left.dropLast ++ nx k)
theorem srch_nil {α : Type} [DecidableEq α] (nx : α → List α) (n : Nat) (found : List α) : srch nx n found [] = found := by cases n <;> rfl
theorem srch_step {α : Type} [DecidableEq α] (nx : α → List α) (n : Nat) (found left : List α) (k : α) : srch nx (n + 1) found (left ++ [k]) = if k ∈ found then srch nx n found left else srch nx n (found ++ [k]) (left ++ nx k) := by
  simp [srch]
/-- how many of u are not found yet -/
def rest {α : Type} [DecidableEq α] (u found : List α) : Nat := (u.filter fun x => decide (x ∉ found)).length
theorem rest_down {α : Type} [DecidableEq α] {u found : List α} {k : α} (hk : k ∈ u) (hn : k ∉ found) : rest u (found ++ [k]) + 1 ≤ rest u found := by
  unfold rest
  have e : (u.filter fun x => decide (x ∉ found ++ [k])) = (u.filter fun x => decide (x ∉ found)).filter fun x => decide (x ≠ k) := by
    rw [List.filter_filter]
    refine List.filter_congr fun x _ => ?_
    by_cases h1 : x ∈ found <;> by_cases h2 : x = k <;> simp [h1, h2]
  rw [e]
  have : ((u.filter fun x => decide (x ∉ found)).filter fun x => decide (x ≠ k)).length < (u.filter fun x => decide (x ∉ found)).length := by
    rw [List.length_filter_lt_length_iff_exists]
    exact ⟨k, List.mem_filter.mpr ⟨hk, by simpa using hn⟩, by simp⟩
  omega
theorem rest_le {α : Type} [DecidableEq α] (u found : List α) : rest u found ≤ u.length := List.length_filter_le _ _
def beh0 (r : Rule) (s : List Nat) : List Fg := srch (fun k => s.map (behStep r k)) 100 [] [behEnd r]
def beh (r : Rule) (s : List Nat) : List Fg := sortG fgP (beh0 r s)
/-- what is found has the form and stands once -/
theorem srch_mem {α : Type} [DecidableEq α] {nx : α → List α} {P : α → Prop} (hnx : ∀ k, P k → ∀ x ∈ nx k, P x) : ∀ (n : Nat) (found left : List α), found.Nodup → (∀ x ∈ found, P x) → (∀ x ∈ left, P x) → (srch nx n found left).Nodup ∧ ∀ x ∈ srch nx n found left, P x
  | 0, found, left, h1, h2, h3 => ⟨h1, h2⟩
  | n + 1, found, left, h1, h2, h3 => by
    unfold srch
    split
    · exact ⟨h1, h2⟩
    · rename_i k hk
      have hkl : k ∈ left := List.mem_of_getLast? hk
      have hd : ∀ x ∈ left.dropLast, P x := fun x hx => h3 x (List.dropLast_subset _ hx)
      split
      · exact srch_mem hnx n _ _ h1 h2 hd
      · rename_i hn
        refine srch_mem hnx n _ _ ?_ ?_ ?_
        · rw [List.nodup_append]
          exact ⟨h1, by simp, fun a ha b hb => by rw [List.mem_singleton.mp hb]; exact fun e => hn (e ▸ ha)⟩
        · intro x hx
          rcases List.mem_append.mp hx with hx | hx
          · exact h2 x hx
          · rw [List.mem_singleton.mp hx]; exact h3 k hkl
        · intro x hx
          rcases List.mem_append.mp hx with hx | hx
          · exact hd x hx
          · exact hnx k (h3 k hkl) x hx
theorem beh0_ok (r : Rule) (s : List Nat) : (beh0 r s).Nodup ∧ ∀ f ∈ beh0 r s, f.length = r.bh.length := by
  refine srch_mem (P := fun f => f.length = r.bh.length) (fun k _ x hx => ?_) 100 [] [behEnd r] List.nodup_nil (fun x hx => by simp at hx) fun x hx => ?_
  · obtain ⟨c, _, rfl⟩ := List.mem_map.mp hx
    exact behStep_len _ _ _
  · rw [List.mem_singleton.mp hx]; exact behEnd_len r
theorem beh_ok (r : Rule) (s : List Nat) : (beh r s).Nodup ∧ ∀ f ∈ beh r s, f.length = r.bh.length := by
  have p := sortG_perm fgP (beh0 r s)
  obtain ⟨h1, h2⟩ := beh0_ok r s
  exact ⟨p.nodup_iff.mpr h1, fun f hf => h2 f (p.mem_iff.mp hf)⟩
theorem beh_le {r : Rule} {s : List Nat} (hb : r.bh.length ≤ 2) : (beh r s).length ≤ 4 := by
  obtain ⟨h1, h2⟩ := beh_ok r s
  have := nodup_le h1 fun f hf => (h2 f hf) ▸ fgs_mem f
  rw [fgs_len] at this
  have h4 : 2 ^ r.bh.length ≤ 2 ^ 2 := Nat.pow_le_pow_right (by decide) hb
  omega
/-! ### stands -/
abbrev RS := Fg × Fg
def rsD (x : RS) : D := .tup [fgD x.1, fgD x.2]
def rsP (x : RS) : PyData := .tuple [fgP x.1, fgP x.2]
def rsK (x : RS) : NestedKey := .tup [fgK x.1, fgK x.2]
abbrev St := List RS
def stD (x : St) : D := .tup (x.map rsD)
def stP (x : St) : PyData := .tuple (x.map rsP)
def stK (x : St) : NestedKey := .tup (x.map rsK)
def outOf (r : Rule) (b k : Fg) (c : Nat) : List Nat := if (decide (r.bf.length = 0) || b.getLast?.getD false) && (decide (r.bh.length = 0) || k.head?.getD false) then (r.ch.lookup c).getD [c] else [c]
def rSteps (r : Rule) (s : List Nat) (x : RS) (c : Nat) : List (RS × List Nat) := (beh r s).filterMap fun k => if behStep r k c = x.2 then some ((befStep r x.1 c, k), outOf r x.1 k c) else none
def rowD (x : RS × List Nat) : D := .tup [rsD x.1, .str x.2]
def runF (r : Rule) (s : List Nat) (x : RS) (w : List Nat) : List (RS × List Nat) := w.foldl (fun rows c => rows.flatMap fun p => (rSteps r s p.1 c).map fun q => (q.1, p.2 ++ q.2)) [(x, [])]
def srowD (x : St × List Nat) : D := .tup [stD x.1, .str x.2]
/-- the steps of the rules, one behind the other -/
def stepsG (s : List Nat) (rows : List (St × List Nat)) : List (Rule × RS) → List (St × List Nat)
  | [] => rows
  | (r, x) :: rest => stepsG s (rows.flatMap fun p => (runF r s x p.2).map fun q => (p.1 ++ [q.1], q.2)) rest
def stepsF (hist : List Rule) (s : List Nat) (st : St) (c : Nat) : List (St × List Nat) := stepsG s [([], [c])] (hist.zip st)
def rStarts (r : Rule) (s : List Nat) : List RS := (beh r s).map fun k => (befStart r, k)
def startsG (s : List Nat) (found : List St) : List Rule → List St
  | [] => found
  | r :: rs => startsG s (found.flatMap fun st => (rStarts r s).map fun x => st ++ [x]) rs
def startsF (hist : List Rule) (s : List Nat) : List St := startsG s [[]] hist
def rEnd (r : Rule) (x : RS) : Bool := decide (x.2 = behEnd r)
def endF (hist : List Rule) (st : St) : Bool := (hist.zip st).all fun p => rEnd p.1 p.2
end Mach
end Sd

/-! MachP: stands.py, each def as it is carried out. -/
namespace Sd
namespace Mach
open Gen
def b_before_start : List S := [
  (.set (.n 1) (.o2 .idx (.var 0) (.cst (.int 1)))),
  (.ret (.o1 .tuple (.comp [2] (.and (.o2 .eq (.var 2) (.cst (.int 0))) (.o2 .eq (.o2 .idx (.var 1) (.cst (.int 0))) (.cst (.str [35])))) (.n 2) (.rng (.o1 .len (.var 1))) [])))]

def b_before_step : List S := [
  (.set (.n 3) (.o2 .idx (.var 0) (.cst (.int 1)))),
  (.set (.n 4) (.alc (.lst []))),
  (.forr (.n 5) (.rng (.o1 .len (.var 3))) [(.app (.var 4) (.and (.o2 .isin (.var 2) (.o2 .idx (.var 3) (.var 5))) (.or (.o2 .eq (.var 5) (.cst (.int 0))) (.o2 .idx (.var 1) (.o2 .sub (.var 5) (.cst (.int 1)))))))]),
  (.ret (.o1 .tuple (.var 4)))]

def b_behind_end : List S := [
  (.set (.n 1) (.o2 .idx (.var 0) (.cst (.int 2)))),
  (.ret (.o1 .tuple (.comp [2] (.and (.o2 .eq (.var 2) (.o2 .sub (.o1 .len (.var 1)) (.cst (.int 1)))) (.o2 .eq (.o2 .idx (.var 1) (.var 2)) (.cst (.str [35])))) (.n 2) (.rng (.o1 .len (.var 1))) [])))]

def b_behind_step : List S := [
  (.set (.n 3) (.o2 .idx (.var 0) (.cst (.int 2)))),
  (.set (.n 4) (.alc (.lst []))),
  (.forr (.n 5) (.rng (.o1 .len (.var 3))) [(.app (.var 4) (.and (.o2 .isin (.var 2) (.o2 .idx (.var 3) (.var 5))) (.or (.o2 .eq (.var 5) (.o2 .sub (.o1 .len (.var 3)) (.cst (.int 1)))) (.o2 .idx (.var 1) (.o2 .add (.var 5) (.cst (.int 1)))))))]),
  (.ret (.o1 .tuple (.var 4)))]

def b_all_behind : List S := [
  (.par 2 3 (.alc (.lst [])) (.alc (.lst [(.call "" "behind_end" [(.var 0)])]))),
  (.whl (.o2 .gt (.o1 .len (.var 3)) (.cst (.int 0))) [(.set (.n 4) (.pop (.var 3))), (.cond (.o2 .notin (.var 4) (.var 2)) [(.app (.var 2) (.var 4)), (.ext (.var 3) (.comp [5] (.call "" "behind_step" [(.var 0), (.var 4), (.var 5)]) (.n 5) (.val (.var 1)) []))] [])]),
  (.ret (.o1 .sorted (.var 2)))]

def b_rule_starts : List S := [
  (.ret (.comp [2] (.tup [(.call "" "before_start" [(.var 0)]), (.var 2)]) (.n 2) (.val (.call "" "all_behind" [(.var 0), (.var 1)])) []))]

def b_rule_steps : List S := [
  (.set (.t [4, 5]) (.var 2)),
  (.set (.n 6) (.alc (.lst []))),
  (.forr (.n 7) (.val (.call "" "all_behind" [(.var 0), (.var 1)])) [(.cond (.o2 .eq (.call "" "behind_step" [(.var 0), (.var 7), (.var 3)]) (.var 5)) [(.set (.n 8) (.and (.or (.o2 .eq (.o1 .len (.o2 .idx (.var 0) (.cst (.int 1)))) (.cst (.int 0))) (.o2 .idx (.var 4) (.o1 .neg (.cst (.int 1))))) (.or (.o2 .eq (.o1 .len (.o2 .idx (.var 0) (.cst (.int 2)))) (.cst (.int 0))) (.o2 .idx (.var 7) (.cst (.int 0)))))), (.set (.n 9) (.ife (.var 8) (.dget (.o1 .dict (.o2 .idx (.var 0) (.cst (.int 0)))) (.var 3) (.var 3)) (.var 3))), (.app (.var 6) (.tup [(.tup [(.call "" "before_step" [(.var 0), (.var 4), (.var 3)]), (.var 7)]), (.var 9)]))] [])]),
  (.ret (.var 6))]

def b_is_rule_end : List S := [
  (.ret (.o2 .eq (.o2 .idx (.var 1) (.cst (.int 1))) (.call "" "behind_end" [(.var 0)])))]

def b_Machine___init : List S := [
  (.seta (.var 0) ["Machine"] "sounds" (.var 1)),
  (.seta (.var 0) ["Machine"] "history" (.var 2)),
  (.seta (.var 0) ["Machine"] "known" (.alc .dict0))]

def b_Machine_starts : List S := [
  (.set (.n 1) (.lst [(.tup [])])),
  (.forr (.n 2) (.val (.att ["Machine"] (.var 0) "history")) [(.set (.n 1) (.comp2 [3, 4] (.o2 .add (.var 3) (.tup [(.var 4)])) (.n 3) (.val (.var 1)) [] (.n 4) (.val (.call "" "rule_starts" [(.var 2), (.att ["Machine"] (.var 0) "sounds")])) []))]),
  (.ret (.var 1))]

def b_Machine_rule_run : List S := [
  (.set (.n 4) (.lst [(.tup [(.var 2), (.cst (.str []))])])),
  (.forr (.n 5) (.val (.var 3)) [(.set (.n 6) (.alc (.lst []))), (.forr (.t [7, 8]) (.val (.var 4)) [(.forr (.t [9, 10]) (.val (.meth (.var 0) "rule_step" [(.var 1), (.var 7), (.var 5)])) [(.app (.var 6) (.tup [(.var 9), (.o2 .add (.var 8) (.var 10))]))])]), (.set (.n 4) (.var 6))]),
  (.ret (.var 4))]

def b_Machine_rule_step : List S := [
  (.set (.n 4) (.tup [(.var 1), (.var 2), (.var 3)])),
  (.cond (.o2 .notin (.var 4) (.att ["Machine"] (.var 0) "known")) [(.seti (.att ["Machine"] (.var 0) "known") (.var 4) (.call "" "rule_steps" [(.o2 .idx (.att ["Machine"] (.var 0) "history") (.var 1)), (.att ["Machine"] (.var 0) "sounds"), (.var 2), (.var 3)]))] []),
  (.ret (.o2 .idx (.att ["Machine"] (.var 0) "known") (.var 4)))]

def b_Machine_steps : List S := [
  (.set (.n 3) (.tup [(.var 1), (.var 2)])),
  (.cond (.o2 .notin (.var 3) (.att ["Machine"] (.var 0) "known")) [(.set (.n 4) (.lst [(.tup [(.tup []), (.var 2)])])), (.forr (.n 5) (.rng (.o1 .len (.att ["Machine"] (.var 0) "history"))) [(.set (.n 6) (.alc (.lst []))), (.forr (.t [7, 8]) (.val (.var 4)) [(.forr (.t [9, 10]) (.val (.meth (.var 0) "rule_run" [(.var 5), (.o2 .idx (.var 1) (.var 5)), (.var 8)])) [(.app (.var 6) (.tup [(.o2 .add (.var 7) (.tup [(.var 9)])), (.var 10)]))])]), (.set (.n 4) (.var 6))]), (.seti (.att ["Machine"] (.var 0) "known") (.var 3) (.var 4))] []),
  (.ret (.o2 .idx (.att ["Machine"] (.var 0) "known") (.var 3)))]

def b_Machine_is_end : List S := [
  (.ret (.o1 .all (.comp [2, 3] (.call "" "is_rule_end" [(.var 2), (.var 3)]) (.t [2, 3]) (.zip (.att ["Machine"] (.var 0) "history") (.var 1)) [])))]

structure MT (T : Tb) : Prop where
  before_start : T "" "before_start" = some ⟨1, 3, b_before_start, false⟩
  before_step : T "" "before_step" = some ⟨3, 6, b_before_step, false⟩
  behind_end : T "" "behind_end" = some ⟨1, 3, b_behind_end, false⟩
  behind_step : T "" "behind_step" = some ⟨3, 6, b_behind_step, false⟩
  all_behind : T "" "all_behind" = some ⟨2, 6, b_all_behind, false⟩
  rule_starts : T "" "rule_starts" = some ⟨2, 3, b_rule_starts, false⟩
  rule_steps : T "" "rule_steps" = some ⟨4, 10, b_rule_steps, false⟩
  is_rule_end : T "" "is_rule_end" = some ⟨2, 2, b_is_rule_end, false⟩
  init : T "Machine" "__init__" = some ⟨3, 3, b_Machine___init, false⟩
  starts : T "Machine" "starts" = some ⟨1, 5, b_Machine_starts, false⟩
  rule_run : T "Machine" "rule_run" = some ⟨4, 11, b_Machine_rule_run, false⟩
  rule_step : T "Machine" "rule_step" = some ⟨4, 5, b_Machine_rule_step, false⟩
  steps : T "Machine" "steps" = some ⟨3, 11, b_Machine_steps, true⟩
  is_end : T "Machine" "is_end" = some ⟨2, 4, b_Machine_is_end, false⟩
/-! ### leaves -/
section
variable {h : Hh}
theorem len_map {α : Type} {f : α → D} {xs : List α} {x : D} (hx : seqs h x = some (xs.map f)) (hs : ∀ s, x ≠ .str s) : o1F .len h x = some (.int xs.length) := by
  cases x <;> first | exact absurd rfl (hs _) | (simp only [o1F, hx, List.length_map])
theorem idx_map {α : Type} {f : α → D} {xs : List α} {i : Int} {k : Nat} {a : α} (hi : i = k) (ha : xs[k]? = some a) : atI (xs.map f) i = some (f a) := by
  subst hi
  have hk : k < xs.length := (List.getElem?_eq_some_iff.mp ha).1
  simp only [atI, ixN, List.length_map]
  rw [if_pos (by omega), if_pos (by omega)]
  simp only [Option.bind_some, Int.toNat_natCast, List.getElem?_map, ha, Option.map_some]
theorem idx_tup {xs : List D} {i : Int} : o2F .idx h (.tup xs) (.int i) = atI xs i := rfl
theorem isin_one {c : Nat} {x : List Nat} : o2F .isin h (.str [c]) (.str x) = some (.bl (x.contains c)) := rfl
/-- range -/
theorem rng_map {n : Int} {m : Nat} (hn : n = m) {F : D → List D} {g : Nat → D} (hF : ∀ p, p < m → F (.int (p : Nat)) = [g p]) : (rngD 0 n).flatMap F = (List.range m).map g := by
  subst hn
  unfold rngD
  rw [show ((m : Int) - 0).toNat = m by omega]
  have : ∀ l : List Nat, (∀ p ∈ l, p < m) → (l.map fun k => D.int (0 + (k : Nat))).flatMap F = l.map g := by
    intro l
    induction l with
    | nil => intro _; rfl
    | cons p l ih =>
      intro hl
      simp only [List.map_cons, List.flatMap_cons]
      rw [Int.zero_add, hF p (hl p List.mem_cons_self), ih fun q hq => hl q (List.mem_cons_of_mem _ hq)]
      rfl
  exact this _ fun p hp => List.mem_range.mp hp
theorem rng_mem {n : Int} {x : D} (hx : x ∈ rngD 0 n) : ∃ p : Nat, x = .int (p : Nat) ∧ (p : Int) < n := by
  obtain ⟨i, hi⟩ := List.getElem?_of_mem hx
  obtain ⟨rfl, hlt⟩ := rng_get hi
  exact ⟨i, by rw [Int.zero_add], by omega⟩
end
section
variable {T : Tb} {d : Nat} {h : Hh}
theorem flag_ok {r : Fg} {n : Nat} (hn : r.length = n) : o1F .tuple h (.lv (r.map .bl)) = some (fgD r) := rfl
theorem idxN_map {α : Type} {f : α → D} {xs : List α} {k : Nat} (d : α) (hk : k < xs.length) : o2F .idx h (.tup (xs.map f)) (.int (k : Nat)) = some (f (xs.getD k d)) := by
  refine idx_tup.trans (idx_map (k := k) rfl ?_)
  rw [List.getD_eq_getElem?_getD, List.getElem?_eq_getElem hk]; rfl
theorem before_start_ok (M : MT T) {r : Rule} (hr : r.bf.length ≤ 1000) : callF T (d + 1) "" "before_start" [ruleD r] h = .ok (fgD (befStart r)) h := by
  refine W.ofEq ?_
  refine W.fn M.before_start rfl ?_
  unfold b_before_start
  simp only [startD, List.map_cons, List.map_nil, List.cons_append, List.nil_append, List.length_cons, List.length_nil, List.replicate, Nat.reduceAdd, Nat.reduceSub]
  walk_at "S"
  refine W.compR (m := r.bf.length) (fun p => .bl (decide (p = 0) && decide (r.bf.getD 0 [] = [35]))) (by omega) (by simp [Sd.wipe]) ?_ (fun p hp => ?_) ?_
  · walk_at "S"
    exact ⟨by simp, rfl⟩
  · walk_at "S"
    refine ⟨_, rfl, fun h0 => ?_, fun h0 => ?_⟩
    · simp only [decide_eq_true_eq] at h0
      have hp0 : p = 0 := by omega
      subst hp0
      walk_at "E"
      refine ⟨_, idxN_map (k := 0) [] hp, ?_⟩
      walk_at "E"
      simp [D.keep]
    · simp only [decide_eq_false_iff_not] at h0
      have h1 : ¬ p = 0 := by omega
      simp [h1, D.keep]
  · walk_at "S"
    refine W.en ?_
    rw [fin_self]
    refine Ok.ok ⟨?_, rfl⟩
    simp [fgD, befStart, D.keep]
theorem behind_end_ok (M : MT T) {r : Rule} (hr : r.bh.length ≤ 1000) : callF T (d + 1) "" "behind_end" [ruleD r] h = .ok (fgD (behEnd r)) h := by
  refine W.ofEq ?_
  refine W.fn M.behind_end rfl ?_
  unfold b_behind_end
  simp only [startD, List.map_cons, List.map_nil, List.cons_append, List.nil_append, List.length_cons, List.length_nil, List.replicate, Nat.reduceAdd, Nat.reduceSub]
  walk_at "S"
  refine W.compR (m := r.bh.length) (fun p => .bl (decide (p + 1 = r.bh.length) && decide (r.bh.getD p [] = [35]))) (by omega) (by simp [Sd.wipe]) ?_ (fun p hp => ?_) ?_
  · walk_at "S"
    exact ⟨by simp, rfl⟩
  · walk_at "S"
    refine ⟨_, rfl, fun h0 => ?_, fun h0 => ?_⟩
    · simp only [decide_eq_true_eq, List.length_map] at h0
      have hp0 : p + 1 = r.bh.length := by omega
      walk_at "E"
      refine ⟨_, idxN_map [] hp, ?_⟩
      walk_at "E"
      simp [D.keep, hp0]
    · simp only [decide_eq_false_iff_not, List.length_map] at h0
      have h1 : ¬ p + 1 = r.bh.length := by omega
      simp [h1, D.keep]
  · walk_at "S"
    refine W.en ?_
    rw [fin_self]
    refine Ok.ok ⟨?_, rfl⟩
    simp [fgD, behEnd, D.keep]
theorem before_step_ok (M : MT T) {r : Rule} {f : Fg} {c : Nat} (hr : r.bf.length ≤ 1000) (hf : f.length = r.bf.length) : callF T (d + 1) "" "before_step" [ruleD r, fgD f, .str [c]] h = .ok (fgD (befStep r f c)) h := by
  refine W.ofEq ?_
  refine W.fn M.before_step rfl ?_
  unfold b_before_step
  simp only [startD, List.map_cons, List.map_nil, List.cons_append, List.nil_append, List.length_cons, List.length_nil, List.replicate, Nat.reduceAdd, Nat.reduceSub]
  let g : Nat → Bool := fun k => (r.bf.getD k []).contains c && (decide (k = 0) || f.getD (k - 1) false)
  walk_at "S"
  refine W.forR (m := r.bf.length) (fun k σ h' => ∃ o5, σ = [some (ruleD r), some (fgD f), some (.str [c]), some (.tup (r.bf.map .str)), some (.ref h.length), o5] ∧ h' = h ++ [.lst ((List.range k).map fun p => .bl (g p))]) (by omega) ?_ ?_ ?_ ?_
  · walk_at "S"
    exact ⟨by simp, none, rfl, rfl⟩
  · rintro k σ h' ⟨o5, rfl, _⟩; simp
  · rintro k σ h' hk ⟨o5, rfl, rfl⟩
    refine W.cons (W.appL (.bl (g k)) rfl (by simp only [List.length_map, List.length_range]; unfold line; omega) ?_ ?_)
    · walk_at "S"
      refine ⟨_, idxN_map [] hk, ?_⟩
      walk_at "E"
      refine ⟨_, rfl, fun h1 => ?_, fun h1 => ?_⟩
      · walk_at "S"
        refine ⟨_, rfl, fun h2 => ?_, fun h2 => ?_⟩
        · simp only [decide_eq_false_iff_not] at h2
          have hk0 : decide (k = 0) = false := decide_eq_false (by omega)
          walk_at "E"
          refine ⟨_, (congrArg (o2F .idx _ _) (congrArg D.int (show (k : Int) - 1 = ((k - 1 : Nat) : Int) by omega))).trans (idxN_map (f := D.bl) false (by omega)), ?_, rfl⟩
          simp only [D.keep, g, h1, hk0, Bool.false_or, Bool.true_and]
        · simp only [decide_eq_true_eq] at h2
          have hk0 : decide (k = 0) = true := decide_eq_true (by omega)
          refine ⟨?_, rfl⟩
          simp only [D.keep, g, h1, hk0, Bool.true_or, Bool.true_and]
      · refine ⟨?_, rfl⟩
        simp only [D.keep, g, h1, Bool.false_and]
    · walk_at "S"
      exact ⟨_, rfl, by rw [List.range_succ, List.map_append]; rfl⟩
  · rintro σ h' ⟨o5, rfl, rfl⟩
    walk_at "S"
    refine ⟨fgD (befStep r f c), ?_, ?_⟩
    · simp only [o1F, seqs, items, W.last_get, Option.map_some, fgD, befStep, List.map_map]; rfl
    · walk_at "S"
      refine W.en ?_
      rw [fin_app (fg_und _ _) (fun l z => nomatch z)]
      exact Ok.ok ⟨rfl, rfl⟩
theorem behind_step_ok (M : MT T) {r : Rule} {f : Fg} {c : Nat} (hr : r.bh.length ≤ 1000) (hf : f.length = r.bh.length) : callF T (d + 1) "" "behind_step" [ruleD r, fgD f, .str [c]] h = .ok (fgD (behStep r f c)) h := by
  refine W.ofEq ?_
  refine W.fn M.behind_step rfl ?_
  unfold b_behind_step
  simp only [startD, List.map_cons, List.map_nil, List.cons_append, List.nil_append, List.length_cons, List.length_nil, List.replicate, Nat.reduceAdd, Nat.reduceSub]
  let g : Nat → Bool := fun k => (r.bh.getD k []).contains c && (decide (k + 1 = r.bh.length) || f.getD (k + 1) false)
  walk_at "S"
  refine W.forR (m := r.bh.length) (fun k σ h' => ∃ o5, σ = [some (ruleD r), some (fgD f), some (.str [c]), some (.tup (r.bh.map .str)), some (.ref h.length), o5] ∧ h' = h ++ [.lst ((List.range k).map fun p => .bl (g p))]) (by omega) ?_ ?_ ?_ ?_
  · walk_at "S"
    exact ⟨by simp, none, rfl, rfl⟩
  · rintro k σ h' ⟨o5, rfl, _⟩; simp
  · rintro k σ h' hk ⟨o5, rfl, rfl⟩
    refine W.cons (W.appL (.bl (g k)) rfl (by simp only [List.length_map, List.length_range]; unfold line; omega) ?_ ?_)
    · walk_at "S"
      refine ⟨_, idxN_map [] hk, ?_⟩
      walk_at "E"
      refine ⟨_, rfl, fun h1 => ?_, fun h1 => ?_⟩
      · walk_at "S"
        refine ⟨_, rfl, fun h2 => ?_, fun h2 => ?_⟩
        · simp only [decide_eq_false_iff_not, List.length_map] at h2
          have hk0 : decide (k + 1 = r.bh.length) = false := decide_eq_false (by omega)
          walk_at "E"
          refine ⟨_, (congrArg (o2F .idx _ _) (congrArg D.int (show (k : Int) + 1 = ((k + 1 : Nat) : Int) by omega))).trans (idxN_map (f := D.bl) false (by omega)), ?_, rfl⟩
          simp only [D.keep, g, h1, hk0, Bool.false_or, Bool.true_and]
        · simp only [decide_eq_true_eq, List.length_map] at h2
          have hk0 : decide (k + 1 = r.bh.length) = true := decide_eq_true (by omega)
          refine ⟨?_, rfl⟩
          simp only [D.keep, g, h1, hk0, Bool.true_or, Bool.true_and]
      · refine ⟨?_, rfl⟩
        simp only [D.keep, g, h1, Bool.false_and]
    · walk_at "S"
      exact ⟨_, rfl, by rw [List.range_succ, List.map_append]; rfl⟩
  · rintro σ h' ⟨o5, rfl, rfl⟩
    walk_at "S"
    refine ⟨fgD (behStep r f c), ?_, ?_⟩
    · simp only [o1F, seqs, items, W.last_get, Option.map_some, fgD, behStep, List.map_map]; rfl
    · walk_at "S"
      refine W.en ?_
      rw [fin_app (fg_und _ _) (fun l z => nomatch z)]
      exact Ok.ok ⟨rfl, rfl⟩
/-- all_behind: the search -/
theorem fgs_sorted {fs : List Fg} {n : Nat} (hn : ∀ f ∈ fs, f.length = n) (hd : fs.Nodup) (hl : fs.length ≤ line) : sortedF h (fs.map fgD) = some ((sortG fgP fs).map fgD) := by
  refine sortedF_map (fun f => fg_pd (n := 58) f) (fun a _ b _ => fg_alike a b) ?_ hl
  cases n with
  | zero =>
    left
    refine ⟨?_, fun a _ => rfl⟩
    have := nodup_le (u := [[]]) hd fun f hf => by rw [List.eq_nil_of_length_eq_zero (hn f hf)]; exact List.mem_singleton.mpr rfl
    simpa using this
  | succ n =>
    right; left
    intro f hf
    have := hn f hf
    cases f with
    | nil => simp at this
    | cons b f => rfl
theorem all_behind_ok (M : MT T) {r : Rule} {s : List Nat} (hr : r.bh.length ≤ 2) (hs : s.length ≤ 3) : callF T (d + 2) "" "all_behind" [ruleD r, .str s] h = .ok (.lv ((beh r s).map fgD)) h := by
  refine W.ofEq ?_
  refine W.fn M.all_behind rfl ?_
  unfold b_all_behind
  simp only [startD, List.map_cons, List.map_nil, List.cons_append, List.nil_append, List.length_cons, List.length_nil, List.replicate, Nat.reduceAdd, Nat.reduceSub]
  refine W.cons (W.par ?_)
  walk_at "E"
  refine Ok.ofEq (behind_end_ok M (by omega)) ?_
  walk_at "S"
  refine ⟨by simp, ?_⟩
  walk_at "S"
  let nx : Fg → List Fg := fun k => s.map (behStep r k)
  have hcand : (fgs r.bh.length).length ≤ 4 := by
    rw [fgs_len]
    have h4 : 2 ^ r.bh.length ≤ 2 ^ 2 := Nat.pow_le_pow_right (by decide) hr
    omega
  refine W.whl (fun n σ h' => ∃ (found left : List Fg) (o4 o5 : Option D) (m : Nat), σ = [some (ruleD r), some (.str s), some (.ref h.length), some (.ref (h.length + 1)), o4, o5] ∧ h' = h ++ [.lst (found.map fgD), .lst (left.map fgD)] ∧ n = rest (fgs r.bh.length) found * 5 + left.length ∧ (n < m ∧ m ≤ 100) ∧
      found.Nodup ∧ (∀ f ∈ found, f.length = r.bh.length) ∧ (∀ f ∈ left, f.length = r.bh.length) ∧ found.length + rest (fgs r.bh.length) found ≤ 4 ∧ srch nx m found left = beh0 r s) ?_ ?_
  · refine ⟨_, [], [behEnd r], none, none, 100, by simp [D.keep], by simp [D.keep, fgD], rfl, ?_, List.nodup_nil, by simp, by simp, ?_, rfl⟩
    · have := rest_le (fgs r.bh.length) []
      simp only [List.length_cons, List.length_nil]; omega
    · have := rest_le (fgs r.bh.length) []
      simp only [List.length_nil]; omega
  · rintro n σ h' ⟨found, left, o4, o5, m, rfl, rfl, hn, hm, hd, hf, hlf, hc, hsr⟩
    have hg : (h ++ [Ob.lst (found.map fgD), .lst (left.map fgD)])[h.length + 1]? = some (.lst (left.map fgD)) := by
      rw [List.getElem?_append_right (by omega), show h.length + 1 - h.length = 1 by omega]; rfl
    have hg0 : (h ++ [Ob.lst (found.map fgD), .lst (left.map fgD)])[h.length]? = some (.lst (found.map fgD)) := by
      rw [List.getElem?_append_right (by omega), Nat.sub_self]; rfl
    walk_at "S"
    refine ⟨_, rfl, fun hpos => ?_, fun hz => ?_⟩
    · simp only [decide_eq_true_eq, List.length_map] at hpos
      rcases List.eq_nil_or_concat left with rfl | ⟨l1, k, rfl⟩
      · simp at hpos
      rw [List.concat_eq_append] at *
      obtain ⟨m, rfl⟩ : ∃ m', m = m' + 1 := ⟨m - 1, by omega⟩
      rw [srch_step] at hsr
      have hkl := hlf k (by simp)
      have hl1 : ∀ f ∈ l1, f.length = r.bh.length := fun f hf => hlf f (by simp [hf])
      refine W.cons (W.set (W.pop (W.var rfl ⟨h.length + 1, _, fgD k, rfl, hg, by simp, ?_⟩)))
      refine ⟨by simp, ?_⟩
      have e1 : (h ++ [Ob.lst (found.map fgD), .lst ((l1 ++ [k]).map fgD)]).set (h.length + 1) (.lst ((l1 ++ [k]).map fgD).dropLast) = h ++ [Ob.lst (found.map fgD), .lst (l1.map fgD)] := by
        rw [List.set_append_right _ _ (by omega), show h.length + 1 - h.length = 1 by omega]; simp
      rw [e1]
      have hg1 : (h ++ [Ob.lst (found.map fgD), .lst (l1.map fgD)])[h.length]? = some (.lst (found.map fgD)) := by
        rw [List.getElem?_append_right (by omega), Nat.sub_self]; rfl
      refine W.nx (W.cons (W.cond (W.o2 ?_)))
      walk_at "E"
      refine ⟨_, notin_list (eD := fgD) (eP := fgP) (xs := found) (fun a s z => nomatch z) (fun f => fg_pd (n := 58) f) fg_eqv (by simp only [seqs, items, hg1]), _, rfl, fun hnk => ?_, fun hnk => ?_⟩
      · simp only [Bool.not_eq_true', decide_eq_false_iff_not] at hnk
        rw [if_neg hnk] at hsr
        have hk2 : k ∈ fgs r.bh.length := hkl ▸ fgs_mem k
        have hdn := rest_down hk2 hnk
        refine W.cons (W.app ?_)
        walk_at "E"
        refine ⟨_, _, rfl, hg1, ?_⟩
        walk_at "E"
        refine ⟨_, hg1, ?_, ?_⟩
        · simp only [List.length_map]; unfold line; omega
        have e2 : (h ++ [Ob.lst (found.map fgD), .lst (l1.map fgD)]).set h.length (.lst (found.map fgD ++ [(fgD k).keep.keep])) = h ++ [Ob.lst ((found ++ [k]).map fgD), .lst (l1.map fgD)] := by
          rw [List.set_append_right _ _ (by omega), Nat.sub_self]
          simp [D.keep, fgD]
        rw [e2]
        have hg2 : (h ++ [Ob.lst ((found ++ [k]).map fgD), .lst (l1.map fgD)])[h.length + 1]? = some (.lst (l1.map fgD)) := by
          rw [List.getElem?_append_right (by omega), show h.length + 1 - h.length = 1 by omega]; rfl
        refine W.nx (W.cons (W.ext ?_))
        walk_at "E"
        refine ⟨_, _, rfl, hg2, ?_⟩
        refine W.compV (xs := s) (fun c => D.str [c]) (fun c => fgD (behStep r k c)) (by unfold line; omega) (by simp [Sd.wipe]) ?_ (fun c hc => ?_) ?_
        · walk_at "S"
          exact ⟨⟨_, rfl⟩, rfl⟩
        · walk_at "S"
          refine Ok.ofEq (behind_step_ok M (by omega) hkl) ⟨rfl, rfl⟩
        · refine ⟨_, _, hg2, rfl, ?_, ?_⟩
          · simp only [List.length_map]
            simp only [List.length_append, List.length_cons, List.length_nil] at hn
            unfold line; omega
          · have e3 : (h ++ [Ob.lst ((found ++ [k]).map fgD), .lst (l1.map fgD)]).set (h.length + 1) (.lst (l1.map fgD ++ s.map fun c => fgD (behStep r k c))) = h ++ [Ob.lst ((found ++ [k]).map fgD), .lst ((l1 ++ nx k).map fgD)] := by
              rw [List.set_append_right _ _ (by omega), show h.length + 1 - h.length = 1 by omega]
              simp [nx]
            rw [e3]
            walk_at "S"
            refine ⟨_, ?_, found ++ [k], l1 ++ nx k, _, _, m, rfl, rfl, rfl, ?_, ?_, ?_, ?_, ?_, hsr⟩
            · simp only [nx, List.length_append, List.length_map, List.length_cons, List.length_nil] at hn ⊢; omega
            · simp only [nx, List.length_append, List.length_map, List.length_cons, List.length_nil] at hn ⊢; omega
            · rw [List.nodup_append]
              exact ⟨hd, by simp, fun a ha b hb => by rw [List.mem_singleton.mp hb]; exact fun e => hnk (e ▸ ha)⟩
            · intro f hf'
              rcases List.mem_append.mp hf' with hf' | hf'
              · exact hf f hf'
              · rw [List.mem_singleton.mp hf']; exact hkl
            · intro f hf'
              rcases List.mem_append.mp hf' with hf' | hf'
              · exact hl1 f hf'
              · obtain ⟨c, _, rfl⟩ := List.mem_map.mp hf'
                exact behStep_len _ _ _
            · simp only [List.length_append, List.length_cons, List.length_nil]; omega
      · simp only [Bool.not_eq_false', decide_eq_true_eq] at hnk
        rw [if_pos hnk] at hsr
        walk_at "S"
        refine ⟨_, ?_, found, l1, _, _, m, rfl, rfl, rfl, ?_, hd, hf, hl1, hc, hsr⟩
        · simp only [List.length_append, List.length_cons, List.length_nil] at hn; omega
        · simp only [List.length_append, List.length_cons, List.length_nil] at hn; omega
    · simp only [decide_eq_false_iff_not, List.length_map] at hz
      have hl0 : left = [] := List.eq_nil_of_length_eq_zero (by omega)
      subst hl0
      rw [srch_nil] at hsr
      subst hsr
      walk_at "S"
      refine ⟨.lv ((beh r s).map fgD), ?_, ?_⟩
      · simp only [o1F, seqs, items, hg0]
        rw [fgs_sorted hf hd (by unfold line; omega)]
        rfl
      · walk_at "S"
        refine W.en ?_
        have eu : D.undAll h.length ((beh r s).map fgD) = true := undAll_map (fun f => fg_und _ f) _
        have e4 : fin h (h ++ [Ob.lst ((beh0 r s).map fgD), .lst []]) (.lv ((beh r s).map fgD)) = .ok (.lv ((beh r s).map fgD)) h := by
          rw [fin_drop (by simp) (by simpa only [freeze, undV] using eu) fun l o hl ho => .inl (by rw [List.getElem?_append_left hl] at ho; exact ho), List.take_left]
          rfl
        simp only [List.map_nil]
        rw [e4]
        exact Ok.ok ⟨rfl, rfl⟩
end
end Mach
end Sd

/-! WordP: words led by rules: the program's defs and the law's. -/
namespace Sd
namespace Gen
/-- slots_hold: 0 word, 1 place, 2 slots, 3 k, 4 slot, 5 at, 6 here -/
def b_slots_hold : List S := [
  (.forr (.t [3, 4]) (.enu (.var 2)) [(.set (.n 5) (.o2 .add (.var 1) (.var 3))), (.set (.n 6) (.ife (.chn .le .lt (.cst (.int 0)) (.var 5) (.o1 .len (.var 0))) (.o2 .idx (.var 0) (.var 5)) (.cst (.str [35])))), (.cond (.o2 .notin (.var 6) (.var 4)) [(.ret (.cst (.bl false)))] [])]),
  (.ret (.cst (.bl true)))]
/-- applies: 0 rule, 1 word, 2 place, 3 changes, 4 before, 5 behind, 6 one, 7 _ -/
def b_applies : List S := [
  (.set (.t [3, 4, 5]) (.var 0)),
  (.cond (.o2 .notin (.o2 .idx (.var 1) (.var 2)) (.comp [6, 7] (.var 6) (.t [6, 7]) (.val (.var 3)) [])) [(.ret (.cst (.bl false)))] []),
  (.ret (.and (.call "" "slots_hold" [(.var 1), (.o2 .sub (.var 2) (.o1 .len (.var 4))), (.var 4)]) (.call "" "slots_hold" [(.var 1), (.o2 .add (.var 2) (.cst (.int 1))), (.var 5)])))]
/-- changed: 0 rule, 1 word, 2 known, 3 place, 4 one -/
def b_changed : List S := [
  (.set (.n 2) (.o1 .dict (.o2 .idx (.var 0) (.cst (.int 0))))),
  (.ret (.o2 .join (.cst (.str [])) (.comp [3, 4] (.ife (.call "" "applies" [(.var 0), (.var 1), (.var 3)]) (.o2 .idx (.var 2) (.var 4)) (.var 4)) (.t [3, 4]) (.enu (.var 1)) [])))]
/-- led: 0 history, 1 word, 2 rule -/
def b_led : List S := [
  (.forr (.n 2) (.val (.var 0)) [(.set (.n 1) (.call "" "changed" [(.var 2), (.var 1)]))]),
  (.ret (.var 1))]
/-- stages: 0 history, 1 word, 2 found, 3 rule -/
def b_stages : List S := [
  (.set (.n 2) (.alc (.lst [(.var 1)]))),
  (.forr (.n 3) (.val (.var 0)) [(.app (.var 2) (.call "" "changed" [(.var 3), (.o2 .idx (.var 2) (.o1 .neg (.cst (.int 1))))]))]),
  (.ret (.var 2))]
/-- words_up_to: 0 sounds, 1 most, 2 found, 3 last, 4 _, 5 word, 6 one -/
def b_words_up_to : List S := [
  (.par 2 3 (.alc (.lst [(.cst (.str []))])) (.lst [(.cst (.str []))])),
  (.forr (.n 4) (.rng (.var 1)) [(.set (.n 3) (.comp2 [5, 6] (.o2 .add (.var 5) (.var 6)) (.n 5) (.val (.var 3)) [] (.n 6) (.val (.var 0)) [])), (.ext (.var 2) (.var 3))]),
  (.ret (.var 2))]
/-- _law_holds: 0 word, 1 at, 2 slots, 3 k, 4 here -/
def b_law_holds : List S := [
  (.forr (.n 3) (.rng (.o1 .len (.var 2))) [(.set (.n 4) (.ife (.and (.o2 .ge (.o2 .add (.var 1) (.var 3)) (.cst (.int 0))) (.o2 .lt (.o2 .add (.var 1) (.var 3)) (.o1 .len (.var 0)))) (.o2 .idx (.var 0) (.o2 .add (.var 1) (.var 3))) (.cst (.str [35])))), (.cond (.o2 .notin (.var 4) (.o2 .idx (.var 2) (.var 3))) [(.ret (.cst (.bl false)))] [])]),
  (.ret (.cst (.bl true)))]
/-- _law_applies: 0 law, 1 word, 2 at, 3 known, 4 one, 5 out -/
def b_law_applies : List S := [
  (.set (.n 3) (.comp [4, 5] (.var 4) (.t [4, 5]) (.val (.o2 .idx (.var 0) (.cst (.int 0)))) [])),
  (.ret (.and (.o2 .isin (.o2 .idx (.var 1) (.var 2)) (.var 3)) (.and (.call "" "_law_holds" [(.var 1), (.o2 .sub (.var 2) (.o1 .len (.o2 .idx (.var 0) (.cst (.int 1))))), (.o2 .idx (.var 0) (.cst (.int 1)))]) (.call "" "_law_holds" [(.var 1), (.o2 .add (.var 2) (.cst (.int 1))), (.o2 .idx (.var 0) (.cst (.int 2)))]))))]
/-- _law_changed: 0 law, 1 word, 2 found, 3 at -/
def b_law_changed : List S := [
  (.set (.n 2) (.cst (.str []))),
  (.forr (.n 3) (.rng (.o1 .len (.var 1))) [(.set (.n 2) (.o2 .add (.var 2) (.ife (.call "" "_law_applies" [(.var 0), (.var 1), (.var 3)]) (.o2 .idx (.o1 .dict (.o2 .idx (.var 0) (.cst (.int 0)))) (.o2 .idx (.var 1) (.var 3))) (.o2 .idx (.var 1) (.var 3)))))]),
  (.ret (.var 2))]
/-- _law_led: 0 history, 1 word, 2 found, 3 law -/
def b_law_led : List S := [
  (.set (.n 2) (.var 1)),
  (.forr (.n 3) (.val (.var 0)) [(.set (.n 2) (.call "" "_law_changed" [(.var 3), (.var 2)]))]),
  (.ret (.var 2))]
/-- _law_words: 0 sounds, 1 most, 2 found, 3 last, 4 k, 5 longer, 6 word, 7 one -/
def b_law_words : List S := [
  (.par 2 3 (.lst [(.cst (.str []))]) (.lst [(.cst (.str []))])),
  (.forr (.n 4) (.rng (.var 1)) [(.set (.n 5) (.lst [])), (.forr (.n 6) (.val (.var 3)) [(.set (.n 5) (.o2 .add (.var 5) (.comp [7] (.o2 .add (.var 6) (.var 7)) (.n 7) (.val (.var 0)) [])))]), (.par 2 3 (.o2 .add (.var 2) (.var 5)) (.var 5))]),
  (.ret (.var 2))]

structure WT (T : Tb) : Prop where
  slots_hold : T "" "slots_hold" = some ⟨3, 7, b_slots_hold, false⟩
  applies : T "" "applies" = some ⟨3, 8, b_applies, false⟩
  changed : T "" "changed" = some ⟨2, 5, b_changed, false⟩
  led : T "" "led" = some ⟨2, 3, b_led, false⟩
structure WLT (T : Tb) : Prop where
  holds : T "" "_law_holds" = some ⟨3, 5, b_law_holds, false⟩
  applies : T "" "_law_applies" = some ⟨3, 6, b_law_applies, false⟩
  changed : T "" "_law_changed" = some ⟨2, 4, b_law_changed, false⟩
  led : T "" "_law_led" = some ⟨2, 4, b_law_led, false⟩
def hereM (w : List Nat) (i : Int) : Nat := if 0 ≤ i then (w[i.toNat]?).getD 35 else 35
def holdsM (w : List Nat) : Int → List (List Nat) → Bool
  | _, [] => true
  | i, x :: xs => x.contains (hereM w i) && holdsM w (i + 1) xs
def appliesM (r : Rule) (w : List Nat) (p : Nat) : Bool := (r.ch.map (·.1)).contains (hereM w p) && (holdsM w (p - (r.bf.length : Nat)) r.bf && holdsM w (p + 1) r.bh)
def outM (ch : List (Nat × List Nat)) (c : Nat) : List Nat := (ch.lookup c).getD []
def pieceM (r : Rule) (w : List Nat) (p : Nat) : List Nat := if appliesM r w p then outM r.ch (hereM w p) else [hereM w p]
def changedM (r : Rule) (w : List Nat) : List Nat := (List.range w.length).flatMap (pieceM r w)
def ledM (rs : List Rule) (w : List Nat) : List Nat := rs.foldl (fun w r => changedM r w) w
def stagesM : List Rule → List Nat → List (List Nat)
  | [], w => [w]
  | r :: rs, w => w :: stagesM rs (changedM r w)
section
variable {T : Tb} {d : Nat} {h : Hh}
theorem here_in {w : List Nat} {i : Int} (h0 : 0 ≤ i) (h1 : i < w.length) (hw : w.length ≤ line) : o2F .idx h (.str w) (.int i) = some (.str [hereM w i]) := by
  obtain ⟨c, e, e2⟩ := idx_str (h := h) hw h0 h1
  rw [e]
  simp only [hereM, if_pos h0, e2, Option.getD_some]
theorem here_out {w : List Nat} {i : Int} (hi : ¬ (0 ≤ i ∧ i < w.length)) : hereM w i = 35 := by
  unfold hereM
  split
  · rename_i h0
    have : w[i.toNat]? = none := List.getElem?_eq_none (by omega)
    rw [this]; rfl
  · rfl
theorem notin_one {c : Nat} {x : List Nat} : o2F .notin h (.str [c]) (.str x) = some (.bl (!x.contains c)) := rfl
theorem here_expr {C : Calls} {σ : Env} {a b : Nat} {w : List Nat} {i : Int} (ha : σ[a]? = some (some (.str w))) (hb : σ[b]? = some (some (.int i))) (hw : w.length ≤ line) :
    Ok (evE C (.ife (.chn .le .lt (.cst (.int 0)) (.var b) (.o1 .len (.var a))) (.o2 .idx (.var a) (.var b)) (.cst (.str [35]))) σ h) fun v h' => v = .str [hereM w i] ∧ h' = h := by
  refine W.ife (W.chn (W.cst (W.var hb ⟨_, rfl, fun h0 => W.o1 (W.var ha ⟨_, len_str hw, _, rfl, _, rfl, fun h1 => W.o2 (W.var ha (W.var hb ?_)), fun h1 => W.cst ?_⟩), fun h0 => ⟨_, rfl, fun hf => Bool.noConfusion hf, fun _ => W.cst ?_⟩⟩)))
  · simp only [decide_eq_true_eq] at h0 h1
    exact ⟨_, here_in h0 h1 hw, rfl, rfl⟩
  · simp only [decide_eq_true_eq, decide_eq_false_iff_not] at h0 h1
    exact ⟨by rw [here_out (by omega)], rfl⟩
  · simp only [decide_eq_false_iff_not] at h0
    exact ⟨by rw [here_out (by omega)], rfl⟩
theorem slots_hold_ok (hT : T "" "slots_hold" = some ⟨3, 7, b_slots_hold, false⟩) {w : List Nat} {p : Int} {ss : List (List Nat)} (hw : w.length ≤ line) :
    Ok (callF T (d + 1) "" "slots_hold" [.str w, .int p, .tup (ss.map D.str)] h) fun v h' => v = .bl (holdsM w p ss) ∧ h' = h := by
  refine W.fn hT rfl ?_
  unfold b_slots_hold
  simp only [startD, List.map_cons, List.map_nil, List.cons_append, List.nil_append, List.length_cons, List.length_nil, List.replicate, Nat.reduceAdd, Nat.reduceSub]
  refine W.cons (W.forr (W.enu ?_))
  walk_at "S"
  refine ⟨_, rfl, fun i σ h' => ∃ o3 o4 o5 o6, σ = [some (.str w), some (.int p), some (.tup (ss.map D.str)), o3, o4, o5, o6] ∧ h' = h ∧ holdsM w p ss = holdsM w (p + (i : Nat)) (ss.drop i), ⟨_, _, _, _, rfl, rfl, by simp⟩, fun _ _ _ _ => wat_nil _ _, ?_, ?_⟩
  · rintro i x σ h' hx ⟨o3, o4, o5, o6, rfl, rfl, hh⟩
    obtain ⟨y, hy, rfl⟩ := enuD_get hx
    rw [List.getElem?_map] at hy
    obtain ⟨x, hx2, rfl⟩ := Option.map_eq_some_iff.mp hy
    obtain ⟨hlt, ex⟩ := List.getElem?_eq_some_iff.mp hx2
    rw [List.drop_eq_getElem_cons hlt, ex, holdsM] at hh
    refine ⟨_, rfl, ?_⟩
    refine W.cons (W.set (W.o2 ?_))
    walk_at "E"
    refine W.nx (W.cons (W.set ((here_expr (i := p + ((0 + i : Nat) : Int)) rfl rfl hw).mono fun v h1 q => ?_)))
    obtain ⟨rfl, rfl⟩ := q
    refine ⟨by simp, W.nx (W.cons ?_)⟩
    walk_at "E"
    rw [show p + ((0 + i : Nat) : Int) = p + (i : Nat) by omega]
    refine ⟨_, rfl, fun hk => ?_, fun hk => ?_⟩
    · walk_at "S"
      refine W.en ?_
      rw [fin_self]
      simp only [Bool.not_eq_true'] at hk
      rw [hk, Bool.false_and] at hh
      exact Ok.ok ⟨by rw [hh], rfl⟩
    · simp only [Bool.not_eq_false'] at hk
      rw [hk, Bool.true_and] at hh
      refine W.nil (W.nx (W.nil ⟨_, _, _, _, rfl, rfl, ?_⟩))
      rw [hh]
      congr 1
      omega
  · rintro σ h' ⟨o3, o4, o5, o6, rfl, rfl, hh⟩
    walk_at "S"
    refine W.en ?_
    rw [fin_self]
    refine Ok.ok ⟨?_, rfl⟩
    rw [hh, enuD_len, List.length_map, List.drop_length, holdsM]
theorem pds_strs {α : Type} (f : α → List Nat) : ∀ xs : List α, pds h deep (xs.map fun x => .str (f x)) = some (xs.map fun x => .str ⟨(f x).toArray⟩)
  | [] => rfl
  | x :: xs => by
    have e : mapO (pd h deep) (xs.map fun x => .str (f x)) = some (xs.map fun x => .str ⟨(f x).toArray⟩) := pds_strs f xs
    simp only [List.map_cons, pds, mapO, pd_str, e]
theorem memF_strs {α : Type} (f : α → List Nat) (a : List Nat) (xs : List α) : memF h (.str a) (xs.map fun x => .str (f x)) = some ((xs.map f).contains a) := by
  unfold memF
  rw [pds_strs, pd_str]
  simp only [Option.some.injEq]
  induction xs with
  | nil => rfl
  | cons x xs ih =>
    rw [List.map_cons, List.any_cons, ih, W.strEq, List.map_cons, List.contains_cons]
    congr 1
    by_cases e : f x = a
    · subst e; simp
    · rw [decide_eq_false e]
      have : ¬ a = f x := fun z => e z.symm
      simp [this]
theorem contains_ones (c : Nat) (cs : List Nat) : (cs.map fun c => [c]).contains [c] = cs.contains c := by
  induction cs with
  | nil => rfl
  | cons b cs ih =>
    rw [List.map_cons, List.contains_cons, List.contains_cons, ih]
    congr 1
    by_cases e : c = b
    · subst e; simp
    · simp [e]
theorem notin_ones {c : Nat} {cs : List Nat} {y : D} (hy : seqs h y = some (cs.map fun c => .str [c])) (hs : ∀ b, y ≠ .str b) : o2F .notin h (.str [c]) y = some (.bl (!cs.contains c)) := by
  have : o2F .notin h (.str [c]) y = (memF h (.str [c]) (cs.map fun c => .str [c])).map fun b => .bl (!b) := by
    cases y <;> first | exact absurd rfl (hs _) | simp only [o2F, hy]
  rw [this, memF_strs (fun c => [c]), contains_ones]
  rfl
theorem isin_ones {c : Nat} {cs : List Nat} {y : D} (hy : seqs h y = some (cs.map fun c => .str [c])) (hs : ∀ b, y ≠ .str b) : o2F .isin h (.str [c]) y = some (.bl (cs.contains c)) := by
  have : o2F .isin h (.str [c]) y = (memF h (.str [c]) (cs.map fun c => .str [c])).map .bl := by
    cases y <;> first | exact absurd rfl (hs _) | simp only [o2F, hy]
  rw [this, memF_strs (fun c => [c]), contains_ones]
  rfl
theorem flat_ones {α : Type} (f : α → D) (g : α → Nat) (xs : List α) (F : D → List D) (hF : ∀ x ∈ xs, F (f x) = [.str [g x]]) : (xs.map f).flatMap F = (xs.map g).map fun c => .str [c] := by
  induction xs with
  | nil => rfl
  | cons x xs ih =>
    rw [List.map_cons, List.flatMap_cons, hF x List.mem_cons_self, ih fun y hy => hF y (List.mem_cons_of_mem _ hy)]
    rfl
/-- what a change begins with -/
def firstF : D → List D
  | .tup (x :: _) => [x]
  | _ => []
theorem firsts (ch : List (Nat × List Nat)) : (chD ch).flatMap firstF = (ch.map (·.1)).map fun c => .str [c] := flat_ones _ _ _ _ fun _ _ => rfl
theorem applies_ok (W1 : WT T) {r : Rule} {w : List Nat} {p : Nat} (hw : w.length ≤ line) (hp : p < w.length) (hc : r.ch.length ≤ 1000) :
    Ok (callF T (d + 2) "" "applies" [ruleD r, .str w, .int p] h) fun v h' => v = .bl (appliesM r w p) ∧ h' = h := by
  refine W.fn W1.applies rfl ?_
  unfold b_applies
  simp only [startD, List.map_cons, List.map_nil, List.cons_append, List.nil_append, List.length_cons, List.length_nil, List.replicate, Nat.reduceAdd, Nat.reduceSub]
  refine W.cons (W.setT (W.var rfl ⟨_, rfl, W.nx (W.cons (W.cond (W.o2 (W.o2 (W.var rfl (W.var rfl ⟨_, here_in (by omega) (by omega) hw, W.compM firstF ?_⟩))))))⟩))
  walk_at "E"
  refine ⟨_, rfl, fun x hx => ?_, ?_, ?_⟩
  · obtain ⟨q, _, rfl⟩ := List.mem_map.mp hx
    refine ⟨_, rfl, ?_⟩
    walk_at "S"
    exact ⟨fun _ => W.var rfl ⟨rfl, rfl⟩, fun hf => Bool.noConfusion hf⟩
  · rw [firsts]
    simp only [List.length_map]
    unfold line
    omega
  · rw [firsts]
    refine ⟨_, notin_ones rfl (fun _ => by simp), _, rfl, fun hk => ?_, fun hk => ?_⟩
    · walk_at "S"
      refine W.en ?_
      rw [fin_self]
      simp only [Bool.not_eq_true'] at hk
      exact Ok.ok ⟨by simp only [appliesM, hk, Bool.false_and], rfl⟩
    · simp only [Bool.not_eq_false'] at hk
      refine W.nil (W.nx (W.cons (W.ret (W.and ?_))))
      walk_at "E"
      refine (slots_hold_ok (d := d) W1.slots_hold hw).mono fun v h1 q => ?_
      obtain ⟨rfl, rfl⟩ := q
      refine ⟨_, rfl, fun h2 => ?_, fun h2 => ?_⟩
      · walk_at "E"
        refine (slots_hold_ok (d := d) W1.slots_hold hw).mono fun v h1 q => ?_
        obtain ⟨rfl, rfl⟩ := q
        walk_at "S"
        refine W.en ?_
        rw [fin_self]
        rw [List.length_map] at h2
        exact Ok.ok ⟨by simp only [appliesM, hk, h2, Bool.true_and], rfl⟩
      · walk_at "S"
        refine W.en ?_
        rw [fin_self]
        rw [List.length_map] at h2
        exact Ok.ok ⟨by simp only [appliesM, hk, h2, Bool.true_and, Bool.false_and], rfl⟩
/-! ### a rule at all places -/
theorem pairs_ch (ch : List (Nat × List Nat)) : pairsOf (chD ch) = some (ch.map (fun p => .str [p.1]), ch.map fun p => .str p.2) := by
  induction ch with
  | nil => rfl
  | cons p ch ih =>
    show (pairsOf (chD ch)).map _ = _
    rw [ih]
    rfl
theorem nodup_ones {cs : List Nat} (hn : cs.Nodup) : (cs.map fun c => [c]).Nodup := by
  induction cs with
  | nil => exact List.nodup_nil
  | cons c cs ih =>
    rw [List.nodup_cons] at hn
    rw [List.map_cons, List.nodup_cons]
    refine ⟨fun hm => ?_, ih hn.2⟩
    obtain ⟨b, hb, e⟩ := List.mem_map.mp hm
    cases e
    exact hn.1 hb
theorem dict_ch {ch : List (Nat × List Nat)} (hn : (ch.map (·.1)).Nodup) : o1F .dict h (.tup (chD ch)) = some (.dv (ch.map fun p => .str [p.1]) (ch.map fun p => .str p.2)) := by
  simp only [o1F, pairs_ch]
  rw [strs_map (fun p : Nat × List Nat => [p.1])]
  have : (ch.map fun p => [p.1]).Nodup := by
    have := nodup_ones hn
    rwa [List.map_map] at this
  simp only [if_pos this]
theorem key_ch {ch : List (Nat × List Nat)} {c : Nat} (hc : (ch.map (·.1)).contains c = true) : keyAt [c] (ch.map fun p => .str [p.1]) (ch.map fun p => .str p.2) = some (.str (outM ch c)) := by
  induction ch with
  | nil => simp at hc
  | cons p ch ih =>
    rw [List.map_cons, List.map_cons, keyAt, outM, List.lookup_cons]
    by_cases e : p.1 = c
    · subst e
      simp
    · rw [if_neg (by simpa using e)]
      have e2 : (c == p.1) = false := by rw [beq_eq_false_iff_ne]; exact fun z => e z.symm
      rw [e2]
      rw [List.map_cons, List.contains_cons, e2, Bool.false_or] at hc
      exact ih hc
theorem applies_first {r : Rule} {w : List Nat} {p : Nat} (ha : appliesM r w p = true) : (r.ch.map (·.1)).contains (hereM w p) = true := by
  simp only [appliesM, Bool.and_eq_true] at ha
  exact ha.1
theorem range_pieces (f : Nat → List Nat) (n : Nat) (F : D → List D) (hF : ∀ p, p < n → ∀ x, F (.tup [.int ((0 + p : Nat) : Int), x]) = [.str (f p)]) : ∀ (k : Nat) (xs : List D), k + xs.length = n → (enuD k xs).flatMap F = (List.range' k xs.length).map fun p => .str (f p)
  | k, [], _ => rfl
  | k, x :: xs, hk => by
    rw [enuD, List.flatMap_cons, range_pieces f n F hF (k + 1) xs (by rw [List.length_cons] at hk; omega), List.length_cons, List.range'_succ, List.map_cons]
    have := hF k (by rw [List.length_cons] at hk; omega) x
    rw [Nat.zero_add] at this
    rw [this]
    rfl
theorem piece_len {r : Rule} {w : List Nat} {p : Nat} (ho : ∀ q ∈ r.ch, q.2.length ≤ 2) : (pieceM r w p).length ≤ 2 := by
  unfold pieceM
  split
  · unfold outM
    cases e : r.ch.lookup (hereM w p) with
    | none => simp
    | some o =>
      have : ∀ (ch : List (Nat × List Nat)) (c : Nat) (o : List Nat), ch.lookup c = some o → ∃ q ∈ ch, q.2 = o := by
        intro ch c o
        induction ch with
        | nil => intro e; cases e
        | cons q ch ih =>
          intro e
          rw [List.lookup_cons] at e
          split at e
          · cases e; exact ⟨q, List.mem_cons_self, rfl⟩
          · obtain ⟨q', hq, e'⟩ := ih e
            exact ⟨q', List.mem_cons_of_mem _ hq, e'⟩
      obtain ⟨q, hq, rfl⟩ := this _ _ _ e
      exact ho q hq
  · simp
theorem sum_le2 {f : Nat → List Nat} (hf : ∀ p, (f p).length ≤ 2) : ∀ xs : List Nat, ((xs.map f).map List.length).sum ≤ 2 * xs.length
  | [] => by simp
  | x :: xs => by
    have := sum_le2 hf xs
    have := hf x
    simp only [List.map_cons, List.sum_cons, List.length_cons]
    omega
theorem changed_len {r : Rule} {w : List Nat} (ho : ∀ q ∈ r.ch, q.2.length ≤ 2) : (changedM r w).length ≤ 2 * w.length := by
  have := sum_le2 (f := pieceM r w) (fun p => piece_len ho) (List.range w.length)
  rw [List.length_range] at this
  unfold changedM
  rw [List.length_flatMap]
  rwa [List.map_map] at this
/-- a rule that may be used here -/
structure RF (r : Rule) : Prop where
  nd : (r.ch.map (·.1)).Nodup
  len : r.ch.length ≤ 1000
  out : ∀ q ∈ r.ch, q.2.length ≤ 2
theorem changed_ok (W1 : WT T) {r : Rule} {w : List Nat} (hw : w.length ≤ 1000000) (hr : RF r) :
    Ok (callF T (d + 3) "" "changed" [ruleD r, .str w] h) fun v h' => v = .str (changedM r w) ∧ h' = h := by
  have hwl : w.length ≤ line := by unfold line; omega
  refine W.fn W1.changed rfl ?_
  unfold b_changed
  simp only [startD, List.map_cons, List.map_nil, List.cons_append, List.nil_append, List.length_cons, List.length_nil, List.replicate, Nat.reduceAdd, Nat.reduceSub]
  walk_at "S"
  refine ⟨_, dict_ch hr.nd, ?_⟩
  walk_at "S"
  refine W.compM (fun x => match x with | .tup [.int p, _] => [.str (pieceM r w p.toNat)] | _ => []) ?_
  refine W.enu ?_
  walk_at "S"
  have hlen : (w.map fun c => D.str [c]).length = w.length := List.length_map _
  have hpc := range_pieces (pieceM r w) w.length (fun x => match x with | .tup [.int p, _] => [.str (pieceM r w p.toNat)] | _ => []) (fun p _ x => by simp) 0 (w.map fun c => D.str [c]) (by rw [hlen]; omega)
  rw [hlen, ← List.range_eq_range'] at hpc
  refine ⟨_, rfl, fun x hx => ?_, ?_, ?_⟩
  · obtain ⟨i, hi⟩ := List.getElem?_of_mem hx
    obtain ⟨y, hy, rfl⟩ := enuD_get hi
    rw [List.getElem?_map] at hy
    obtain ⟨c, hc, rfl⟩ := Option.map_eq_some_iff.mp hy
    obtain ⟨hlt, ec⟩ := List.getElem?_eq_some_iff.mp hc
    have here : hereM w ((i : Nat) : Int) = c := by
      simp only [hereM, Int.natCast_nonneg, if_true, Int.toNat_natCast, hc, Option.getD_some]
    simp only [Nat.zero_add]
    refine ⟨_, rfl, ?_⟩
    walk_at "S"
    refine ⟨fun _ => ?_, fun hf => Bool.noConfusion hf⟩
    walk_at "S"
    refine (applies_ok (d := d) (h := h) W1 (r := r) (w := w) (p := i) hwl hlt hr.len).mono fun v h1 q => ?_
    obtain ⟨rfl, rfl⟩ := q
    refine ⟨_, rfl, fun ha => ?_, fun ha => ?_⟩
    · walk_at "S"
      have hk := key_ch (applies_first ha)
      rw [here] at hk
      refine ⟨.str (outM r.ch c), ?_, ?_⟩
      · show (match dict h1 (D.fd _ _) with | some (ks, vs) => keyAt [c] ks vs | none => none) = _
        exact hk
      · refine ⟨?_, rfl⟩
        simp only [Int.toNat_natCast, pieceM, ha, if_true, here]
        rfl
    · walk_at "S"
      refine ⟨?_, rfl⟩
      simp only [Int.toNat_natCast, pieceM, ha, Bool.false_eq_true, if_false, here]
      rfl
  · simp only [hpc, List.length_map, List.length_range]
    unfold line
    omega
  · simp only [hpc]
    refine ⟨_, join_map (pieceM r w) ?_, ?_⟩
    · have := sum_le2 (f := pieceM r w) (fun p => piece_len hr.out) (List.range w.length)
      rw [List.length_range] at this
      unfold line
      omega
    · walk_at "S"
      refine W.en ?_
      rw [fin_self]
      refine Ok.ok ⟨?_, rfl⟩
      rw [changedM, List.flatMap_def]
theorem led_ok (W1 : WT T) : ∀ {rs : List Rule} {w : List Nat}, w.length * 2 ^ rs.length ≤ 1000000 → (∀ r ∈ rs, RF r) →
    Ok (callF T (d + 4) "" "led" [.tup (rs.map ruleD), .str w] h) fun v h' => v = .str (ledM rs w) ∧ h' = h := by
  intro rs w hw hr
  refine W.fn W1.led rfl ?_
  unfold b_led
  simp only [startD, List.map_cons, List.map_nil, List.cons_append, List.nil_append, List.length_cons, List.length_nil, List.replicate, Nat.reduceAdd, Nat.reduceSub]
  refine W.cons (W.forr (W.val ?_))
  walk_at "S"
  refine ⟨_, rfl, fun i σ h' => ∃ (u : List Nat) (o : Option D), σ = [some (.tup (rs.map ruleD)), some (.str u), o] ∧ h' = h ∧ i ≤ rs.length ∧ u.length * 2 ^ (rs.length - i) ≤ 1000000 ∧ ledM rs w = ledM (rs.drop i) u, ⟨w, _, rfl, rfl, Nat.zero_le _, by simpa using hw, by simp⟩, fun _ _ _ _ => wat_nil _ _, ?_, ?_⟩
  · rintro i x σ h' hx ⟨u, o, rfl, rfl, hi, hu, he⟩
    rw [List.getElem?_map] at hx
    obtain ⟨r, hr2, rfl⟩ := Option.map_eq_some_iff.mp hx
    obtain ⟨hlt, er⟩ := List.getElem?_eq_some_iff.mp hr2
    have rf := hr r (List.mem_of_getElem? hr2)
    have hp : 2 ^ (rs.length - i) = 2 * 2 ^ (rs.length - (i + 1)) := by
      rw [← Nat.pow_succ']
      congr 1
      omega
    have hpos : 0 < 2 ^ (rs.length - (i + 1)) := Nat.pow_pos (by decide)
    have hul : u.length ≤ 1000000 := by
      rw [hp] at hu
      have : u.length * 1 ≤ u.length * (2 * 2 ^ (rs.length - (i + 1))) := Nat.mul_le_mul_left _ (by omega)
      omega
    refine ⟨_, rfl, ?_⟩
    walk_at "S"
    refine (changed_ok (d := d) W1 hul rf).mono fun v h1 q => ?_
    obtain ⟨rfl, rfl⟩ := q
    walk_at "S"
    refine ⟨changedM r u, _, rfl, rfl, hlt, ?_, ?_⟩
    · have hcl := changed_len (r := r) (w := u) rf.out
      have h1 : (changedM r u).length * 2 ^ (rs.length - (i + 1)) ≤ 2 * u.length * 2 ^ (rs.length - (i + 1)) := Nat.mul_le_mul_right _ hcl
      have h2 : 2 * u.length * 2 ^ (rs.length - (i + 1)) = u.length * 2 ^ (rs.length - i) := by rw [hp, Nat.mul_comm 2 u.length, Nat.mul_assoc]
      omega
    · rw [he, List.drop_eq_getElem_cons hlt, er]
      rfl
  · rintro σ h' ⟨u, o, rfl, rfl, hi, hu, he⟩
    walk_at "S"
    refine W.en ?_
    rw [fin_self]
    refine Ok.ok ⟨?_, rfl⟩
    rw [he, List.length_map, List.drop_length]
    rfl
/-! ### the law's own -/
theorem here_expr2 {C : Calls} {σ : Env} {a b k : Nat} {w : List Nat} {i j : Int} (ha : σ[a]? = some (some (.str w))) (hb : σ[b]? = some (some (.int i))) (hk : σ[k]? = some (some (.int j))) (hw : w.length ≤ line) :
    Ok (evE C (.ife (.and (.o2 .ge (.o2 .add (.var b) (.var k)) (.cst (.int 0))) (.o2 .lt (.o2 .add (.var b) (.var k)) (.o1 .len (.var a)))) (.o2 .idx (.var a) (.o2 .add (.var b) (.var k))) (.cst (.str [35]))) σ h) fun v h' => v = .str [hereM w (i + j)] ∧ h' = h := by
  refine W.ife (W.and (W.o2 (W.o2 (W.var hb (W.var hk ⟨_, rfl, W.cst ⟨_, rfl, _, rfl, fun h0 => W.o2 (W.o2 (W.var hb (W.var hk ⟨_, rfl, W.o1 (W.var ha ⟨_, len_str hw, _, rfl, _, rfl, fun h1 => W.o2 (W.var ha (W.o2 (W.var hb (W.var hk ⟨_, rfl, ?_⟩)))), fun h1 => W.cst ?_⟩)⟩))), fun h0 => ⟨_, rfl, fun hf => Bool.noConfusion hf, fun _ => W.cst ?_⟩⟩⟩)))))
  · simp only [decide_eq_true_eq] at h0 h1
    exact ⟨_, here_in h0 h1 hw, rfl, rfl⟩
  · simp only [decide_eq_true_eq, decide_eq_false_iff_not] at h0 h1
    exact ⟨by rw [here_out (by omega)], rfl⟩
  · simp only [decide_eq_false_iff_not] at h0
    exact ⟨by rw [here_out (by omega)], rfl⟩
theorem law_holds_ok (hT : T "" "_law_holds" = some ⟨3, 5, b_law_holds, false⟩) {w : List Nat} {p : Int} {ss : List (List Nat)} (hw : w.length ≤ line) (hss : ss.length ≤ 1000) :
    Ok (callF T (d + 1) "" "_law_holds" [.str w, .int p, .tup (ss.map D.str)] h) fun v h' => v = .bl (holdsM w p ss) ∧ h' = h := by
  refine W.fn hT rfl ?_
  unfold b_law_holds
  simp only [startD, List.map_cons, List.map_nil, List.cons_append, List.nil_append, List.length_cons, List.length_nil, List.replicate, Nat.reduceAdd, Nat.reduceSub]
  refine W.cons (W.forr ?_)
  walk_at "S"
  refine ⟨_, rfl, small_of (by omega) (by rw [List.length_map]; omega), fun i σ h' => ∃ o3 o4, σ = [some (.str w), some (.int p), some (.tup (ss.map D.str)), o3, o4] ∧ h' = h ∧ holdsM w p ss = holdsM w (p + (i : Nat)) (ss.drop i), ⟨_, _, rfl, rfl, by simp⟩, fun _ _ _ _ => wat_nil _ _, ?_, ?_⟩
  · rintro i x σ h' hx ⟨o3, o4, rfl, rfl, hh⟩
    obtain ⟨rfl, hi⟩ := rng_get hx
    rw [List.length_map] at hi
    have hlt : i < ss.length := by omega
    rw [List.drop_eq_getElem_cons hlt, holdsM] at hh
    refine ⟨_, rfl, ?_⟩
    refine W.cons (W.set ((here_expr2 (i := p) (j := 0 + (i : Nat)) rfl rfl rfl hw).mono fun v h1 q => ?_))
    obtain ⟨rfl, rfl⟩ := q
    refine ⟨by simp, W.nx (W.cons ?_)⟩
    walk_at "E"
    have e0 : o2F .idx h1 (.tup (ss.map D.str)) (.int (0 + (i : Nat))) = some (.str ss[i]) := by
      obtain ⟨y, e1, e2⟩ := W.atI_some (xs := ss.map D.str) (i := 0 + (i : Nat)) (by omega) (by rw [List.length_map]; omega)
      show atI (ss.map D.str) _ = _
      rw [e1, ← e2, List.getElem?_map, show ((0 : Int) + (i : Nat)).toNat = i by omega, List.getElem?_eq_getElem hlt]
      rfl
    refine ⟨_, e0, ?_⟩
    rw [Int.zero_add]
    refine ⟨_, rfl, _, rfl, fun hk => ?_, fun hk => ?_⟩
    · walk_at "S"
      refine W.en ?_
      rw [fin_self]
      simp only [Bool.not_eq_true'] at hk
      rw [hk, Bool.false_and] at hh
      exact Ok.ok ⟨by rw [hh], rfl⟩
    · simp only [Bool.not_eq_false'] at hk
      rw [hk, Bool.true_and] at hh
      refine W.nil (W.nx (W.nil ⟨_, _, rfl, rfl, ?_⟩))
      rw [hh]
      congr 1
      omega
  · rintro σ h' ⟨o3, o4, rfl, rfl, hh⟩
    walk_at "S"
    refine W.en ?_
    rw [fin_self]
    refine Ok.ok ⟨?_, rfl⟩
    rw [hh]
    simp only [rngD, List.length_map, List.length_range]
    rw [show ((ss.length : Int) - 0).toNat = ss.length by omega, List.drop_length, holdsM]
theorem law_applies_ok (W2 : WLT T) {r : Rule} {w : List Nat} {p : Nat} (hw : w.length ≤ line) (hp : p < w.length) (hc : r.ch.length ≤ 1000) (h1 : r.bf.length ≤ 1000) (h2 : r.bh.length ≤ 1000) :
    Ok (callF T (d + 2) "" "_law_applies" [ruleD r, .str w, .int p] h) fun v h' => v = .bl (appliesM r w p) ∧ h' = h := by
  refine W.fn W2.applies rfl ?_
  unfold b_law_applies
  simp only [startD, List.map_cons, List.map_nil, List.cons_append, List.nil_append, List.length_cons, List.length_nil, List.replicate, Nat.reduceAdd, Nat.reduceSub]
  refine W.cons (W.set (W.compM firstF ?_))
  walk_at "S"
  refine ⟨_, rfl, fun x hx => ?_, ?_, ?_⟩
  · obtain ⟨q, _, rfl⟩ := List.mem_map.mp hx
    refine ⟨_, rfl, ?_⟩
    walk_at "S"
    exact ⟨fun _ => W.var rfl ⟨rfl, rfl⟩, fun hf => Bool.noConfusion hf⟩
  · rw [firsts]
    simp only [List.length_map]
    unfold line
    omega
  · rw [firsts]
    walk_at "S"
    refine ⟨_, here_in (by omega) (by omega) hw, ?_⟩
    walk_at "S"
    refine ⟨_, isin_ones rfl (fun _ => by simp [D.keep]), _, rfl, fun hk => ?_, fun hk => ?_⟩
    · walk_at "E"
      refine (law_holds_ok (d := d) W2.holds hw h1).mono fun v h1 q => ?_
      obtain ⟨rfl, rfl⟩ := q
      refine ⟨_, rfl, fun h3 => ?_, fun h3 => ?_⟩
      · walk_at "E"
        refine (law_holds_ok (d := d) W2.holds hw h2).mono fun v h1 q => ?_
        obtain ⟨rfl, rfl⟩ := q
        walk_at "S"
        refine W.en ?_
        rw [fin_self]
        rw [List.length_map] at h3
        exact Ok.ok ⟨by simp only [appliesM, hk, h3, Bool.true_and], rfl⟩
      · walk_at "S"
        refine W.en ?_
        rw [fin_self]
        rw [List.length_map] at h3
        exact Ok.ok ⟨by simp only [appliesM, hk, h3, Bool.true_and, Bool.false_and], rfl⟩
    · walk_at "S"
      refine W.en ?_
      rw [fin_self]
      exact Ok.ok ⟨by simp only [appliesM, hk, Bool.false_and], rfl⟩
theorem addS {a b : List Nat} (hl : a.length + b.length ≤ line) : o2F .add h (.str a) (.str b) = some (.str (a ++ b)) := by
  simp only [o2F, if_pos hl]
structure RL (r : Rule) : Prop extends RF r where
  bf : r.bf.length ≤ 1000
  bh : r.bh.length ≤ 1000
theorem law_changed_ok (W2 : WLT T) {r : Rule} {w : List Nat} (hw : w.length ≤ 1000000) (hr : RL r) :
    Ok (callF T (d + 3) "" "_law_changed" [ruleD r, .str w] h) fun v h' => v = .str (changedM r w) ∧ h' = h := by
  have hwl : w.length ≤ line := by unfold line; omega
  refine W.fn W2.changed rfl ?_
  unfold b_law_changed
  simp only [startD, List.map_cons, List.map_nil, List.cons_append, List.nil_append, List.length_cons, List.length_nil, List.replicate, Nat.reduceAdd, Nat.reduceSub]
  refine W.cons (W.set (W.cst ⟨by simp, W.nx (W.cons (W.forr ?_))⟩))
  walk_at "S"
  refine ⟨_, len_str hwl, _, rfl, small_of (by omega) (by omega), fun i σ h' => ∃ o, σ = [some (ruleD r), some (.str w), some (.str ((List.range i).flatMap (pieceM r w))), o] ∧ h' = h, ⟨_, rfl, rfl⟩, fun _ _ _ _ => wat_nil _ _, ?_, ?_⟩
  · rintro i x σ h' hx ⟨o, rfl, rfl⟩
    obtain ⟨rfl, hi⟩ := rng_get hx
    have hlt : i < w.length := by omega
    rw [Int.zero_add]
    have hin : o2F .idx h' (.str w) (.int (i : Nat)) = some (.str [hereM w (i : Nat)]) := here_in (by omega) (by omega) hwl
    have hbound : ((List.range i).flatMap (pieceM r w)).length + (pieceM r w i).length ≤ line := by
      have := sum_le2 (f := pieceM r w) (fun p => piece_len hr.out) (List.range i)
      rw [List.length_range] at this
      have := piece_len (r := r) (w := w) (p := i) hr.out
      rw [List.length_flatMap]
      rw [List.map_map] at *
      unfold line
      have e : (List.map (fun a => (pieceM r w a).length) (List.range i)).sum = (List.map (List.length ∘ pieceM r w) (List.range i)).sum := rfl
      omega
    have fin : ∀ u, u = pieceM r w i → (List.range (i + 1)).flatMap (pieceM r w) = (List.range i).flatMap (pieceM r w) ++ u := fun u hu => by
      rw [hu, List.range_succ, List.flatMap_append]
      simp
    refine ⟨_, rfl, ?_⟩
    refine W.cons (W.set (W.o2 (W.var rfl (W.ife ?_))))
    walk_at "E"
    refine (law_applies_ok (d := d) (h := h') W2 (r := r) (w := w) (p := i) hwl hlt hr.len hr.bf hr.bh).mono fun v h1 q => ?_
    obtain ⟨rfl, rfl⟩ := q
    refine ⟨_, rfl, fun ha => ?_, fun ha => ?_⟩
    · walk_at "E"
      refine ⟨_, dict_ch hr.nd, ?_⟩
      walk_at "E"
      refine ⟨_, hin, .str (outM r.ch (hereM w (i : Nat))), key_ch (applies_first ha), ?_⟩
      have hp : pieceM r w i = outM r.ch (hereM w (i : Nat)) := by simp only [pieceM, ha, if_true]
      rw [hp] at hbound
      refine ⟨_, addS hbound, by simp, W.nx (W.nil ⟨some (.int (i : Nat)), ?_, rfl⟩)⟩
      rw [fin _ hp.symm]
      rfl
    · walk_at "E"
      have hp : pieceM r w i = [hereM w (i : Nat)] := by simp only [pieceM, ha, Bool.false_eq_true, if_false]
      rw [hp] at hbound
      refine ⟨_, hin, ?_⟩
      refine ⟨_, addS hbound, by simp, W.nx (W.nil ⟨some (.int (i : Nat)), ?_, rfl⟩)⟩
      rw [fin _ hp.symm]
      rfl
  · rintro σ h' ⟨o, rfl, rfl⟩
    walk_at "S"
    refine W.en ?_
    rw [fin_self]
    refine Ok.ok ⟨?_, rfl⟩
    simp only [rngD, List.length_map, List.length_range]
    rw [show ((w.length : Int) - 0).toNat = w.length by omega]
    rfl
theorem law_led_ok (W2 : WLT T) : ∀ {rs : List Rule} {w : List Nat}, w.length * 2 ^ rs.length ≤ 1000000 → (∀ r ∈ rs, RL r) →
    Ok (callF T (d + 4) "" "_law_led" [.tup (rs.map ruleD), .str w] h) fun v h' => v = .str (ledM rs w) ∧ h' = h := by
  intro rs w hw hr
  refine W.fn W2.led rfl ?_
  unfold b_law_led
  simp only [startD, List.map_cons, List.map_nil, List.cons_append, List.nil_append, List.length_cons, List.length_nil, List.replicate, Nat.reduceAdd, Nat.reduceSub]
  refine W.cons (W.set (W.var rfl ⟨by simp, W.nx (W.cons (W.forr (W.val ?_)))⟩))
  walk_at "S"
  refine ⟨_, rfl, fun i σ h' => ∃ (u : List Nat) (o : Option D), σ = [some (.tup (rs.map ruleD)), some (.str w), some (.str u), o] ∧ h' = h ∧ i ≤ rs.length ∧ u.length * 2 ^ (rs.length - i) ≤ 1000000 ∧ ledM rs w = ledM (rs.drop i) u, ⟨w, _, rfl, rfl, Nat.zero_le _, by simpa using hw, by simp⟩, fun _ _ _ _ => wat_nil _ _, ?_, ?_⟩
  · rintro i x σ h' hx ⟨u, o, rfl, rfl, hi, hu, he⟩
    rw [List.getElem?_map] at hx
    obtain ⟨r, hr2, rfl⟩ := Option.map_eq_some_iff.mp hx
    obtain ⟨hlt, er⟩ := List.getElem?_eq_some_iff.mp hr2
    have rf := hr r (List.mem_of_getElem? hr2)
    have hp : 2 ^ (rs.length - i) = 2 * 2 ^ (rs.length - (i + 1)) := by
      rw [← Nat.pow_succ']
      congr 1
      omega
    have hpos : 0 < 2 ^ (rs.length - (i + 1)) := Nat.pow_pos (by decide)
    have hul : u.length ≤ 1000000 := by
      rw [hp] at hu
      have : u.length * 1 ≤ u.length * (2 * 2 ^ (rs.length - (i + 1))) := Nat.mul_le_mul_left _ (by omega)
      omega
    refine ⟨_, rfl, ?_⟩
    walk_at "S"
    refine (law_changed_ok (d := d) W2 hul rf).mono fun v h1 q => ?_
    obtain ⟨rfl, rfl⟩ := q
    walk_at "S"
    refine ⟨changedM r u, _, rfl, rfl, hlt, ?_, ?_⟩
    · have hcl := changed_len (r := r) (w := u) rf.out
      have h1 : (changedM r u).length * 2 ^ (rs.length - (i + 1)) ≤ 2 * u.length * 2 ^ (rs.length - (i + 1)) := Nat.mul_le_mul_right _ hcl
      have h2 : 2 * u.length * 2 ^ (rs.length - (i + 1)) = u.length * 2 ^ (rs.length - i) := by rw [hp, Nat.mul_comm 2 u.length, Nat.mul_assoc]
      omega
    · rw [he, List.drop_eq_getElem_cons hlt, er]
      rfl
  · rintro σ h' ⟨u, o, rfl, rfl, hi, hu, he⟩
    walk_at "S"
    refine W.en ?_
    rw [fin_self]
    refine Ok.ok ⟨?_, rfl⟩
    rw [he, List.length_map, List.drop_length]
    rfl
/-! ### all words -/
def nextM (s : List Nat) (last : List (List Nat)) : List (List Nat) := last.flatMap fun w => s.map fun c => w ++ [c]
def wordsM (s : List Nat) : Nat → List (List Nat) × List (List Nat)
  | 0 => ([[]], [[]])
  | k + 1 => ((wordsM s k).1 ++ nextM s (wordsM s k).2, nextM s (wordsM s k).2)
theorem next_len (s : List Nat) (l : List (List Nat)) : (nextM s l).length = l.length * s.length := by
  unfold nextM
  induction l with
  | nil => simp
  | cons w l ih => rw [List.flatMap_cons, List.length_append, ih, List.length_map, List.length_cons, Nat.succ_mul, Nat.add_comm]
theorem words_last (s : List Nat) : ∀ k, (wordsM s k).2.length = s.length ^ k
  | 0 => rfl
  | k + 1 => by rw [wordsM, next_len, words_last s k, Nat.pow_succ]
theorem words_each (s : List Nat) : ∀ k, (∀ w ∈ (wordsM s k).2, w.length = k ∧ ∀ c ∈ w, c ∈ s) ∧ (∀ w ∈ (wordsM s k).1, w.length ≤ k ∧ ∀ c ∈ w, c ∈ s)
  | 0 => by simp [wordsM]
  | k + 1 => by
    obtain ⟨h1, h2⟩ := words_each s k
    have h3 : ∀ w ∈ nextM s (wordsM s k).2, w.length = k + 1 ∧ ∀ c ∈ w, c ∈ s := by
      intro w hw
      obtain ⟨u, hu, hw⟩ := List.mem_flatMap.mp hw
      obtain ⟨c, hc, rfl⟩ := List.mem_map.mp hw
      refine ⟨by rw [List.length_append, (h1 u hu).1]; rfl, fun b hb => ?_⟩
      rcases List.mem_append.mp hb with hb | hb
      · exact (h1 u hu).2 b hb
      · rw [List.mem_singleton.mp hb]; exact hc
    refine ⟨h3, fun w hw => ?_⟩
    rcases List.mem_append.mp hw with hw | hw
    · exact ⟨Nat.le_succ_of_le (h2 w hw).1, (h2 w hw).2⟩
    · exact ⟨Nat.le_of_eq (h3 w hw).1, (h3 w hw).2⟩
theorem words_all (s : List Nat) (hs : s.length ≤ 3) : ∀ k, (wordsM s k).1.length ≤ 2 * 3 ^ k
  | 0 => by simp [wordsM]
  | k + 1 => by
    have := words_all s hs k
    have h2 : s.length ^ k ≤ 3 ^ k := Nat.pow_le_pow_left hs k
    have h3 : s.length ^ k * s.length ≤ 3 ^ k * 3 := Nat.mul_le_mul h2 hs
    rw [wordsM]
    simp only [List.length_append, next_len, words_last]
    rw [Nat.pow_succ]
    omega
theorem pow3 {k : Nat} (hk : k ≤ 10) : 3 ^ k ≤ 59049 := Nat.pow_le_pow_right (n := 3) (by decide) hk
theorem fin_mine {xs : List D} {ex : Hh} (hu : D.undAll h.length xs = true) : fin h (h ++ .lst xs :: ex) (.ref h.length) = .ok (.lv xs) h := by
  have hf : freeze (h ++ .lst xs :: ex) h.length (.ref h.length) = .lv xs := by
    simp only [freeze, Nat.lt_irrefl, if_false]
    rw [List.getElem?_append_right (Nat.le_refl _), Nat.sub_self]
    rfl
  rw [fin_drop (by simp) (by rw [hf]; exact hu) ?_, hf, List.take_left']
  · rfl
  · intro l o hl e
    rw [List.getElem?_append_left hl] at e
    exact .inl e
theorem flat_map1 {α : Type} (a b : α → D) (F : D → List D) (hF : ∀ x, F (a x) = [b x]) : ∀ xs : List α, (xs.map a).flatMap F = xs.map b
  | [] => rfl
  | x :: xs => by rw [List.map_cons, List.flatMap_cons, hF, flat_map1 a b F hF xs]; rfl
theorem words_up_to_ok (hT : T "" "words_up_to" = some ⟨2, 7, b_words_up_to, false⟩) {s : List Nat} {m : Nat} (hs : s.length ≤ 3) (hm : m ≤ 10) :
    Ok (callF T (d + 1) "" "words_up_to" [.str s, .int m] h) fun v h' => v = .lv ((wordsM s m).1.map D.str) ∧ h' = h := by
  refine W.fn hT rfl ?_
  unfold b_words_up_to
  simp only [startD, List.map_cons, List.map_nil, List.cons_append, List.nil_append, List.length_cons, List.length_nil, List.replicate, Nat.reduceAdd, Nat.reduceSub]
  refine W.cons (W.par (W.alcL ?_))
  walk_at "S"
  refine ⟨_, rfl, ?_⟩
  walk_at "S"
  refine ⟨⟨by simp, by simp, by decide⟩, W.nx (W.cons (W.forr ?_))⟩
  walk_at "S"
  refine ⟨_, rfl, small_of (by omega) (by omega), fun i σ h' => ∃ o4 o5 o6, σ = [some (.str s), some (.int m), some (.ref h.length), some (.fz ((wordsM s i).2.map D.str)), o4, o5, o6] ∧ h' = h ++ [.lst ((wordsM s i).1.map D.str)] ∧ i ≤ m, ⟨_, _, _, rfl, rfl, Nat.zero_le _⟩, fun _ _ _ _ => wat_nil _ _, ?_, ?_⟩
  · rintro i x σ h' hx ⟨o4, o5, o6, rfl, rfl, hi⟩
    obtain ⟨rfl, hi2⟩ := rng_get hx
    obtain ⟨he, ha⟩ := words_each s i
    refine ⟨_, rfl, ?_⟩
    refine W.cons (W.set (W.comp2M (fun x => match x with | .str w => s.map fun c => .str (w ++ [c]) | _ => []) (W.val ?_)))
    walk_at "S"
    have hflat : ((wordsM s i).2.map D.str).flatMap (fun x => match x with | .str w => s.map fun c => D.str (w ++ [c]) | _ => []) = (nextM s (wordsM s i).2).map D.str := by
      unfold nextM
      generalize (wordsM s i).2 = l
      induction l with
      | nil => rfl
      | cons w l ih => rw [List.map_cons, List.flatMap_cons, List.flatMap_cons, List.map_append, ih, List.map_map]; rfl
    have hl1 : (nextM s (wordsM s i).2).length ≤ 3 ^ 11 := by
      rw [next_len, words_last]
      have h2 : s.length ^ i ≤ 3 ^ i := Nat.pow_le_pow_left hs i
      have h3 := pow3 (k := i) (by omega)
      have h4 : s.length ^ i * s.length ≤ 59049 * 3 := Nat.mul_le_mul (by omega) hs
      exact h4
    refine ⟨_, rfl, fun x hx => ?_, ?_, ?_⟩
    · obtain ⟨w, hw, rfl⟩ := List.mem_map.mp hx
      have hwl := (he w hw).1
      refine ⟨_, rfl, ?_⟩
      walk_at "S"
      refine ⟨rfl, fun _ => W.val (W.var rfl ⟨_, rfl, rfl, fun y => match y with | .str c => [.str (w ++ c)] | _ => [], fun y hy => ?_, ?_⟩), fun hf => Bool.noConfusion hf⟩
      · obtain ⟨c, hc, rfl⟩ := List.mem_map.mp hy
        refine ⟨_, rfl, ?_⟩
        walk_at "S"
        refine ⟨fun _ => ?_, fun hf => Bool.noConfusion hf⟩
        walk_at "S"
        exact ⟨_, addS (by simp only [List.length_cons, List.length_nil]; unfold line; omega), rfl, rfl⟩
      · exact flat_map1 _ _ _ (fun _ => rfl) s
    · simp only [hflat, List.length_map]
      unfold line
      omega
    · simp only [hflat]
      refine ⟨by simp, W.nx (W.cons (W.ext (W.var rfl ⟨_, _, rfl, last_get, W.var rfl ⟨_, _, last_get, rfl, ?_, W.nx (W.nil ⟨_, _, _, rfl, ?_, ?_⟩)⟩⟩)))⟩
      · have h1 := words_all s hs i
        have h3 := pow3 (k := i) (by omega)
        simp only [List.length_map]
        unfold line
        omega
      · rw [last_set, wordsM, List.map_append]
      · omega
  · rintro σ h' ⟨o4, o5, o6, rfl, rfl, hi⟩
    simp only [rngD, List.length_map, List.length_range]
    rw [show ((m : Int) - 0).toNat = m by omega]
    walk_at "S"
    refine W.en ?_
    rw [fin_mine (strs_und _ _ _)]
    exact Ok.ok ⟨rfl, rfl⟩
theorem addL {xs ys : List D} {x y : D} (hx : items h x = some xs) (hy : items h y = some ys) (hnx : ∀ i, x ≠ .int i) (hns : ∀ i, x ≠ .str i) (hnt : ∀ i, x ≠ .tup i) (hl : xs.length + ys.length ≤ line) : o2F .add h x y = some (.lv (xs ++ ys)) := by
  cases x <;> first
    | exact absurd rfl (hnx _)
    | exact absurd rfl (hns _)
    | exact absurd rfl (hnt _)
    | simp only [o2F, hx, hy, if_pos hl]
theorem law_words_ok (hT : T "" "_law_words" = some ⟨2, 8, b_law_words, false⟩) {s : List Nat} {m : Nat} (hs : s.length ≤ 3) (hm : m ≤ 10) :
    Ok (callF T (d + 1) "" "_law_words" [.str s, .int m] h) fun v h' => v = .fz ((wordsM s m).1.map D.str) ∧ h' = h := by
  refine W.fn hT rfl ?_
  unfold b_law_words
  simp only [startD, List.map_cons, List.map_nil, List.cons_append, List.nil_append, List.length_cons, List.length_nil, List.replicate, Nat.reduceAdd, Nat.reduceSub]
  refine W.cons (W.par ?_)
  walk_at "E"
  refine ⟨⟨by simp, by simp, by decide⟩, W.nx (W.cons (W.forr ?_))⟩
  walk_at "S"
  refine ⟨_, rfl, small_of (by omega) (by omega), fun i σ h' => ∃ o4 o5 o6 o7, σ = [some (.str s), some (.int m), some (.fz ((wordsM s i).1.map D.str)), some (.fz ((wordsM s i).2.map D.str)), o4, o5, o6, o7] ∧ h' = h ∧ i ≤ m, ⟨_, _, _, _, rfl, rfl, Nat.zero_le _⟩, fun _ _ _ _ => wat_nil _ _, ?_, ?_⟩
  · rintro i x σ h' hx ⟨o4, o5, o6, o7, rfl, rfl, hi⟩
    obtain ⟨rfl, hi2⟩ := rng_get hx
    obtain ⟨he, ha⟩ := words_each s i
    have hl1 : (nextM s (wordsM s i).2).length ≤ 3 ^ 11 := by
      rw [next_len, words_last]
      have h2 : s.length ^ i ≤ 3 ^ i := Nat.pow_le_pow_left hs i
      have h3 := pow3 (k := i) (by omega)
      have h4 : s.length ^ i * s.length ≤ 59049 * 3 := Nat.mul_le_mul (by omega) hs
      exact h4
    refine ⟨_, rfl, ?_⟩
    refine W.cons (W.set (W.lst (W.es0 ⟨by simp, W.nx (W.cons (W.forr (W.val (W.var rfl ⟨_, rfl, ?_⟩))))⟩)))
    refine ⟨fun j σ h2 => ∃ o6 o7, σ = [some (.str s), some (.int m), some (.fz ((wordsM s i).1.map D.str)), some (.fz ((wordsM s i).2.map D.str)), some (.int (0 + (i : Nat))), some (.fz ((nextM s ((wordsM s i).2.take j)).map D.str)), o6, o7] ∧ h2 = h', ⟨_, _, rfl, rfl⟩, fun _ _ _ _ => wat_nil _ _, ?_, ?_⟩
    · rintro j x σ h2 hx ⟨o6, o7, rfl, rfl⟩
      rw [List.getElem?_map] at hx
      obtain ⟨w, hw, rfl⟩ := Option.map_eq_some_iff.mp hx
      have hwl := (he w (List.mem_of_getElem? hw)).1
      have hnx : nextM s ((wordsM s i).2.take (j + 1)) = nextM s ((wordsM s i).2.take j) ++ s.map fun c => w ++ [c] := by
        unfold nextM
        rw [List.take_succ, hw, List.flatMap_append]
        simp
      have hl2 : (nextM s ((wordsM s i).2.take j)).length ≤ 3 ^ 11 := by
        refine Nat.le_trans ?_ hl1
        rw [next_len, next_len, List.length_take]
        exact Nat.mul_le_mul_right _ (Nat.min_le_right _ _)
      refine ⟨_, rfl, ?_⟩
      refine W.cons (W.set (W.o2 (W.var rfl (W.compM (fun y => match y with | .str c => [.str (w ++ c)] | _ => []) (W.val (W.var rfl ⟨_, rfl, ?_⟩))))))
      have hfl : (s.map fun c => D.str [c]).flatMap (fun y => match y with | .str c => [.str (w ++ c)] | _ => []) = s.map fun c => D.str (w ++ [c]) := flat_map1 _ _ _ (fun _ => rfl) s
      refine ⟨fun y hy => ?_, ?_, ?_⟩
      · obtain ⟨c, hc, rfl⟩ := List.mem_map.mp hy
        refine ⟨_, rfl, ?_⟩
        walk_at "S"
        refine ⟨fun _ => ?_, fun hf => Bool.noConfusion hf⟩
        walk_at "S"
        exact ⟨_, addS (by simp only [List.length_cons, List.length_nil]; unfold line; omega), rfl, rfl⟩
      · simp only [hfl, List.length_map]
        unfold line
        omega
      · simp only [hfl]
        refine ⟨_, addL rfl rfl (fun _ => by simp) (fun _ => by simp) (fun _ => by simp) (by simp only [List.length_map]; unfold line; omega), by simp, W.nx (W.nil ⟨some (.str w), o7, ?_, rfl⟩)⟩
        rw [hnx, List.map_append, List.map_map]
        rfl
    · rintro σ h2 ⟨o6, o7, rfl, rfl⟩
      rw [List.length_map, List.take_length]
      refine W.nx (W.cons (W.par (W.o2 (W.var rfl (W.var rfl ⟨_, addL rfl rfl (fun _ => by simp) (fun _ => by simp) (fun _ => by simp) ?_, W.var rfl ⟨⟨by simp, by simp, by decide⟩, W.nx (W.nil ⟨some (.int (0 + (i : Nat))), some (.fz ((nextM s (wordsM s i).2).map D.str)), o6, o7, ?_, rfl, by omega⟩)⟩⟩)))))
      · have h1 := words_all s hs i
        have h3 := pow3 (k := i) (by omega)
        simp only [List.length_map]
        unfold line
        omega
      · rw [wordsM, List.map_append]
        rfl
  · rintro σ h' ⟨o4, o5, o6, o7, rfl, rfl, hi⟩
    simp only [rngD, List.length_map, List.length_range]
    rw [show ((m : Int) - 0).toNat = m by omega]
    walk_at "S"
    refine W.en ?_
    rw [fin_self]
    exact Ok.ok ⟨rfl, rfl⟩
theorem stagesM_take (rs : List Rule) (w : List Nat) : stagesM rs w = (List.range (rs.length + 1)).map fun i => ledM (rs.take i) w := by
  induction rs generalizing w with
  | nil => rfl
  | cons r rs ih =>
    rw [stagesM, ih, List.length_cons, List.range_succ_eq_map (n := rs.length + 1), List.map_cons, List.map_map]
    rfl
theorem led_take {rs : List Rule} {i : Nat} {r : Rule} (w : List Nat) (hr : rs[i]? = some r) : ledM (rs.take (i + 1)) w = changedM r (ledM (rs.take i) w) := by
  unfold ledM
  rw [List.take_succ, hr, List.foldl_append]
  rfl
theorem led_len {rs : List Rule} (hr : ∀ r ∈ rs, RF r) (w : List Nat) : (ledM rs w).length ≤ w.length * 2 ^ rs.length := by
  induction rs generalizing w with
  | nil => simp [ledM]
  | cons r rs ih =>
    have h1 := ih (fun x hx => hr x (List.mem_cons_of_mem _ hx)) (changedM r w)
    have h2 := changed_len (w := w) (hr r List.mem_cons_self).out
    have h3 : (changedM r w).length * 2 ^ rs.length ≤ 2 * w.length * 2 ^ rs.length := Nat.mul_le_mul_right _ h2
    show (ledM rs (changedM r w)).length ≤ _
    rw [List.length_cons, Nat.pow_succ]
    have : w.length * (2 ^ rs.length * 2) = 2 * w.length * 2 ^ rs.length := by
      rw [Nat.mul_comm (2 ^ rs.length) 2, ← Nat.mul_assoc, Nat.mul_comm w.length 2]
    omega
theorem led_take_len {rs : List Rule} (hr : ∀ r ∈ rs, RF r) (w : List Nat) (i : Nat) : (ledM (rs.take i) w).length ≤ w.length * 2 ^ rs.length := by
  refine Nat.le_trans (led_len (fun r h => hr r (List.mem_of_mem_take h)) w) ?_
  exact Nat.mul_le_mul_left _ (Nat.pow_le_pow_right (by decide) (by rw [List.length_take]; exact Nat.min_le_right _ _))
theorem stages_ok (W1 : WT T) (hT : T "" "stages" = some ⟨2, 4, b_stages, false⟩) {rs : List Rule} {w : List Nat} (hw : w.length * 2 ^ rs.length ≤ 1000000) (hr : ∀ r ∈ rs, RF r) (hl : rs.length ≤ 1000) :
    Ok (callF T (d + 4) "" "stages" [.tup (rs.map ruleD), .str w] h) fun v h' => v = .lv ((stagesM rs w).map D.str) ∧ h' = h := by
  refine W.fn hT rfl ?_
  unfold b_stages
  simp only [startD, List.map_cons, List.map_nil, List.cons_append, List.nil_append, List.length_cons, List.length_nil, List.replicate, Nat.reduceAdd, Nat.reduceSub]
  refine W.cons (W.set (W.alcL ?_))
  walk_at "S"
  refine ⟨_, rfl, by simp, W.nx (W.cons (W.forr (W.val ?_)))⟩
  walk_at "S"
  refine ⟨_, rfl, fun i σ h' => ∃ (o : Option D), σ = [some (.tup (rs.map ruleD)), some (.str w), some (.ref h.length), o] ∧ h' = h ++ [.lst (((List.range (i + 1)).map fun i => ledM (rs.take i) w).map D.str)] ∧ i ≤ rs.length, ⟨_, rfl, rfl, Nat.zero_le _⟩, fun _ _ _ _ => wat_nil _ _, ?_, ?_⟩
  · rintro i x σ h' hx ⟨o, rfl, rfl, hi⟩
    rw [List.getElem?_map] at hx
    obtain ⟨r, hr2, rfl⟩ := Option.map_eq_some_iff.mp hx
    obtain ⟨hlt, er⟩ := List.getElem?_eq_some_iff.mp hr2
    have rf := hr r (List.mem_of_getElem? hr2)
    have hlen := led_take_len hr w i
    refine ⟨_, rfl, ?_⟩
    refine W.cons (W.app (W.var rfl ⟨_, _, rfl, last_get, ?_⟩))
    walk_at "E"
    refine ⟨.str (ledM (rs.take i) w), ?_, ?_⟩
    · show (match seqs (h ++ [_]) (.ref h.length) with | some xs => atI xs (-1) | none => (dlook (h ++ [_]) (.ref h.length) (.int (-1))).bind id) = _
      simp only [seqs, items, last_get]
      simp only [atI, ixN, List.length_map, List.length_range]
      rw [if_neg (by decide), if_pos (by omega)]
      simp only [Option.bind_some]
      rw [List.getElem?_map, List.getElem?_map, show ((-1 : Int) + ((i + 1 : Nat) : Int)).toNat = i by omega, List.getElem?_range (by omega)]
      rfl
    · walk_at "E"
      refine (changed_ok (d := d) W1 (by omega) rf).mono fun v h1 q => ?_
      obtain ⟨rfl, rfl⟩ := q
      refine ⟨_, last_get, by simp only [List.length_map, List.length_range]; unfold line; omega, W.nx (W.nil ⟨_, rfl, ?_, hlt⟩)⟩
      rw [last_set]
      congr 2
      rw [List.range_succ (n := i + 1), List.map_append, List.map_append]
      simp only [List.map_cons, List.map_nil, led_take w hr2]
      rfl
  · rintro σ h' ⟨o, rfl, rfl, hi⟩
    rw [List.length_map, ← stagesM_take]
    walk_at "S"
    refine W.en ?_
    rw [fin_mine (strs_und _ _ _)]
    exact Ok.ok ⟨rfl, rfl⟩
end
end Gen
end Sd

/-! MachB: steps of a rule; what a machine keeps. -/
namespace Sd
/-! ### keys -/
theorem depthAll_le {f : D → Option PySem.NestedKey} {n : Nat} (hf : ∀ d k, f d = some k → k.depth ≤ n) : ∀ (xs : List D) (ks : List PySem.NestedKey), mapO f xs = some ks → PySem.NestedKey.depthAll ks ≤ n
  | [], _, e => by cases e; simp [PySem.NestedKey.depthAll]
  | x :: xs, _, e => by
    cases h1 : f x with
    | none => simp [mapO, h1] at e
    | some k =>
      cases h2 : mapO f xs with
      | none => simp [mapO, h1, h2] at e
      | some ks =>
        simp only [mapO, h1, h2] at e
        cases e
        have a := hf x k h1
        have b := depthAll_le hf xs ks h2
        simp only [PySem.NestedKey.depthAll]; omega
theorem nk_depth : ∀ (n : Nat) (d : D) (k : PySem.NestedKey), nk n d = some k → k.depth ≤ n
  | 0, d, k, e => by simp [nk] at e
  | n + 1, d, k, e => by
    cases d with
    | tup xs =>
      simp only [nk, Option.map_eq_some_iff] at e
      obtain ⟨ks, e, rfl⟩ := e
      have := depthAll_le (nk_depth n) xs ks e
      simp only [PySem.NestedKey.depth]; omega
    | _ => first | (simp [nk] at e; done) | (simp only [nk, Option.some.injEq] at e; subst e; simp [PySem.NestedKey.depth])
theorem kOf_by {xs : List D} {k : PySem.NestedKey} (h : ∀ n, nk (n + 6) (.tup xs) = some k) : kOf (.tup xs) = some k := by
  have h9 := h 3
  have h6 := nk_depth 6 _ _ (h 0)
  simp only [kOf, h9]
  rw [if_pos (by omega)]
namespace Mach
open Gen
open PySem (PyData NestedKey)
theorem rs_nk {n : Nat} (x : RS) : nk (n + 3) (rsD x) = some (rsK x) := by
  unfold rsD rsK
  rw [nk_tup]
  simp only [mapO, fg_nk (n := n), Option.map_some]
theorem st_nk {n : Nat} (x : St) : nk (n + 4) (stD x) = some (stK x) := by
  unfold stD stK
  rw [nk_tup, mapO_map (f := nk (n + 3)) (g := rsK) (fun a => rs_nk a)]
  rfl
theorem rs_pd {h : Hh} {n : Nat} (x : RS) : pd h (n + 3) (rsD x) = some (rsP x) := by
  unfold rsD rsP
  rw [pd_tup]
  simp only [mapO, fg_pd (n := n), Option.map_some]
theorem st_pd {h : Hh} {n : Nat} (x : St) : pd h (n + 4) (stD x) = some (stP x) := by
  unfold stD stP
  rw [pd_tup, mapO_map (f := pd h (n + 3)) (g := rsP) (fun a => rs_pd a)]
  rfl
theorem rs_und (n : Nat) (x : RS) : (rsD x).und n = true := by simp [rsD, D.und, D.undAll, fg_und]
theorem st_und (n : Nat) (x : St) : (stD x).und n = true := by simp only [stD, D.und]; exact undAll_map (rs_und n) x
theorem row_und (n : Nat) (x : RS × List Nat) : (rowD x).und n = true := by simp [rowD, D.und, D.undAll, rs_und]
theorem srow_und (n : Nat) (x : St × List Nat) : (srowD x).und n = true := by simp [srowD, D.und, D.undAll, st_und]
theorem rsK_inj {x y : RS} (e : rsK x = rsK y) : x = y := by
  simp only [rsK, NestedKey.tup.injEq, List.cons.injEq, and_true] at e
  exact Prod.ext (fgK_inj e.1) (fgK_inj e.2)
theorem stK_inj {x y : St} (e : stK x = stK y) : x = y := by
  simp only [stK, NestedKey.tup.injEq] at e
  exact (List.map_inj_right fun a b h => rsK_inj h).mp e
/-- what a machine keeps things at -/
inductive Key where
  | rs (k : Nat) (x : RS) (c : Nat)
  | ss (st : St) (c : Nat)
  deriving DecidableEq
def keyD : Key → D
  | .rs k x c => .tup [.int (k : Nat), rsD x, .str [c]]
  | .ss st c => .tup [stD st, .str [c]]
def keyK : Key → NestedKey
  | .rs k x c => .tup [.num (k : Nat), rsK x, .text ⟨#[c]⟩]
  | .ss st c => .tup [stK st, .text ⟨#[c]⟩]
theorem key_of : ∀ q : Key, kOf (keyD q) = some (keyK q)
  | .rs k x c => kOf_by fun n => by
    rw [nk_tup]
    simp only [mapO, rs_nk (n := n + 2)]
    rfl
  | .ss st c => kOf_by fun n => by
    rw [nk_tup]
    simp only [mapO, st_nk (n := n + 1)]
    rfl
theorem keyK_inj {p q : Key} (e : keyK p = keyK q) : p = q := by
  cases p with
  | rs k x c =>
    cases q with
    | rs k2 x2 c2 =>
      simp only [keyK, NestedKey.tup.injEq, List.cons.injEq, NestedKey.num.injEq, NestedKey.text.injEq, PySem.Str.mk.injEq, and_true] at e
      obtain ⟨e1, e2, e3⟩ := e
      have h1 : k = k2 := Int.ofNat.inj e1
      have h2 := rsK_inj e2
      have h3 : c = c2 := by simpa using e3
      rw [h1, h2, h3]
    | ss st2 c2 => simp [keyK] at e
  | ss st c =>
    cases q with
    | rs k2 x2 c2 => simp [keyK] at e
    | ss st2 c2 =>
      simp only [keyK, NestedKey.tup.injEq, List.cons.injEq, NestedKey.text.injEq, PySem.Str.mk.injEq, and_true] at e
      have h2 := stK_inj e.1
      have h3 : c = c2 := by simpa using e.2
      rw [h2, h3]
theorem key_keep (q : Key) : (keyD q).keep = keyD q := by cases q <;> rfl
theorem key_tup (q : Key) : ∃ xs, keyD q = .tup xs := by cases q <;> exact ⟨_, rfl⟩
theorem key_und (n : Nat) (q : Key) : (keyD q).und n = true := by cases q <;> simp [keyD, D.und, D.undAll, rs_und, st_und]
/-- what is kept there -/
def rule0 : Rule := ⟨[], [], []⟩
def valD (hist : List Rule) (s : List Nat) : Key → D
  | .rs k x c => .fz ((rSteps (hist.getD k rule0) s x c).map rowD)
  | .ss st c => .fz ((stepsF hist s st c).map srowD)
theorem val_und (hist : List Rule) (s : List Nat) (n : Nat) (q : Key) : (valD hist s q).und n = true := by
  cases q <;> simp only [valD, D.und]
  · exact undAll_map (row_und n) _
  · exact undAll_map (srow_und n) _
theorem val_keep (hist : List Rule) (s : List Nat) (q : Key) : (valD hist s q).keep = valD hist s q := by cases q <;> rfl
def cacheOb (hist : List Rule) (s : List Nat) : List Key → Ob
  | [] => .dic [] []
  | q :: qs => .din ((q :: qs).map keyD) ((q :: qs).map (valD hist s))
theorem nget_keys {v : Key → D} (q : Key) : ∀ qs : List Key, nget (keyK q) (qs.map keyD) (qs.map v) = if q ∈ qs then some (v q) else none
  | [] => by simp [nget]
  | p :: qs => by
    simp only [List.map_cons, nget, key_of, Option.some.injEq, nget_keys q qs]
    by_cases e : p = q
    · subst e; simp
    · have e1 : ¬ keyK p = keyK q := fun z => e (keyK_inj z)
      have e2 : ¬ q = p := fun z => e z.symm
      simp [e1, e2]
theorem cache_look {hist : List Rule} {s : List Nat} {h : Hh} {l : Nat} {qs : List Key} (q : Key) (hl : h[l]? = some (cacheOb hist s qs)) : dlook h (.ref l) (keyD q) = some (if q ∈ qs then some (valD hist s q) else none) := by
  obtain ⟨xs, hx⟩ := key_tup q
  cases qs with
  | nil =>
    have hk : isKey (keyD q) = false := by rw [hx]; rfl
    simp only [dlook, dict, hl, cacheOb, hk, key_of]
    simp
  | cons p qs =>
    have hd : dict h (.ref l) = none := by simp only [dict, hl, cacheOb]
    have hn : dictn h (.ref l) = some ((p :: qs).map keyD, (p :: qs).map (valD hist s)) := by simp only [dictn, hl, cacheOb]
    simp only [dlook, hd, hn, key_of, Option.map_some, nget_keys]
theorem cache_put {hist : List Rule} {s : List Nat} {qs : List Key} {q : Key} (hn : q ∉ qs) (hl : qs.length < lineN) : obPut (cacheOb hist s qs) (keyD q) (valD hist s q) = some (cacheOb hist s (qs ++ [q])) := by
  obtain ⟨xs, hx⟩ := key_tup q
  cases qs with
  | nil =>
    have hk : isKey (keyD q) = false := by rw [hx]; rfl
    simp only [cacheOb, obPut, hk, key_of]
    simp [cacheOb]
  | cons p qs =>
    simp only [cacheOb, obPut, key_of]
    rw [List.length_map, if_pos hl, nget_keys, if_neg hn]
    simp [cacheOb]
theorem cache_notin {hist : List Rule} {s : List Nat} {h : Hh} {l : Nat} {qs : List Key} (q : Key) (hl : h[l]? = some (cacheOb hist s qs)) : o2F .notin h (keyD q) (.ref l) = some (.bl (!decide (q ∈ qs))) := by
  have hs : seqs h (.ref l) = none := by cases qs <;> simp only [seqs, items, hl, cacheOb]
  have e := cache_look q hl
  obtain ⟨xs, hx⟩ := key_tup q
  rw [hx] at e ⊢
  simp only [o2F, hs, e, Option.map_some]
  by_cases hq : q ∈ qs <;> simp [hq]
theorem cache_idx {hist : List Rule} {s : List Nat} {h : Hh} {l : Nat} {qs : List Key} {q : Key} (hq : q ∈ qs) (hl : h[l]? = some (cacheOb hist s qs)) : o2F .idx h (.ref l) (keyD q) = some (valD hist s q) := by
  have e := cache_look q hl
  obtain ⟨xs, hx⟩ := key_tup q
  rw [hx] at e ⊢
  simp only [o2F, e, if_pos hq]
  rfl
theorem cache_und (hist : List Rule) (s : List Nat) (n : Nat) (qs : List Key) : (cacheOb hist s qs).und n = true := by
  cases qs with
  | nil => rfl
  | cons q qs =>
    simp only [cacheOb, Ob.und, Bool.and_eq_true]
    exact ⟨undAll_map (key_und n) _, undAll_map (val_und hist s n) _⟩
/-! ### what is looked at in rules -/
structure RK (s : List Nat) (r : Rule) : Prop where
  nd : (r.ch.map (·.1)).Nodup
  out : ∀ p ∈ r.ch, p.2.length ≤ 2 ∧ ∀ c ∈ p.2, c ∈ s
  bf : r.bf.length ≤ 2
  bh : r.bh.length ≤ 2
theorem RuleOk.rk {s : List Nat} {r : Rule} (hs : s.Nodup) (hr : RuleOk s r) : RK s r :=
  ⟨hr.ch.sub.nodup hs, fun p hp => ⟨(hr.ch.out p hp).2, (hr.ch.out p hp).1⟩, hr.bf.1, hr.bh.1⟩
def holdsF (r : Rule) (b k : Fg) : Bool := (decide (r.bf.length = 0) || b.getLast?.getD false) && (decide (r.bh.length = 0) || k.head?.getD false)
theorem outOf_eq (r : Rule) (b k : Fg) (c : Nat) : outOf r b k c = if holdsF r b k then (r.ch.lookup c).getD [c] else [c] := rfl
theorem lookup_mem' {ch : List (Nat × List Nat)} {c : Nat} {o : List Nat} : ch.lookup c = some o → (c, o) ∈ ch := by
  induction ch with
  | nil => intro e; cases e
  | cons p ch ih =>
    intro e
    rw [List.lookup_cons] at e
    by_cases hp : c = p.1
    · subst hp
      simp only [beq_self_eq_true] at e
      cases e
      exact List.mem_cons_self
    · have : (c == p.1) = false := by simpa using hp
      rw [this] at e
      exact List.mem_cons_of_mem _ (ih e)
theorem outOf_len {s : List Nat} {r : Rule} (hr : RK s r) (b k : Fg) (c : Nat) : (outOf r b k c).length ≤ 2 := by
  rw [outOf_eq]
  split
  · cases e : r.ch.lookup c with
    | none => simp
    | some o => exact (hr.out _ (lookup_mem' e)).1
  · simp
theorem outOf_mem {s : List Nat} {r : Rule} (hr : RK s r) (b k : Fg) {c : Nat} (hc : c ∈ s) : ∀ x ∈ outOf r b k c, x ∈ s := by
  rw [outOf_eq]
  split
  · cases e : r.ch.lookup c with
    | none => intro x hx; rw [List.mem_singleton.mp hx]; exact hc
    | some o => exact (hr.out _ (lookup_mem' e)).2
  · intro x hx; rw [List.mem_singleton.mp hx]; exact hc
section
variable {T : Tb} {d : Nat} {h : Hh}
theorem last_idx {α : Type} {f : α → D} {xs : List α} {a : α} (ha : xs.getLast? = some a) : atI (xs.map f) (-1) = some (f a) := by
  rcases List.eq_nil_or_concat xs with rfl | ⟨l, b, rfl⟩
  · cases ha
  · rw [List.concat_eq_append] at ha ⊢
    simp only [List.getLast?_append, List.getLast?_singleton] at ha
    cases ha
    have hl : (-1 + ((List.map f (l ++ [a])).length : Int)).toNat = l.length := by simp; omega
    simp only [atI, ixN]
    rw [if_neg (by decide), if_pos (by simp; omega)]
    simp only [Option.bind_some, hl]
    simp
theorem holds_ok {C : Calls} {σ : Env} {er eb ek : E} {r : Rule} {b k : Fg} (hr : ∀ Q : D → Hh → Prop, Q (ruleD r) h → Ok (evE C er σ h) Q) (hb : ∀ Q : D → Hh → Prop, Q (fgD b) h → Ok (evE C eb σ h) Q) (hk : ∀ Q : D → Hh → Prop, Q (fgD k) h → Ok (evE C ek σ h) Q)
    (lb : b.length = r.bf.length) (lk : k.length = r.bh.length) : Ok (evE C (.and (.or (.o2 .eq (.o1 .len (.o2 .idx er (.cst (.int 1)))) (.cst (.int 0))) (.o2 .idx eb (.o1 .neg (.cst (.int 1))))) (.or (.o2 .eq (.o1 .len (.o2 .idx er (.cst (.int 2)))) (.cst (.int 0))) (.o2 .idx ek (.cst (.int 0))))) σ h)
      fun v h' => v = .bl (holdsF r b k) ∧ h' = h := by
  have second : Ok (evE C (.or (.o2 .eq (.o1 .len (.o2 .idx er (.cst (.int 2)))) (.cst (.int 0))) (.o2 .idx ek (.cst (.int 0)))) σ h) fun v h' => v = .bl (decide (r.bh.length = 0) || k.head?.getD false) ∧ h' = h := by
    refine W.or (W.o2 (W.o1 (W.o2 (hr _ (W.cst ⟨_, rfl, ⟨_, rfl, W.cst ⟨_, W.eqI, _, rfl, fun h0 => ?_, fun h0 => ?_⟩⟩⟩)))))
    · simp only [List.length_map, decide_eq_false_iff_not] at h0
      cases k with
      | nil => simp at lk; omega
      | cons x k =>
        refine W.o2 (hk _ (W.cst ⟨_, idxN_map (f := D.bl) (xs := x :: k) (k := 0) false (by simp), ?_, rfl⟩))
        have : decide (r.bh.length = 0) = false := decide_eq_false (by omega)
        rw [this]; rfl
    · simp only [List.length_map, decide_eq_true_eq] at h0
      have : decide (r.bh.length = 0) = true := decide_eq_true (by omega)
      rw [this]
      exact ⟨rfl, rfl⟩
  refine W.and (W.or (W.o2 (W.o1 (W.o2 (hr _ (W.cst ⟨_, rfl, ⟨_, rfl, W.cst ⟨_, W.eqI, _, rfl, fun h0 => ?_, fun h0 => ?_⟩⟩⟩))))))
  · simp only [List.length_map, decide_eq_false_iff_not] at h0
    have h1 : decide (r.bf.length = 0) = false := decide_eq_false (by omega)
    cases hl : b.getLast? with
    | none =>
      rw [List.getLast?_eq_none_iff] at hl
      subst hl
      simp at lb; omega
    | some x =>
      refine W.o2 (hb _ (W.o1 (W.cst ⟨_, rfl, ⟨.bl x, idx_tup.trans (last_idx (f := D.bl) hl), ?_⟩⟩)))
      refine ⟨x, rfl, fun hx => second.mono fun v h' z => ⟨?_, z.2⟩, fun hx => ⟨?_, rfl⟩⟩
      · rw [z.1]; simp only [holdsF, h1, hl, hx, Bool.false_or, Option.getD_some, Bool.true_and]
      · simp only [holdsF, h1, hl, hx, Bool.false_or, Option.getD_some, Bool.false_and]
  · simp only [List.length_map, decide_eq_true_eq] at h0
    have h1 : decide (r.bf.length = 0) = true := decide_eq_true (by omega)
    refine ⟨true, rfl, fun _ => second.mono fun v h' z => ⟨?_, z.2⟩, fun z => Bool.noConfusion z⟩
    rw [z.1]
    simp only [holdsF, h1, Bool.true_or, Bool.true_and]
theorem kget_ch {c : Nat} : ∀ ch : List (Nat × List Nat), kget (.str [c]) (ch.map fun p => .str [p.1]) (ch.map fun p => .str p.2) = (ch.lookup c).map D.str
  | [] => rfl
  | (a, b) :: ch => by
    simp only [List.map_cons, kget, List.lookup_cons, kget_ch ch]
    by_cases e : a = c
    · subst e; simp [eqKey]
    · have e1 : (c == a) = false := by simpa using fun z => e z.symm
      simp [eqKey, e, e1]
theorem dict_look {ch : List (Nat × List Nat)} {c : Nat} : dlook h (.fd (ch.map fun p => .str [p.1]) (ch.map fun p => .str p.2)) (.str [c]) = some ((ch.lookup c).map D.str) := by
  simp only [dlook, dict, isKey, kget_ch, if_true]
theorem rule_starts_ok (M : MT T) {r : Rule} {s : List Nat} (hr : RK s r) (hs : s.length ≤ 3) : callF T (d + 3) "" "rule_starts" [ruleD r, .str s] h = .ok (.lv ((rStarts r s).map rsD)) h := by
  refine W.ofEq ?_
  refine W.fn M.rule_starts rfl ?_
  unfold b_rule_starts
  simp only [startD, List.map_cons, List.map_nil, List.cons_append, List.nil_append, List.length_cons, List.length_nil, List.replicate, Nat.reduceAdd, Nat.reduceSub]
  have hb4 := beh_le (s := s) hr.bh
  refine W.cons (W.ret (W.compV (xs := beh r s) fgD (fun k => rsD (befStart r, k)) (by unfold line; omega) (by simp [Sd.wipe]) ?_ (fun k hk => ?_) ?_))
  · walk_at "S"
    refine Ok.ofEq (all_behind_ok M hr.bh hs) ⟨⟨_, rfl⟩, rfl⟩
  · walk_at "S"
    have := hr.bf
    refine Ok.ofEq (before_start_ok M (by omega)) ?_
    walk_at "S"
    exact ⟨rfl, rfl⟩
  · refine W.rt (W.en ?_)
    rw [fin_self]
    refine Ok.ok ⟨?_, rfl⟩
    simp only [rStarts, List.map_map]
    rfl
theorem rule_steps_ok (M : MT T) {r : Rule} {s : List Nat} {x : RS} {c : Nat} (hr : RK s r) (hs : s.length ≤ 3) (h1 : x.1.length = r.bf.length) (h2 : x.2.length = r.bh.length) : callF T (d + 3) "" "rule_steps" [ruleD r, .str s, rsD x, .str [c]] h = .ok (.lv ((rSteps r s x c).map rowD)) h := by
  refine W.ofEq ?_
  refine W.fn M.rule_steps rfl ?_
  unfold b_rule_steps
  simp only [startD, List.map_cons, List.map_nil, List.cons_append, List.nil_append, List.length_cons, List.length_nil, List.replicate, Nat.reduceAdd, Nat.reduceSub]
  have hb4 := beh_le (s := s) hr.bh
  have hbf := hr.bf
  have hbh := hr.bh
  let F : Fg → Option (RS × List Nat) := fun k => if behStep r k c = x.2 then some ((befStep r x.1 c, k), outOf r x.1 k c) else none
  refine W.cons (W.setT ?_)
  walk_at "S"
  refine ⟨_, rfl, W.nx (W.cons ?_)⟩
  walk_at "S"
  refine W.forV (xs := beh r s) (ws := []) fgD (fun k σ h' => ∃ o7 o8 o9, σ = [some (ruleD r), some (.str s), some (rsD x), some (.str [c]), some (fgD x.1), some (fgD x.2), some (.ref h.length), o7, o8, o9] ∧ h' = h ++ [.lst ((((beh r s).take k).filterMap F).map rowD)]) ?_ ?_ ?_
  · walk_at "S"
    refine Ok.ofEq (all_behind_ok M hr.bh hs) ⟨rfl, ⟨none, none, none, rfl, rfl⟩, ?_, fun _ _ _ _ => wat_nil _ _⟩
    rintro k σ h' ⟨o7, o8, o9, rfl, _⟩; simp
  · rintro i k σ h' hk ⟨o7, o8, o9, rfl, rfl⟩
    have hkl : k.length = r.bh.length := (beh_ok r s).2 k (List.mem_of_getElem? hk)
    have hi : i < (beh r s).length := (List.getElem?_eq_some_iff.mp hk).1
    walk_at "S"
    refine Ok.ofEq (behind_step_ok M (by omega) hkl) ?_
    walk_at "S"
    refine ⟨_, fg_eq _ _, _, rfl, fun he => ?_, fun he => ?_⟩
    · simp only [decide_eq_true_eq] at he
      refine W.cons (W.set ?_)
      refine (holds_ok (r := r) (b := x.1) (k := k) (fun Q q => W.var rfl q) (fun Q q => W.var rfl q) (fun Q q => W.var rfl q) h1 hkl).mono fun v h' z => ?_
      obtain ⟨rfl, rfl⟩ := z
      refine ⟨by simp, W.nx (W.cons (W.set ?_))⟩
      refine Ok.mono (Q := fun v h' => v = .str (outOf r x.1 k c) ∧ h' = h ++ [.lst ((((beh r s).take i).filterMap F).map rowD)]) ?_ fun v h' z => ?_
      · walk_at "S"
        refine ⟨_, rfl, fun hh => ?_, fun hh => ?_⟩
        · refine W.dget (W.o1 (W.o2 (W.var rfl (W.cst ⟨_, rfl, ?_⟩))))
          refine ⟨_, dict_ch hr.nd, rfl, ?_⟩
          walk_at "S"
          refine ⟨_, dict_look, ?_, rfl⟩
          rw [outOf_eq, hh]
          cases r.ch.lookup c <;> rfl
        · walk_at "S"
          refine ⟨?_, rfl⟩
          rw [outOf_eq, hh]
          rfl
      · obtain ⟨rfl, rfl⟩ := z
        refine ⟨by simp, W.nx (W.cons (W.appL (rowD ((befStep r x.1 c, k), outOf r x.1 k c)) rfl ?_ ?_ ?_))⟩
        · have : (((beh r s).take i).filterMap F).length ≤ ((beh r s).take i).length := List.length_filterMap_le _ _
          simp only [List.length_take, List.length_map] at this ⊢
          unfold line; omega
        · walk_at "S"
          refine Ok.ofEq (before_step_ok M (by omega) h1) ?_
          walk_at "S"
          exact ⟨rfl, rfl⟩
        · refine W.nx (W.nil (W.nx (W.nil ?_)))
          refine ⟨_, _, _, rfl, ?_⟩
          rw [List.take_succ, hk, List.filterMap_append, List.map_append]
          simp [F, he]
    · simp only [decide_eq_false_iff_not] at he
      refine W.nil (W.nx (W.nil ?_))
      refine ⟨_, _, _, rfl, ?_⟩
      rw [List.take_succ, hk, List.filterMap_append, List.map_append]
      simp [F, he]
  · rintro σ h' ⟨o7, o8, o9, rfl, rfl⟩
    rw [List.take_length]
    walk_at "S"
    refine W.en ?_
    rw [fin_fresh (undAll_map (row_und _) _)]
    exact Ok.ok ⟨rfl, rfl⟩
theorem is_rule_end_ok (M : MT T) {s : List Nat} {r : Rule} {x : RS} (hr : RK s r) : callF T (d + 2) "" "is_rule_end" [ruleD r, rsD x] h = .ok (.bl (rEnd r x)) h := by
  refine W.ofEq ?_
  refine W.fn M.is_rule_end rfl ?_
  unfold b_is_rule_end
  simp only [startD, List.map_cons, List.map_nil, List.cons_append, List.nil_append, List.length_cons, List.length_nil, List.replicate, Nat.reduceAdd, Nat.reduceSub]
  have := hr.bh
  walk_at "S"
  refine Ok.ofEq (behind_end_ok M (by omega)) ⟨_, fg_eq _ _, ?_⟩
  walk_at "S"
  refine W.en ?_
  rw [fin_self]
  exact Ok.ok ⟨rfl, rfl⟩
end
end Mach
end Sd

/-! MachC: the class Machine. -/
namespace Sd
namespace Mach
open Gen
open PySem (PyData NestedKey)
/-! ### what is proper -/
def RSok (r : Rule) (x : RS) : Prop := x.1.length = r.bf.length ∧ x.2.length = r.bh.length
structure HK (hist : List Rule) (s : List Nat) : Prop where
  rules : ∀ r ∈ hist, RK s r
  few : hist.length ≤ 3
  sl : s.length ≤ 3
def StOk (hist : List Rule) (st : St) : Prop := st.length = hist.length ∧ ∀ (i : Nat) (r : Rule) (x : RS), hist[i]? = some r → st[i]? = some x → RSok r x
def KeyOk (hist : List Rule) (s : List Nat) : Key → Prop
  | .rs k x c => (∃ r, hist[k]? = some r ∧ RSok r x) ∧ c ∈ s
  | .ss st c => StOk hist st ∧ c ∈ s
def fgAll : List Fg := fgs 0 ++ (fgs 1 ++ fgs 2)
def rsAll : List RS := fgAll.flatMap fun a => fgAll.map fun b => (a, b)
def stAll : Nat → List St
  | 0 => [[]]
  | n + 1 => (stAll n).flatMap fun st => rsAll.map fun x => x :: st
theorem fgAll_mem {f : Fg} (h : f.length ≤ 2) : f ∈ fgAll := by
  have hm := fgs_mem f
  have : f.length = 0 ∨ f.length = 1 ∨ f.length = 2 := by omega
  simp only [fgAll, List.mem_append]
  rcases this with e | e | e <;> rw [e] at hm
  · exact .inl hm
  · exact .inr (.inl hm)
  · exact .inr (.inr hm)
theorem rsAll_mem {x : RS} (h1 : x.1.length ≤ 2) (h2 : x.2.length ≤ 2) : x ∈ rsAll := by
  simp only [rsAll, List.mem_flatMap, List.mem_map]
  exact ⟨x.1, fgAll_mem h1, x.2, fgAll_mem h2, rfl⟩
theorem stAll_mem : ∀ st : St, (∀ x ∈ st, x ∈ rsAll) → st ∈ stAll st.length
  | [], _ => by simp [stAll]
  | x :: st, h => by
    simp only [List.length_cons, stAll, List.mem_flatMap, List.mem_map]
    exact ⟨st, stAll_mem st fun y hy => h y (List.mem_cons_of_mem _ hy), x, h x List.mem_cons_self, rfl⟩
theorem flat_len {α β : Type} {n : Nat} {f : α → List β} (hf : ∀ a, (f a).length = n) : ∀ xs : List α, (xs.flatMap f).length = xs.length * n
  | [] => by simp
  | x :: xs => by rw [List.flatMap_cons, List.length_append, hf, flat_len hf xs, List.length_cons, Nat.succ_mul]; omega
theorem flat_len_le {α β : Type} {n : Nat} {f : α → List β} : ∀ {xs : List α}, (∀ a ∈ xs, (f a).length ≤ n) → (xs.flatMap f).length ≤ xs.length * n
  | [], _ => by simp
  | x :: xs, hf => by
    have := flat_len_le (xs := xs) fun a ha => hf a (List.mem_cons_of_mem _ ha)
    have h1 := hf x List.mem_cons_self
    rw [List.flatMap_cons, List.length_append, List.length_cons, Nat.succ_mul]; omega
theorem rsAll_len : rsAll.length = 49 := by decide
theorem stAll_len : ∀ n, (stAll n).length = 49 ^ n
  | 0 => rfl
  | n + 1 => by rw [stAll, flat_len (n := 49) (fun st => by rw [List.length_map, rsAll_len]), stAll_len n, Nat.pow_succ]
def keyAll (hist : List Rule) (s : List Nat) : List Key := ((List.range hist.length).flatMap fun k => rsAll.flatMap fun x => s.map fun c => .rs k x c) ++ (stAll hist.length).flatMap fun st => s.map fun c => .ss st c
theorem keyAll_len {hist : List Rule} {s : List Nat} (H : HK hist s) : (keyAll hist s).length < lineN := by
  unfold keyAll
  rw [List.length_append, flat_len (n := 49 * s.length) (fun k => by rw [flat_len (n := s.length) (fun x => by rw [List.length_map]), rsAll_len]), flat_len (n := s.length) (fun st => by rw [List.length_map]), stAll_len, List.length_range]
  have h1 : 49 ^ hist.length ≤ 49 ^ 3 := Nat.pow_le_pow_right (by decide) H.few
  have h2 : 49 ^ hist.length * s.length ≤ 49 ^ 3 * 3 := Nat.mul_le_mul h1 H.sl
  have h3 : hist.length * (49 * s.length) ≤ 3 * (49 * 3) := Nat.mul_le_mul H.few (Nat.mul_le_mul (Nat.le_refl _) H.sl)
  unfold lineN
  omega
theorem keyAll_mem {hist : List Rule} {s : List Nat} (H : HK hist s) {q : Key} (hq : KeyOk hist s q) : q ∈ keyAll hist s := by
  unfold keyAll
  cases q with
  | rs k x c =>
    obtain ⟨⟨r, hr, hx⟩, hc⟩ := hq
    have hk := H.rules r (List.mem_of_getElem? hr)
    have h1 := hk.bf
    have h2 := hk.bh
    refine List.mem_append_left _ ?_
    simp only [List.mem_flatMap, List.mem_range, List.mem_map]
    exact ⟨k, (List.getElem?_eq_some_iff.mp hr).1, x, rsAll_mem (by rw [hx.1]; exact h1) (by rw [hx.2]; exact h2), c, hc, rfl⟩
  | ss st c =>
    obtain ⟨⟨hl, hx⟩, hc⟩ := hq
    refine List.mem_append_right _ ?_
    simp only [List.mem_flatMap, List.mem_map]
    refine ⟨st, ?_, c, hc, rfl⟩
    rw [← hl]
    refine stAll_mem st fun x hm => ?_
    obtain ⟨i, hi⟩ := List.getElem?_of_mem hm
    have hlt : i < hist.length := by rw [← hl]; exact (List.getElem?_eq_some_iff.mp hi).1
    have ho := hx i _ x (List.getElem?_eq_getElem hlt) hi
    have hk := H.rules _ (List.getElem_mem hlt)
    have h1 := hk.bf
    have h2 := hk.bh
    exact rsAll_mem (by rw [ho.1]; exact h1) (by rw [ho.2]; exact h2)
/-! ### a machine as it stands -/
def mfs (hist : List Rule) (s : List Nat) (l : Nat) : List (String × D) := [("sounds", .str s), ("history", .tup (hist.map ruleD)), ("known", .ref l)]
structure MAt (hist : List Rule) (s : List Nat) (l : Nat) (qs : List Key) (h : Hh) : Prop where
  ob : h[l]? = some (.ins "Machine" (mfs hist s (l + 1)))
  ch : h[l + 1]? = some (cacheOb hist s qs)
  nd : qs.Nodup
  ok : ∀ q ∈ qs, KeyOk hist s q
/-- .. behind a call of its methods -/
def MTs (hist : List Rule) (s : List Nat) (l : Nat) (h h' : Hh) : Prop := ∃ qs, h' = h.set (l + 1) (cacheOb hist s qs) ∧ MAt hist s l qs h'
/-- .. where only steps of rules are new -/
def MTo (hist : List Rule) (s : List Nat) (l : Nat) (h h' : Hh) : Prop := MTs hist s l h h' ∧ ∀ qs qs', MAt hist s l qs h → MAt hist s l qs' h' → ∀ q ∈ qs', q ∈ qs ∨ ∃ k x c, q = .rs k x c
theorem keyD_inj {p q : Key} (e : keyD p = keyD q) : p = q := by
  have h1 := key_of p
  rw [e, key_of q] at h1
  exact (keyK_inj (Option.some.inj h1)).symm
theorem cacheOb_inj {hist : List Rule} {s : List Nat} {p q : List Key} (e : cacheOb hist s p = cacheOb hist s q) : p = q := by
  cases p with
  | nil => cases q with
    | nil => rfl
    | cons b q => simp [cacheOb] at e
  | cons a p => cases q with
    | nil => simp [cacheOb] at e
    | cons b q =>
      simp only [cacheOb, Ob.din.injEq] at e
      exact (List.map_inj_right fun x y h => keyD_inj h).mp e.1
theorem MAt.uniq {hist : List Rule} {s : List Nat} {l : Nat} {h : Hh} {p q : List Key} (a : MAt hist s l p h) (b : MAt hist s l q h) : p = q := by
  have := a.ch.symm.trans b.ch
  exact cacheOb_inj (Option.some.inj this)
theorem MTs.trans {hist : List Rule} {s : List Nat} {l : Nat} {h h1 h2 : Hh} (a : MTs hist s l h h1) (b : MTs hist s l h1 h2) : MTs hist s l h h2 := by
  obtain ⟨q1, rfl, m1⟩ := a
  obtain ⟨q2, rfl, m2⟩ := b
  exact ⟨q2, by rw [List.set_set], by rw [List.set_set] at m2 ⊢; exact m2⟩
theorem MTs.len {hist : List Rule} {s : List Nat} {l : Nat} {h h1 : Hh} (a : MTs hist s l h h1) : h1.length = h.length := by obtain ⟨q, rfl, _⟩ := a; rw [List.length_set]
theorem MTs.other {hist : List Rule} {s : List Nat} {l : Nat} {h h1 : Hh} (a : MTs hist s l h h1) {i : Nat} (hi : i ≠ l + 1) : h1[i]? = h[i]? := by
  obtain ⟨q, rfl, _⟩ := a
  rw [List.getElem?_set_ne (by omega)]
section
variable {T : Tb} {d : Nat} {h h1 h2 : Hh} {hist : List Rule} {s : List Nat} {l : Nat} {qs : List Key}
theorem MAt.to (m : MAt hist s l qs h) : MTo hist s l h h := by
  refine ⟨⟨qs, ?_, m⟩, fun p q a b x hx => .inl (by rw [a.uniq b]; exact hx)⟩
  obtain ⟨hlt, e⟩ := List.getElem?_eq_some_iff.mp m.ch
  rw [← e, List.set_getElem_self]
theorem MTo.trans (a : MTo hist s l h h1) (b : MTo hist s l h1 h2) : MTo hist s l h h2 := by
  refine ⟨a.1.trans b.1, fun p q mp mq x hx => ?_⟩
  obtain ⟨q1, _, m1⟩ := a.1
  rcases b.2 q1 q m1 mq x hx with z | z
  · exact a.2 p q1 mp m1 x z
  · exact .inr z
theorem MTo.len (a : MTo hist s l h h1) : h1.length = h.length := a.1.len
theorem MTo.other (a : MTo hist s l h h1) {i : Nat} (hi : i ≠ l + 1) : h1[i]? = h[i]? := a.1.other hi
theorem MAt.lt (m : MAt hist s l qs h) : l + 1 < h.length := (List.getElem?_eq_some_iff.mp m.ch).1
theorem MAt.app (m : MAt hist s l qs h) (ex : Hh) : MAt hist s l qs (h ++ ex) :=
  ⟨by rw [List.getElem?_append_left (by have := m.lt; omega)]; exact m.ob, by rw [List.getElem?_append_left m.lt]; exact m.ch, m.nd, m.ok⟩
theorem MTo.app {ex : Hh} (a : MTo hist s l (h ++ ex) h2) (hl : l + 1 < h.length) : ∃ h3, h2 = h3 ++ ex ∧ MTo hist s l h h3 := by
  obtain ⟨⟨q, rfl, m⟩, hrs⟩ := a
  rw [List.set_append_left _ _ hl] at m hrs
  have m3 : MAt hist s l q (h.set (l + 1) (cacheOb hist s q)) := by
    refine ⟨?_, ?_, m.nd, m.ok⟩
    · rw [← m.ob, List.getElem?_append_left (by rw [List.length_set]; omega)]
    · rw [← m.ch, List.getElem?_append_left (by rw [List.length_set]; omega)]
  exact ⟨h.set (l + 1) (cacheOb hist s q), List.set_append_left _ _ hl, ⟨q, rfl, m3⟩, fun p p' mp mp' => hrs p p' (mp.app ex) (mp'.app ex)⟩
theorem MAt.few (H : HK hist s) (m : MAt hist s l qs h) : qs.length < lineN := Nat.lt_of_le_of_lt (nodup_le m.nd fun q hq => keyAll_mem H (m.ok q hq)) (keyAll_len H)
/-- something is kept -/
theorem MAt.put (m : MAt hist s l qs h) {q : Key} (hn : q ∉ qs) (hq : KeyOk hist s q) : MAt hist s l (qs ++ [q]) (h.set (l + 1) (cacheOb hist s (qs ++ [q]))) := by
  refine ⟨by rw [List.getElem?_set_ne (by omega)]; exact m.ob, List.getElem?_set_self m.lt, ?_, fun p hp => ?_⟩
  · rw [List.nodup_append]
    exact ⟨m.nd, by simp, fun a ha b hb => by rw [List.mem_singleton.mp hb]; exact fun e => hn (e ▸ ha)⟩
  · rcases List.mem_append.mp hp with hp | hp
    · exact m.ok p hp
    · rw [List.mem_singleton.mp hp]; exact hq
theorem m_sounds {C : Calls} {σ : Env} {e : E} {Q : D → Hh → Prop} (m : MAt hist s l qs h) (he : ∀ Q : D → Hh → Prop, Q (.ref l) h → Ok (evE C e σ h) Q) (q : Q (.str s) h) : Ok (evE C (.att ["Machine"] e "sounds") σ h) Q :=
  W.att (he _ ⟨l, "Machine", _, _, rfl, m.ob, by simp, rfl, q⟩)
theorem m_history {C : Calls} {σ : Env} {e : E} {Q : D → Hh → Prop} (m : MAt hist s l qs h) (he : ∀ Q : D → Hh → Prop, Q (.ref l) h → Ok (evE C e σ h) Q) (q : Q (.tup (hist.map ruleD)) h) : Ok (evE C (.att ["Machine"] e "history") σ h) Q :=
  W.att (he _ ⟨l, "Machine", _, _, rfl, m.ob, by simp, rfl, q⟩)
theorem m_known {C : Calls} {σ : Env} {e : E} {Q : D → Hh → Prop} (m : MAt hist s l qs h) (he : ∀ Q : D → Hh → Prop, Q (.ref l) h → Ok (evE C e σ h) Q) (q : Q (.ref (l + 1)) h) : Ok (evE C (.att ["Machine"] e "known") σ h) Q :=
  W.att (he _ ⟨l, "Machine", _, _, rfl, m.ob, by simp, rfl, q⟩)
theorem idx_rule {k : Nat} {r : Rule} (hk : hist[k]? = some r) : o2F .idx h (.tup (hist.map ruleD)) (.int (k : Nat)) = some (ruleD r) := idx_tup.trans (idx_map rfl hk)
theorem rule_step_ok (M : MT T) (H : HK hist s) (m : MAt hist s l qs h) {k c : Nat} {x : RS} (hq : KeyOk hist s (.rs k x c)) :
    Ok (callF T (d + 4) "Machine" "rule_step" [.ref l, .int (k : Nat), rsD x, .str [c]] h) fun v h' => v = valD hist s (.rs k x c) ∧ MTo hist s l h h' := by
  obtain ⟨⟨r, hr, hx⟩, hc⟩ := id hq
  refine W.fn M.rule_step rfl ?_
  unfold b_Machine_rule_step
  simp only [startD, List.map_cons, List.map_nil, List.cons_append, List.nil_append, List.length_cons, List.length_nil, List.replicate, Nat.reduceAdd, Nat.reduceSub]
  walk_at "S"
  refine m_known m (fun Q q => W.var rfl q) ⟨_, cache_notin (.rs k x c) m.ch, _, rfl, fun hn => ?_, fun hn => ?_⟩
  · simp only [Bool.not_eq_true', decide_eq_false_iff_not] at hn
    refine W.cons (W.setiD ?_)
    walk_at "E"
    refine m_history m (fun Q q => W.var rfl q) ?_
    walk_at "E"
    refine ⟨_, idx_rule hr, ?_⟩
    walk_at "E"
    refine m_sounds m (fun Q q => W.var rfl q) ?_
    walk_at "E"
    refine Ok.ofEq (rule_steps_ok M (H.rules r (List.mem_of_getElem? hr)) H.sl hx.1 hx.2) ?_
    refine m_known m (fun Q q => W.var rfl q) ?_
    walk_at "E"
    have hv : (D.lv ((rSteps r s x c).map rowD)).keep = valD hist s (.rs k x c) := by
      simp only [D.keep, valD, List.getD_eq_getElem?_getD, hr, Option.getD_some]
    refine ⟨l + 1, _, _, rfl, m.ch, by rw [hv]; exact cache_put hn (m.few H), ?_⟩
    have m2 := m.put hn hq
    walk_at "S"
    refine m_known m2 (fun Q q => W.var rfl q) ?_
    walk_at "E"
    refine ⟨_, cache_idx (q := .rs k x c) (by simp) m2.ch, ?_⟩
    refine W.rt (W.en ?_)
    rw [fin_same (by rw [List.length_set])]
    refine Ok.ok ⟨rfl, ⟨_, rfl, m2⟩, fun p q a b y hy => ?_⟩
    rw [b.uniq m2] at hy
    rw [a.uniq m]
    rcases List.mem_append.mp hy with hy | hy
    · exact .inl hy
    · exact .inr ⟨k, x, c, List.mem_singleton.mp hy⟩
  · simp only [Bool.not_eq_false', decide_eq_true_eq] at hn
    walk_at "S"
    refine m_known m (fun Q q => W.var rfl q) ?_
    walk_at "E"
    refine ⟨_, cache_idx (q := .rs k x c) hn m.ch, ?_⟩
    refine W.rt (W.en ?_)
    rw [fin_self]
    exact Ok.ok ⟨rfl, m.to⟩
theorem init_ok (M : MT T) (hl : h[l]? = some (.ins "Machine" [])) (hn : l + 1 = h.length) : callF T (d + 1) "Machine" "__init__" [.ref l, .str s, .tup (hist.map ruleD)] h = .ok .non (h.set l (.ins "Machine" (mfs hist s (l + 1))) ++ [.dic [] []]) := by
  have hlt : l < h.length := by omega
  have go : Ok (callF T (d + 1) "Machine" "__init__" [.ref l, .str s, .tup (hist.map ruleD)] h) fun v h' => v = .non ∧ h' = h.set l (.ins "Machine" (mfs hist s (l + 1))) ++ [.dic [] []] := by
    refine W.fn M.init rfl ?_
    unfold b_Machine___init
    simp only [startD, List.map_cons, List.map_nil, List.cons_append, List.nil_append, List.length_cons, List.length_nil, List.replicate, Nat.reduceAdd, Nat.reduceSub]
    walk_at "S"
    refine ⟨l, "Machine", _, rfl, hl, ⟨by simp, by simp⟩, ?_⟩
    walk_at "S"
    refine ⟨l, "Machine", _, rfl, List.getElem?_set_self hlt, ⟨by simp, by simp [putA]⟩, ?_⟩
    rw [List.set_set]
    walk_at "S"
    refine ⟨l, "Machine", _, rfl, by rw [List.getElem?_append_left (by rw [List.length_set]; exact hlt)]; exact List.getElem?_set_self hlt, ⟨by simp, by simp [putA]⟩, ?_⟩
    refine W.nx (W.nil (W.enN ?_))
    have e : (h.set l (Ob.ins "Machine" (putA "history" (D.tup (hist.map ruleD)).keep (putA "sounds" (D.str s).keep []))) ++ [Ob.dic [] []]).set l (.ins "Machine" (putA "known" (D.ref (h.set l (Ob.ins "Machine" (putA "history" (D.tup (hist.map ruleD)).keep (putA "sounds" (D.str s).keep [])))).length).keep (putA "history" (D.tup (hist.map ruleD)).keep (putA "sounds" (D.str s).keep []))))
        = h.set l (.ins "Machine" (mfs hist s (l + 1))) ++ [.dic [] []] := by
      rw [List.set_append_left _ _ (by rw [List.length_set]; exact hlt), List.set_set, List.length_set, ← hn]
      rfl
    rw [e]
    have hno : ¬ okOld h (h.set l (.ins "Machine" (mfs hist s (l + 1))) ++ [.dic [] []]) := fun z => by
      have hg : (h.set l (.ins "Machine" (mfs hist s (l + 1))) ++ [.dic [] []])[l]? = some (.ins "Machine" (mfs hist s (l + 1))) := by
        rw [List.getElem?_append_left (by rw [List.length_set]; exact hlt)]; exact List.getElem?_set_self hlt
      rcases z l _ hlt hg with z | z
      · rw [hl] at z; simp [mfs] at z
      · simp only [mfs, Ob.und, List.map_cons, List.map_nil, D.undAll, D.und, Bool.and_eq_true, decide_eq_true_eq] at z
        omega
    have : fin h (h.set l (.ins "Machine" (mfs hist s (l + 1))) ++ [.dic [] []]) .non = .ok .non (h.set l (.ins "Machine" (mfs hist s (l + 1))) ++ [.dic [] []]) := by
      unfold fin
      rw [if_neg (by rw [List.length_append, List.length_set]; simp), if_neg (fun z => hno z.2)]
    rw [this]
    exact Ok.ok ⟨rfl, rfl⟩
  obtain ⟨v, h', e, rfl, rfl⟩ := go
  exact e
theorem m_is_end_ok (M : MT T) (H : HK hist s) (m : MAt hist s l qs h) {st : St} (hst : StOk hist st) : callF T (d + 3) "Machine" "is_end" [.ref l, stD st] h = .ok (.bl (endF hist st)) h := by
  refine W.ofEq ?_
  refine W.fn M.is_end rfl ?_
  unfold b_Machine_is_end
  simp only [startD, List.map_cons, List.map_nil, List.cons_append, List.nil_append, List.length_cons, List.length_nil, List.replicate, Nat.reduceAdd, Nat.reduceSub]
  refine W.cons (W.ret (W.o1 ?_))
  let F : D → List D := fun x => match x with
    | .tup [_, .tup [_, .tup ks]] => []
    | _ => []
  have hz : ∀ (rs : List Rule) (xs : St), zipD (rs.map ruleD) (xs.map rsD) = (rs.zip xs).map fun p => .tup [ruleD p.1, rsD p.2] := by
    intro rs
    induction rs with
    | nil => intro xs; rfl
    | cons r rs ih =>
      intro xs
      cases xs with
      | nil => rfl
      | cons x xs => simp only [List.map_cons, zipD, List.zip_cons_cons, ih]
  refine W.comp (W.zip (m_history m (fun Q q => W.var rfl q) (W.var rfl ⟨_, _, rfl, rfl, ?_⟩)))
  refine ⟨fun i ys h' => ys = ((hist.zip st).take i).map (fun p => .bl (rEnd p.1 p.2)) ∧ h' = h, ⟨rfl, rfl⟩, fun i ys h' z => by rw [z.2]; exact wat_refl _ _, fun i x ys h' hx z => ?_, fun ys h' z => ?_⟩
  · obtain ⟨rfl, rfl⟩ := z
    simp only [hz, List.getElem?_map] at hx
    obtain ⟨p, hp, rfl⟩ := Option.map_eq_some_iff.mp hx
    have hm : p.1 ∈ hist := (List.of_mem_zip (List.mem_of_getElem? hp)).1
    refine ⟨_, rfl, W.ts0 ⟨fun _ => ?_, fun z => Bool.noConfusion z⟩⟩
    walk_at "S"
    refine Ok.ofEq (is_rule_end_ok M (H.rules _ hm)) ⟨?_, rfl⟩
    rw [List.take_succ, hp]
    simp [D.keep]
  · obtain ⟨rfl, rfl⟩ := z
    have hlen : (zipD (hist.map ruleD) (st.map rsD)).length = (hist.zip st).length := by rw [hz, List.length_map]
    simp only [hlen, List.take_length]
    have hfew := H.few
    refine ⟨by rw [List.length_map, List.length_zip]; unfold line; omega, .bl (endF hist st), ?_, ?_⟩
    · have hb : ∀ bs : List Bool, bools (bs.map D.bl) = some bs := by
        intro bs
        induction bs with
        | nil => rfl
        | cons b bs ih => simp [bools, ih]
      have e : (hist.zip st).map (fun p => D.bl (rEnd p.1 p.2)) = ((hist.zip st).map fun p => rEnd p.1 p.2).map D.bl := by rw [List.map_map]; rfl
      simp only [o1F, items, e, hb, Option.map_some, endF]
      simp [List.all_map]
    · refine W.rt (W.en ?_)
      rw [fin_self]
      exact Ok.ok ⟨rfl, rfl⟩

/-! ### what a word becomes by a rule -/
theorem RSok.step {r : Rule} {x : RS} {c : Nat} {y : RS × List Nat} (hy : y ∈ rSteps r s x c) : RSok r y.1 := by
  unfold rSteps at hy
  obtain ⟨k, hk, e⟩ := List.mem_filterMap.mp hy
  split at e
  · cases e
    exact ⟨befStep_len _ _ _, (beh_ok r s).2 k hk⟩
  · cases e
theorem rSteps_len {r : Rule} (hr : RK s r) (x : RS) (c : Nat) : (rSteps r s x c).length ≤ 4 := Nat.le_trans (List.length_filterMap_le _ _) (beh_le hr.bh)
theorem rSteps_out {r : Rule} (hr : RK s r) {x : RS} {c : Nat} (hc : c ∈ s) {y : RS × List Nat} (hy : y ∈ rSteps r s x c) : y.2.length ≤ 2 ∧ ∀ a ∈ y.2, a ∈ s := by
  unfold rSteps at hy
  obtain ⟨k, hk, e⟩ := List.mem_filterMap.mp hy
  split at e
  · cases e
    exact ⟨outOf_len hr _ _ _, outOf_mem hr _ _ hc⟩
  · cases e
/-- one more sound -/
def runS (r : Rule) (s : List Nat) (rows : List (RS × List Nat)) (c : Nat) : List (RS × List Nat) := rows.flatMap fun p => (rSteps r s p.1 c).map fun q => (q.1, p.2 ++ q.2)
theorem runF_eq (r : Rule) (x : RS) (w : List Nat) : runF r s x w = w.foldl (runS r s) [(x, [])] := rfl
theorem runF_snoc (r : Rule) (x : RS) (w : List Nat) (c : Nat) : runF r s x (w ++ [c]) = runS r s (runF r s x w) c := by rw [runF_eq, List.foldl_append]; rfl
structure RowsOk (r : Rule) (s : List Nat) (n : Nat) (rows : List (RS × List Nat)) : Prop where
  len : rows.length ≤ 4 ^ n
  ok : ∀ p ∈ rows, RSok r p.1 ∧ p.2.length ≤ 2 * n ∧ ∀ a ∈ p.2, a ∈ s
theorem runS_ok {r : Rule} (hr : RK s r) {n c : Nat} {rows : List (RS × List Nat)} (h : RowsOk r s n rows) (hc : c ∈ s) : RowsOk r s (n + 1) (runS r s rows c) := by
  refine ⟨?_, fun p hp => ?_⟩
  · have := flat_len_le (n := 4) (xs := rows) (f := fun p => (rSteps r s p.1 c).map fun q => (q.1, p.2 ++ q.2)) fun p _ => by rw [List.length_map]; exact rSteps_len hr _ _
    have h2 : rows.length * 4 ≤ 4 ^ n * 4 := Nat.mul_le_mul h.len (Nat.le_refl _)
    rw [Nat.pow_succ]
    exact Nat.le_trans this h2
  · unfold runS at hp
    obtain ⟨a, ha, hp⟩ := List.mem_flatMap.mp hp
    obtain ⟨q, hq, rfl⟩ := List.mem_map.mp hp
    obtain ⟨o1, o2⟩ := rSteps_out hr hc hq
    obtain ⟨a1, a2, a3⟩ := h.ok a ha
    refine ⟨show RSok r q.1 from RSok.step hq, by simp only [List.length_append]; omega, fun b hb => ?_⟩
    rcases List.mem_append.mp hb with hb | hb
    · exact a3 b hb
    · exact o2 b hb
theorem runF_ok {r : Rule} (hr : RK s r) {x : RS} (hx : RSok r x) : ∀ {w : List Nat}, (∀ c ∈ w, c ∈ s) → RowsOk r s w.length (runF r s x w) := by
  have go : ∀ (n : Nat) (w : List Nat), w.length = n → (∀ c ∈ w, c ∈ s) → RowsOk r s n (runF r s x w) := by
    intro n
    induction n with
    | zero =>
      intro w hw _
      have := List.eq_nil_of_length_eq_zero hw
      subst this
      refine ⟨by simp [runF], fun p hp => ?_⟩
      rw [List.mem_singleton.mp hp]
      exact ⟨hx, by simp, by simp⟩
    | succ n ih =>
      intro w hw hc
      rcases List.eq_nil_or_concat w with rfl | ⟨w1, c, rfl⟩
      · simp at hw
      · rw [List.concat_eq_append] at *
        rw [runF_snoc]
        exact runS_ok hr (ih w1 (by simpa using hw) fun a ha => hc a (by simp [ha])) (hc c (by simp))
  exact fun {w} hc => go _ w rfl hc
theorem set_two {a b : D} {i j : Nat} {σ : Env} (hi : i < σ.length) (hj : j < σ.length) : setP (.t [i, j]) (.tup [a, b]) σ = some ((σ.set i (some a)).set j (some b)) := by
  simp only [setP]
  rw [if_pos ⟨rfl, by simp [hi, hj]⟩]
  rfl
/-- pairs are walked -/
theorem forP {C : Calls} {σ : Env} {R : Fl → Hh → Prop} {α : Type} {e : E} {i j : Nat} {ws : List Nat} {xs : List α} {a : List S} (f g : α → D) (I : Nat → Env → Hh → Prop) (he : Ok (evE C e σ h) fun x h1 => walkA h1 x = some (xs.map (fun y => .tup [f y, g y]), ws) ∧ I 0 σ h1 ∧ (∀ k σ h, I k σ h → i < σ.length ∧ j < σ.length) ∧ (∀ k σ h, I k σ h → Wat ws h1 h))
    (hs : ∀ k x σ h, xs[k]? = some x → I k σ h → Ok (evSs C a ((σ.set i (some (f x))).set j (some (g x))) h) fun g h2 => match g with
      | .nx σ1 => I (k + 1) σ1 h2
      | .ct σ1 => I (k + 1) σ1 h2
      | .br σ1 => R (.nx σ1) h2
      | .rt v => R (.rt v) h2) (hd : ∀ σ h, I xs.length σ h → R (.nx σ) h) : Ok (evS C (.forr (.t [i, j]) (.val e) a) σ h) R := by
  refine W.forr (W.val (he.mono fun x h1 z => ?_))
  obtain ⟨e1, i0, il, iw⟩ := z
  refine ⟨_, e1, I, i0, iw, fun k x σ h hx hi => ?_, fun σ h hi => hd σ h (by simpa using hi)⟩
  simp only [List.getElem?_map] at hx
  obtain ⟨y, hy, rfl⟩ := Option.map_eq_some_iff.mp hx
  exact ⟨_, set_two (il k σ h hi).1 (il k σ h hi).2, hs k y σ h hy hi⟩
theorem flat_snoc {α β : Type} {f : α → List β} {xs : List α} {i : Nat} {a : α} (hi : xs[i]? = some a) : (xs.take (i + 1)).flatMap f = (xs.take i).flatMap f ++ f a := by
  rw [List.take_succ, hi, List.flatMap_append]; simp
theorem fin_to {h0 ex : Hh} {xs : List D} {i : Nat} (a : MTo hist s l h h0) (hi : (h0 ++ ex)[i]? = some (.lst xs)) (hge : h.length ≤ i) (hu : D.undAll h.length xs = true) (hex : ex ≠ []) : fin h (h0 ++ ex) (.ref i) = .ok (.lv xs) h0 := by
  have e : freeze (h0 ++ ex) h.length (.ref i) = .lv xs := by
    simp only [freeze, if_neg (show ¬ i < h.length by omega), hi]
  have hl := a.len
  have hp := List.length_pos_iff.mpr hex
  rw [fin_drop (by rw [List.length_append]; omega) (by rw [e]; exact hu) fun j o hj ho => ?_, e]
  · rw [← hl, List.take_left]
  · rw [List.getElem?_append_left (by omega)] at ho
    obtain ⟨⟨q, rfl, m⟩, _⟩ := a
    by_cases hj1 : j = l + 1
    · subst hj1
      rw [m.ch] at ho
      cases ho
      exact .inr (cache_und _ _ _ _)
    · rw [List.getElem?_set_ne (by omega)] at ho
      exact .inl ho
theorem fin_toV {h0 ex : Hh} {v : D} (a : MTo hist s l h h0) (hv : undV h.length v = true) (hf : ∀ i, v ≠ .ref i) (hex : ex ≠ []) : fin h (h0 ++ ex) v = .ok v h0 := by
  have e : freeze (h0 ++ ex) h.length v = v := by cases v <;> first | rfl | exact absurd rfl (hf _)
  have hl := a.len
  have hp := List.length_pos_iff.mpr hex
  rw [fin_drop (by rw [List.length_append]; omega) (by rw [e]; exact hv) fun j o hj ho => ?_, e]
  · rw [← hl, List.take_left]
  · rw [List.getElem?_append_left (by omega)] at ho
    obtain ⟨⟨q, rfl, m⟩, _⟩ := a
    by_cases hj1 : j = l + 1
    · subst hj1
      rw [m.ch] at ho
      cases ho
      exact .inr (cache_und _ _ _ _)
    · rw [List.getElem?_set_ne (by omega)] at ho
      exact .inl ho
theorem last_app {h1 ex : Hh} {o : Ob} : (h1 ++ (ex ++ [o]))[h1.length + ex.length]? = some o := by
  rw [← List.append_assoc, ← List.length_append]; exact W.last_get
theorem rule_run_ok (M : MT T) (H : HK hist s) (m : MAt hist s l qs h) {k : Nat} {r : Rule} {x : RS} {w : List Nat} (hr : hist[k]? = some r) (hx : RSok r x) (hw : w.length ≤ 8) (hc : ∀ c ∈ w, c ∈ s) :
    Ok (callF T (d + 5) "Machine" "rule_run" [.ref l, .int (k : Nat), rsD x, .str w] h) fun v h' => (v = .lv ((runF r s x w).map rowD) ∨ v = .fz ((runF r s x w).map rowD)) ∧ MTo hist s l h h' := by
  have hrk := H.rules r (List.mem_of_getElem? hr)
  have hlt := m.lt
  refine W.fn M.rule_run rfl ?_
  unfold b_Machine_rule_run
  simp only [startD, List.map_cons, List.map_nil, List.cons_append, List.nil_append, List.length_cons, List.length_nil, List.replicate, Nat.reduceAdd, Nat.reduceSub]
  refine W.cons (W.set ?_)
  walk_at "S"
  let rows : Nat → List (RS × List Nat) := fun i => runF r s x (w.take i)
  let val : Nat → D := fun i => if i = 0 then .fz [rowD (x, [])] else .ref (h.length + (i - 1))
  refine W.forV (xs := w) (ws := []) (fun c => D.str [c]) (fun i σ h' => ∃ (hm ex : Hh) (o5 o6 o7 o8 o9 o10 : Option D), σ = [some (.ref l), some (.int (k : Nat)), some (rsD x), some (.str w), some (val i), o5, o6, o7, o8, o9, o10] ∧ h' = hm ++ ex ∧ MTo hist s l h hm ∧ ex.length = i ∧ (i ≠ 0 → ∃ ex0, ex = ex0 ++ [.lst ((rows i).map rowD)])) ?_ ?_ ?_
  · walk_at "S"
    refine ⟨rfl, ⟨h, [], none, none, none, none, none, none, rfl, by simp, m.to, rfl, fun z => absurd rfl z⟩, ?_, fun _ _ _ _ => wat_nil _ _⟩
    rintro i σ h' ⟨hm, ex, o5, o6, o7, o8, o9, o10, rfl, _⟩; simp
  · rintro i c σ h' hi ⟨hm, ex, o5, o6, o7, o8, o9, o10, rfl, rfl, a, hex, hlast⟩
    have hiw := (List.getElem?_eq_some_iff.mp hi).1
    have hcs : c ∈ s := hc c (List.mem_of_getElem? hi)
    have hrows : RowsOk r s i (rows i) := by
      have := runF_ok hrk hx (w := w.take i) fun c hc' => hc c (List.mem_of_mem_take hc')
      rwa [List.length_take, Nat.min_eq_left (by omega)] at this
    have hpow : 4 ^ i ≤ 4 ^ 8 := Nat.pow_le_pow_right (by decide) (by omega)
    have hnext : rows (i + 1) = runS r s (rows i) c := by
      simp only [rows]
      rw [List.take_succ, hi]
      exact runF_snoc r x _ c
    have hml := a.len
    refine W.cons (W.set (W.alcLst ?_))
    walk_at "S"
    let g : RS × List Nat → List (RS × List Nat) := fun p => (rSteps r s p.1 c).map fun q => (q.1, p.2 ++ q.2)
    have hwalk : ∀ h2 : Hh, (∀ j, h.length ≤ j → j < h.length + i → h2[j]? = (hm ++ ex)[j]?) → walkA h2 (val i) = some ((rows i).map (fun y => .tup [rsD y.1, .str y.2]), if i = 0 then [] else [h.length + (i - 1)]) := fun h2 hh => by
      by_cases hi0 : i = 0
      · subst hi0; rfl
      · obtain ⟨ex0, rfl⟩ := hlast hi0
        simp only [List.length_append, List.length_cons, List.length_nil] at hex
        have hg : h2[h.length + (i - 1)]? = some (.lst ((rows i).map rowD)) := by
          rw [hh _ (by omega) (by omega), ← hml, show i - 1 = ex0.length by omega]
          exact last_app
        simp only [val, if_neg hi0, walkA, walkD, hg]
        rfl
    refine forP (xs := rows i) (ws := if i = 0 then [] else [h.length + (i - 1)]) (fun y => rsD y.1) (fun y => .str y.2) (fun j σ h' => ∃ (hm2 : Hh) (o7 o8 o9 o10 : Option D), σ = [some (.ref l), some (.int (k : Nat)), some (rsD x), some (.str w), some (val i), some (.str [c]), some (.ref (h.length + i)), o7, o8, o9, o10] ∧ h' = (hm2 ++ ex) ++ [.lst ((((rows i).take j).flatMap g).map rowD)] ∧ MTo hist s l h hm2) ?_ ?_ ?_
    · walk_at "E"
      refine ⟨hwalk _ fun j _ hj => ?_, ⟨hm, o7, o8, o9, o10, ?_, rfl, a⟩, ?_, ?_⟩
      · rw [List.getElem?_append_left (by rw [List.length_append]; omega)]
      · simp only [List.length_append, hml, hex, D.keep, List.set_cons_succ, List.set_cons_zero]
      · rintro j σ h' ⟨hm2, o7, o8, o9, o10, rfl, _⟩; simp
      · rintro j σ h' ⟨hm2, o7, o8, o9, o10, rfl, rfl, a2⟩ q hq
        split at hq
        · simp at hq
        · rename_i hi0
          rw [List.mem_singleton.mp hq]
          have hml2 := a2.len
          have e1 : ∀ (h5 : Hh) (o : Ob), h5.length = h.length → ((h5 ++ ex) ++ [o])[h.length + (i - 1)]? = ex[i - 1]? := fun h5 o h5l => by
            rw [List.getElem?_append_left (by rw [List.length_append]; omega), List.getElem?_append_right (by omega), h5l, Nat.add_sub_cancel_left]
          rw [e1 _ _ hml2, e1 _ _ hml]
    · rintro j p σ h' hj ⟨hm2, o7, o8, o9, o10, rfl, rfl, a2⟩
      obtain ⟨pok, plen, pin⟩ := hrows.ok p (List.mem_of_getElem? hj)
      have hml2 := a2.len
      have hjl := (List.getElem?_eq_some_iff.mp hj).1
      obtain ⟨q2, _, m2⟩ := a2.1
      have hkey : KeyOk hist s (.rs k p.1 c) := ⟨⟨r, hr, pok⟩, hcs⟩
      have hbase : (((rows i).take j).flatMap g).length ≤ j * 4 := by
        have := flat_len_le (n := 4) (xs := (rows i).take j) (f := g) fun p _ => by simp only [g, List.length_map]; exact rSteps_len hrk _ _
        rwa [List.length_take, Nat.min_eq_left (by omega)] at this
      have hsl := rSteps_len hrk p.1 c
      have hrl := hrows.len
      refine W.cons ?_
      refine forP (xs := rSteps r s p.1 c) (ws := []) (fun y => rsD y.1) (fun y => .str y.2) (fun n σ h' => ∃ (hm3 : Hh) (o9 o10 : Option D), σ = [some (.ref l), some (.int (k : Nat)), some (rsD x), some (.str w), some (val i), some (.str [c]), some (.ref (h.length + i)), some (rsD p.1), some (.str p.2), o9, o10] ∧ h' = (hm3 ++ ex) ++ [.lst (((((rows i).take j).flatMap g) ++ (((rSteps r s p.1 c).take n).map fun q => (q.1, p.2 ++ q.2))).map rowD)] ∧ MTo hist s l h hm3) ?_ ?_ ?_
      · refine W.meth (W.var rfl ⟨l, "Machine", mfs hist s (l + 1), rfl, ?_, ⟨by decide, rfl⟩, ?_⟩)
        · rw [List.append_assoc]; exact (m2.app _).ob
        · walk_at "S"
          rw [List.append_assoc]
          refine (rule_step_ok M H (m2.app _) hkey).mono fun v h3 z => ?_
          obtain ⟨rfl, b⟩ := z
          obtain ⟨hm3, rfl, b2⟩ := b.app (by omega)
          refine ⟨?_, ⟨hm3, _, _, rfl, by rw [List.append_assoc]; simp, a2.trans b2⟩, ?_, fun _ _ _ _ => wat_nil _ _⟩
          · simp only [valD, walkA, walkD, List.getD_eq_getElem?_getD, hr, Option.getD_some]
            rfl
          · rintro n σ h' ⟨hm3, o9, o10, rfl, _⟩; simp
      · rintro n y σ h' hn ⟨hm3, o9, o10, rfl, rfl, a3⟩
        have hml3 := a3.len
        have hnl := (List.getElem?_eq_some_iff.mp hn).1
        obtain ⟨ylen, yin⟩ := rSteps_out hrk hcs (List.mem_of_getElem? hn)
        refine W.cons (W.appL (h0 := hm3 ++ ex) (rowD (y.1, p.2 ++ y.2)) (by simp [hml3, hex]) ?_ ?_ ?_)
        · simp only [List.length_map, List.length_append, List.length_take]
          unfold line; omega
        · walk_at "S"
          refine ⟨_, by simp only [o2F]; rw [if_pos (by unfold line; omega)], ?_⟩
          walk_at "S"
          exact ⟨rfl, rfl⟩
        · refine W.nx (W.nil ⟨hm3, _, _, rfl, ?_, a3⟩)
          rw [List.take_succ, hn]
          simp
      · rintro σ h' ⟨hm3, o9, o10, rfl, rfl, a3⟩
        refine W.nx (W.nil ⟨hm3, _, _, _, _, rfl, ?_, a3⟩)
        rw [flat_snoc hj, List.take_length]
    · rintro σ h' ⟨hm2, o7, o8, o9, o10, rfl, rfl, a2⟩
      rw [List.take_length]
      refine W.nx (W.cons (W.set (W.var rfl ⟨by simp, W.nx (W.nil ?_)⟩)))
      refine ⟨hm2, ex ++ [.lst ((rows (i + 1)).map rowD)], some (.str [c]), some (.ref (h.length + i)), o7, o8, o9, o10, ?_, ?_, a2, by simp [hex], fun _ => ⟨ex, rfl⟩⟩
      · simp [D.keep, val]
      · rw [hnext, List.append_assoc]; rfl
  · rintro σ h' ⟨hm, ex, o5, o6, o7, o8, o9, o10, rfl, rfl, a, hex, hlast⟩
    have hml := a.len
    by_cases hw0 : w.length = 0
    · have := List.eq_nil_of_length_eq_zero hw0
      subst this
      have := List.eq_nil_of_length_eq_zero hex
      subst this
      rw [List.append_nil]
      walk_at "S"
      refine W.en ?_
      rw [fin_same hml]
      exact Ok.ok ⟨.inr rfl, a⟩
    · obtain ⟨ex0, rfl⟩ := hlast hw0
      simp only [List.length_append, List.length_cons, List.length_nil] at hex
      refine W.nx (W.cons (W.ret (W.var rfl (W.rt (W.en ?_)))))
      have hv : val w.length = .ref (h.length + ex0.length) := by simp only [val, if_neg hw0]; rw [show w.length - 1 = ex0.length by omega]
      have hrw : rows w.length = runF r s x w := by simp only [rows, List.take_length]
      rw [hv, fin_to (xs := (rows w.length).map rowD) a (by rw [← hml]; exact last_app) (by omega) (undAll_map (row_und _) _) (by simp), hrw]
      exact Ok.ok ⟨.inl rfl, a⟩

/-! ### the beginnings -/
theorem m_starts_ok (M : MT T) (H : HK hist s) (m : MAt hist s l qs h) : callF T (d + 4) "Machine" "starts" [.ref l] h = .ok (.fz ((startsF hist s).map stD)) h := by
  refine W.ofEq ?_
  refine W.fn M.starts rfl ?_
  unfold b_Machine_starts
  simp only [startD, List.map_cons, List.map_nil, List.cons_append, List.nil_append, List.length_cons, List.length_nil, List.replicate, Nat.reduceAdd, Nat.reduceSub]
  refine W.cons (W.set ?_)
  walk_at "S"
  let found : Nat → List St := fun i => startsG s [[]] (hist.take i)
  have hG : ∀ (rs : List Rule) (fs : List St) (r : Rule), startsG s fs (rs ++ [r]) = (startsG s fs rs).flatMap fun st => (rStarts r s).map fun x => st ++ [x] := by
    intro rs
    induction rs with
    | nil => intro fs r; rfl
    | cons a rs ih => intro fs r; simp only [List.cons_append, startsG, ih]
  have hlen : ∀ i, i ≤ hist.length → (found i).length ≤ 4 ^ i := by
    intro i
    induction i with
    | zero => intro _; simp [found, startsG]
    | succ i ih =>
      intro hi
      have hr := List.getElem?_eq_getElem (show i < hist.length by omega)
      have hk := H.rules _ (List.getElem_mem (show i < hist.length by omega))
      have e : found (i + 1) = (found i).flatMap fun st => (rStarts hist[i] s).map fun x => st ++ [x] := by
        simp only [found]
        rw [List.take_succ, hr]
        exact hG _ _ _
      rw [e]
      have := flat_len_le (n := 4) (xs := found i) (f := fun st => (rStarts hist[i] s).map fun x => st ++ [x]) fun st _ => by
        rw [List.length_map]
        simp only [rStarts, List.length_map]
        exact beh_le hk.bh
      have h2 := ih (by omega)
      rw [Nat.pow_succ]
      exact Nat.le_trans this (Nat.mul_le_mul h2 (Nat.le_refl _))
  refine W.forV (xs := hist) (ws := []) ruleD (fun i σ h' => ∃ (o2 o3 o4 : Option D), σ = [some (.ref l), some (.fz ((found i).map stD)), o2, o3, o4] ∧ h' = h) ?_ ?_ ?_
  · refine m_history m (fun Q q => W.var rfl q) ⟨rfl, ⟨none, none, none, rfl, rfl⟩, ?_, fun _ _ _ _ => wat_nil _ _⟩
    rintro i σ h' ⟨o2, o3, o4, rfl, _⟩; simp
  · rintro i r σ h' hi ⟨o2, o3, o4, rfl, rfl⟩
    have hilt := (List.getElem?_eq_some_iff.mp hi).1
    have hk := H.rules r (List.mem_of_getElem? hi)
    have e : found (i + 1) = (found i).flatMap fun st => (rStarts r s).map fun x => st ++ [x] := by
      simp only [found]
      rw [List.take_succ, hi]
      exact hG _ _ _
    have hl1 := hlen (i + 1) (by omega)
    have hpow : 4 ^ (i + 1) ≤ 4 ^ 3 := Nat.pow_le_pow_right (by decide) (by have := H.few; omega)
    refine W.cons (W.set (W.comp2M (fun x => match x with
      | .tup xs => (rStarts r s).map fun y => .tup (xs ++ [rsD y])
      | _ => []) ?_))
    have eF : ((found i).map stD).flatMap (fun x => match x with
      | .tup xs => (rStarts r s).map fun y => D.tup (xs ++ [rsD y])
      | _ => []) = (found (i + 1)).map stD := by
      rw [e]
      generalize found i = fs
      induction fs with
      | nil => rfl
      | cons st fs ih =>
        simp only [List.map_cons, List.flatMap_cons, List.map_append, ih]
        simp [stD]
    walk_at "S"
    refine ⟨_, rfl, fun x hx => ?_, ?_, ?_⟩
    · obtain ⟨st, hst, rfl⟩ := List.mem_map.mp hx
      refine ⟨_, rfl, W.ts0 ⟨rfl, fun _ => ?_, fun z => Bool.noConfusion z⟩⟩
      refine W.val (W.call ?_)
      walk_at "S"
      refine m_sounds m (fun Q q => W.var rfl q) ?_
      walk_at "S"
      refine Ok.ofEq (rule_starts_ok M hk H.sl) ⟨_, rfl, rfl, fun y => match y with
        | .tup ys => [.tup (st.map rsD ++ [.tup ys])]
        | _ => [], fun y hy => ?_, ?_⟩
      · obtain ⟨z, hz, rfl⟩ := List.mem_map.mp hy
        refine ⟨_, rfl, W.ts0 ⟨fun _ => ?_, fun z => Bool.noConfusion z⟩⟩
        walk_at "S"
        have hsl : st.length ≤ 1000 := by
          have : ∀ i, i ≤ hist.length → ∀ st ∈ found i, st.length = i := by
            intro i
            induction i with
            | zero => intro _ st hst; simp [found, startsG] at hst; rw [hst]; rfl
            | succ i ih =>
              intro hi st hst
              have hr := List.getElem?_eq_getElem (show i < hist.length by omega)
              have e : found (i + 1) = (found i).flatMap fun st => (rStarts hist[i] s).map fun x => st ++ [x] := by
                simp only [found]
                rw [List.take_succ, hr]
                exact hG _ _ _
              rw [e] at hst
              obtain ⟨a, ha, hst⟩ := List.mem_flatMap.mp hst
              obtain ⟨b, _, rfl⟩ := List.mem_map.mp hst
              rw [List.length_append, ih (by omega) a ha]; rfl
          have h1 := this i (by omega) st hst
          have := H.few
          omega
        refine ⟨_, addT (by simp only [List.length_map, List.length_cons, List.length_nil]; unfold line; omega), ?_, rfl⟩
        rfl
      · simp only [stD]
        generalize rStarts r s = l2
        induction l2 with
        | nil => rfl
        | cons y l2 ih =>
          simp only [List.map_cons, List.flatMap_cons, ih]
          rfl
    · rw [eF, List.length_map]; unfold line; omega
    · rw [eF]
      refine ⟨by simp, W.nx (W.nil ⟨_, _, _, rfl, rfl⟩)⟩
  · rintro σ h' ⟨o2, o3, o4, rfl, rfl⟩
    walk_at "S"
    refine W.en ?_
    rw [fin_self]
    refine Ok.ok ⟨?_, rfl⟩
    simp only [found, List.take_length]
    rfl
end
end Mach
end Sd

/-! MachD: Machine.steps. -/
namespace Sd
namespace Mach
open Gen
open PySem (PyData NestedKey)
section
variable {T : Tb} {d : Nat} {h h1 h2 : Hh} {hist : List Rule} {s : List Nat} {l : Nat} {qs : List Key}
/-- one more rule -/
def stepS (s : List Nat) (rows : List (St × List Nat)) (p : Rule × RS) : List (St × List Nat) := rows.flatMap fun q => (runF p.1 s p.2 q.2).map fun z => (q.1 ++ [z.1], z.2)
theorem stepsG_snoc (rows : List (St × List Nat)) : ∀ (ps : List (Rule × RS)) (p : Rule × RS), stepsG s rows (ps ++ [p]) = stepS s (stepsG s rows ps) p := by
  intro ps
  induction ps generalizing rows with
  | nil => intro p; rfl
  | cons q ps ih => intro p; exact ih _ p
def cap : Nat → Nat
  | 0 => 1
  | 1 => 4
  | 2 => 64
  | _ => 16384
structure SRowsOk (hist : List Rule) (s : List Nat) (i : Nat) (rows : List (St × List Nat)) : Prop where
  len : rows.length ≤ cap i
  ok : ∀ p ∈ rows, p.1.length = i ∧ p.2.length ≤ 2 ^ i ∧ (∀ a ∈ p.2, a ∈ s) ∧ ∀ (j : Nat) (r : Rule) (x : RS), hist[j]? = some r → p.1[j]? = some x → RSok r x
theorem stepS_ok (H : HK hist s) {i : Nat} {rows : List (St × List Nat)} {r : Rule} {x : RS} (hr : hist[i]? = some r) (hx : RSok r x) (h : SRowsOk hist s i rows) : SRowsOk hist s (i + 1) (stepS s rows (r, x)) := by
  have hk := H.rules r (List.mem_of_getElem? hr)
  have hi := (List.getElem?_eq_some_iff.mp hr).1
  have hf := H.few
  have hw : ∀ p ∈ rows, p.2.length ≤ 2 ^ i := fun p hp => (h.ok p hp).2.1
  refine ⟨?_, fun p hp => ?_⟩
  · have h4 : ∀ p ∈ rows, ((runF r s x p.2).map fun z => (p.1 ++ [z.1], z.2)).length ≤ 4 ^ (2 ^ i) := fun p hp => by
      rw [List.length_map]
      have h1 := (runF_ok hk hx (h.ok p hp).2.2.1).len
      exact Nat.le_trans h1 (Nat.pow_le_pow_right (by decide) (hw p hp))
    have := flat_len_le h4
    refine Nat.le_trans this (Nat.le_trans (Nat.mul_le_mul h.len (Nat.le_refl _)) ?_)
    have : i = 0 ∨ i = 1 ∨ i = 2 := by omega
    rcases this with rfl | rfl | rfl <;> decide
  · obtain ⟨q, hq, hp⟩ := List.mem_flatMap.mp hp
    obtain ⟨z, hz, rfl⟩ := List.mem_map.mp hp
    obtain ⟨q1, q2, q3, q4⟩ := h.ok q hq
    obtain ⟨z1, z2, z3⟩ := (runF_ok hk hx q3).ok z hz
    refine ⟨by rw [List.length_append, q1]; rfl, ?_, z3, fun j r2 x2 hj hx2 => ?_⟩
    · rw [Nat.pow_succ]; have := hw q hq; show z.2.length ≤ _; omega
    · by_cases hji : j < i
      · rw [List.getElem?_append_left (by omega)] at hx2
        exact q4 j r2 x2 hj hx2
      · by_cases e : j = i
        · subst e
          rw [hr] at hj; cases hj
          rw [List.getElem?_append_right (by omega), q1, Nat.sub_self] at hx2
          simp at hx2
          subst hx2
          exact z1
        · rw [List.getElem?_eq_none (by simp; omega)] at hx2; cases hx2
theorem zip_get {hist : List Rule} {st : St} {i : Nat} {r : Rule} {x : RS} (hr : hist[i]? = some r) (hx : st[i]? = some x) : (hist.zip st)[i]? = some (r, x) := by
  rw [List.zip, List.getElem?_zipWith, hr, hx]
theorem rows_ok (H : HK hist s) {st : St} (hst : StOk hist st) {c : Nat} (hc : c ∈ s) : ∀ i, i ≤ hist.length → SRowsOk hist s i (stepsG s [([], [c])] ((hist.zip st).take i)) := by
  intro i
  induction i with
  | zero =>
    intro _
    refine ⟨by simp [stepsG, cap], fun p hp => ?_⟩
    simp [stepsG] at hp
    subst hp
    exact ⟨rfl, by simp, by simpa using hc, by simp⟩
  | succ i ih =>
    intro hi
    have hr := List.getElem?_eq_getElem (show i < hist.length by omega)
    have hx := List.getElem?_eq_getElem (show i < st.length by rw [hst.1]; omega)
    rw [List.take_succ, zip_get hr hx]
    show SRowsOk hist s (i + 1) (stepsG s _ (_ ++ [_]))
    rw [stepsG_snoc]
    exact stepS_ok H hr (hst.2 i _ _ hr hx) (ih (by omega))
theorem stepsF_ok (H : HK hist s) {st : St} (hst : StOk hist st) {c : Nat} (hc : c ∈ s) : SRowsOk hist s hist.length (stepsF hist s st c) := by
  have := rows_ok H hst hc hist.length (Nat.le_refl _)
  have hl : hist.length = (hist.zip st).length := by rw [List.length_zip, hst.1, Nat.min_self]
  rw [hl, List.take_length, ← hl] at this
  exact this
theorem steps_st (H : HK hist s) {st : St} (hst : StOk hist st) {c : Nat} (hc : c ∈ s) : ∀ p ∈ stepsF hist s st c, StOk hist p.1 := fun p hp => ⟨((stepsF_ok H hst hc).ok p hp).1, ((stepsF_ok H hst hc).ok p hp).2.2.2⟩
theorem cap_le {i : Nat} : cap i ≤ 16384 := by unfold cap; split <;> decide
theorem cache_put' {q : Key} {v : D} (hn : q ∉ qs) (hl : qs.length < lineN) : obPut (cacheOb hist s qs) (keyD q) v = some (.din (qs.map keyD ++ [keyD q]) (qs.map (valD hist s) ++ [v])) := by
  obtain ⟨xs, hx⟩ := key_tup q
  cases qs with
  | nil =>
    have hk : isKey (keyD q) = false := by rw [hx]; rfl
    simp only [cacheOb, obPut, hk, key_of]
    simp
  | cons p qs =>
    simp only [cacheOb, obPut, key_of]
    rw [List.length_map, if_pos hl, nget_keys, if_neg hn]
theorem cacheOb_snoc (q : Key) : cacheOb hist s (qs ++ [q]) = .din (qs.map keyD ++ [keyD q]) (qs.map (valD hist s) ++ [valD hist s q]) := by
  cases qs <;> simp [cacheOb]
theorem nget_last {v : D} {q : Key} {f : Key → D} : ∀ {qs : List Key}, q ∉ qs → nget (keyK q) (qs.map keyD ++ [keyD q]) (qs.map f ++ [v]) = some v
  | [], _ => by simp [nget, key_of]
  | p :: qs, hn => by
    have hp : ¬ keyK p = keyK q := fun e => hn (by rw [keyK_inj e]; exact List.mem_cons_self)
    simp only [List.map_cons, List.cons_append, nget, key_of, Option.some.injEq, if_neg hp]
    exact nget_last fun z => hn (List.mem_cons_of_mem _ z)
theorem m_steps_ok (M : MT T) (H : HK hist s) (m : MAt hist s l qs h) {st : St} {c : Nat} (hst : StOk hist st) (hc : c ∈ s) :
    Ok (callF T (d + 6) "Machine" "steps" [.ref l, stD st, .str [c]] h) fun v h' => v = valD hist s (.ss st c) ∧ MTs hist s l h h' := by
  have hq : KeyOk hist s (.ss st c) := ⟨hst, hc⟩
  have hlt := m.lt
  refine W.fnZ M.steps rfl ?_
  unfold b_Machine_steps
  simp only [startD, List.map_cons, List.map_nil, List.cons_append, List.nil_append, List.length_cons, List.length_nil, List.replicate, Nat.reduceAdd, Nat.reduceSub]
  walk_at "S"
  refine m_known m (fun Q q => W.var rfl q) ⟨_, cache_notin (.ss st c) m.ch, _, rfl, fun hn => ?_, fun hn => ?_⟩
  · simp only [Bool.not_eq_true', decide_eq_false_iff_not] at hn
    refine W.cons (W.set ?_)
    walk_at "S"
    let rows : Nat → List (St × List Nat) := fun i => stepsG s [([], [c])] ((hist.zip st).take i)
    let val : Nat → D := fun i => if i = 0 then .fz [srowD ([], [c])] else .ref (h.length + (i - 1))
    refine W.forR (m := hist.length) (fun i σ h' => ∃ (hm ex : Hh) (o5 o6 o7 o8 o9 o10 : Option D), σ = [some (.ref l), some (stD st), some (.str [c]), some (keyD (.ss st c)), some (val i), o5, o6, o7, o8, o9, o10] ∧ h' = hm ++ ex ∧ MTo hist s l h hm ∧ ex.length = i ∧ (i ≠ 0 → ∃ ex0, ex = ex0 ++ [.lst ((rows i).map srowD)])) (by have := H.few; omega) ?_ ?_ ?_ ?_
    · refine W.o1 (m_history m (fun Q q => W.var rfl q) ⟨_, len_map (f := ruleD) (xs := hist) rfl (fun s z => nomatch z), rfl, h, [], none, none, none, none, none, none, rfl, by simp, m.to, rfl, fun z => absurd rfl z⟩)
    · rintro i σ h' ⟨hm, ex, o5, o6, o7, o8, o9, o10, rfl, _⟩; simp
    · rintro i σ h' hi ⟨hm, ex, o5, o6, o7, o8, o9, o10, rfl, rfl, a, hex, hlast⟩
      obtain ⟨r, hr⟩ : ∃ r, hist[i]? = some r := ⟨_, List.getElem?_eq_getElem hi⟩
      obtain ⟨x, hx⟩ : ∃ x, st[i]? = some x := ⟨_, List.getElem?_eq_getElem (show i < st.length by rw [hst.1]; omega)⟩
      have hrx := hst.2 i r x hr hx
      have hrk := H.rules r (List.mem_of_getElem? hr)
      have hfew := H.few
      have hrows : SRowsOk hist s i (rows i) := rows_ok H hst hc i (by omega)
      have hrows1 : SRowsOk hist s (i + 1) (rows (i + 1)) := rows_ok H hst hc (i + 1) (by omega)
      have hpow : 2 ^ i ≤ 2 ^ 2 := Nat.pow_le_pow_right (by decide) (by omega)
      have hnext : rows (i + 1) = stepS s (rows i) (r, x) := by
        simp only [rows]
        rw [List.take_succ, zip_get hr hx]
        exact stepsG_snoc _ _ _
      have hml := a.len
      refine W.cons (W.set (W.alcLst ?_))
      walk_at "S"
      let g : St × List Nat → List (St × List Nat) := fun q => (runF r s x q.2).map fun z => (q.1 ++ [z.1], z.2)
      have hwalk : ∀ h2 : Hh, (∀ j, h.length ≤ j → j < h.length + i → h2[j]? = (hm ++ ex)[j]?) → walkA h2 (val i) = some ((rows i).map (fun y => .tup [stD y.1, .str y.2]), if i = 0 then [] else [h.length + (i - 1)]) := fun h2 hh => by
        by_cases hi0 : i = 0
        · subst hi0; rfl
        · obtain ⟨ex0, rfl⟩ := hlast hi0
          simp only [List.length_append, List.length_cons, List.length_nil] at hex
          have hg : h2[h.length + (i - 1)]? = some (.lst ((rows i).map srowD)) := by
            rw [hh _ (by omega) (by omega), ← hml, show i - 1 = ex0.length by omega]
            exact last_app
          simp only [val, if_neg hi0, walkA, walkD, hg]
          rfl
      have hgl : ∀ p ∈ rows i, (g p).length ≤ 256 := fun p hp => by
        simp only [g, List.length_map]
        have h1 := (runF_ok hrk hrx (hrows.ok p hp).2.2.1).len
        have h2 : 4 ^ p.2.length ≤ 4 ^ 4 := Nat.pow_le_pow_right (by decide) (by have := (hrows.ok p hp).2.1; omega)
        omega
      have hcapi : (rows i).length ≤ 64 := by
        have := hrows.len
        have hi3 : i = 0 ∨ i = 1 ∨ i = 2 := by omega
        rcases hi3 with rfl | rfl | rfl <;> simp only [cap] at this <;> omega
      refine forP (xs := rows i) (ws := if i = 0 then [] else [h.length + (i - 1)]) (fun y => stD y.1) (fun y => .str y.2) (fun j σ h' => ∃ (hm2 : Hh) (o7 o8 o9 o10 : Option D), σ = [some (.ref l), some (stD st), some (.str [c]), some (keyD (.ss st c)), some (val i), some (.int (i : Nat)), some (.ref (h.length + i)), o7, o8, o9, o10] ∧ h' = (hm2 ++ ex) ++ [.lst ((((rows i).take j).flatMap g).map srowD)] ∧ MTo hist s l h hm2) ?_ ?_ ?_
      · walk_at "E"
        refine ⟨hwalk _ fun j _ hj => ?_, ⟨hm, o7, o8, o9, o10, ?_, rfl, a⟩, ?_, ?_⟩
        · rw [List.getElem?_append_left (by rw [List.length_append]; omega)]
        · simp only [List.length_append, hml, hex, D.keep, List.set_cons_succ, List.set_cons_zero]
        · rintro j σ h' ⟨hm2, o7, o8, o9, o10, rfl, _⟩; simp
        · rintro j σ h' ⟨hm2, o7, o8, o9, o10, rfl, rfl, a2⟩ q hq
          split at hq
          · simp at hq
          · rename_i hi0
            rw [List.mem_singleton.mp hq]
            have hml2 := a2.len
            have e1 : ∀ (h5 : Hh) (o : Ob), h5.length = h.length → ((h5 ++ ex) ++ [o])[h.length + (i - 1)]? = ex[i - 1]? := fun h5 o h5l => by
              rw [List.getElem?_append_left (by rw [List.length_append]; omega), List.getElem?_append_right (by omega), h5l, Nat.add_sub_cancel_left]
            rw [e1 _ _ hml2, e1 _ _ hml]
      · rintro j p σ h' hj ⟨hm2, o7, o8, o9, o10, rfl, rfl, a2⟩
        have hpm := List.mem_of_getElem? hj
        obtain ⟨plen, pw, pin, pok⟩ := hrows.ok p hpm
        have hml2 := a2.len
        have hjl := (List.getElem?_eq_some_iff.mp hj).1
        obtain ⟨q2, _, m2⟩ := a2.1
        have hbase : (((rows i).take j).flatMap g).length ≤ j * 256 := by
          have := flat_len_le (n := 256) (xs := (rows i).take j) (f := g) fun p hp => hgl p (List.mem_of_mem_take hp)
          rwa [List.length_take, Nat.min_eq_left (by omega)] at this
        have hrn : (runF r s x p.2).length ≤ 256 := by have := hgl p hpm; simpa only [g, List.length_map] using this
        refine W.cons ?_
        refine forP (xs := runF r s x p.2) (ws := []) (fun y => rsD y.1) (fun y => .str y.2) (fun n σ h' => ∃ (hm3 : Hh) (o9 o10 : Option D), σ = [some (.ref l), some (stD st), some (.str [c]), some (keyD (.ss st c)), some (val i), some (.int (i : Nat)), some (.ref (h.length + i)), some (stD p.1), some (.str p.2), o9, o10] ∧ h' = (hm3 ++ ex) ++ [.lst (((((rows i).take j).flatMap g) ++ (((runF r s x p.2).take n).map fun z => (p.1 ++ [z.1], z.2))).map srowD)] ∧ MTo hist s l h hm3) ?_ ?_ ?_
        · refine W.meth (W.var rfl ⟨l, "Machine", mfs hist s (l + 1), rfl, ?_, ⟨by decide, rfl⟩, ?_⟩)
          · rw [List.append_assoc]; exact (m2.app _).ob
          · walk_at "E"
            refine ⟨_, idx_tup.trans (idx_map (f := rsD) rfl hx), ?_⟩
            walk_at "S"
            rw [List.append_assoc]
            refine (rule_run_ok M H (m2.app _) hr hrx (by omega) pin).mono fun v h3 z => ?_
            obtain ⟨hv, b⟩ := z
            obtain ⟨hm3, rfl, b2⟩ := b.app (by omega)
            refine ⟨?_, ⟨hm3, o9, o10, rfl, by rw [List.append_assoc]; simp, a2.trans b2⟩, ?_, fun _ _ _ _ => wat_nil _ _⟩
            · rcases hv with rfl | rfl <;> rfl
            · rintro n σ h' ⟨hm3, o9, o10, rfl, _⟩; simp
        · rintro n y σ h' hn2 ⟨hm3, o9, o10, rfl, rfl, a3⟩
          have hml3 := a3.len
          have hnl := (List.getElem?_eq_some_iff.mp hn2).1
          refine W.cons (W.appL (h0 := hm3 ++ ex) (srowD (p.1 ++ [y.1], y.2)) (by simp [hml3, hex]) ?_ ?_ ?_)
          · simp only [List.length_map, List.length_append, List.length_take]
            unfold line; omega
          · walk_at "S"
            refine ⟨_, addT (by simp only [List.length_map, List.length_cons, List.length_nil]; unfold line; omega), ?_⟩
            walk_at "S"
            refine ⟨?_, rfl⟩
            simp [srowD, stD, D.keep, rsD]
          · refine W.nx (W.nil ⟨hm3, _, _, rfl, ?_, a3⟩)
            rw [List.take_succ, hn2]
            simp
        · rintro σ h' ⟨hm3, o9, o10, rfl, rfl, a3⟩
          refine W.nx (W.nil ⟨hm3, _, _, _, _, rfl, ?_, a3⟩)
          rw [flat_snoc hj, List.take_length]
      · rintro σ h' ⟨hm2, o7, o8, o9, o10, rfl, rfl, a2⟩
        rw [List.take_length]
        refine W.nx (W.cons (W.set (W.var rfl ⟨by simp, W.nx (W.nil ?_)⟩)))
        refine ⟨hm2, ex ++ [.lst ((rows (i + 1)).map srowD)], some (.int (i : Nat)), some (.ref (h.length + i)), o7, o8, o9, o10, ?_, ?_, a2, by simp [hex], fun _ => ⟨ex, rfl⟩⟩
        · simp [D.keep, val]
        · rw [hnext, List.append_assoc]; rfl
    · rintro σ h' ⟨hm, ex, o5, o6, o7, o8, o9, o10, rfl, rfl, a, hex, hlast⟩
      have hml := a.len
      obtain ⟨qs2, hm2, m2⟩ := a.1
      have hall : rows hist.length = stepsF hist s st c := by
        simp only [rows, stepsF]
        rw [List.take_of_length_le (by rw [List.length_zip]; omega)]
      have hq2 : Key.ss st c ∉ qs2 := fun z => by
        rcases a.2 qs qs2 m m2 _ z with z | ⟨k, x, c, z⟩
        · exact hn z
        · cases z
      by_cases hw0 : hist.length = 0
      · have := List.eq_nil_of_length_eq_zero (hex.trans hw0)
        subst this
        rw [List.append_nil]
        have hv : valD hist s (.ss st c) = .fz [srowD ([], [c])] := by
          simp only [valD, ← hall, rows, hw0]
          rfl
        have hv2 : val hist.length = valD hist s (.ss st c) := by rw [hv]; simp only [val, hw0, if_true]
        rw [hv2]
        refine W.nx (W.cons (W.setiD (W.var rfl (m_known m2 (fun Q q => W.var rfl q) (W.var rfl ?_)))))
        refine ⟨l + 1, _, _, rfl, m2.ch, by rw [val_keep]; exact cache_put hq2 (m2.few H), ?_⟩
        have m3 := m2.put hq2 hq
        refine W.nx (W.nil (W.nx (W.cons (W.ret (W.o2 (m_known m3 (fun Q q => W.var rfl q) (W.var rfl ?_)))))))
        refine ⟨_, cache_idx (q := .ss st c) (by simp) m3.ch, W.rt (W.enZ ?_)⟩
        rw [finZ_same (by rw [List.length_set, hml])]
        exact Ok.ok ⟨rfl, a.1.trans ⟨_, rfl, m3⟩⟩
      · obtain ⟨ex0, rfl⟩ := hlast hw0
        simp only [List.length_append, List.length_cons, List.length_nil] at hex
        have hv : val hist.length = .ref (h.length + ex0.length) := by simp only [val, if_neg hw0]; rw [show hist.length - 1 = ex0.length by omega]
        rw [hv, hall]
        have m2a := m2.app (ex0 ++ [.lst ((stepsF hist s st c).map srowD)])
        refine W.nx (W.cons (W.setiD (W.var rfl (m_known m2a (fun Q q => W.var rfl q) (W.var rfl ?_)))))
        let ob : Ob := .din (qs2.map keyD ++ [keyD (.ss st c)]) (qs2.map (valD hist s) ++ [.ref (h.length + ex0.length)])
        refine ⟨l + 1, _, ob, rfl, m2a.ch, cache_put' hq2 (m2.few H), ?_⟩
        have hlt2 : l + 1 < hm.length := by omega
        rw [List.set_append_left _ _ hlt2]
        have e5 : hm.set (l + 1) ob = h.set (l + 1) ob := by rw [hm2, List.set_set]
        rw [e5]
        have hob : ((h.set (l + 1) ob) ++ (ex0 ++ [.lst ((stepsF hist s st c).map srowD)]))[l + 1]? = some ob := by
          rw [List.getElem?_append_left (by rw [List.length_set]; exact hlt)]; exact List.getElem?_set_self hlt
        have hobl : ((h.set (l + 1) ob) ++ (ex0 ++ [.lst ((stepsF hist s st c).map srowD)]))[l]? = some (.ins "Machine" (mfs hist s (l + 1))) := by
          rw [List.getElem?_append_left (by rw [List.length_set]; omega), List.getElem?_set_ne (by omega)]; exact m.ob
        refine W.nx (W.nil (W.nx (W.cons (W.ret (W.o2 (W.att (W.var rfl ⟨l, "Machine", _, _, rfl, hobl, by simp, rfl, W.var rfl ⟨.ref (h.length + ex0.length), ?_, W.rt (W.enZ ?_)⟩⟩)))))))
        · show o2F .idx _ (.ref (l + 1)) (keyD (.ss st c)) = _
          have hd : dict ((h.set (l + 1) ob) ++ (ex0 ++ [.lst ((stepsF hist s st c).map srowD)])) (.ref (l + 1)) = none := by simp only [dict, hob, ob]
          have hdn : dictn ((h.set (l + 1) ob) ++ (ex0 ++ [.lst ((stepsF hist s st c).map srowD)])) (.ref (l + 1)) = some (qs2.map keyD ++ [keyD (.ss st c)], qs2.map (valD hist s) ++ [.ref (h.length + ex0.length)]) := by simp only [dictn, hob, ob]
          have hsq : seqs ((h.set (l + 1) ob) ++ (ex0 ++ [.lst ((stepsF hist s st c).map srowD)])) (.ref (l + 1)) = none := by simp only [seqs, items, hob, ob]
          have hlook : dlook ((h.set (l + 1) ob) ++ (ex0 ++ [.lst ((stepsF hist s st c).map srowD)])) (.ref (l + 1)) (keyD (.ss st c)) = some (some (.ref (h.length + ex0.length))) := by
            simp only [dlook, hd, hdn, key_of, Option.map_some, nget_last hq2]
          obtain ⟨xs, hxs⟩ := key_tup (.ss st c)
          rw [hxs] at hlook ⊢
          simp only [o2F, hlook]
          rfl
        · have hu : D.undAll h.length ((stepsF hist s st c).map srowD) = true := undAll_map (srow_und _) _
          have hg : ((h.set (l + 1) ob) ++ (ex0 ++ [.lst ((stepsF hist s st c).map srowD)]))[h.length + ex0.length]? = some (.lst ((stepsF hist s st c).map srowD)) := by
            have := last_app (h1 := h.set (l + 1) ob) (ex := ex0) (o := .lst ((stepsF hist s st c).map srowD))
            rwa [List.length_set] at this
          have hfr : ∀ n, frz ((h.set (l + 1) ob) ++ (ex0 ++ [.lst ((stepsF hist s st c).map srowD)])) h.length (n + 1) (.ref (h.length + ex0.length)) = valD hist s (.ss st c) := fun n => by
            simp only [frz, if_neg (show ¬ h.length + ex0.length < h.length by omega), hg, valD]
            rw [map_same fun x hx => frz_und _ _ (undAll_of hu x hx)]
          have hmap : ob.mapD (frz ((h.set (l + 1) ob) ++ (ex0 ++ [.lst ((stepsF hist s st c).map srowD)])) h.length 60) = cacheOb hist s (qs2 ++ [.ss st c]) := by
            rw [cacheOb_snoc]
            simp only [ob, Ob.mapD, List.map_append, List.map_cons, List.map_nil, hfr]
            rw [map_same (xs := qs2.map (valD hist s)) fun x hx => ?_]
            obtain ⟨q, _, rfl⟩ := List.mem_map.mp hx
            exact frz_und _ _ (val_und _ _ _ _)
          have hne : h[l + 1]? ≠ some ob := by
            rw [m.ch]
            intro e
            have e2 : (cacheOb hist s qs).und h.length = ob.und h.length := by rw [Option.some.inj e]
            rw [cache_und] at e2
            have : ob.und h.length = false := by
              simp only [ob, Ob.und, Bool.and_eq_false_iff]
              right
              have : ∀ xs : List D, D.undAll h.length (xs ++ [.ref (h.length + ex0.length)]) = false := by
                intro xs
                induction xs with
                | nil => simp [D.undAll, D.und]
                | cons x xs ih => simp [D.undAll, ih]
              exact this _
            rw [this] at e2
            cases e2
          rw [finZ_at hlt (by simp) (hfr 59) (by simpa only [valD, undV, D.und] using hu) hmap (cache_und _ _ _ _) hne]
          have m3 := m2.put hq2 hq
          rw [hm2, List.set_set] at m3
          exact Ok.ok ⟨rfl, _, rfl, m3⟩
  · simp only [Bool.not_eq_false', decide_eq_true_eq] at hn
    walk_at "S"
    refine m_known m (fun Q q => W.var rfl q) ?_
    walk_at "E"
    refine ⟨_, cache_idx (q := .ss st c) hn m.ch, ?_⟩
    refine W.rt (W.enZ ?_)
    rw [finZ_same rfl]
    exact Ok.ok ⟨rfl, m.to.1⟩
end
end Mach
end Sd

/-! StandA: the stands along a word, in plain words: the only way to its end. -/
namespace Sd
namespace Mach
open Gen
theorem snocRec {α : Type} {motive : List α → Prop} (nil : motive []) (snoc : ∀ l a, motive l → motive (l ++ [a])) (l : List α) : motive l := by
  have : ∀ r : List α, motive r.reverse := by
    intro r
    induction r with
    | nil => exact nil
    | cons a r ih => rw [List.reverse_cons]; exact snoc _ _ ih
  have h := this l.reverse
  rwa [List.reverse_reverse] at h
/-! ### one rule -/
def back (r : Rule) (k : Fg) (u : List Nat) : Fg := u.foldr (fun c f => behStep r f c) k
def behs (r : Rule) (w : List Nat) : Fg := back r (behEnd r) w
def fwd (r : Rule) (b : Fg) (u : List Nat) : Fg := u.foldl (befStep r) b
def outW (r : Rule) : Fg → List Nat → Fg → List Nat
  | _, [], _ => []
  | b, c :: t, k => outOf r b (back r k t) c ++ outW r (befStep r b c) t k
def hdF (r : Rule) : Fg → List Nat → List Nat → List Nat
  | _, [], _ => []
  | b, c :: u, t => outOf r b (behs r (u ++ t)) c ++ hdF r (befStep r b c) u t
theorem back_app (r : Rule) (k : Fg) (u v : List Nat) : back r k (u ++ v) = back r (back r k v) u := by simp [back, List.foldr_append]
theorem behs_app (r : Rule) (u v : List Nat) : behs r (u ++ v) = back r (behs r v) u := back_app r _ u v
theorem fwd_app (r : Rule) (b : Fg) (u v : List Nat) : fwd r b (u ++ v) = fwd r (fwd r b u) v := by simp [fwd, List.foldl_append]
theorem outW_behs (r : Rule) : ∀ (u : List Nat) (b : Fg) (t : List Nat), outW r b u (behs r t) = hdF r b u t
  | [], _, _ => rfl
  | c :: u, b, t => by rw [outW, hdF, outW_behs r u, behs_app]
theorem outW_snoc (r : Rule) : ∀ (u : List Nat) (b : Fg) (c : Nat) (k : Fg), outW r b (u ++ [c]) k = outW r b u (behStep r k c) ++ outOf r (fwd r b u) k c
  | [], b, c, k => by simp [outW, back, fwd]
  | a :: u, b, c, k => by
    rw [List.cons_append, outW, outW, outW_snoc r u, List.append_assoc, back_app]
    rfl
theorem hdF_app (r : Rule) : ∀ (u : List Nat) (b : Fg) (v t : List Nat), hdF r b (u ++ v) t = hdF r b u (v ++ t) ++ hdF r (fwd r b u) v t
  | [], b, v, t => rfl
  | c :: u, b, v, t => by
    rw [List.cons_append, hdF, hdF, hdF_app r u, List.append_assoc, List.append_assoc]
    rfl
theorem runF_mem {r : Rule} {s : List Nat} {x : RS} {y : RS × List Nat} : ∀ {u : List Nat}, y ∈ runF r s x u → y.1.1 = fwd r x.1 u ∧ back r y.1.2 u = x.2 ∧ y.2 = outW r x.1 u y.1.2 := by
  intro u
  induction u using snocRec generalizing y with
  | nil =>
    intro hy
    rw [runF_eq] at hy
    simp only [List.foldl_nil, List.mem_singleton] at hy
    subst hy
    exact ⟨rfl, rfl, rfl⟩
  | snoc u c ih =>
    intro hy
    rw [runF_snoc] at hy
    obtain ⟨p, hp, hy⟩ := List.mem_flatMap.mp hy
    obtain ⟨q, hq, rfl⟩ := List.mem_map.mp hy
    obtain ⟨i1, i2, i3⟩ := ih hp
    obtain ⟨k, hk, e⟩ := List.mem_filterMap.mp hq
    split at e
    · rename_i he
      cases e
      refine ⟨?_, ?_, ?_⟩
      · rw [fwd_app, ← i1]; rfl
      · rw [back_app]
        show back r (behStep r k c) u = x.2
        rw [he, i2]
      · rw [outW_snoc, i3, ← i1]
        show outW r x.1 u p.1.2 ++ outOf r p.1.1 k c = _
        rw [he]
    · cases e
/-- what is found in a search is closed -/
theorem srch_closed {α : Type} [DecidableEq α] {nx : α → List α} {u : List α} {m : Nat} (hm : ∀ k, (nx k).length ≤ m) (hu : ∀ k ∈ u, ∀ x ∈ nx k, x ∈ u) : ∀ (n : Nat) (found left : List α), left.length + (m + 1) * rest u found < n → (∀ x ∈ left, x ∈ u) → (∀ k ∈ found, ∀ x ∈ nx k, x ∈ found ∨ x ∈ left) →
    (∀ k ∈ srch nx n found left, ∀ x ∈ nx k, x ∈ srch nx n found left) ∧ (∀ x ∈ left, x ∈ srch nx n found left) ∧ ∀ x ∈ found, x ∈ srch nx n found left
  | 0, _, _, h, _, _ => by omega
  | n + 1, found, left, h, hl, hf => by
    unfold srch
    cases hk : left.getLast? with
    | none =>
      rw [List.getLast?_eq_none_iff] at hk
      subst hk
      exact ⟨fun k hk x hx => (hf k hk x hx).elim id fun z => by simp at z, fun x hx => by simp at hx, fun x hx => hx⟩
    | some k =>
      obtain ⟨l1, rfl⟩ : ∃ l1, left = l1 ++ [k] := by
        rcases List.eq_nil_or_concat left with rfl | ⟨l1, b, rfl⟩
        · simp at hk
        · rw [List.concat_eq_append] at hk ⊢
          simp at hk
          subst hk
          exact ⟨l1, rfl⟩
      have hku : k ∈ u := hl k (by simp)
      simp only [List.length_append, List.length_cons, List.length_nil] at h
      simp only [List.dropLast_concat]
      by_cases hin : k ∈ found
      · rw [if_pos hin]
        obtain ⟨a1, a2, a3⟩ := srch_closed hm hu n found l1 (by omega) (fun x hx => hl x (by simp [hx])) fun k' hk' x hx => by
          rcases hf k' hk' x hx with z | z
          · exact .inl z
          · rcases List.mem_append.mp z with z | z
            · exact .inr z
            · rw [List.mem_singleton.mp z]; exact .inl hin
        refine ⟨a1, fun x hx => ?_, a3⟩
        rcases List.mem_append.mp hx with z | z
        · exact a2 x z
        · rw [List.mem_singleton.mp z]; exact a3 k hin
      · rw [if_neg hin]
        have hd := rest_down hku hin
        have hmk := hm k
        have hmul : (m + 1) * rest u (found ++ [k]) + (m + 1) ≤ (m + 1) * rest u found := by
          have := Nat.mul_le_mul_left (m + 1) hd
          rw [Nat.mul_add] at this
          omega
        obtain ⟨a1, a2, a3⟩ := srch_closed hm hu n (found ++ [k]) (l1 ++ nx k) (by rw [List.length_append]; omega) (fun x hx => by
          rcases List.mem_append.mp hx with z | z
          · exact hl x (by simp [z])
          · exact hu k hku x z) fun k' hk' x hx => by
          rcases List.mem_append.mp hk' with z | z
          · rcases hf k' z x hx with y | y
            · exact .inl (by simp [y])
            · rcases List.mem_append.mp y with y | y
              · exact .inr (by simp [y])
              · exact .inl (by simp [List.mem_singleton.mp y])
          · rw [List.mem_singleton.mp z] at hx
            exact .inr (by simp [hx])
        refine ⟨a1, fun x hx => ?_, fun x hx => a3 x (by simp [hx])⟩
        rcases List.mem_append.mp hx with z | z
        · exact a2 x (by simp [z])
        · rw [List.mem_singleton.mp z]; exact a3 k (by simp)
theorem beh_mem {r : Rule} {s : List Nat} (hb : r.bh.length ≤ 2) (hs : s.length ≤ 3) : behEnd r ∈ beh r s ∧ ∀ k ∈ beh r s, ∀ c ∈ s, behStep r k c ∈ beh r s := by
  have p := sortG_perm fgP (beh0 r s)
  have hr := rest_le (fgs r.bh.length) ([] : List Fg)
  rw [fgs_len] at hr
  have h4 : 2 ^ r.bh.length ≤ 2 ^ 2 := Nat.pow_le_pow_right (by decide) hb
  obtain ⟨a1, a2, _⟩ := srch_closed (nx := fun k => s.map (behStep r k)) (u := fgs r.bh.length) (m := 3) (fun k => by simpa using hs) (fun k _ x hx => by
    obtain ⟨c, _, rfl⟩ := List.mem_map.mp hx
    have := fgs_mem (behStep r k c)
    rwa [behStep_len] at this) 100 [] [behEnd r] (by simp only [List.length_cons, List.length_nil]; omega) (fun x hx => by
    rw [List.mem_singleton.mp hx]
    have := fgs_mem (behEnd r)
    rwa [behEnd_len] at this) (fun k hk => by simp at hk)
  exact ⟨p.mem_iff.mpr (a2 _ (by simp)), fun k hk c hc => p.mem_iff.mpr (a1 k (p.mem_iff.mp hk) _ (List.mem_map.mpr ⟨c, hc, rfl⟩))⟩
theorem back_mem {r : Rule} {s : List Nat} (hb : r.bh.length ≤ 2) (hs : s.length ≤ 3) : ∀ {u : List Nat} {k : Fg}, k ∈ beh r s → (∀ c ∈ u, c ∈ s) → back r k u ∈ beh r s
  | [], _, hk, _ => hk
  | c :: u, k, hk, hu => (beh_mem hb hs).2 _ (back_mem hb hs hk fun x hx => hu x (by simp [hx])) c (hu c (by simp))
theorem behs_mem {r : Rule} {s : List Nat} (hb : r.bh.length ≤ 2) (hs : s.length ≤ 3) {u : List Nat} (hu : ∀ c ∈ u, c ∈ s) : behs r u ∈ beh r s := back_mem hb hs (beh_mem hb hs).1 hu
theorem runF_mem' {r : Rule} {s : List Nat} (hb : r.bh.length ≤ 2) (hs : s.length ≤ 3) : ∀ {u : List Nat} {b k : Fg}, k ∈ beh r s → (∀ c ∈ u, c ∈ s) → ((fwd r b u, k), outW r b u k) ∈ runF r s (b, back r k u) u := by
  intro u
  induction u using snocRec with
  | nil => intro b k _ _; rw [runF_eq]; simp [fwd, back, outW]
  | snoc u c ih =>
    intro b k hk hu
    have hc : c ∈ s := hu c (by simp)
    have := ih (b := b) ((beh_mem hb hs).2 k hk c hc) fun x hx => hu x (by simp [hx])
    rw [runF_snoc, back_app]
    refine List.mem_flatMap.mpr ⟨_, this, List.mem_map.mpr ⟨((befStep r (fwd r b u) c, k), outOf r (fwd r b u) k c), ?_, ?_⟩⟩
    · refine List.mem_filterMap.mpr ⟨k, hk, ?_⟩
      rw [if_pos rfl]
    · rw [outW_snoc, fwd_app]
      rfl
theorem nodup_flat {α β γ : Type} {f : α → List β} {g : α → γ} : ∀ {xs : List α}, (xs.map g).Nodup → (∀ x ∈ xs, (f x).Nodup) → (∀ x ∈ xs, ∀ y ∈ xs, ∀ z, z ∈ f x → z ∈ f y → g x = g y) → (xs.flatMap f).Nodup
  | [], _, _, _ => by simp
  | x :: xs, hn, hf, hd => by
    rw [List.map_cons, List.nodup_cons] at hn
    rw [List.flatMap_cons, List.nodup_append]
    refine ⟨hf x (by simp), nodup_flat hn.2 (fun y hy => hf y (by simp [hy])) (fun a ha b hb => hd a (by simp [ha]) b (by simp [hb])), fun z hz w hw e => ?_⟩
    subst e
    obtain ⟨y, hy, hz2⟩ := List.mem_flatMap.mp hw
    exact hn.1 (List.mem_map.mpr ⟨y, hy, (hd x (by simp) y (by simp [hy]) z hz hz2).symm⟩)
theorem rSteps_keys (r : Rule) (s : List Nat) (x : RS) (c : Nat) : ((rSteps r s x c).map (·.1.2)).Nodup := by
  have e : (rSteps r s x c).map (·.1.2) = (beh r s).filter fun k => decide (behStep r k c = x.2) := by
    unfold rSteps
    induction beh r s with
    | nil => rfl
    | cons k l ih =>
      by_cases h : behStep r k c = x.2
      · simp [List.filterMap_cons, h, ih]
      · simp [List.filterMap_cons, h, ih]
  rw [e]
  exact (beh_ok r s).1.filter _
theorem runF_keys (r : Rule) (s : List Nat) (x : RS) (u : List Nat) : ((runF r s x u).map (·.1.2)).Nodup := by
  induction u using snocRec with
  | nil => rw [runF_eq]; simp
  | snoc u c ih =>
    rw [runF_snoc]
    unfold runS
    rw [List.map_flatMap]
    refine nodup_flat (g := fun p => p.1.2) ih (fun p _ => ?_) fun p _ q _ z hz hz2 => ?_
    · rw [List.map_map]
      exact rSteps_keys r s p.1 c
    · rw [List.map_map] at hz hz2
      obtain ⟨y, hy, rfl⟩ := List.mem_map.mp hz
      obtain ⟨y2, hy2, e⟩ := List.mem_map.mp hz2
      obtain ⟨k, hk, e1⟩ := List.mem_filterMap.mp hy
      obtain ⟨k2, hk2, e2⟩ := List.mem_filterMap.mp hy2
      split at e1
      · split at e2
        · rename_i g1 g2
          cases e1; cases e2
          simp only [Function.comp] at e
          subst e
          exact g1.symm.trans g2
        · cases e2
      · cases e1
theorem runF_few {r : Rule} {s : List Nat} (hr : RK s r) {x : RS} (hx : RSok r x) {u : List Nat} (hu : ∀ c ∈ u, c ∈ s) : (runF r s x u).length ≤ 4 := by
  have h1 := runF_keys r s x u
  have h2 := nodup_le (u := fgs r.bh.length) h1 fun k hk => by
    obtain ⟨y, hy, rfl⟩ := List.mem_map.mp hk
    have := ((runF_ok hr hx hu).ok y hy).1.2
    rw [← this]
    exact fgs_mem _
  rw [List.length_map, fgs_len] at h2
  have h4 : 2 ^ r.bh.length ≤ 2 ^ 2 := Nat.pow_le_pow_right (by decide) hr.bh
  omega
end Mach
end Sd

/-! StandB: the rules of a history, one behind the other. -/
namespace Sd
namespace Mach
open Gen
def stepsW (s : List Nat) : List (Rule × RS) → List Nat → List (St × List Nat)
  | [], u => [([], u)]
  | p :: ps, u => (runF p.1 s p.2 u).flatMap fun y => (stepsW s ps y.2).map fun q => (y.1 :: q.1, q.2)
theorem stepsG_W (s : List Nat) : ∀ (ps : List (Rule × RS)) (rows : List (St × List Nat)), stepsG s rows ps = rows.flatMap fun p => (stepsW s ps p.2).map fun q => (p.1 ++ q.1, q.2)
  | [], rows => by
    simp only [stepsG, stepsW, List.map_cons, List.map_nil, List.append_nil]
    induction rows with
    | nil => rfl
    | cons p rows ih => rw [List.flatMap_cons, ← ih]; rfl
  | (r, x) :: ps, rows => by
    rw [stepsG, stepsG_W s ps, List.flatMap_assoc]
    refine congrArg (fun f => List.flatMap f rows) (funext fun p => ?_)
    simp only [stepsW, List.flatMap_map, List.map_flatMap, List.map_map]
    refine congrArg (fun f => List.flatMap f _) (funext fun y => ?_)
    refine List.map_congr_left fun q _ => ?_
    simp
theorem stepsF_W (hist : List Rule) (s : List Nat) (st : St) (c : Nat) : stepsF hist s st c = stepsW s (hist.zip st) [c] := by
  unfold stepsF
  rw [stepsG_W]
  simp
def startsP (s : List Nat) : List Rule → List St
  | [] => [[]]
  | r :: rs => (rStarts r s).flatMap fun x => (startsP s rs).map (x :: ·)
theorem startsG_P (s : List Nat) : ∀ (rs : List Rule) (found : List St), startsG s found rs = found.flatMap fun st => (startsP s rs).map (st ++ ·)
  | [], found => by
    simp only [startsG, startsP, List.map_cons, List.map_nil, List.append_nil]
    induction found with
    | nil => rfl
    | cons p found ih => rw [List.flatMap_cons, ← ih]; rfl
  | r :: rs, found => by
    rw [startsG, startsG_P s rs, List.flatMap_assoc]
    refine congrArg (fun f => List.flatMap f found) (funext fun st => ?_)
    simp only [startsP, List.flatMap_map, List.map_flatMap, List.map_map]
    refine congrArg (fun f => List.flatMap f _) (funext fun y => ?_)
    refine List.map_congr_left fun q _ => ?_
    simp
theorem startsF_P (hist : List Rule) (s : List Nat) : startsF hist s = startsP s hist := by
  unfold startsF
  rw [startsG_P]
  simp
theorem startsP_nodup (s : List Nat) : ∀ rs : List Rule, (startsP s rs).Nodup
  | [] => by simp [startsP]
  | r :: rs => by
    have h1 : (rStarts r s).Nodup := by
      unfold rStarts
      refine List.Pairwise.map _ (fun a b hne e => hne ?_) (beh_ok r s).1
      exact congrArg Prod.snd e
    refine nodup_flat (g := id) (by simpa using h1) (fun x _ => ?_) fun x _ y _ z hz hz2 => ?_
    · exact List.Pairwise.map _ (fun a b hne e => hne (List.cons.inj e).2) (startsP_nodup s rs)
    · obtain ⟨a, _, rfl⟩ := List.mem_map.mp hz
      obtain ⟨b, _, e⟩ := List.mem_map.mp hz2
      exact (List.cons.inj e).1.symm
theorem stepsW_nodup (s : List Nat) : ∀ (ps : List (Rule × RS)) (u : List Nat), (stepsW s ps u).Nodup
  | [], u => by simp [stepsW]
  | p :: ps, u => by
    refine nodup_flat (g := fun y => y.1.2) (runF_keys p.1 s p.2 u) (fun y _ => ?_) fun y _ y2 _ z hz hz2 => ?_
    · refine List.Pairwise.map _ (fun a b hne e => hne ?_) (stepsW_nodup s ps y.2)
      obtain ⟨e1, e2⟩ := Prod.mk.inj e
      exact Prod.ext (List.cons.inj e1).2 e2
    · obtain ⟨a, _, rfl⟩ := List.mem_map.mp hz
      obtain ⟨b, _, e⟩ := List.mem_map.mp hz2
      have := (List.cons.inj (Prod.mk.inj e).1).1
      rw [this]
/-! ### ways -/
def ChR (s : List Nat) (r : Rule) : RS → List (List Nat) → List (RS × List Nat) → Prop
  | _, [], W => W = []
  | x, u :: us, W => ∃ y W', W = y :: W' ∧ y ∈ runF r s x u ∧ ChR s r y.1 us W'
def ChS (s : List Nat) (rs : List Rule) : St → List (List Nat) → List (St × List Nat) → Prop
  | _, [], W => W = []
  | st, u :: us, W => ∃ y W', W = y :: W' ∧ y ∈ stepsW s (rs.zip st) u ∧ ChS s rs y.1 us W'
def lastW {α β : Type} : α → List (α × β) → α
  | x, [] => x
  | _, y :: W => lastW y.1 W
def zipS (W1 : List (RS × List Nat)) (W2 : List (St × List Nat)) : List (St × List Nat) := List.zipWith (fun a b => (a.1 :: b.1, b.2)) W1 W2
theorem ch_split {s : List Nat} {r : Rule} {rs : List Rule} : ∀ {us : List (List Nat)} {x : RS} {xs : St} {W : List (St × List Nat)}, ChS s (r :: rs) (x :: xs) us W → ∃ W1 W2, ChR s r x us W1 ∧ ChS s rs xs (W1.map (·.2)) W2 ∧ W = zipS W1 W2 ∧ lastW (x :: xs) W = lastW x W1 :: lastW xs W2
  | [], x, xs, W, h => by
    cases (show W = [] from h)
    exact ⟨[], [], rfl, rfl, rfl, rfl⟩
  | u :: us, x, xs, W, h => by
    obtain ⟨y, W', rfl, hy, h⟩ := h
    rw [List.zip_cons_cons] at hy
    obtain ⟨p, hp, hy⟩ := List.mem_flatMap.mp hy
    obtain ⟨q, hq, rfl⟩ := List.mem_map.mp hy
    obtain ⟨W1, W2, h1, h2, rfl, h4⟩ := ch_split h
    exact ⟨p :: W1, q :: W2, ⟨p, W1, rfl, hp, h1⟩, ⟨q, W2, rfl, hq, h2⟩, rfl, h4⟩
theorem ch_join {s : List Nat} {r : Rule} {rs : List Rule} : ∀ {us : List (List Nat)} {x : RS} {xs : St} {W1 : List (RS × List Nat)} {W2 : List (St × List Nat)}, ChR s r x us W1 → ChS s rs xs (W1.map (·.2)) W2 → ChS s (r :: rs) (x :: xs) us (zipS W1 W2) ∧ lastW (x :: xs) (zipS W1 W2) = lastW x W1 :: lastW xs W2
  | [], x, xs, W1, W2, h1, h2 => by
    cases (show W1 = [] from h1)
    cases (show W2 = [] from h2)
    exact ⟨rfl, rfl⟩
  | u :: us, x, xs, W1, W2, h1, h2 => by
    obtain ⟨y, W1', rfl, hy, h1⟩ := h1
    obtain ⟨z, W2', rfl, hz, h2⟩ := h2
    obtain ⟨a1, a2⟩ := ch_join h1 h2
    refine ⟨⟨(y.1 :: z.1, z.2), zipS W1' W2', rfl, ?_, a1⟩, a2⟩
    rw [List.zip_cons_cons]
    exact List.mem_flatMap.mpr ⟨y, hy, List.mem_map.mpr ⟨z, hz, rfl⟩⟩
/-! ### the way that is due -/
def dueR (r : Rule) : Fg → List (List Nat) → List (RS × List Nat)
  | _, [] => []
  | b, u :: us => ((fwd r b u, behs r us.flatten), hdF r b u us.flatten) :: dueR r (fwd r b u) us
def dueS : List Rule → List (List Nat) → St × List (St × List Nat)
  | [], us => ([], us.map fun u => ([], u))
  | r :: rs, us => ((befStart r, behs r us.flatten) :: (dueS rs ((dueR r (befStart r) us).map (·.2))).1, zipS (dueR r (befStart r) us) (dueS rs ((dueR r (befStart r) us).map (·.2))).2)
theorem dueR_len (r : Rule) : ∀ (us : List (List Nat)) (b : Fg), (dueR r b us).length = us.length
  | [], _ => rfl
  | u :: us, b => by rw [dueR, List.length_cons, List.length_cons, dueR_len r us]
theorem dueS_len : ∀ (rs : List Rule) (us : List (List Nat)), (dueS rs us).2.length = us.length
  | [], us => by simp [dueS]
  | r :: rs, us => by simp [dueS, zipS, dueS_len rs, dueR_len]
theorem chR_due {s : List Nat} {r : Rule} : ∀ {us : List (List Nat)} {x : RS} {W : List (RS × List Nat)}, ChR s r x us W → (lastW x W).2 = behEnd r → x.2 = behs r us.flatten ∧ W = dueR r x.1 us
  | [], x, W, h, he => by
    cases (show W = [] from h)
    exact ⟨he, rfl⟩
  | u :: us, x, W, h, he => by
    obtain ⟨y, W', rfl, hy, h⟩ := h
    obtain ⟨i1, i2⟩ := chR_due h he
    obtain ⟨m1, m2, m3⟩ := runF_mem hy
    refine ⟨by rw [List.flatten_cons, behs_app, ← i1, m2], ?_⟩
    rw [dueR, i2, ← m1, ← i1, ← outW_behs, ← i1, ← m3]
theorem chS_due {s : List Nat} : ∀ {rs : List Rule} {us : List (List Nat)} {st : St} {W : List (St × List Nat)}, st ∈ startsP s rs → ChS s rs st us W → endF rs (lastW st W) = true → st = (dueS rs us).1 ∧ W = (dueS rs us).2
  | [], us, st, W, hs, h, _ => by
    have : st = [] := by simpa [startsP] using hs
    subst this
    refine ⟨rfl, ?_⟩
    clear hs
    rename_i he
    clear he
    induction us generalizing W with
    | nil => exact h
    | cons u us ih =>
      obtain ⟨y, W', rfl, hy, h⟩ := h
      have : y = ([], u) := by simpa [stepsW] using hy
      subst this
      have := ih W' h
      rw [this]
      rfl
  | r :: rs, us, st, W, hs, h, he => by
    obtain ⟨x, hx, hs⟩ := List.mem_flatMap.mp hs
    obtain ⟨xs, hxs, rfl⟩ := List.mem_map.mp hs
    obtain ⟨k, _, rfl⟩ := List.mem_map.mp hx
    obtain ⟨W1, W2, h1, h2, rfl, h4⟩ := ch_split h
    rw [h4] at he
    simp only [endF, List.zip_cons_cons, List.all_cons, Bool.and_eq_true, rEnd, decide_eq_true_eq] at he
    obtain ⟨i1, i2⟩ := chR_due h1 he.1
    obtain ⟨j1, j2⟩ := chS_due hxs h2 he.2
    simp only at i1 i2
    subst i1
    rw [dueS, ← i2, ← j1, ← j2]
    exact ⟨rfl, rfl⟩
theorem outW_mem {s : List Nat} {r : Rule} (hr : RK s r) : ∀ {u : List Nat} {b k : Fg}, (∀ c ∈ u, c ∈ s) → ∀ a ∈ outW r b u k, a ∈ s
  | [], _, _, _ => by simp [outW]
  | c :: u, b, k, hu => by
    intro a ha
    rw [outW] at ha
    rcases List.mem_append.mp ha with ha | ha
    · exact outOf_mem hr _ _ (hu c (by simp)) a ha
    · exact outW_mem hr (fun x hx => hu x (by simp [hx])) a ha
theorem hdF_mem {s : List Nat} {r : Rule} (hr : RK s r) {u : List Nat} {b : Fg} {t : List Nat} (hu : ∀ c ∈ u, c ∈ s) : ∀ a ∈ hdF r b u t, a ∈ s := by
  rw [← outW_behs]; exact outW_mem hr hu
theorem dueR_ok {s : List Nat} {r : Rule} (hr : RK s r) (hs : s.length ≤ 3) : ∀ (us : List (List Nat)) (b : Fg), (∀ u ∈ us, ∀ c ∈ u, c ∈ s) → ChR s r (b, behs r us.flatten) us (dueR r b us) ∧ (lastW (b, behs r us.flatten) (dueR r b us)).2 = behEnd r ∧ ∀ y ∈ dueR r b us, ∀ c ∈ y.2, c ∈ s
  | [], b, _ => ⟨rfl, rfl, by simp [dueR]⟩
  | u :: us, b, hu => by
    have hu1 := hu u (by simp)
    have hu2 : ∀ v ∈ us, ∀ c ∈ v, c ∈ s := fun v hv => hu v (by simp [hv])
    have hfl : ∀ c ∈ us.flatten, c ∈ s := fun c hc => by
      obtain ⟨v, hv, hc⟩ := List.mem_flatten.mp hc
      exact hu2 v hv c hc
    obtain ⟨a1, a2, a3⟩ := dueR_ok hr hs us (fwd r b u) hu2
    refine ⟨⟨_, _, rfl, ?_, a1⟩, a2, fun y hy => ?_⟩
    · rw [List.flatten_cons, behs_app, ← outW_behs]
      exact runF_mem' hr.bh hs (behs_mem hr.bh hs hfl) hu1
    · rcases List.mem_cons.mp hy with rfl | hy
      · exact hdF_mem hr hu1
      · exact a3 y hy
theorem dueS_ok {s : List Nat} (hs : s.length ≤ 3) : ∀ (rs : List Rule) (us : List (List Nat)), (∀ r ∈ rs, RK s r) → (∀ u ∈ us, ∀ c ∈ u, c ∈ s) → (dueS rs us).1 ∈ startsP s rs ∧ ChS s rs (dueS rs us).1 us (dueS rs us).2 ∧ endF rs (lastW (dueS rs us).1 (dueS rs us).2) = true
  | [], us, _, _ => by
    refine ⟨by simp [dueS, startsP], ?_, by simp [endF]⟩
    induction us with
    | nil => rfl
    | cons u us ih => exact ⟨([], u), _, rfl, by simp [stepsW], ih fun v hv => (by rename_i h; exact h v (by simp [hv]))⟩
  | r :: rs, us, hr, hu => by
    have hr1 := hr r (by simp)
    have hfl : ∀ c ∈ us.flatten, c ∈ s := fun c hc => by
      obtain ⟨v, hv, hc⟩ := List.mem_flatten.mp hc
      exact hu v hv c hc
    obtain ⟨a1, a2, a3⟩ := dueR_ok hr1 hs us (befStart r) hu
    obtain ⟨b1, b2, b3⟩ := dueS_ok hs rs ((dueR r (befStart r) us).map (·.2)) (fun r hr' => hr r (by simp [hr'])) fun u hu' => by
      obtain ⟨y, hy, rfl⟩ := List.mem_map.mp hu'
      exact a3 y hy
    obtain ⟨c1, c2⟩ := ch_join a1 b2
    refine ⟨List.mem_flatMap.mpr ⟨_, List.mem_map.mpr ⟨_, behs_mem hr1.bh hs hfl, rfl⟩, List.mem_map.mpr ⟨_, b1, rfl⟩⟩, c1, ?_⟩
    show endF (r :: rs) (lastW _ (zipS _ _)) = true
    rw [show (dueS (r :: rs) us).1 = (befStart r, behs r us.flatten) :: (dueS rs ((dueR r (befStart r) us).map (·.2))).1 from rfl, c2]
    simp only [endF, List.zip_cons_cons, List.all_cons, Bool.and_eq_true, rEnd, decide_eq_true_eq]
    exact ⟨a2, b3⟩
end Mach
end Sd

/-! StandC: all ways along a word; the stands of the way that is due. -/
namespace Sd
namespace Mach
open Gen
def rowsS (hist : List Rule) (s : List Nat) (rows : List (List St × List (List Nat))) (c : Nat) : List (List St × List (List Nat)) := rows.flatMap fun p => (stepsF hist s (p.1.getLast?.getD []) c).map fun q => (p.1 ++ [q.1], p.2 ++ [q.2])
def rowsF (hist : List Rule) (s w : List Nat) : List (List St × List (List Nat)) := w.foldl (rowsS hist s) ((startsF hist s).map fun st => ([st], []))
theorem rowsF_snoc (hist : List Rule) (s w : List Nat) (c : Nat) : rowsF hist s (w ++ [c]) = rowsS hist s (rowsF hist s w) c := by simp [rowsF, List.foldl_append]
theorem last_way : ∀ (W : List (St × List Nat)) (st : St), (st :: W.map (·.1)).getLast?.getD [] = lastW st W
  | [], st => rfl
  | y :: W, st => by
    rw [List.map_cons, List.getLast?_cons_cons, last_way W y.1]
    rfl
theorem ch_snoc {s : List Nat} {rs : List Rule} : ∀ {us : List (List Nat)} {st : St} {W : List (St × List Nat)} {u : List Nat} {y : St × List Nat}, ChS s rs st us W → y ∈ stepsW s (rs.zip (lastW st W)) u → ChS s rs st (us ++ [u]) (W ++ [y])
  | [], st, W, u, y, h, hy => by
    cases (show W = [] from h)
    exact ⟨y, [], rfl, hy, rfl⟩
  | v :: us, st, W, u, y, h, hy => by
    obtain ⟨z, W', rfl, hz, h⟩ := h
    exact ⟨z, W' ++ [y], rfl, hz, ch_snoc h hy⟩
theorem ch_unsnoc {s : List Nat} {rs : List Rule} : ∀ {us : List (List Nat)} {st : St} {W : List (St × List Nat)} {u : List Nat}, ChS s rs st (us ++ [u]) W → ∃ W' y, W = W' ++ [y] ∧ ChS s rs st us W' ∧ y ∈ stepsW s (rs.zip (lastW st W')) u
  | [], st, W, u, h => by
    obtain ⟨z, W', rfl, hz, h⟩ := h
    cases (show W' = [] from h)
    exact ⟨[], z, rfl, rfl, hz⟩
  | v :: us, st, W, u, h => by
    obtain ⟨z, W', rfl, hz, h⟩ := h
    obtain ⟨W2, y, rfl, h2, hy⟩ := ch_unsnoc h
    exact ⟨z :: W2, y, rfl, ⟨z, W2, rfl, hz, h2⟩, hy⟩
def ones (w : List Nat) : List (List Nat) := w.map fun c => [c]
theorem ones_flat : ∀ w : List Nat, (ones w).flatten = w
  | [] => rfl
  | c :: w => by
    show [c] ++ (ones w).flatten = c :: w
    rw [ones_flat w]; rfl
theorem ones_len (w : List Nat) : (ones w).length = w.length := by simp [ones]
theorem ones_mem {s w : List Nat} (hw : ∀ c ∈ w, c ∈ s) : ∀ u ∈ ones w, ∀ c ∈ u, c ∈ s := by
  intro u hu c hc
  obtain ⟨a, ha, rfl⟩ := List.mem_map.mp hu
  rw [List.mem_singleton.mp hc]; exact hw a ha
theorem rows_mem {hist : List Rule} {s w : List Nat} : ∀ {p : List St × List (List Nat)}, p ∈ rowsF hist s w ↔ ∃ st W, st ∈ startsF hist s ∧ ChS s hist st (ones w) W ∧ p = (st :: W.map (·.1), W.map (·.2)) := by
  induction w using snocRec with
  | nil =>
    intro p
    constructor
    · intro hp
      obtain ⟨st, hst, rfl⟩ := List.mem_map.mp hp
      exact ⟨st, [], hst, rfl, rfl⟩
    · rintro ⟨st, W, hst, hW, rfl⟩
      cases (show W = [] from hW)
      exact List.mem_map.mpr ⟨st, hst, rfl⟩
  | snoc w c ih =>
    intro p
    have e : ones (w ++ [c]) = ones w ++ [[c]] := by simp [ones]
    rw [rowsF_snoc, e]
    constructor
    · intro hp
      obtain ⟨q, hq, hp⟩ := List.mem_flatMap.mp hp
      obtain ⟨y, hy, rfl⟩ := List.mem_map.mp hp
      obtain ⟨st, W, hst, hW, rfl⟩ := ih.mp hq
      rw [last_way, stepsF_W] at hy
      exact ⟨st, W ++ [y], hst, ch_snoc hW hy, by simp⟩
    · rintro ⟨st, W, hst, hW, rfl⟩
      obtain ⟨W', y, rfl, h2, hy⟩ := ch_unsnoc hW
      refine List.mem_flatMap.mpr ⟨_, ih.mpr ⟨st, W', hst, h2, rfl⟩, List.mem_map.mpr ⟨y, ?_, by simp⟩⟩
      rw [last_way, stepsF_W]
      exact hy
theorem rows_nodup (hist : List Rule) (s w : List Nat) : (rowsF hist s w).Nodup := by
  induction w using snocRec with
  | nil =>
    have hn := startsP_nodup s hist
    rw [← startsF_P] at hn
    refine List.Pairwise.map _ (fun (a b : St) (hne : a ≠ b) e => hne ?_) hn
    exact (List.cons.inj (Prod.mk.inj e).1).1
  | snoc w c ih =>
    rw [rowsF_snoc]
    refine nodup_flat (g := id) (by simpa using ih) (fun p _ => ?_) fun p _ q _ z hz hz2 => ?_
    · rw [stepsF_W]
      refine List.Pairwise.map _ (fun a b hne e => hne ?_) (stepsW_nodup s _ _)
      obtain ⟨e1, e2⟩ := Prod.mk.inj e
      have h1 := List.append_cancel_left e1
      have h2 := List.append_cancel_left e2
      exact Prod.ext (List.cons.inj h1).1 (List.cons.inj h2).1
    · obtain ⟨a, _, rfl⟩ := List.mem_map.mp hz
      obtain ⟨b, _, e⟩ := List.mem_map.mp hz2
      obtain ⟨e1, e2⟩ := Prod.mk.inj e
      have h1 := congrArg List.dropLast e1
      have h2 := congrArg List.dropLast e2
      simp only [List.dropLast_concat] at h1 h2
      exact (Prod.ext h1 h2).symm
theorem only_one {α : Type} {a : α} : ∀ {l : List α}, l.Nodup → (∀ x ∈ l, x = a) → a ∈ l → l = [a]
  | [], _, _, h => by simp at h
  | [x], _, h, _ => by rw [h x (by simp)]
  | x :: y :: l, hn, h, _ => by
    have h1 := h x (by simp)
    have h2 := h y (by simp)
    subst h1
    rw [h2] at hn
    simp at hn
def dueW (hist : List Rule) (w : List Nat) : List St × List (List Nat) := ((dueS hist (ones w)).1 :: (dueS hist (ones w)).2.map (·.1), (dueS hist (ones w)).2.map (·.2))
theorem rows_end {hist : List Rule} {s w : List Nat} (H : HK hist s) (hw : ∀ c ∈ w, c ∈ s) : (rowsF hist s w).filter (fun p => endF hist (p.1.getLast?.getD [])) = [dueW hist w] := by
  obtain ⟨a1, a2, a3⟩ := dueS_ok H.sl hist (ones w) H.rules (ones_mem hw)
  refine only_one ((rows_nodup hist s w).filter _) (fun p hp => ?_) ?_
  · obtain ⟨hp, he⟩ := List.mem_filter.mp hp
    obtain ⟨st, W, hst, hW, rfl⟩ := rows_mem.mp hp
    rw [startsF_P] at hst
    simp only [last_way] at he
    obtain ⟨rfl, rfl⟩ := chS_due hst hW he
    rfl
  · refine List.mem_filter.mpr ⟨rows_mem.mpr ⟨_, _, by rw [startsF_P]; exact a1, a2, rfl⟩, ?_⟩
    simp only [dueW, last_way]
    exact a3
/-- one step of the way that is due -/
theorem ch_steps {s : List Nat} {rs : List Rule} : ∀ {us : List (List Nat)} {st : St} {W : List (St × List Nat)}, ChS s rs st us W → ∀ (i : Nat) (y : St × List Nat) (u : List Nat), W[i]? = some y → us[i]? = some u → ∃ x, (st :: W.map (·.1))[i]? = some x ∧ y ∈ stepsW s (rs.zip x) u
  | [], st, W, h, i, y, u, hy, hu => by simp at hu
  | v :: us, st, W, h, i, y, u, hy, hu => by
    obtain ⟨z, W', rfl, hz, h⟩ := h
    cases i with
    | zero =>
      simp only [List.getElem?_cons_zero, Option.some.injEq] at hy hu
      subst hy hu
      exact ⟨st, rfl, hz⟩
    | succ i =>
      simp only [List.getElem?_cons_succ] at hy hu
      obtain ⟨x, h1, h2⟩ := ch_steps h i y u hy hu
      exact ⟨x, by simpa using h1, h2⟩
/-! ### the stands of the way that is due -/
def sAt : List Rule → List Nat → List Nat → St
  | [], _, _ => []
  | r :: rs, a, b => (fwd r (befStart r) a, behs r b) :: sAt rs (hdF r (befStart r) a b) (hdF r (fwd r (befStart r) a) b [])
theorem zip_maps2 {α β γ δ : Type} (f : β → γ → δ) (g : α → β) (k : α → γ) : ∀ l : List α, List.zipWith f (l.map g) (l.map k) = l.map fun i => f (g i) (k i)
  | [] => rfl
  | a :: l => by simp [zip_maps2 f g k l]
theorem dueR_stands (r : Rule) : ∀ (us : List (List Nat)) (b : Fg), (b, behs r us.flatten) :: (dueR r b us).map (·.1) = (List.range (us.length + 1)).map fun i => (fwd r b (us.take i).flatten, behs r (us.drop i).flatten)
  | [], b => by simp [dueR, fwd]
  | u :: us, b => by
    rw [List.length_cons, List.range_succ_eq_map, List.map_cons, List.map_map]
    have ih := dueR_stands r us (fwd r b u)
    rw [dueR, List.map_cons, ih]
    congr 1
    refine List.map_congr_left fun i _ => ?_
    simp [fwd_app]
theorem dueR_outs (r : Rule) : ∀ (us : List (List Nat)) (b : Fg) (i : Nat), ((((dueR r b us).map (·.2)).take i).flatten = hdF r b (us.take i).flatten (us.drop i).flatten) ∧ (((dueR r b us).map (·.2)).drop i).flatten = hdF r (fwd r b (us.take i).flatten) (us.drop i).flatten []
  | [], b, i => by simp [dueR, hdF]
  | u :: us, b, 0 => by
    have ih := (dueR_outs r us (fwd r b u) 0).2
    simp only [List.drop_zero, List.take_zero, List.flatten_nil] at ih
    refine ⟨by simp [hdF], ?_⟩
    simp only [List.drop_zero, List.take_zero, List.flatten_nil, dueR, List.map_cons, List.flatten_cons]
    rw [ih]
    show _ = hdF r b (u ++ us.flatten) []
    rw [hdF_app]
    simp [fwd]
  | u :: us, b, i + 1 => by
    obtain ⟨i1, i2⟩ := dueR_outs r us (fwd r b u) i
    have e : (us.take i).flatten ++ (us.drop i).flatten = us.flatten := by rw [← List.flatten_append, List.take_append_drop]
    refine ⟨?_, ?_⟩
    · simp only [dueR, List.map_cons, List.take_succ_cons, List.drop_succ_cons, List.flatten_cons]
      rw [i1, hdF_app, e]
    · simp only [dueR, List.map_cons, List.take_succ_cons, List.drop_succ_cons, List.flatten_cons]
      rw [i2, fwd_app]
theorem due_way : ∀ (rs : List Rule) (us : List (List Nat)), (dueS rs us).1 :: (dueS rs us).2.map (·.1) = (List.range (us.length + 1)).map fun i => sAt rs (us.take i).flatten (us.drop i).flatten
  | [], us => by
    simp only [dueS, sAt, List.map_map]
    induction us with
    | nil => rfl
    | cons u us ih =>
      rw [List.length_cons, List.range_succ_eq_map, List.map_cons, List.map_cons]
      refine congrArg (List.cons []) (ih.trans ?_)
      rw [List.map_map]
      rfl
  | r :: rs, us => by
    have ih := due_way rs ((dueR r (befStart r) us).map (·.2))
    have h1 := dueR_stands r us (befStart r)
    rw [List.length_map, dueR_len] at ih
    have e : (dueS (r :: rs) us).1 :: (dueS (r :: rs) us).2.map (·.1) = List.zipWith (fun a b => a :: b) ((befStart r, behs r us.flatten) :: (dueR r (befStart r) us).map (·.1)) ((dueS rs ((dueR r (befStart r) us).map (·.2))).1 :: (dueS rs ((dueR r (befStart r) us).map (·.2))).2.map (·.1)) := by
      simp only [dueS, zipS, List.map_zipWith, List.zipWith_cons_cons, List.zipWith_map]
    rw [e, h1, ih, zip_maps2]
    refine List.map_congr_left fun i _ => ?_
    obtain ⟨o1, o2⟩ := dueR_outs r us (befStart r) i
    rw [sAt, o1, o2]
def ledW (rs : List Rule) (w : List Nat) : List Nat := rs.foldl (fun w r => hdF r (befStart r) w []) w
theorem due_outs : ∀ (rs : List Rule) (us : List (List Nat)), ((dueS rs us).2.map (·.2)).flatten = ledW rs us.flatten
  | [], us => by
    simp only [dueS, List.map_map, ledW, List.foldl_nil]
    congr 1
    exact List.map_id _
  | r :: rs, us => by
    have ih := due_outs rs ((dueR r (befStart r) us).map (·.2))
    have o2 := (dueR_outs r us (befStart r) 0).2
    simp only [List.drop_zero, List.take_zero, List.flatten_nil] at o2
    have hl : (dueS rs ((dueR r (befStart r) us).map (·.2))).2.length = (dueR r (befStart r) us).length := by rw [dueS_len, List.length_map]
    have e : (dueS (r :: rs) us).2.map (·.2) = (dueS rs ((dueR r (befStart r) us).map (·.2))).2.map (·.2) := by
      simp only [dueS, zipS, List.map_zipWith]
      generalize (dueS rs ((dueR r (befStart r) us).map (·.2))).2 = W2 at hl
      generalize dueR r (befStart r) us = W1 at hl
      clear ih o2
      induction W2 generalizing W1 with
      | nil => simp
      | cons y W2 ih =>
        cases W1 with
        | nil => simp at hl
        | cons x W1 => simpa using ih W1 (by simpa using hl)
    rw [e, ih, o2]
    rfl
end Mach
end Sd

/-! StandD: the law's own stands and words are those of the way that is due. -/
namespace Sd
namespace Mach
open Gen
def flB (r : Rule) (a : List Nat) : Fg := (List.range r.bf.length).map fun (k : Nat) => holdsM a ((a.length : Int) - (k : Int) - 1) (r.bf.take (k + 1))
def flH (r : Rule) (b : List Nat) : Fg := (List.range r.bh.length).map fun k => holdsM b 0 (r.bh.drop k)
theorem here_nil (i : Int) : hereM [] i = 35 := by
  unfold hereM
  split <;> simp
theorem here_left {a v : List Nat} {i : Int} (h : i < a.length) : hereM (a ++ v) i = hereM a i := by
  unfold hereM
  split
  · rw [List.getElem?_append_left (by omega)]
  · rfl
theorem here_right {v b : List Nat} {p : Int} (h : 0 ≤ p) : hereM (v ++ b) ((v.length : Int) + p) = hereM b p := by
  unfold hereM
  rw [if_pos (by omega), if_pos h, List.getElem?_append_right (by omega)]
  rw [show ((v.length : Int) + p).toNat - v.length = p.toNat by omega]
theorem holds_left {a v : List Nat} : ∀ {ss : List (List Nat)} {p : Int}, p + ss.length ≤ a.length → holdsM (a ++ v) p ss = holdsM a p ss
  | [], _, _ => rfl
  | x :: ss, p, h => by
    simp only [List.length_cons] at h
    rw [holdsM, holdsM, here_left (by omega), holds_left (by omega)]
theorem holds_right {v b : List Nat} : ∀ {ss : List (List Nat)} {p : Int}, 0 ≤ p → holdsM (v ++ b) ((v.length : Int) + p) ss = holdsM b p ss
  | [], _, _ => rfl
  | x :: ss, p, h => by
    rw [holdsM, holdsM, here_right h, Int.add_assoc, holds_right (by omega)]
theorem holds_snoc {w : List Nat} {x : List Nat} : ∀ {ss : List (List Nat)} {p : Int}, holdsM w p (ss ++ [x]) = (holdsM w p ss && x.contains (hereM w (p + ss.length)))
  | [], p => by simp [holdsM]
  | y :: ss, p => by
    rw [List.cons_append, holdsM, holdsM, holds_snoc, Bool.and_assoc]
    simp only [List.length_cons]
    rw [show p + 1 + (ss.length : Int) = p + ((ss.length + 1 : Nat) : Int) by omega]
/-! ### the edge in slots -/
theorem lot_no {s x : List Nat} (h35 : 35 ∉ s) (hx : Lot s x) : x.contains 35 = false := by
  rw [← Bool.not_eq_true, List.contains_iff_mem]
  exact fun h => h35 (hx.2.subset h)
theorem lot_ne {s x : List Nat} (h35 : 35 ∉ s) (hx : Lot s x) : x ≠ [35] := fun e => h35 (hx.2.subset (by rw [e]; simp))
theorem slots0 {s : List Nat} {ss : List (List Nat)} (h35 : 35 ∉ s) (h : Slots 0 s ss) {k : Nat} {x : List Nat} (hk : ss[k]? = some x) : x.contains 35 = (decide (k = 0) && decide (x = [35])) := by
  rcases h.2 with h | ⟨ts, j, ht, hj, ej, rfl⟩
  · have hx := h x (List.mem_of_getElem? hk)
    rw [lot_no h35 hx, decide_eq_false (lot_ne h35 hx), Bool.and_false]
  · simp only [if_true] at ej
    subst ej
    cases k with
    | zero =>
      rw [List.getElem?_set_self hj] at hk
      cases hk
      rfl
    | succ k =>
      rw [List.getElem?_set_ne (by omega)] at hk
      have hx := ht x (List.mem_of_getElem? hk)
      rw [lot_no h35 hx]
      simp
theorem slots1 {s : List Nat} {ss : List (List Nat)} (h35 : 35 ∉ s) (h : Slots 1 s ss) {k : Nat} {x : List Nat} (hk : ss[k]? = some x) : x.contains 35 = (decide (k + 1 = ss.length) && decide (x = [35])) := by
  rcases h.2 with h | ⟨ts, j, ht, hj, ej, rfl⟩
  · have hx := h x (List.mem_of_getElem? hk)
    rw [lot_no h35 hx, decide_eq_false (lot_ne h35 hx), Bool.and_false]
  · rw [if_neg (by decide)] at ej
    subst ej
    rw [List.length_set]
    by_cases hkj : ts.length - 1 = k
    · subst hkj
      rw [List.getElem?_set_self hj] at hk
      cases hk
      rw [decide_eq_true (by omega : ts.length - 1 + 1 = ts.length)]
      rfl
    · rw [List.getElem?_set_ne hkj] at hk
      have hx := ht x (List.mem_of_getElem? hk)
      rw [lot_no h35 hx, decide_eq_false (lot_ne h35 hx), Bool.and_false]
theorem holds_nil_mem {x : List Nat} (hx : x.contains 35 = false) : ∀ {ss : List (List Nat)} {p : Int}, x ∈ ss → holdsM [] p ss = false
  | [], _, h => by simp at h
  | y :: ss, p, h => by
    rw [holdsM, here_nil]
    rcases List.mem_cons.mp h with rfl | h
    · rw [hx, Bool.false_and]
    · rw [holds_nil_mem hx h, Bool.and_false]
theorem take_snoc {ss : List (List Nat)} {k : Nat} {x : List Nat} (hk : ss[k]? = some x) : ss.take (k + 1) = ss.take k ++ [x] := by rw [List.take_succ, hk]; rfl
theorem drop_cons' {ss : List (List Nat)} {k : Nat} {x : List Nat} (hk : ss[k]? = some x) : ss.drop k = x :: ss.drop (k + 1) := by
  obtain ⟨h, e⟩ := List.getElem?_eq_some_iff.mp hk
  rw [List.drop_eq_getElem_cons h, e]
theorem flB_nil {s : List Nat} {r : Rule} (h35 : 35 ∉ s) (hr : Slots 0 s r.bf) : flB r [] = befStart r := by
  unfold flB befStart
  refine List.map_congr_left fun k hk => ?_
  have hk := List.mem_range.mp hk
  have hx := List.getElem?_eq_getElem hk
  have hc := slots0 h35 hr hx
  by_cases h0 : k = 0
  · subst h0
    rw [take_snoc hx, List.take_zero, List.nil_append, holdsM, here_nil, hc]
    simp [holdsM, hx]
  · rw [holds_nil_mem (x := r.bf[k]) (by rw [hc, decide_eq_false h0, Bool.false_and]) (by rw [take_snoc hx]; exact List.mem_append_right _ (List.mem_singleton.mpr rfl))]
    rw [decide_eq_false h0, Bool.false_and]
theorem flB_get {r : Rule} {a : List Nat} {k : Nat} (hk : k < r.bf.length) : (flB r a).getD k false = holdsM a ((a.length : Int) - (k : Int) - 1) (r.bf.take (k + 1)) := by
  simp [flB, hk]
theorem flH_get {r : Rule} {b : List Nat} {k : Nat} (hk : k < r.bh.length) : (flH r b).getD k false = holdsM b 0 (r.bh.drop k) := by
  simp [flH, hk]
theorem flB_snoc {r : Rule} (a : List Nat) (c : Nat) : flB r (a ++ [c]) = befStep r (flB r a) c := by
  have e : flB r (a ++ [c]) = (List.range r.bf.length).map fun k => (r.bf.getD k []).contains c && (decide (k = 0) || (flB r a).getD (k - 1) false) := by
    unfold flB
    refine List.map_congr_left fun k hk => ?_
    have hk := List.mem_range.mp hk
    have hx := List.getElem?_eq_getElem hk
    have hlk : (r.bf.take k).length = k := by rw [List.length_take]; omega
    rw [take_snoc hx, holds_snoc, hlk]
    have e1 : (((a ++ [c]).length : Nat) : Int) - (k : Int) - 1 = (a.length : Int) - (k : Int) := by simp; omega
    rw [e1, holds_left (by rw [hlk]; omega)]
    have e2 : hereM (a ++ [c]) ((a.length : Int) - (k : Int) + (k : Int)) = c := by
      rw [show (a.length : Int) - (k : Int) + (k : Int) = (a.length : Int) + 0 by omega, here_right (by omega)]
      simp [hereM]
    rw [e2, Bool.and_comm]
    simp only [List.getD_eq_getElem?_getD, hx, Option.getD_some]
    congr 1
    by_cases h0 : k = 0
    · subst h0
      simp [holdsM]
    · have hg := flB_get (r := r) (a := a) (k := k - 1) (by omega)
      rw [List.getD_eq_getElem?_getD] at hg
      unfold flB at hg
      rw [hg, decide_eq_false h0, Bool.false_or, show k - 1 + 1 = k by omega]
      congr 1
      omega
  exact e
theorem flB_eq {s : List Nat} {r : Rule} (h35 : 35 ∉ s) (hr : Slots 0 s r.bf) (a : List Nat) : flB r a = fwd r (befStart r) a := by
  induction a using snocRec with
  | nil => exact flB_nil h35 hr
  | snoc a c ih => rw [flB_snoc, ih, fwd_app]; rfl
theorem flH_nil {s : List Nat} {r : Rule} (h35 : 35 ∉ s) (hr : Slots 1 s r.bh) : flH r [] = behEnd r := by
  unfold flH behEnd
  refine List.map_congr_left fun k hk => ?_
  have hk := List.mem_range.mp hk
  have hx := List.getElem?_eq_getElem hk
  have hc := slots1 h35 hr hx
  by_cases h0 : k + 1 = r.bh.length
  · rw [drop_cons' hx, h0, List.drop_length, holdsM, here_nil, hc]
    simp [holdsM, hx, h0]
  · rw [holds_nil_mem (x := r.bh[k]) (by rw [hc, decide_eq_false h0, Bool.false_and]) (by rw [drop_cons' hx]; exact List.mem_cons_self)]
    rw [decide_eq_false h0, Bool.false_and]
theorem flH_cons {r : Rule} (c : Nat) (b : List Nat) : flH r (c :: b) = behStep r (flH r b) c := by
  have e : flH r (c :: b) = (List.range r.bh.length).map fun k => (r.bh.getD k []).contains c && (decide (k + 1 = r.bh.length) || (flH r b).getD (k + 1) false) := by
    unfold flH
    refine List.map_congr_left fun k hk => ?_
    have hk := List.mem_range.mp hk
    have hx := List.getElem?_eq_getElem hk
    have e2 : hereM (c :: b) 0 = c := by simp [hereM]
    rw [drop_cons' hx, holdsM, e2]
    simp only [List.getD_eq_getElem?_getD, hx, Option.getD_some]
    congr 1
    have e3 : holdsM (c :: b) (0 + 1) (r.bh.drop (k + 1)) = holdsM b 0 (r.bh.drop (k + 1)) := holds_right (v := [c]) (b := b) (p := 0) (Int.le_refl _)
    rw [e3]
    by_cases h0 : k + 1 = r.bh.length
    · rw [h0, List.drop_length]
      simp [holdsM]
    · have hg := flH_get (r := r) (b := b) (k := k + 1) (by omega)
      rw [List.getD_eq_getElem?_getD] at hg
      unfold flH at hg
      rw [hg, decide_eq_false h0, Bool.false_or]
  exact e
theorem flH_eq {s : List Nat} {r : Rule} (h35 : 35 ∉ s) (hr : Slots 1 s r.bh) : ∀ b : List Nat, flH r b = behs r b
  | [] => flH_nil h35 hr
  | c :: b => by rw [flH_cons, flH_eq h35 hr b]; rfl
/-! ### a sound where it stands -/
theorem lookup_has {ch : List (Nat × List Nat)} {c : Nat} : (ch.map (·.1)).contains c = (ch.lookup c).isSome := by
  induction ch with
  | nil => rfl
  | cons p ch ih =>
    rw [List.map_cons, List.contains_cons, ih, List.lookup_cons]
    cases c == p.1 <;> rfl
theorem piece_eq {s : List Nat} {r : Rule} (h35 : 35 ∉ s) (hr : RuleOk s r) (a b : List Nat) (c : Nat) : pieceM r (a ++ c :: b) a.length = outOf r (fwd r (befStart r) a) (behs r b) c := by
  have here : hereM (a ++ c :: b) (a.length : Nat) = c := by
    have := here_right (v := a) (b := c :: b) (p := 0) (Int.le_refl _)
    rw [Int.add_zero] at this
    rw [this]; simp [hereM]
  have h1 : holdsM (a ++ c :: b) ((a.length : Nat) - (r.bf.length : Nat)) r.bf = (decide (r.bf.length = 0) || (fwd r (befStart r) a).getLast?.getD false) := by
    rw [holds_left (by omega), ← flB_eq h35 hr.bf]
    by_cases h0 : r.bf.length = 0
    · rw [List.eq_nil_of_length_eq_zero h0]; simp [holdsM]
    · have hlast : (flB r a).getLast? = some (holdsM a ((a.length : Int) - ((r.bf.length - 1 : Nat) : Int) - 1) (r.bf.take (r.bf.length - 1 + 1))) := by
        rw [List.getLast?_eq_getElem?]
        have hl : (flB r a).length = r.bf.length := by simp [flB]
        rw [hl]
        unfold flB
        rw [List.getElem?_map, List.getElem?_range (by omega)]
        rfl
      rw [hlast, decide_eq_false h0, Bool.false_or, Option.getD_some, show r.bf.length - 1 + 1 = r.bf.length by omega, List.take_length]
      congr 1
      omega
  have h2 : holdsM (a ++ c :: b) ((a.length : Nat) + 1) r.bh = (decide (r.bh.length = 0) || (behs r b).head?.getD false) := by
    have e : holdsM (a ++ c :: b) ((a.length : Nat) + 1) r.bh = holdsM b 0 r.bh := by
      have := holds_right (v := a ++ [c]) (b := b) (ss := r.bh) (p := 0) (Int.le_refl _)
      rw [← this]
      simp
    rw [e, ← flH_eq h35 hr.bh]
    by_cases h0 : r.bh.length = 0
    · rw [List.eq_nil_of_length_eq_zero h0]; simp [holdsM]
    · have hh : (flH r b).head? = some (holdsM b 0 (r.bh.drop 0)) := by
        rw [List.head?_eq_getElem?]
        unfold flH
        rw [List.getElem?_map, List.getElem?_range (by omega)]
        rfl
      rw [hh, decide_eq_false h0, Bool.false_or, Option.getD_some, List.drop_zero]
  unfold pieceM appliesM outOf outM
  rw [here, h1, h2, lookup_has]
  cases hl : r.ch.lookup c with
  | none => simp
  | some o => simp
theorem pieces_eq {s : List Nat} {r : Rule} (h35 : 35 ∉ s) (hr : RuleOk s r) : ∀ (u a t : List Nat), (List.range' a.length u.length).flatMap (pieceM r (a ++ (u ++ t))) = hdF r (fwd r (befStart r) a) u t
  | [], a, t => by simp [hdF]
  | c :: u, a, t => by
    have ih := pieces_eq h35 hr u (a ++ [c]) t
    rw [List.length_cons, List.range'_succ, List.flatMap_cons, hdF, List.cons_append, piece_eq h35 hr]
    congr 1
    rw [fwd_app] at ih
    rw [List.length_append] at ih
    show _ = hdF r (fwd r (fwd r (befStart r) a) [c]) u t
    simpa using ih
theorem changed_eq {s : List Nat} {r : Rule} (h35 : 35 ∉ s) (hr : RuleOk s r) (w : List Nat) : changedM r w = hdF r (befStart r) w [] := by
  have := pieces_eq h35 hr w [] []
  simp only [List.length_nil, List.nil_append, List.append_nil] at this
  unfold changedM
  rw [List.range_eq_range', this]
  rfl
theorem led_eq {s : List Nat} (h35 : 35 ∉ s) : ∀ {rs : List Rule} {w : List Nat}, (∀ r ∈ rs, RuleOk s r) → ledM rs w = ledW rs w
  | [], w, _ => rfl
  | r :: rs, w, h => by
    show ledM rs (changedM r w) = ledW rs (hdF r (befStart r) w [])
    rw [changed_eq h35 (h r (by simp)), led_eq h35 fun r hr => h r (by simp [hr])]
/-- as the law goes along -/
def sLaw : List Rule → List Nat → List Nat → St
  | [], _, _ => []
  | r :: rs, a, b => (flB r a, flH r b) :: sLaw rs ((List.range' 0 a.length).flatMap (pieceM r (a ++ b))) ((List.range' a.length b.length).flatMap (pieceM r (a ++ b)))
theorem sLaw_eq {s : List Nat} (h35 : 35 ∉ s) : ∀ {rs : List Rule} {a b : List Nat}, (∀ r ∈ rs, RuleOk s r) → sLaw rs a b = sAt rs a b
  | [], _, _, _ => rfl
  | r :: rs, a, b, h => by
    have hr := h r (by simp)
    have p1 := pieces_eq h35 hr a [] b
    have p2 := pieces_eq h35 hr b a []
    simp only [List.length_nil, List.nil_append, List.append_nil] at p1 p2
    rw [sLaw, sAt, p1, p2, flB_eq h35 hr.bf, flH_eq h35 hr.bh, sLaw_eq h35 fun r hr => h r (by simp [hr])]
    rfl
end Mach
end Sd

/-! StandE: how many ways there are; stands have the form of stands; how often a stand is reached. -/
namespace Sd
namespace Mach
open Gen
theorem chR_same {s : List Nat} {r : Rule} : ∀ {us : List (List Nat)} {x x' : RS} {W W' : List (RS × List Nat)}, ChR s r x us W → ChR s r x' us W' → x.1 = x'.1 → (lastW x W).2 = (lastW x' W').2 → x = x' ∧ W = W'
  | [], x, x', W, W', h, h', h1, h2 => by
    cases (show W = [] from h)
    cases (show W' = [] from h')
    exact ⟨Prod.ext h1 h2, rfl⟩
  | u :: us, x, x', W, W', h, h', h1, h2 => by
    obtain ⟨y, V, rfl, hy, h⟩ := h
    obtain ⟨y', V', rfl, hy', h'⟩ := h'
    obtain ⟨m1, m2, m3⟩ := runF_mem hy
    obtain ⟨n1, n2, n3⟩ := runF_mem hy'
    obtain ⟨i1, i2⟩ := chR_same h h' (by rw [m1, n1, h1]) h2
    have hx : x = x' := Prod.ext h1 (by rw [← m2, ← n2, i1])
    have hyy : y = y' := Prod.ext i1 (by rw [m3, n3, h1, i1])
    exact ⟨hx, by rw [hyy, i2]⟩
theorem chS_same {s : List Nat} : ∀ {rs : List Rule} {us : List (List Nat)} {st st' : St} {W W' : List (St × List Nat)}, st ∈ startsP s rs → st' ∈ startsP s rs → ChS s rs st us W → ChS s rs st' us W' → (lastW st W).map (·.2) = (lastW st' W').map (·.2) → st = st' ∧ W = W'
  | [], us, st, st', W, W', hs, hs', h, h', _ => by
    have e : st = [] := by simpa [startsP] using hs
    have e' : st' = [] := by simpa [startsP] using hs'
    subst e e'
    refine ⟨rfl, ?_⟩
    clear hs hs'
    rename_i hl
    clear hl
    induction us generalizing W W' with
    | nil => cases (show W = [] from h); cases (show W' = [] from h'); rfl
    | cons u us ih =>
      obtain ⟨y, V, rfl, hy, h⟩ := h
      obtain ⟨y', V', rfl, hy', h'⟩ := h'
      have e1 : y = ([], u) := by simpa [stepsW] using hy
      have e2 : y' = ([], u) := by simpa [stepsW] using hy'
      subst e1 e2
      rw [ih V V' h h']
  | r :: rs, us, st, st', W, W', hs, hs', h, h', hl => by
    obtain ⟨x, hx, hs⟩ := List.mem_flatMap.mp hs
    obtain ⟨xs, hxs, rfl⟩ := List.mem_map.mp hs
    obtain ⟨k, _, rfl⟩ := List.mem_map.mp hx
    obtain ⟨x', hx', hs'⟩ := List.mem_flatMap.mp hs'
    obtain ⟨xs', hxs', rfl⟩ := List.mem_map.mp hs'
    obtain ⟨k', _, rfl⟩ := List.mem_map.mp hx'
    obtain ⟨W1, W2, h1, h2, rfl, h4⟩ := ch_split h
    obtain ⟨W1', W2', h1', h2', rfl, h4'⟩ := ch_split h'
    rw [h4, h4'] at hl
    simp only [List.map_cons, List.cons.injEq] at hl
    obtain ⟨i1, i2⟩ := chR_same h1 h1' rfl hl.1
    subst i2
    obtain ⟨j1, j2⟩ := chS_same hxs hxs' h2 h2' hl.2
    rw [i1, j1, j2]
    exact ⟨rfl, rfl⟩
theorem startsP_ok {s : List Nat} : ∀ {hist : List Rule} {st : St}, st ∈ startsP s hist → StOk hist st
  | [], st, h => by
    have : st = [] := by simpa [startsP] using h
    subst this
    exact ⟨rfl, fun i r x hr => by simp at hr⟩
  | r :: rs, st, h => by
    obtain ⟨x, hx, h⟩ := List.mem_flatMap.mp h
    obtain ⟨xs, hxs, rfl⟩ := List.mem_map.mp h
    obtain ⟨k, hk, rfl⟩ := List.mem_map.mp hx
    obtain ⟨i1, i2⟩ := startsP_ok hxs
    refine ⟨by simp [i1], fun i r' x hr hx => ?_⟩
    cases i with
    | zero =>
      simp only [List.getElem?_cons_zero, Option.some.injEq] at hr hx
      subst hr hx
      exact ⟨befStart_len r, (beh_ok r s).2 k hk⟩
    | succ i => exact i2 i r' x (by simpa using hr) (by simpa using hx)
theorem rows_ok2 {hist : List Rule} {s : List Nat} (H : HK hist s) : ∀ {w : List Nat}, (∀ c ∈ w, c ∈ s) → ∀ p ∈ rowsF hist s w, StOk hist (p.1.getLast?.getD []) ∧ p.1.length = w.length + 1 ∧ p.2.length = w.length ∧ (∀ x ∈ p.1, StOk hist x) ∧ ∀ o ∈ p.2, o.length ≤ 32768 := by
  intro w
  induction w using snocRec with
  | nil =>
    intro _ p hp
    obtain ⟨st, hst, rfl⟩ := List.mem_map.mp hp
    rw [startsF_P] at hst
    have := startsP_ok hst
    exact ⟨this, rfl, rfl, fun x hx => by rw [List.mem_singleton.mp hx]; exact this, fun o ho => by simp at ho⟩
  | snoc w c ih =>
    intro hw p hp
    rw [rowsF_snoc] at hp
    obtain ⟨q, hq, hp⟩ := List.mem_flatMap.mp hp
    obtain ⟨y, hy, rfl⟩ := List.mem_map.mp hp
    obtain ⟨i1, i2, i3, i4, i5⟩ := ih (fun x hx => hw x (by simp [hx])) q hq
    have hc := hw c (by simp)
    have hy1 := steps_st H i1 hc y hy
    have hy2 := ((stepsF_ok H i1 hc).ok y hy).2.1
    refine ⟨by simpa using hy1, by simp [i2], by simp [i3], fun x hx => ?_, fun o ho => ?_⟩
    · rcases List.mem_append.mp hx with hx | hx
      · exact i4 x hx
      · rw [List.mem_singleton.mp hx]; exact hy1
    · rcases List.mem_append.mp ho with ho | ho
      · exact i5 o ho
      · rw [List.mem_singleton.mp ho]
        have h3 : 2 ^ hist.length ≤ 2 ^ 3 := Nat.pow_le_pow_right (by decide) H.few
        omega
def kAll : Nat → List (List Fg)
  | 0 => [[]]
  | n + 1 => fgAll.flatMap fun f => (kAll n).map (f :: ·)
theorem kAll_len : ∀ n, (kAll n).length = 7 ^ n
  | 0 => rfl
  | n + 1 => by
    have := flat_len (n := 7 ^ n) (f := fun f : Fg => (kAll n).map (f :: ·)) (fun a => by rw [List.length_map, kAll_len n]) fgAll
    rw [kAll, this, show fgAll.length = 7 by decide, Nat.pow_succ, Nat.mul_comm]
theorem kAll_mem : ∀ l : List Fg, (∀ f ∈ l, f.length ≤ 2) → l ∈ kAll l.length
  | [], _ => by simp [kAll]
  | f :: l, h => List.mem_flatMap.mpr ⟨f, fgAll_mem (h f (by simp)), List.mem_map.mpr ⟨l, kAll_mem l fun x hx => h x (by simp [hx]), rfl⟩⟩
theorem StOk.behinds {hist : List Rule} {s : List Nat} (H : HK hist s) {st : St} (h : StOk hist st) : ∀ f ∈ st.map (·.2), f.length ≤ 2 := by
  intro f hf
  obtain ⟨x, hx, rfl⟩ := List.mem_map.mp hf
  obtain ⟨i, hi⟩ := List.getElem?_of_mem hx
  have hl : i < hist.length := by rw [← h.1]; exact (List.getElem?_eq_some_iff.mp hi).1
  have h1 := h.2 i _ x (List.getElem?_eq_getElem hl) hi
  have h2 := (H.rules _ (List.getElem_mem hl)).bh
  rw [h1.2]; exact h2
theorem rows_few {hist : List Rule} {s w : List Nat} (H : HK hist s) (hw : ∀ c ∈ w, c ∈ s) : (rowsF hist s w).length ≤ 343 := by
  have hn : ((rowsF hist s w).map fun p => (p.1.getLast?.getD []).map (·.2)).Nodup := by
    refine List.pairwise_map.mpr ((rows_nodup hist s w).imp_of_mem fun {a b} ha hb hne e => hne ?_)
    obtain ⟨st, W, hst, hW, rfl⟩ := rows_mem.mp ha
    obtain ⟨st', W', hst', hW', rfl⟩ := rows_mem.mp hb
    rw [startsF_P] at hst hst'
    simp only [last_way] at e
    obtain ⟨rfl, rfl⟩ := chS_same hst hst' hW hW' e
    rfl
  have hm := nodup_le (u := kAll hist.length) hn fun k hk => by
    obtain ⟨p, hp, rfl⟩ := List.mem_map.mp hk
    have ho := (rows_ok2 H hw p hp).1
    have := kAll_mem _ (StOk.behinds H ho)
    rwa [List.length_map, ho.1] at this
  rw [List.length_map, kAll_len] at hm
  have h3 : 7 ^ hist.length ≤ 7 ^ 3 := Nat.pow_le_pow_right (by decide) H.few
  omega
theorem stepsW_few {s : List Nat} : ∀ {hist : List Rule} {st : St} {u : List Nat}, (∀ r ∈ hist, RK s r) → StOk hist st → (∀ c ∈ u, c ∈ s) → (stepsW s (hist.zip st) u).length ≤ 4 ^ hist.length
  | [], st, u, _, _, _ => by simp [stepsW]
  | r :: rs, [], u, _, h, _ => by have := h.1; simp at this
  | r :: rs, x :: xs, u, hr, h, hu => by
    have hx : RSok r x := h.2 0 r x rfl rfl
    have hxs : StOk rs xs := ⟨by simpa using h.1, fun i r' y h1 h2 => h.2 (i + 1) r' y (by simpa using h1) (by simpa using h2)⟩
    have hk := hr r (by simp)
    rw [List.zip_cons_cons]
    have := flat_len_le (n := 4 ^ rs.length) (xs := runF r s x u) (f := fun y => (stepsW s (rs.zip xs) y.2).map fun q => (y.1 :: q.1, q.2)) fun y hy => by
      rw [List.length_map]
      exact stepsW_few (fun r hr' => hr r (by simp [hr'])) hxs ((runF_ok hk hx hu).ok y hy).2.2
    have h4 := runF_few hk hx hu
    have h5 : (runF r s x u).length * 4 ^ rs.length ≤ 4 * 4 ^ rs.length := Nat.mul_le_mul_right _ h4
    rw [List.length_cons, Nat.pow_succ, Nat.mul_comm]
    exact Nat.le_trans this h5
theorem stepsF_few {hist : List Rule} {s : List Nat} (H : HK hist s) {st : St} (h : StOk hist st) {c : Nat} (hc : c ∈ s) : (stepsF hist s st c).length ≤ 4 ^ hist.length := by
  rw [stepsF_W]
  exact stepsW_few H.rules h fun x hx => by rw [List.mem_singleton.mp hx]; exact hc
/-! ### how often -/
theorem sum_one {α : Type} [DecidableEq α] (g : α → Nat) (p : α) : ∀ {ks : List α}, ks.Nodup → p ∈ ks → (ks.map fun a => (if a = p then 1 else 0) * g a).sum = g p
  | [], _, h => by simp at h
  | a :: ks, hn, h => by
    rw [List.nodup_cons] at hn
    rw [List.map_cons, List.sum_cons]
    rcases List.mem_cons.mp h with rfl | h
    · have : ∀ l : List α, p ∉ l → (l.map fun a => (if a = p then 1 else 0) * g a).sum = 0 := by
        intro l hl
        induction l with
        | nil => rfl
        | cons b l ih =>
          simp only [List.mem_cons, not_or] at hl
          have hb : ¬ b = p := fun e => hl.1 e.symm
          simp [hb, ih hl.2]
      rw [this ks hn.1]
      simp
    · have ha : ¬ a = p := fun e => hn.1 (e ▸ h)
      rw [sum_one g p hn.2 h]
      simp [ha]
theorem sum_add {α : Type} (f g : α → Nat) : ∀ ks : List α, (ks.map fun a => f a + g a).sum = (ks.map f).sum + (ks.map g).sum
  | [] => rfl
  | a :: ks => by
    simp only [List.map_cons, List.sum_cons, sum_add f g ks]
    omega
def cnt {α : Type} [DecidableEq α] (x : α) (l : List α) : Nat := l.countP fun a => decide (a = x)
/-- a sum over all is one over those that differ -/
theorem sum_keys {α : Type} [DecidableEq α] (g : α → Nat) {ks : List α} (hn : ks.Nodup) : ∀ {P : List α}, (∀ a ∈ P, a ∈ ks) → (P.map g).sum = (ks.map fun a => cnt a P * g a).sum
  | [], _ => by
    have : ∀ l : List α, (l.map fun a => cnt a ([] : List α) * g a).sum = 0 := by
      intro l
      induction l with
      | nil => rfl
      | cons b l ih => rw [List.map_cons, List.sum_cons, ih]; simp [cnt]
    rw [this]; rfl
  | p :: P, h => by
    rw [List.map_cons, List.sum_cons, sum_keys g hn fun a ha => h a (by simp [ha]), ← sum_one g p hn (h p (by simp)), ← sum_add]
    congr 1
    refine List.map_congr_left fun a _ => ?_
    have e0 : cnt a (p :: P) = (if a = p then 1 else 0) + cnt a P := by
      unfold cnt
      rw [List.countP_cons, Nat.add_comm]
      congr 1
      by_cases e : p = a
      · subst e; simp
      · have e2 : ¬ a = p := fun z => e z.symm
        simp [e, e2]
    rw [e0, Nat.add_mul]
theorem cnt_mem {α : Type} [DecidableEq α] {x : α} {l : List α} : 0 < cnt x l ↔ x ∈ l := by
  simp [cnt, List.countP_pos_iff]
theorem cnt_app {α : Type} [DecidableEq α] (x : α) (l l2 : List α) : cnt x (l ++ l2) = cnt x l + cnt x l2 := by simp [cnt]
theorem cnt_flat {α β : Type} [DecidableEq β] (x : β) (f : α → List β) : ∀ l : List α, cnt x (l.flatMap f) = (l.map fun a => cnt x (f a)).sum
  | [] => rfl
  | a :: l => by rw [List.flatMap_cons, cnt_app, cnt_flat x f l, List.map_cons, List.sum_cons]
theorem cnt_rep {α : Type} [DecidableEq α] (x y : α) (n : Nat) : cnt x (List.replicate n y) = if y = x then n else 0 := by
  simp [cnt, List.countP_replicate]
end Mach
end Sd

/-! StandF: stands_for, as it is carried out. -/
namespace Sd
namespace Mach
open Gen
/-- stands_for: 0 machine, 1 word, 2 rows, 3 sound, 4 longer, 5 way, 6 outs, 7 after, 8 out, 9 found, 10 stand, 11 row -/
def b_stands_for : List S := [
  (.set (.n 2) (.comp [10] (.tup [(.lst [(.var 10)]), (.lst [])]) (.n 10) (.val (.meth (.var 0) "starts" [])) [])),
  (.forr (.n 3) (.val (.var 1)) [(.set (.n 4) (.alc (.lst []))), (.forr (.t [5, 6]) (.val (.var 2)) [(.forr (.t [7, 8]) (.val (.meth (.var 0) "steps" [(.o2 .idx (.var 5) (.o1 .neg (.cst (.int 1)))), (.var 3)])) [(.app (.var 4) (.tup [(.o2 .add (.var 5) (.lst [(.var 7)])), (.o2 .add (.var 6) (.lst [(.var 8)]))]))])]), (.set (.n 2) (.var 4))]),
  (.set (.n 9) (.comp [11] (.var 11) (.n 11) (.val (.var 2)) [(.meth (.var 0) "is_end" [(.o2 .idx (.o2 .idx (.var 11) (.cst (.int 0))) (.o1 .neg (.cst (.int 1))))])])),
  (.ret (.o2 .idx (.var 9) (.cst (.int 0))))]

section
variable {T : Tb} {d : Nat} {h h1 h2 : Hh} {hist : List Rule} {s : List Nat} {l : Nat} {qs : List Key}
theorem MTs.app {ex : Hh} (a : MTs hist s l (h ++ ex) h2) (hl : l + 1 < h.length) : ∃ h3, h2 = h3 ++ ex ∧ MTs hist s l h h3 := by
  obtain ⟨q, rfl, m⟩ := a
  rw [List.set_append_left _ _ hl] at m
  refine ⟨h.set (l + 1) (cacheOb hist s q), List.set_append_left _ _ hl, q, rfl, ?_, ?_, m.nd, m.ok⟩
  · rw [← m.ob, List.getElem?_append_left (by rw [List.length_set]; omega)]
  · rw [← m.ch, List.getElem?_append_left (by rw [List.length_set]; omega)]
theorem MAt.ts (m : MAt hist s l qs h) : MTs hist s l h h := m.to.1
theorem fin_tsV {h0 ex : Hh} {v : D} (a : MTs hist s l h h0) (hv : undV h.length v = true) (hf : ∀ i, v ≠ .ref i) : fin h (h0 ++ ex) v = .ok v h0 := by
  have hl := a.len
  by_cases hex : ex = []
  · subst hex
    rw [List.append_nil]
    exact fin_same hl
  have e : freeze (h0 ++ ex) h.length v = v := by cases v <;> first | rfl | exact absurd rfl (hf _)
  have hp := List.length_pos_iff.mpr hex
  rw [fin_drop (by rw [List.length_append]; omega) (by rw [e]; exact hv) fun j o hj ho => ?_, e]
  · rw [← hl, List.take_left]
  · rw [List.getElem?_append_left (by omega)] at ho
    obtain ⟨q, rfl, m⟩ := a
    by_cases hj1 : j = l + 1
    · subst hj1
      rw [m.ch] at ho
      cases ho
      exact .inr (cache_und _ _ _ _)
    · rw [List.getElem?_set_ne (by omega)] at ho
      exact .inl ho
def wayD (p : List St × List (List Nat)) : D := .tup [.fz (p.1.map stD), .fz (p.2.map .str)]
theorem way_und (n : Nat) (p : List St × List (List Nat)) : (wayD p).und n = true := by
  have h1 : D.undAll n (p.1.map stD) = true := undAll_map (st_und n) _
  have h2 : D.undAll n (p.2.map D.str) = true := undAll_map (fun _ => by simp [D.und]) _
  simp [wayD, D.und, D.undAll, h1, h2]
theorem wayD_pair (rows : List (List St × List (List Nat))) : rows.map wayD = rows.map fun p => D.tup [D.fz (p.1.map stD), D.fz (p.2.map .str)] := rfl
/-- way[-1] -/
theorem way_last {p : List St × List (List Nat)} (hp : 0 < p.1.length) : o2F .idx h (.fz (p.1.map stD)) (.int (-1)) = some (stD (p.1.getLast?.getD [])) := by
  cases hl : p.1.getLast? with
  | none => rw [List.getLast?_eq_none_iff] at hl; rw [hl] at hp; simp at hp
  | some a =>
    show atI (p.1.map stD) (-1) = _
    rw [last_idx hl]
    rfl
theorem stands_for_ok (hT : T "" "stands_for" = some ⟨2, 12, b_stands_for, false⟩) (M : MT T) (H : HK hist s) (m : MAt hist s l qs h) {w : List Nat} (hw : w.length ≤ 8) (hc : ∀ c ∈ w, c ∈ s) :
    Ok (callF T (d + 7) "" "stands_for" [.ref l, .str w] h) fun v h' => v = wayD (dueW hist w) ∧ MTs hist s l h h' := by
  have hlt := m.lt
  refine W.fn hT rfl ?_
  unfold b_stands_for
  simp only [startD, List.map_cons, List.map_nil, List.cons_append, List.nil_append, List.length_cons, List.length_nil, List.replicate, Nat.reduceAdd, Nat.reduceSub]
  let rows : Nat → List (List St × List (List Nat)) := fun i => rowsF hist s (w.take i)
  let val : Nat → D := fun i => if i = 0 then .fz ((rows 0).map wayD) else .ref (h.length + (i - 1))
  have hin : ∀ i, ∀ c ∈ w.take i, c ∈ s := fun i c hc' => hc c (List.mem_of_mem_take hc')
  have hfew : ∀ i, (rows i).length ≤ 343 := fun i => rows_few H (hin i)
  have hst0 : (startsF hist s).length ≤ 343 := by
    have := hfew 0
    simpa [rows, rowsF] using this
  refine W.cons (W.set (W.compV (xs := startsF hist s) stD (fun st => wayD ([st], [])) (by unfold line; omega) (by simp [Sd.wipe]) ?_ (fun st hst => ?_) ?_))
  · refine W.meth (W.var rfl ⟨l, "Machine", mfs hist s (l + 1), rfl, m.ob, ⟨by decide, rfl⟩, ?_⟩)
    walk_at "S"
    exact Ok.ofEq (m_starts_ok (d := d + 2) M H m) ⟨⟨_, rfl⟩, rfl⟩
  · walk_at "S"
    exact ⟨rfl, rfl⟩
  refine ⟨by simp, W.nx (W.cons ?_)⟩
  refine W.forV (xs := w) (ws := []) (fun c => D.str [c]) (fun i σ h' => ∃ (hm ex : Hh) (o3 o4 o5 o6 o7 o8 o9 o10 o11 : Option D), σ = [some (.ref l), some (.str w), some (val i), o3, o4, o5, o6, o7, o8, o9, o10, o11] ∧ h' = hm ++ ex ∧ MTs hist s l h hm ∧ ex.length = i ∧ (i ≠ 0 → ∃ ex0, ex = ex0 ++ [.lst ((rows i).map wayD)])) ?_ ?_ ?_
  · walk_at "S"
    refine ⟨rfl, ⟨h, [], none, none, none, none, none, none, none, none, none, ?_, by simp, m.ts, rfl, fun z => absurd rfl z⟩, ?_, fun _ _ _ _ => wat_nil _ _⟩
    · simp only [val, rows, rowsF, List.take_zero, List.foldl_nil, if_true, List.map_map]
      rfl
    · rintro i σ h' ⟨hm, ex, o3, o4, o5, o6, o7, o8, o9, o10, o11, rfl, _⟩; simp
  · rintro i c σ h' hi ⟨hm, ex, o3, o4, o5, o6, o7, o8, o9, o10, o11, rfl, rfl, a, hex, hlast⟩
    have hiw := (List.getElem?_eq_some_iff.mp hi).1
    have hcs : c ∈ s := hc c (List.mem_of_getElem? hi)
    have hrows := rows_ok2 H (hin i)
    have htl : (w.take i).length = i := by rw [List.length_take]; omega
    have hnext : rows (i + 1) = rowsS hist s (rows i) c := by
      simp only [rows]
      rw [List.take_succ, hi]
      exact rowsF_snoc hist s _ c
    have hml := a.len
    refine W.cons (W.set (W.alcLst ?_))
    walk_at "S"
    let g : List St × List (List Nat) → List (List St × List (List Nat)) := fun p => (stepsF hist s (p.1.getLast?.getD []) c).map fun q => (p.1 ++ [q.1], p.2 ++ [q.2])
    have hwalk : ∀ h2 : Hh, (∀ j, h.length ≤ j → j < h.length + i → h2[j]? = (hm ++ ex)[j]?) → walkA h2 (val i) = some ((rows i).map (fun p => .tup [D.fz (p.1.map stD), D.fz (p.2.map .str)]), if i = 0 then [] else [h.length + (i - 1)]) := fun h2 hh => by
      by_cases hi0 : i = 0
      · subst hi0; rfl
      · obtain ⟨ex0, rfl⟩ := hlast hi0
        simp only [List.length_append, List.length_cons, List.length_nil] at hex
        have hg : h2[h.length + (i - 1)]? = some (.lst ((rows i).map wayD)) := by
          rw [hh _ (by omega) (by omega), ← hml, show i - 1 = ex0.length by omega]
          exact last_app
        simp only [val, if_neg hi0, walkA, walkD, hg]
        rfl
    refine forP (xs := rows i) (ws := if i = 0 then [] else [h.length + (i - 1)]) (fun p => D.fz (p.1.map stD)) (fun p => D.fz (p.2.map .str)) (fun j σ h' => ∃ (hm2 : Hh) (o5 o6 o7 o8 : Option D), σ = [some (.ref l), some (.str w), some (val i), some (.str [c]), some (.ref (h.length + i)), o5, o6, o7, o8, o9, o10, o11] ∧ h' = (hm2 ++ ex) ++ [.lst ((((rows i).take j).flatMap g).map wayD)] ∧ MTs hist s l h hm2) ?_ ?_ ?_
    · walk_at "E"
      refine ⟨hwalk _ fun j _ hj => ?_, ⟨hm, o5, o6, o7, o8, ?_, rfl, a⟩, ?_, ?_⟩
      · rw [List.getElem?_append_left (by rw [List.length_append]; omega)]
      · simp only [List.length_append, hml, hex, D.keep, List.set_cons_succ, List.set_cons_zero]
      · rintro j σ h' ⟨hm2, o5, o6, o7, o8, rfl, _⟩; simp
      · rintro j σ h' ⟨hm2, o5, o6, o7, o8, rfl, rfl, a2⟩ q hq
        split at hq
        · simp at hq
        · rename_i hi0
          rw [List.mem_singleton.mp hq]
          have hml2 := a2.len
          have e1 : ∀ (h5 : Hh) (o : Ob), h5.length = h.length → ((h5 ++ ex) ++ [o])[h.length + (i - 1)]? = ex[i - 1]? := fun h5 o h5l => by
            rw [List.getElem?_append_left (by rw [List.length_append]; omega), List.getElem?_append_right (by omega), h5l, Nat.add_sub_cancel_left]
          rw [e1 _ _ hml2, e1 _ _ hml]
    · rintro j p σ h' hj ⟨hm2, o5, o6, o7, o8, rfl, rfl, a2⟩
      obtain ⟨pok, plen, plen2, _, _⟩ := hrows p (List.mem_of_getElem? hj)
      rw [htl] at plen plen2
      have hml2 := a2.len
      have hjl := (List.getElem?_eq_some_iff.mp hj).1
      obtain ⟨q2, _, m2⟩ := id a2
      have hstp := stepsF_few H pok hcs
      have h43 : 4 ^ hist.length ≤ 4 ^ 3 := Nat.pow_le_pow_right (by decide) H.few
      have hbase : (((rows i).take j).flatMap g).length ≤ j * 64 := by
        have := flat_len_le (n := 64) (xs := (rows i).take j) (f := g) fun p hp => by
          simp only [g, List.length_map]
          have := stepsF_few H (hrows p (List.mem_of_mem_take hp)).1 hcs
          omega
        rwa [List.length_take, Nat.min_eq_left (by omega)] at this
      have hrl := hfew i
      refine W.cons ?_
      refine forP (xs := stepsF hist s (p.1.getLast?.getD []) c) (ws := []) (fun y => stD y.1) (fun y => .str y.2) (fun n σ h' => ∃ (hm3 : Hh) (o7 o8 : Option D), σ = [some (.ref l), some (.str w), some (val i), some (.str [c]), some (.ref (h.length + i)), some (D.fz (p.1.map stD)), some (D.fz (p.2.map .str)), o7, o8, o9, o10, o11] ∧ h' = (hm3 ++ ex) ++ [.lst (((((rows i).take j).flatMap g) ++ (((stepsF hist s (p.1.getLast?.getD []) c).take n).map fun q => (p.1 ++ [q.1], p.2 ++ [q.2]))).map wayD)] ∧ MTs hist s l h hm3) ?_ ?_ ?_
      · refine W.meth (W.var rfl ⟨l, "Machine", mfs hist s (l + 1), rfl, ?_, ⟨by decide, rfl⟩, ?_⟩)
        · rw [List.append_assoc]; exact (m2.app _).ob
        · refine W.es (W.o2 (W.var rfl (W.o1 (W.cst ⟨_, rfl, ⟨_, way_last (by omega), ?_⟩⟩))))
          walk_at "S"
          rw [List.append_assoc]
          refine (m_steps_ok (d := d) M H (m2.app _) pok hcs).mono fun v h3 z => ?_
          obtain ⟨rfl, b⟩ := z
          obtain ⟨hm3, rfl, b2⟩ := b.app (by omega)
          refine ⟨rfl, ⟨hm3, _, _, rfl, by rw [List.append_assoc]; simp, a2.trans b2⟩, ?_, fun _ _ _ _ => wat_nil _ _⟩
          rintro n σ h' ⟨hm3, o7, o8, rfl, _⟩; simp
      · rintro n y σ h' hn ⟨hm3, o7, o8, rfl, rfl, a3⟩
        have hml3 := a3.len
        have hnl := (List.getElem?_eq_some_iff.mp hn).1
        refine W.cons (W.appL (h0 := hm3 ++ ex) (wayD (p.1 ++ [y.1], p.2 ++ [y.2])) (by simp [hml3, hex]) ?_ ?_ ?_)
        · simp only [List.length_map, List.length_append, List.length_take]
          unfold line; omega
        · walk_at "S"
          refine ⟨_, addL (xs := p.1.map stD) (ys := [stD y.1]) rfl rfl (fun _ z => nomatch z) (fun _ z => nomatch z) (fun _ z => nomatch z) (by simp only [List.length_map, List.length_cons, List.length_nil]; unfold line; omega), ?_⟩
          walk_at "S"
          refine ⟨_, addL (xs := p.2.map D.str) (ys := [D.str y.2]) rfl rfl (fun _ z => nomatch z) (fun _ z => nomatch z) (fun _ z => nomatch z) (by simp only [List.length_map, List.length_cons, List.length_nil]; unfold line; omega), ?_⟩
          walk_at "S"
          refine ⟨?_, rfl⟩
          simp [wayD, D.keep]
        · refine W.nx (W.nil ⟨hm3, _, _, rfl, ?_, a3⟩)
          rw [List.take_succ, hn]
          simp
      · rintro σ h' ⟨hm3, o7, o8, rfl, rfl, a3⟩
        refine W.nx (W.nil ⟨hm3, _, _, _, _, rfl, ?_, a3⟩)
        rw [flat_snoc hj, List.take_length]
    · rintro σ h' ⟨hm2, o5, o6, o7, o8, rfl, rfl, a2⟩
      rw [List.take_length]
      refine W.nx (W.cons (W.set (W.var rfl ⟨by simp, W.nx (W.nil ?_)⟩)))
      refine ⟨hm2, ex ++ [.lst ((rows (i + 1)).map wayD)], some (.str [c]), some (.ref (h.length + i)), o5, o6, o7, o8, o9, o10, o11, ?_, ?_, a2, by simp [hex], fun _ => ⟨ex, rfl⟩⟩
      · simp [D.keep, val]
      · rw [hnext, List.append_assoc]; rfl
  · rintro σ h' ⟨hm, ex, o3, o4, o5, o6, o7, o8, o9, o10, o11, rfl, rfl, a, hex, hlast⟩
    have hml := a.len
    have hrw : rows w.length = rowsF hist s w := by simp only [rows, List.take_length]
    have hrows := rows_ok2 H hc
    obtain ⟨q2, _, m2⟩ := id a
    have hwalk : walkA (hm ++ ex) (val w.length) = some ((rows w.length).map wayD, if w.length = 0 then [] else [h.length + (w.length - 1)]) := by
      by_cases hi0 : w.length = 0
      · simp only [hi0]; rfl
      · obtain ⟨ex0, rfl⟩ := hlast hi0
        simp only [List.length_append, List.length_cons, List.length_nil] at hex
        have hg : (hm ++ (ex0 ++ [Ob.lst ((rows w.length).map wayD)]))[h.length + (w.length - 1)]? = some (.lst ((rows w.length).map wayD)) := by
          rw [← hml, show w.length - 1 = ex0.length by omega]
          exact last_app
        simp only [val, if_neg hi0, walkA, walkD, hg]
    have hfw := hfew w.length
    refine W.nx (W.cons (W.set (W.comp (W.val (W.var rfl ⟨_, hwalk, fun n ys h2 => ys = (((rows w.length).take n).filter fun p => endF hist (p.1.getLast?.getD [])).map wayD ∧ h2 = hm ++ ex, ⟨rfl, rfl⟩, fun n ys h' z => by rw [z.2]; exact wat_refl _ _, fun n y ys h' hn z => ?_, fun ys h' z => ?_⟩)))))
    · obtain ⟨rfl, rfl⟩ := z
      simp only [List.getElem?_map] at hn
      obtain ⟨p, hp, rfl⟩ := Option.map_eq_some_iff.mp hn
      rw [hrw] at hp
      obtain ⟨pok, plen, _, _, _⟩ := hrows p (List.mem_of_getElem? hp)
      refine ⟨_, rfl, W.ts1 (W.meth (W.var rfl ⟨l, "Machine", mfs hist s (l + 1), rfl, (m2.app _).ob, ⟨by decide, rfl⟩, ?_⟩))⟩
      refine W.es (W.o2 (W.o2 (W.var rfl (W.cst ⟨_, rfl, W.o1 (W.cst ⟨_, rfl, ⟨_, way_last (by omega), ?_⟩⟩)⟩))))
      walk_at "E"
      refine Ok.ofEq (m_is_end_ok (d := d + 3) M H (m2.app ex) pok) ?_
      have e2 : ((rows w.length).take (n + 1)).filter (fun p => endF hist (p.1.getLast?.getD [])) = ((rows w.length).take n).filter (fun p => endF hist (p.1.getLast?.getD [])) ++ (if endF hist (p.1.getLast?.getD []) then [p] else []) := by
        rw [List.take_succ, hrw, hp, List.filter_append]
        simp [List.filter_cons]
      refine ⟨_, rfl, fun he => ?_, fun he => ?_⟩
      · walk_at "S"
        refine ⟨?_, rfl⟩
        rw [e2, if_pos he]
        simp [wayD, D.keep]
      · refine ⟨?_, rfl⟩
        rw [e2, he]
        simp
    · obtain ⟨rfl, rfl⟩ := z
      have e3 : ((rows w.length).take (List.length (Prod.fst ((rows w.length).map wayD, if w.length = 0 then [] else [h.length + (w.length - 1)])))).filter (fun p => endF hist (p.1.getLast?.getD [])) = [dueW hist w] := by
        show ((rows w.length).take (List.length ((rows w.length).map wayD))).filter _ = _
        rw [List.length_map, List.take_length, hrw]
        exact rows_end H hc
      rw [e3]
      refine ⟨by simp [line], ⟨by simp, W.nx (W.cons (W.ret (W.o2 (W.var rfl (W.cst ⟨_, rfl, W.rt (W.en ?_)⟩)))))⟩⟩
      rw [fin_tsV a (by simpa only [wayD, undV] using way_und h.length (dueW hist w)) (fun i z => by simp [wayD] at z)]
      exact Ok.ok ⟨rfl, a⟩
end
end Mach
end Sd

/-! StandG: the stands as the law works them out. -/
namespace Sd
namespace W
section
variable {C : Calls} {σ : Env} {h : Hh} {R : Fl → Hh → Prop}
theorem par3 {i j k : Nat} {a b c : E} (q : Ok (evE C a σ h) fun x h1 => Ok (evE C b σ h1) fun y h2 => Ok (evE C c σ h2) fun z h3 => (i < σ.length ∧ j < σ.length ∧ k < σ.length ∧ i ≠ j ∧ i ≠ k ∧ j ≠ k) ∧ R (.nx (((σ.set i (some x.keep)).set j (some y.keep)).set k (some z.keep))) h3) : Ok (evS C (.par3 i j k a b c) σ h) R := by
  simp only [evS]
  refine Ok.bind q fun x h1 z => Ok.bind z fun y h2 w => Ok.bind w fun u h3 v => ?_
  rw [if_pos v.1]
  exact .ok v.2
end
end W
theorem cut_to {α : Type} {xs : List α} {n : Nat} : Sd.cut xs none (some (n : Int)) = xs.take n := by
  simp only [Sd.cut, Sd.sIx, List.drop_zero, Nat.sub_zero]
  rw [if_neg (by omega), show ((n : Int).toNat) = n by omega, List.take_eq_take_iff]
  omega
theorem cut_from {α : Type} {xs : List α} {n : Nat} (hn : n ≤ xs.length) : Sd.cut xs (some (n : Int)) none = xs.drop n := by
  simp only [Sd.cut, Sd.sIx]
  rw [if_neg (by omega), show ((n : Int).toNat) = n by omega, Nat.min_eq_left hn, ← List.length_drop, List.take_length]
namespace Mach
open Gen
/-- _law_flags_before: 0 law, 1 word, 2 slots, 3 found, 4 k -/
def b_law_flags_before : List S := [
  (.par 2 3 (.o2 .idx (.var 0) (.cst (.int 1))) (.alc (.lst []))),
  (.forr (.n 4) (.rng (.o1 .len (.var 2))) [(.app (.var 3) (.call "" "_law_holds" [(.var 1), (.o2 .sub (.o2 .sub (.o1 .len (.var 1)) (.var 4)) (.cst (.int 1))), (.o3 .slice (.var 2) (.cst .non) (.o1 .ofI (.o2 .add (.var 4) (.cst (.int 1)))))]))]),
  (.ret (.o1 .tuple (.var 3)))]
/-- _law_flags_behind: 0 law, 1 word, 2 k -/
def b_law_flags_behind : List S := [
  (.ret (.o1 .tuple (.comp [2] (.call "" "_law_holds" [(.var 1), (.cst (.int 0)), (.o3 .slice (.o2 .idx (.var 0) (.cst (.int 2))) (.o1 .ofI (.var 2)) (.cst .non))]) (.n 2) (.rng (.o1 .len (.o2 .idx (.var 0) (.cst (.int 2))))) [])))]
/-- _law_stand_at: 0 history, 1 word, 2 at, 3 found, 4 head, 5 tail, 6 law, 7 whole, 8 one, 9 two, 10 k, 11 out -/
def b_law_stand_at : List S := [
  (.par3 3 4 5 (.tup []) (.o3 .slice (.var 1) (.cst .non) (.o1 .ofI (.var 2))) (.o3 .slice (.var 1) (.o1 .ofI (.var 2)) (.cst .non))),
  (.forr (.n 6) (.val (.var 0)) [(.set (.n 7) (.o2 .add (.var 4) (.var 5))), (.set (.n 3) (.o2 .add (.var 3) (.tup [(.tup [(.call "" "_law_flags_before" [(.var 6), (.var 4)]), (.call "" "_law_flags_behind" [(.var 6), (.var 5)])])]))), (.set (.t [8, 9]) (.tup [(.cst (.str [])), (.cst (.str []))])), (.forr (.n 10) (.rng (.o1 .len (.var 7))) [(.set (.n 11) (.ife (.call "" "_law_applies" [(.var 6), (.var 7), (.var 10)]) (.o2 .idx (.o1 .dict (.o2 .idx (.var 6) (.cst (.int 0)))) (.o2 .idx (.var 7) (.var 10))) (.o2 .idx (.var 7) (.var 10)))), (.set (.t [8, 9]) (.ife (.o2 .lt (.var 10) (.o1 .len (.var 4))) (.tup [(.o2 .add (.var 8) (.var 11)), (.var 9)]) (.tup [(.var 8), (.o2 .add (.var 9) (.var 11))])))]), (.par 4 5 (.var 8) (.var 9))]),
  (.ret (.var 3))]

structure SLT (T : Tb) : Prop where
  fb : T "" "_law_flags_before" = some ⟨2, 5, b_law_flags_before, false⟩
  fh : T "" "_law_flags_behind" = some ⟨2, 3, b_law_flags_behind, false⟩
  at_ : T "" "_law_stand_at" = some ⟨3, 12, b_law_stand_at, false⟩
section
variable {T : Tb} {d : Nat} {h : Hh}
theorem flags_before_ok (S1 : SLT T) (W2 : WLT T) {r : Rule} {a : List Nat} (hr : r.bf.length ≤ 1000) (ha : a.length ≤ 1000000) : callF T (d + 2) "" "_law_flags_before" [ruleD r, .str a] h = .ok (fgD (flB r a)) h := by
  have hal : a.length ≤ line := by unfold line; omega
  refine W.ofEq ?_
  refine W.fn S1.fb rfl ?_
  unfold b_law_flags_before
  simp only [startD, List.map_cons, List.map_nil, List.cons_append, List.nil_append, List.length_cons, List.length_nil, List.replicate, Nat.reduceAdd, Nat.reduceSub]
  let g : Nat → Bool := fun k => holdsM a ((a.length : Int) - (k : Int) - 1) (r.bf.take (k + 1))
  refine W.cons (W.par (W.o2 (W.var rfl (W.cst ⟨_, rfl, W.alcLst ?_⟩))))
  walk_at "E"
  refine ⟨⟨by simp, by simp, by decide⟩, W.nx (W.cons ?_)⟩
  refine W.forR (m := r.bf.length) (fun k σ h' => ∃ o4, σ = [some (ruleD r), some (.str a), some (.tup (r.bf.map .str)), some (.ref h.length), o4] ∧ h' = h ++ [.lst ((List.range k).map fun p => .bl (g p))]) (by omega) ?_ ?_ ?_ ?_
  · walk_at "S"
    exact ⟨by simp, none, rfl, rfl⟩
  · rintro k σ h' ⟨o4, rfl, _⟩; simp
  · rintro k σ h' hk ⟨o4, rfl, rfl⟩
    refine W.cons (W.appL (.bl (g k)) rfl (by simp only [List.length_map, List.length_range]; unfold line; omega) ?_ ?_)
    · refine W.call (W.es (W.var rfl (W.es (W.o2 (W.o2 (W.o1 (W.var rfl ⟨_, len_str hal, W.var rfl ⟨_, rfl, W.cst ⟨_, rfl, ?_⟩⟩⟩)))))))
      refine W.es (W.slice ?_)
      walk_at "E"
      have e : Sd.cut (r.bf.map D.str) none (some ((k : Int) + 1)) = (r.bf.take (k + 1)).map D.str := by
        rw [show (k : Int) + 1 = ((k + 1 : Nat) : Int) by omega, cut_to, List.map_take]
      simp only [e, D.keep]
      refine (law_holds_ok (d := d) W2.holds hal (by rw [List.length_take]; omega)).mono fun v h1 q => ?_
      obtain ⟨rfl, rfl⟩ := q
      exact ⟨rfl, rfl⟩
    · walk_at "S"
      exact ⟨_, rfl, by rw [List.range_succ, List.map_append]; rfl⟩
  · rintro σ h' ⟨o4, rfl, rfl⟩
    walk_at "S"
    refine ⟨fgD (flB r a), ?_, ?_⟩
    · simp only [o1F, seqs, items, W.last_get, Option.map_some, fgD, flB, List.map_map]; rfl
    · walk_at "S"
      refine W.en ?_
      rw [fin_app (fg_und _ _) (fun l z => nomatch z)]
      exact Ok.ok ⟨rfl, rfl⟩
theorem flags_behind_ok (S1 : SLT T) (W2 : WLT T) {r : Rule} {a : List Nat} (hr : r.bh.length ≤ 1000) (ha : a.length ≤ 1000000) : callF T (d + 2) "" "_law_flags_behind" [ruleD r, .str a] h = .ok (fgD (flH r a)) h := by
  have hal : a.length ≤ line := by unfold line; omega
  refine W.ofEq ?_
  refine W.fn S1.fh rfl ?_
  unfold b_law_flags_behind
  simp only [startD, List.map_cons, List.map_nil, List.cons_append, List.nil_append, List.length_cons, List.length_nil, List.replicate, Nat.reduceAdd, Nat.reduceSub]
  refine W.cons (W.ret (W.o1 (W.compR (m := r.bh.length) (fun k => .bl (holdsM a 0 (r.bh.drop k))) (by omega) (by simp [Sd.wipe]) ?_ (fun k hk => ?_) ?_)))
  · walk_at "S"
    exact ⟨by simp, rfl⟩
  · refine W.call (W.es (W.var rfl (W.es (W.cst (W.es (W.slice ?_))))))
    walk_at "E"
    have e : Sd.cut (r.bh.map D.str) (some (k : Int)) none = (r.bh.drop k).map D.str := by
      rw [cut_from (by rw [List.length_map]; omega), List.map_drop]
    simp only [e, D.keep]
    refine (law_holds_ok (d := d) W2.holds hal (by rw [List.length_drop]; omega)).mono fun v h1 q => ?_
    obtain ⟨rfl, rfl⟩ := q
    exact ⟨rfl, rfl⟩
  · refine ⟨_, rfl, W.rt (W.en ?_)⟩
    rw [fin_self]
    refine Ok.ok ⟨?_, rfl⟩
    simp [fgD, flH, D.keep]
theorem piece_expr (W2 : WLT T) {σ : Env} {i j k : Nat} {r : Rule} {w : List Nat} {p : Nat} (hi : σ[i]? = some (some (ruleD r))) (hj : σ[j]? = some (some (.str w))) (hk : σ[k]? = some (some (.int (p : Nat)))) (hw : w.length ≤ 1000000) (hr : RL r) (hp : p < w.length) :
    Ok (evE (callF T (d + 2)) (.ife (.call "" "_law_applies" [(.var i), (.var j), (.var k)]) (.o2 .idx (.o1 .dict (.o2 .idx (.var i) (.cst (.int 0)))) (.o2 .idx (.var j) (.var k))) (.o2 .idx (.var j) (.var k))) σ h) fun v h' => v = .str (pieceM r w p) ∧ h' = h := by
  have hwl : w.length ≤ line := by unfold line; omega
  have hin : o2F .idx h (.str w) (.int (p : Nat)) = some (.str [hereM w (p : Nat)]) := here_in (by omega) (by omega) hwl
  refine W.ife (W.call (W.es (W.var hi (W.es (W.var hj (W.es (W.var hk (W.es0 ?_))))))))
  refine (law_applies_ok (d := d) (h := h) W2 (r := r) (w := w) (p := p) hwl hp hr.len hr.bf hr.bh).mono fun v h1 q => ?_
  obtain ⟨rfl, rfl⟩ := q
  refine ⟨_, rfl, fun ha => ?_, fun ha => ?_⟩
  · refine W.o2 (W.o1 (W.o2 (W.var hi (W.cst ⟨_, rfl, ⟨_, dict_ch hr.nd, ?_⟩⟩))))
    refine W.o2 (W.var hj (W.var hk ⟨_, hin, .str (outM r.ch (hereM w (p : Nat))), key_ch (applies_first ha), ?_, rfl⟩))
    simp only [pieceM, ha, if_true]
  · refine W.o2 (W.var hj (W.var hk ⟨_, hin, ?_, rfl⟩))
    simp only [pieceM, ha, Bool.false_eq_true, if_false]
theorem pieces_len {r : Rule} {w : List Nat} (hr : RL r) (a n : Nat) : ((List.range' a n).flatMap (pieceM r w)).length ≤ 2 * n := by
  induction n generalizing a with
  | zero => simp
  | succ n ih =>
    rw [List.range'_succ, List.flatMap_cons, List.length_append]
    have := ih (a + 1)
    have := piece_len (r := r) (w := w) (p := a) hr.out
    omega
theorem pieces_snoc {r : Rule} {w : List Nat} (a n : Nat) : (List.range' a (n + 1)).flatMap (pieceM r w) = (List.range' a n).flatMap (pieceM r w) ++ pieceM r w (a + n) := by
  rw [List.range'_1_concat, List.flatMap_append]
  simp
theorem stand_at_ok (S1 : SLT T) (W2 : WLT T) {hist : List Rule} {w : List Nat} {i : Nat} (hr : ∀ r ∈ hist, RL r) (hw : w.length * 2 ^ hist.length ≤ 1000000) (hn : hist.length ≤ 1000) (hi : i ≤ w.length) :
    callF T (d + 3) "" "_law_stand_at" [.tup (hist.map ruleD), .str w, .int (i : Nat)] h = .ok (stD (sLaw hist (w.take i) (w.drop i))) h := by
  have hwl : w.length ≤ 1000000 := by
    have : w.length * 1 ≤ w.length * 2 ^ hist.length := Nat.mul_le_mul_left _ (Nat.pow_pos (by decide))
    omega
  refine W.ofEq ?_
  refine W.fn S1.at_ rfl ?_
  unfold b_law_stand_at
  simp only [startD, List.map_cons, List.map_nil, List.cons_append, List.nil_append, List.length_cons, List.length_nil, List.replicate, Nat.reduceAdd, Nat.reduceSub]
  refine W.cons (W.par3 (W.tup (W.es0 (W.slice ?_))))
  walk_at "E"
  refine ⟨.str (w.take i), by simp only [o3F, partOf, sliceF, if_pos (show w.length ≤ line by unfold line; omega), cut_to], ?_⟩
  refine W.slice ?_
  walk_at "E"
  refine ⟨.str (w.drop i), by simp only [o3F, partOf, sliceF, if_pos (show w.length ≤ line by unfold line; omega), cut_from hi], ?_⟩
  refine ⟨⟨by simp, by simp, by simp, by decide⟩, W.nx (W.cons ?_)⟩
  refine W.forV (xs := hist) (ws := []) ruleD (fun n σ h' => ∃ (pre : St) (a b : List Nat) (o6 o7 o8 o9 o10 o11 : Option D), σ = [some (.tup (hist.map ruleD)), some (.str w), some (.int (i : Nat)), some (.tup (pre.map rsD)), some (.str a), some (.str b), o6, o7, o8, o9, o10, o11] ∧ h' = h ∧ n ≤ hist.length ∧ pre.length = n ∧ (a.length + b.length) * 2 ^ (hist.length - n) ≤ 1000000 ∧
      sLaw hist (w.take i) (w.drop i) = pre ++ sLaw (hist.drop n) a b) ?_ ?_ ?_
  · walk_at "S"
    refine ⟨rfl, ⟨[], w.take i, w.drop i, none, none, none, none, none, none, rfl, rfl, Nat.zero_le _, rfl, ?_, by simp⟩, ?_, fun _ _ _ _ => wat_nil _ _⟩
    · rw [List.length_take, List.length_drop, Nat.min_eq_left hi, Nat.add_sub_cancel' hi]
      exact hw
    · rintro n σ h' ⟨pre, a, b, o6, o7, o8, o9, o10, o11, rfl, _⟩; simp
  · rintro n r σ h' hnr ⟨pre, a, b, o6, o7, o8, o9, o10, o11, rfl, rfl, hnl, hpl, hab, hs⟩
    obtain ⟨hlt, er⟩ := List.getElem?_eq_some_iff.mp hnr
    have rl := hr r (List.mem_of_getElem? hnr)
    have hp : 2 ^ (hist.length - n) = 2 * 2 ^ (hist.length - (n + 1)) := by
      rw [← Nat.pow_succ']
      congr 1
      omega
    have hpos : 0 < 2 ^ (hist.length - (n + 1)) := Nat.pow_pos (by decide)
    have hul : a.length + b.length ≤ 1000000 := by
      rw [hp] at hab
      have : (a.length + b.length) * 1 ≤ (a.length + b.length) * (2 * 2 ^ (hist.length - (n + 1))) := Nat.mul_le_mul_left _ (by omega)
      omega
    refine W.cons (W.set (W.o2 (W.var rfl (W.var rfl ⟨_, addS (by unfold line; omega), by simp, W.nx (W.cons (W.set (W.o2 (W.var rfl (W.tup (W.es (W.tup (W.es (W.call (W.es (W.var rfl (W.es (W.var rfl (W.es0 ?_))))))))))))))⟩))))
    refine Ok.ofEq (flags_before_ok (d := d) S1 W2 rl.bf (by omega)) ?_
    refine W.es (W.call (W.es (W.var rfl (W.es (W.var rfl (W.es0 ?_))))))
    refine Ok.ofEq (flags_behind_ok (d := d) S1 W2 rl.bh (by omega)) ?_
    refine W.es0 (W.es0 ⟨.tup ((pre ++ [(flB r a, flH r b)]).map rsD), ?_, ?_⟩)
    · rw [addT (by simp only [List.length_map, List.length_cons, List.length_nil]; unfold line; omega)]
      simp [rsD, D.keep]
      exact ⟨rfl, rfl⟩
    refine ⟨by simp, W.nx (W.cons (W.setT ?_))⟩
    walk_at "S"
    refine ⟨_, rfl, W.nx (W.cons ?_)⟩
    refine W.forR (m := (a ++ b).length) (fun k σ h2 => ∃ (o10 o11 : Option D), σ = [some (.tup (hist.map ruleD)), some (.str w), some (.int (i : Nat)), some (.tup ((pre ++ [(flB r a, flH r b)]).map rsD)), some (.str a), some (.str b), some (ruleD r), some (.str (a ++ b)), some (.str ((List.range' 0 (min k a.length)).flatMap (pieceM r (a ++ b)))), some (.str ((List.range' a.length (k - a.length)).flatMap (pieceM r (a ++ b)))), o10, o11] ∧ h2 = h') (by rw [List.length_append]; omega) ?_ ?_ ?_ ?_
    · refine W.o1 (W.var rfl ⟨_, len_str (by rw [List.length_append]; unfold line; omega), rfl, o10, o11, ?_, rfl⟩)
      simp [D.keep]
    · rintro k σ h2 ⟨o10, o11, rfl, _⟩; simp
    · rintro k σ h2 hk ⟨o10, o11, rfl, rfl⟩
      have hk2 : k < a.length + b.length := by rwa [List.length_append] at hk
      have b1 := pieces_len (w := a ++ b) rl 0 (min k a.length)
      have b2 := pieces_len (w := a ++ b) rl a.length (k - a.length)
      have b3 := piece_len (r := r) (w := a ++ b) (p := k) rl.out
      refine W.cons (W.set ((piece_expr (d := d) W2 (i := 6) (j := 7) (k := 10) (p := k) rfl rfl rfl (by rw [List.length_append]; omega) rl hk).mono fun v h3 q => ?_))
      obtain ⟨rfl, rfl⟩ := q
      refine ⟨by simp, W.nx (W.cons (W.setT (W.ife (W.o2 (W.var rfl (W.o1 (W.var rfl ⟨_, len_str (by unfold line; omega), ?_⟩))))))) ⟩
      refine ⟨_, rfl, _, rfl, fun hl => ?_, fun hl => ?_⟩
      · simp only [decide_eq_true_eq] at hl
        refine W.tup (W.es (W.o2 (W.var rfl (W.var rfl ⟨_, addS (by unfold line; omega), W.es (W.var rfl (W.es0 ⟨_, rfl, W.nx (W.nil ⟨some (.int (k : Nat)), some (.str (pieceM r (a ++ b) k)), ?_, rfl⟩)⟩))⟩))))
        have e1 : min (k + 1) a.length = min k a.length + 1 := by omega
        have e2 : k + 1 - a.length = k - a.length := by omega
        rw [e1, e2, pieces_snoc, show 0 + min k a.length = k by omega]
        simp [D.keep]
      · simp only [decide_eq_false_iff_not] at hl
        refine W.tup (W.es (W.var rfl (W.es (W.o2 (W.var rfl (W.var rfl ⟨_, addS (by unfold line; omega), W.es0 ⟨_, rfl, W.nx (W.nil ⟨some (.int (k : Nat)), some (.str (pieceM r (a ++ b) k)), ?_, rfl⟩)⟩⟩))))))
        have e1 : min (k + 1) a.length = min k a.length := by omega
        have e2 : k + 1 - a.length = k - a.length + 1 := by omega
        rw [e1, e2, pieces_snoc, show a.length + (k - a.length) = k by omega]
        simp [D.keep]
    · rintro σ h2 ⟨o10, o11, rfl, rfl⟩
      have e1 : min (a ++ b).length a.length = a.length := by rw [List.length_append]; omega
      have e2 : (a ++ b).length - a.length = b.length := by rw [List.length_append]; omega
      rw [e1, e2]
      refine W.nx (W.cons (W.par (W.var rfl (W.var rfl ⟨⟨by simp, by simp, by decide⟩, W.nx (W.nil ⟨pre ++ [(flB r a, flH r b)], _, _, _, _, _, _, _, _, rfl, rfl, hlt, by simp [hpl], ?_, ?_⟩)⟩))))
      · have b1 := pieces_len (w := a ++ b) rl 0 a.length
        have b2 := pieces_len (w := a ++ b) rl a.length b.length
        refine Nat.le_trans (Nat.mul_le_mul_right _ (Nat.add_le_add b1 b2)) ?_
        rw [hp] at hab
        have : (2 * a.length + 2 * b.length) * 2 ^ (hist.length - (n + 1)) = (a.length + b.length) * (2 * 2 ^ (hist.length - (n + 1))) := by
          rw [← Nat.mul_add, Nat.mul_comm 2, Nat.mul_assoc]
        omega
      · rw [hs, List.drop_eq_getElem_cons hlt, er, sLaw, List.append_assoc]
        rfl
  · rintro σ h' ⟨pre, a, b, o6, o7, o8, o9, o10, o11, rfl, rfl, _, hpl, _, hs⟩
    rw [List.drop_length, sLaw, List.append_nil] at hs
    refine W.nx (W.cons (W.ret (W.var rfl (W.rt (W.en ?_)))))
    rw [fin_self, hs]
    exact Ok.ok ⟨rfl, rfl⟩
end
end Mach
end Sd

/-! StandH: what the law of stands looks at. -/
namespace Sd
namespace Enc
variable {α : Type} [DecidableEq α] (e : Enc α) {h : Hh} {l : Nat}
theorem put_same {v v' : α → D} {qs : List α} {q : α} {d : D} (hq : q ∈ qs) (hl : qs.length < lineN) (hv : ∀ p ∈ qs, v' p = if p = q then d else v p) : obPut (e.ob v qs) (e.d q) d = some (e.ob v' qs) := by
  cases qs with
  | nil => simp at hq
  | cons p qs =>
    simp only [ob, obPut, e.of]
    rw [List.length_map, if_pos hl, nget_of, if_pos hq]
    simp only [nput_of]
    rw [List.map_congr_left (f := v') (g := fun p => if p = q then d else v p) hv]
theorem put_more {v v' : α → D} {qs : List α} {q : α} {d : D} (hq : q ∉ qs) (hl : qs.length < lineN) (hd : v' q = d) (hv : ∀ p ∈ qs, v' p = v p) : obPut (e.ob v qs) (e.d q) d = some (e.ob v' (qs ++ [q])) := by
  obtain ⟨xs, hx⟩ := kOf_tup (e.of q)
  cases qs with
  | nil =>
    have hk : isKey (e.d q) = false := by rw [hx]; rfl
    simp only [ob, obPut, hk, e.of]
    simp [ob, hd]
  | cons p qs =>
    simp only [ob, obPut, e.of]
    rw [List.length_map, if_pos hl, nget_of, if_neg hq]
    have h1 : (p :: qs).map v' = (p :: qs).map v := List.map_congr_left hv
    simp only [List.cons_append, ob, Option.some.injEq, Ob.din.injEq, List.map_append, List.map_cons, List.map_nil, hd]
    simp only [List.map_cons, List.cons.injEq] at h1
    rw [h1.1, h1.2]
    simp
theorem lset {v : D} {xs : List α} (hi : items h v = some (xs.map e.d)) (hn : xs.Nodup) (hl : xs.length < 64) : o1F .lset h v = some (.int xs.length) := by
  have hm : mapO kOf (xs.map e.d) = some (xs.map e.k) := Mach.mapO_map e.of xs
  have hn2 : (xs.map e.k).Nodup := List.Pairwise.map _ (fun a b hne z => hne (e.inj a b z)) hn
  simp only [o1F, hi, hm]
  rw [if_pos ⟨hn2, by rw [List.length_map]; exact hl⟩, List.length_map]
theorem dictOf {v : D} {xs : List α} {f : α → D} (hi : items h v = some (xs.map fun a => .tup [e.d a, f a])) (hn : xs.Nodup) (hv : ∀ ys, v ≠ .tup ys) : o1F .dict h v = some (.dvn (xs.map e.d) (xs.map f)) := by
  have hp : ∀ l : List α, pairsOf (l.map fun a => .tup [e.d a, f a]) = some (l.map e.d, l.map f) := by
    intro l
    induction l with
    | nil => rfl
    | cons a l ih => simp [pairsOf, ih]
  have hm : mapO kOf (xs.map e.d) = some (xs.map e.k) := Mach.mapO_map e.of xs
  have hn2 : (xs.map e.k).Nodup := List.Pairwise.map _ (fun a b hne z => hne (e.inj a b z)) hn
  cases v <;> first | exact absurd rfl (hv _) | (simp only [o1F, hi, hp, hm, if_pos hn2])
/-- a dict that isn't empty, as a value or an object -/
structure Has (h : Hh) (x : D) (v : α → D) (qs : List α) : Prop where
  ne : qs ≠ []
  val : x = .fdn (qs.map e.d) (qs.map v) ∨ ∃ l, x = .ref l ∧ h[l]? = some (.din (qs.map e.d) (qs.map v))
variable {e} {x : D} {v : α → D} {qs : List α}
theorem Has.list (H : Has e h x v qs) : o1F .list h x = some (.lv (qs.map e.d)) := by
  rcases H.val with rfl | ⟨l, rfl, hl⟩
  · rfl
  · simp only [o1F, seqs, items, dictn, hl, Option.map_some]
theorem Has.dict (H : Has e h x v qs) : dict h x = none ∧ dictn h x = some (qs.map e.d, qs.map v) := by
  rcases H.val with rfl | ⟨l, rfl, hl⟩
  · exact ⟨rfl, rfl⟩
  · simp only [Sd.dict, dictn, hl, and_self]
theorem Has.idx (H : Has e h x v qs) {q : α} (hq : q ∈ qs) : o2F .idx h x (e.d q) = some (v q) := by
  obtain ⟨h1, h2⟩ := H.dict
  have w : dlook h x (e.d q) = some (some (v q)) := by
    simp only [dlook, h1, h2, e.of, Option.map_some, nget_of, if_pos hq]
  obtain ⟨xs, hx⟩ := kOf_tup (e.of q)
  rw [hx] at w ⊢
  simp only [o2F, w]
  rfl
theorem Has.mono {h2 : Hh} (H : Has e h x v qs) (hk : ∀ l, x = .ref l → h2[l]? = h[l]?) : Has e h2 x v qs := by
  refine ⟨H.ne, ?_⟩
  rcases H.val with z | ⟨l, rfl, hl⟩
  · exact .inl z
  · exact .inr ⟨l, rfl, (hk l rfl).trans hl⟩
theorem Has.lt (H : Has e h x v qs) {l : Nat} (hx : x = .ref l) : l < h.length := by
  rcases H.val with rfl | ⟨l', rfl, hl⟩
  · cases hx
  · cases hx; exact (List.getElem?_eq_some_iff.mp hl).1
end Enc
namespace Mach
open Gen
def stE : Enc St := ⟨stD, stK, fun a => kOf_by fun n => st_nk (n := n + 2) a, fun _ _ e => stK_inj e⟩
def srowK (x : St × List Nat) : PySem.NestedKey := .tup [stK x.1, .text ⟨x.2.toArray⟩]
theorem srow_nk {n : Nat} (x : St × List Nat) : nk (n + 5) (srowD x) = some (srowK x) := by
  unfold srowD srowK
  rw [nk_tup]
  simp only [mapO, st_nk (n := n)]
  rfl
theorem srowK_inj {x y : St × List Nat} (e : srowK x = srowK y) : x = y := by
  simp only [srowK, PySem.NestedKey.tup.injEq, List.cons.injEq, PySem.NestedKey.text.injEq, PySem.Str.mk.injEq, and_true] at e
  exact Prod.ext (stK_inj e.1) (by simpa using e.2)
def srE : Enc (St × List Nat) := ⟨srowD, srowK, fun a => kOf_by fun n => srow_nk (n := n + 1) a, fun _ _ e => srowK_inj e⟩
theorem startsP_few {s : List Nat} : ∀ {hist : List Rule}, (∀ r ∈ hist, RK s r) → (startsP s hist).length ≤ 4 ^ hist.length
  | [], _ => by simp [startsP]
  | r :: rs, h => by
    have := flat_len (n := (startsP s rs).length) (f := fun x : RS => (startsP s rs).map (x :: ·)) (fun a => by rw [List.length_map]) (rStarts r s)
    have h2 := startsP_few (s := s) (hist := rs) fun r hr => h r (by simp [hr])
    have h3 : (rStarts r s).length ≤ 4 := by unfold rStarts; rw [List.length_map]; exact beh_le (h r (by simp)).bh
    rw [startsP, this, List.length_cons, Nat.pow_succ, Nat.mul_comm]
    exact Nat.mul_le_mul h2 h3
theorem st_few {hist : List Rule} {s : List Nat} (H : HK hist s) {l : List St} (hn : l.Nodup) (hl : ∀ st ∈ l, StOk hist st) : l.length ≤ 117649 := by
  have hm := nodup_le (u := stAll hist.length) hn fun st hst => by
    have ho := hl st hst
    rw [← ho.1]
    refine stAll_mem st fun x hx => ?_
    obtain ⟨i, hi⟩ := List.getElem?_of_mem hx
    have hlt : i < hist.length := by rw [← ho.1]; exact (List.getElem?_eq_some_iff.mp hi).1
    have h1 := ho.2 i _ x (List.getElem?_eq_getElem hlt) hi
    have hk := H.rules _ (List.getElem_mem hlt)
    have h2 := hk.bf
    have h3 := hk.bh
    exact rsAll_mem (by rw [h1.1]; exact h2) (by rw [h1.2]; exact h3)
  rw [stAll_len] at hm
  have h3 : 49 ^ hist.length ≤ 49 ^ 3 := Nat.pow_le_pow_right (by decide) H.few
  omega
/-! ### data -/
theorem eqv_lists {α : Type} [DecidableEq α] {f : α → PySem.PyData} (hf : ∀ a b, PySem.PyData.eqv (f a) (f b) = decide (a = b)) : ∀ xs ys : List α, PySem.PyData.eqvAll (xs.map f) (ys.map f) = decide (xs = ys)
  | [], [] => by simp [PySem.PyData.eqvAll]
  | [], _ :: _ => by simp [PySem.PyData.eqvAll]
  | _ :: _, [] => by simp [PySem.PyData.eqvAll]
  | x :: xs, y :: ys => by
    simp only [List.map_cons, PySem.PyData.eqvAll, hf, eqv_lists hf xs ys]
    by_cases h1 : x = y <;> by_cases h2 : xs = ys <;> simp [h1, h2]
theorem rs_eqv (a b : RS) : PySem.PyData.eqv (rsP a) (rsP b) = decide (a = b) := by
  simp only [rsP, PySem.PyData.eqv, PySem.PyData.eqvAll, fg_eqv]
  obtain ⟨a1, a2⟩ := a
  obtain ⟨b1, b2⟩ := b
  by_cases h1 : a1 = b1 <;> by_cases h2 : a2 = b2 <;> simp [h1, h2]
theorem st_eqv (a b : St) : PySem.PyData.eqv (stP a) (stP b) = decide (a = b) := by simp only [stP, PySem.PyData.eqv, eqv_lists rs_eqv]
def srowP (x : St × List Nat) : PySem.PyData := .tuple [stP x.1, .str ⟨x.2.toArray⟩]
theorem srow_pd {h : Hh} (x : St × List Nat) : pd h deep (srowD x) = some (srowP x) := by
  show pd h 60 (.tup [stD x.1, .str x.2]) = _
  rw [pd_tup]
  simp only [mapO, st_pd (n := 55)]
  rfl
theorem srow_eqv (a b : St × List Nat) : PySem.PyData.eqv (srowP a) (srowP b) = decide (a = b) := by
  simp only [srowP, PySem.PyData.eqv, PySem.PyData.eqvAll, st_eqv]
  obtain ⟨a1, a2⟩ := a
  obtain ⟨b1, b2⟩ := b
  have : ((⟨a2.toArray⟩ : PySem.Str) == ⟨b2.toArray⟩) = decide (a2 = b2) := by
    by_cases hab : a2 = b2
    · subst hab; simp
    · have : ¬ (⟨a2.toArray⟩ : PySem.Str) = ⟨b2.toArray⟩ := fun z => hab (by simpa using z)
      simp [hab]
  rw [this]
  by_cases h1 : a1 = b1 <;> by_cases h2 : a2 = b2 <;> simp [h1, h2]
theorem dat_fg (f : Fg) (hf : f.length ≤ 1000) (n : Nat) : dat (n + 1) (fgD f) = true := by
  simp only [fgD, dat, Bool.and_eq_true, List.all_eq_true, decide_eq_true_eq, List.length_map]
  refine ⟨fun x hx => ?_, by omega⟩
  obtain ⟨b, _, rfl⟩ := List.mem_map.mp hx
  cases n <;> rfl
theorem dat_rs {x : RS} (h1 : x.1.length ≤ 1000) (h2 : x.2.length ≤ 1000) (n : Nat) : dat (n + 2) (rsD x) = true := by
  simp only [rsD, dat, List.all_cons, List.all_nil, dat_fg _ h1 n, dat_fg _ h2 n]; rfl
theorem dat_st {hist : List Rule} {s : List Nat} (H : HK hist s) {st : St} (hst : StOk hist st) (n : Nat) : dat (n + 3) (stD st) = true := by
  simp only [stD, dat, Bool.and_eq_true, List.all_eq_true, decide_eq_true_eq, List.length_map]
  have := H.few
  refine ⟨fun x hx => ?_, by rw [hst.1]; omega⟩
  obtain ⟨b, hb, rfl⟩ := List.mem_map.mp hx
  obtain ⟨i, hi⟩ := List.getElem?_of_mem hb
  have hlt : i < hist.length := by rw [← hst.1]; exact (List.getElem?_eq_some_iff.mp hi).1
  have ho := hst.2 i _ b (List.getElem?_eq_getElem hlt) hi
  have hk := H.rules _ (List.getElem_mem hlt)
  have h1 := hk.bf
  have h2 := hk.bh
  exact dat_rs (by rw [ho.1]; omega) (by rw [ho.2]; omega) n
/-! ### the way that is due -/
structure DueOk (hist : List Rule) (s u : List Nat) (way : List St) (outs : List (List Nat)) : Prop where
  at_ : way = (List.range (u.length + 1)).map fun i => sAt hist (u.take i) (u.drop i)
  olen : outs.length = u.length
  join : outs.flatten = ledM hist u
  first : ∃ st, way[0]? = some st ∧ st ∈ startsF hist s
  last : ∃ st, way.getLast? = some st ∧ StOk hist st ∧ endF hist st = true
  step : ∀ (k c : Nat), u[k]? = some c → ∃ x y o, way[k]? = some x ∧ way[k + 1]? = some y ∧ outs[k]? = some o ∧ StOk hist x ∧ (y, o) ∈ stepsF hist s x c
  ok : ∀ x ∈ way, StOk hist x
theorem due_ok {hist : List Rule} {s u : List Nat} (H : HK hist s) (h35 : 35 ∉ s) (hr : ∀ r ∈ hist, RuleOk s r) (hu : ∀ c ∈ u, c ∈ s) : DueOk hist s u (dueW hist u).1 (dueW hist u).2 := by
  obtain ⟨a1, a2, a3⟩ := dueS_ok H.sl hist (ones u) H.rules (ones_mem hu)
  have hlen : (dueS hist (ones u)).2.length = u.length := by rw [dueS_len, ones_len]
  have hm : dueW hist u ∈ rowsF hist s u := rows_mem.mpr ⟨_, _, by rw [startsF_P]; exact a1, a2, rfl⟩
  obtain ⟨b1, b2, b3, b4, b5⟩ := rows_ok2 H hu _ hm
  have hw : (dueW hist u).1 = (List.range (u.length + 1)).map fun i => sAt hist (u.take i) (u.drop i) := by
    show (dueS hist (ones u)).1 :: (dueS hist (ones u)).2.map (·.1) = _
    rw [due_way, ones_len]
    refine List.map_congr_left fun i _ => ?_
    have e1 : (ones u).take i = ones (u.take i) := by simp [ones, List.map_take]
    have e2 : (ones u).drop i = ones (u.drop i) := by simp [ones, List.map_drop]
    rw [e1, e2, ones_flat, ones_flat]
  refine ⟨hw, b3, ?_, ⟨_, rfl, by rw [startsF_P]; exact a1⟩, ?_, fun k c hk => ?_, b4⟩
  · show ((dueS hist (ones u)).2.map (·.2)).flatten = _
    rw [due_outs, ones_flat, led_eq h35 hr]
  · cases hl : (dueW hist u).1.getLast? with
    | none => rw [List.getLast?_eq_none_iff] at hl; rw [hl] at b2; simp at b2
    | some st =>
      rw [hl] at b1
      have e := last_way (dueS hist (ones u)).2 (dueS hist (ones u)).1
      have e2 : (dueW hist u).1.getLast?.getD [] = lastW (dueS hist (ones u)).1 (dueS hist (ones u)).2 := e
      rw [hl] at e2
      refine ⟨st, rfl, b1, ?_⟩
      rw [show st = lastW (dueS hist (ones u)).1 (dueS hist (ones u)).2 from e2]
      exact a3
  · have hkl := (List.getElem?_eq_some_iff.mp hk).1
    have hy := List.getElem?_eq_getElem (l := (dueS hist (ones u)).2) (i := k) (by omega)
    obtain ⟨x, h1, h2⟩ := ch_steps a2 k _ [c] hy (by simp [ones, hk])
    refine ⟨x, ((dueS hist (ones u)).2[k]'(by omega)).1, ((dueS hist (ones u)).2[k]'(by omega)).2, h1, ?_, ?_, b4 x (List.mem_of_getElem? h1), ?_⟩
    · show ((dueS hist (ones u)).1 :: (dueS hist (ones u)).2.map (·.1))[k + 1]? = _
      rw [List.getElem?_cons_succ, List.getElem?_map, hy]
      rfl
    · show ((dueS hist (ones u)).2.map (·.2))[k]? = _
      rw [List.getElem?_map, hy]
      rfl
    · rw [stepsF_W]
      exact h2
/-! ### the stands behind the first sounds, each as often as there are ways to it -/
def endsF (hist : List Rule) (s w : List Nat) : List St := (rowsF hist s w).map fun p => p.1.getLast?.getD []
theorem endsF_snoc (hist : List Rule) (s w : List Nat) (c : Nat) : endsF hist s (w ++ [c]) = (endsF hist s w).flatMap fun st => (stepsF hist s st c).map (·.1) := by
  unfold endsF
  rw [rowsF_snoc]
  unfold rowsS
  rw [List.map_flatMap, List.flatMap_map]
  refine congrArg (fun f => List.flatMap f _) (funext fun p => ?_)
  rw [List.map_map]
  refine List.map_congr_left fun q _ => ?_
  simp
theorem endsF_nil (hist : List Rule) (s : List Nat) : endsF hist s [] = startsF hist s := by
  unfold endsF rowsF
  simp only [List.foldl_nil, List.map_map]
  exact List.map_id' _
theorem endsF_ok {hist : List Rule} {s w : List Nat} (H : HK hist s) (hw : ∀ c ∈ w, c ∈ s) : ∀ st ∈ endsF hist s w, StOk hist st := by
  intro st hst
  obtain ⟨p, hp, rfl⟩ := List.mem_map.mp hst
  exact (rows_ok2 H hw p hp).1
theorem endsF_ne {hist : List Rule} {s w : List Nat} (H : HK hist s) (hw : ∀ c ∈ w, c ∈ s) : endsF hist s w ≠ [] := by
  intro e
  have e2 : rowsF hist s w = [] := by simpa [endsF] using e
  have := rows_end H hw
  rw [e2] at this
  simp at this
theorem endsF_end {hist : List Rule} {s w : List Nat} (H : HK hist s) (hw : ∀ c ∈ w, c ∈ s) : ((endsF hist s w).map fun st => if endF hist st then 1 else 0).sum = 1 := by
  have h1 := congrArg List.length (rows_end H hw)
  have h2 : ∀ l : List (List St × List (List Nat)), ((l.map fun p => p.1.getLast?.getD []).map fun st => if endF hist st then 1 else 0).sum = (l.filter fun p => endF hist (p.1.getLast?.getD [])).length := by
    intro l
    induction l with
    | nil => rfl
    | cons p l ih =>
      simp only [List.map_cons, List.sum_cons, ih, List.filter_cons]
      split <;> simp; omega
  rw [show endsF hist s w = (rowsF hist s w).map fun p => p.1.getLast?.getD [] from rfl, h2, h1]
  rfl
theorem count_rep {α β : Type} [DecidableEq β] (f : α → β) (n : Nat) (x : β) : ∀ l : List α, cnt x (l.flatMap fun q => List.replicate n (f q)) = n * cnt x (l.map f)
  | [] => by simp [cnt]
  | q :: l => by
    have e0 : cnt x (f q :: l.map f) = (if f q = x then 1 else 0) + cnt x (l.map f) := by
      unfold cnt
      rw [List.countP_cons, Nat.add_comm]
      simp
    rw [List.flatMap_cons, cnt_app, count_rep f n x l, List.map_cons, cnt_rep, e0, Nat.mul_add]
    by_cases h : f q = x <;> simp [h]
/-- from those that differ, so often -/
def wide (ks : List St) (P : List St) (F : St → List (St × List Nat)) : List St := ks.flatMap fun st => (F st).flatMap fun q => List.replicate (cnt st P) q.1
theorem wide_count {ks P : List St} {F : St → List (St × List Nat)} (hn : ks.Nodup) (hk : ∀ st ∈ P, st ∈ ks) (x : St) : cnt x (wide ks P F) = cnt x (P.flatMap fun st => (F st).map (·.1)) := by
  unfold wide
  rw [cnt_flat, cnt_flat, sum_keys (fun st => cnt x ((F st).map (·.1))) hn hk]
  congr 1
  refine List.map_congr_left fun st _ => ?_
  exact count_rep _ _ _ _
end Mach
end Sd

/-! K04T: the text of k04, its defs, each as it is turned (printed by mkhead.py). -/
namespace K04
open PySem PySem.Spec PyProof.Rows L2 Sd
def top (i : Nat) : Stmt := PySem.Challenge.pw_soundsled_k04_whole_stands.main.body.getD i (.Pass ⟨0, 0, 0, 0⟩)
def topM (i j : Nat) : Stmt := match top i with
  | .ClassDef _ _ _ b _ _ _ _ _ _ _ => b.getD j (.Pass ⟨0, 0, 0, 0⟩)
  | s => s
/-- _wall: 0 k -/
def b_wall : List S := [
  (.whl (.cst (.bl true)) [.pass])]
def d_wall : DefI := ⟨"_wall", "_wall", "", "", "_wall", top 0, ["k"], ["k"], [], false, b_wall⟩
/-- slots_hold: 0 word, 1 place, 2 slots, 3 k, 4 slot, 5 at, 6 here -/
def b_slots_hold : List S := [
  (.forr (.t [3, 4]) (.enu (.var 2)) [(.set (.n 5) (.o2 .add (.var 1) (.var 3))), (.set (.n 6) (.ife (.chn .le .lt (.cst (.int 0)) (.var 5) (.o1 .len (.var 0))) (.o2 .idx (.var 0) (.var 5)) (.cst (.str [35])))), (.cond (.o2 .notin (.var 6) (.var 4)) [(.ret (.cst (.bl false)))] [])]),
  (.ret (.cst (.bl true)))]
def d_slots_hold : DefI := ⟨"slots_hold", "slots_hold", "", "", "slots_hold", top 3, ["word", "place", "slots"], ["word", "place", "slots", "k", "slot", "at", "here"], [], false, b_slots_hold⟩
/-- applies: 0 rule, 1 word, 2 place, 3 changes, 4 before, 5 behind, 6 one, 7 _ -/
def b_applies : List S := [
  (.set (.t [3, 4, 5]) (.var 0)),
  (.cond (.o2 .notin (.o2 .idx (.var 1) (.var 2)) (.comp [6, 7] (.var 6) (.t [6, 7]) (.val (.var 3)) [])) [(.ret (.cst (.bl false)))] []),
  (.ret (.and (.call "" "slots_hold" [(.var 1), (.o2 .sub (.var 2) (.o1 .len (.var 4))), (.var 4)]) (.call "" "slots_hold" [(.var 1), (.o2 .add (.var 2) (.cst (.int 1))), (.var 5)])))]
def d_applies : DefI := ⟨"applies", "applies", "", "", "applies", top 4, ["rule", "word", "place"], ["rule", "word", "place", "changes", "before", "behind", "one", "_"], [], false, b_applies⟩
/-- changed: 0 rule, 1 word, 2 known, 3 place, 4 one -/
def b_changed : List S := [
  (.set (.n 2) (.o1 .dict (.o2 .idx (.var 0) (.cst (.int 0))))),
  (.ret (.o2 .join (.cst (.str [])) (.comp [3, 4] (.ife (.call "" "applies" [(.var 0), (.var 1), (.var 3)]) (.o2 .idx (.var 2) (.var 4)) (.var 4)) (.t [3, 4]) (.enu (.var 1)) [])))]
def d_changed : DefI := ⟨"changed", "changed", "", "", "changed", top 5, ["rule", "word"], ["rule", "word", "known", "place", "one"], [], false, b_changed⟩
/-- led: 0 history, 1 word, 2 rule -/
def b_led : List S := [
  (.forr (.n 2) (.val (.var 0)) [(.set (.n 1) (.call "" "changed" [(.var 2), (.var 1)]))]),
  (.ret (.var 1))]
def d_led : DefI := ⟨"led", "led", "", "", "led", top 6, ["history", "word"], ["history", "word", "rule"], [], false, b_led⟩
/-- before_start: 0 rule, 1 slots, 2 k -/
def b_before_start : List S := [
  (.set (.n 1) (.o2 .idx (.var 0) (.cst (.int 1)))),
  (.ret (.o1 .tuple (.comp [2] (.and (.o2 .eq (.var 2) (.cst (.int 0))) (.o2 .eq (.o2 .idx (.var 1) (.cst (.int 0))) (.cst (.str [35])))) (.n 2) (.rng (.o1 .len (.var 1))) [])))]
def d_before_start : DefI := ⟨"before_start", "before_start", "", "", "before_start", top 8, ["rule"], ["rule", "slots", "k"], [], false, b_before_start⟩
/-- before_step: 0 rule, 1 known, 2 sound, 3 slots, 4 found, 5 k -/
def b_before_step : List S := [
  (.set (.n 3) (.o2 .idx (.var 0) (.cst (.int 1)))),
  (.set (.n 4) (.alc (.lst []))),
  (.forr (.n 5) (.rng (.o1 .len (.var 3))) [(.app (.var 4) (.and (.o2 .isin (.var 2) (.o2 .idx (.var 3) (.var 5))) (.or (.o2 .eq (.var 5) (.cst (.int 0))) (.o2 .idx (.var 1) (.o2 .sub (.var 5) (.cst (.int 1)))))))]),
  (.ret (.o1 .tuple (.var 4)))]
def d_before_step : DefI := ⟨"before_step", "before_step", "", "", "before_step", top 9, ["rule", "known", "sound"], ["rule", "known", "sound", "slots", "found", "k"], [4], false, b_before_step⟩
/-- behind_end: 0 rule, 1 slots, 2 k -/
def b_behind_end : List S := [
  (.set (.n 1) (.o2 .idx (.var 0) (.cst (.int 2)))),
  (.ret (.o1 .tuple (.comp [2] (.and (.o2 .eq (.var 2) (.o2 .sub (.o1 .len (.var 1)) (.cst (.int 1)))) (.o2 .eq (.o2 .idx (.var 1) (.var 2)) (.cst (.str [35])))) (.n 2) (.rng (.o1 .len (.var 1))) [])))]
def d_behind_end : DefI := ⟨"behind_end", "behind_end", "", "", "behind_end", top 10, ["rule"], ["rule", "slots", "k"], [], false, b_behind_end⟩
/-- behind_step: 0 rule, 1 known, 2 sound, 3 slots, 4 found, 5 k -/
def b_behind_step : List S := [
  (.set (.n 3) (.o2 .idx (.var 0) (.cst (.int 2)))),
  (.set (.n 4) (.alc (.lst []))),
  (.forr (.n 5) (.rng (.o1 .len (.var 3))) [(.app (.var 4) (.and (.o2 .isin (.var 2) (.o2 .idx (.var 3) (.var 5))) (.or (.o2 .eq (.var 5) (.o2 .sub (.o1 .len (.var 3)) (.cst (.int 1)))) (.o2 .idx (.var 1) (.o2 .add (.var 5) (.cst (.int 1)))))))]),
  (.ret (.o1 .tuple (.var 4)))]
def d_behind_step : DefI := ⟨"behind_step", "behind_step", "", "", "behind_step", top 11, ["rule", "known", "sound"], ["rule", "known", "sound", "slots", "found", "k"], [4], false, b_behind_step⟩
/-- all_behind: 0 rule, 1 sounds, 2 found, 3 left, 4 known, 5 sound -/
def b_all_behind : List S := [
  (.par 2 3 (.alc (.lst [])) (.alc (.lst [(.call "" "behind_end" [(.var 0)])]))),
  (.whl (.o2 .gt (.o1 .len (.var 3)) (.cst (.int 0))) [(.set (.n 4) (.pop (.var 3))), (.cond (.o2 .notin (.var 4) (.var 2)) [(.app (.var 2) (.var 4)), (.ext (.var 3) (.comp [5] (.call "" "behind_step" [(.var 0), (.var 4), (.var 5)]) (.n 5) (.val (.var 1)) []))] [])]),
  (.ret (.o1 .sorted (.var 2)))]
def d_all_behind : DefI := ⟨"all_behind", "all_behind", "", "", "all_behind", top 12, ["rule", "sounds"], ["rule", "sounds", "found", "left", "known", "sound"], [2, 3], false, b_all_behind⟩
/-- rule_starts: 0 rule, 1 sounds, 2 known -/
def b_rule_starts : List S := [
  (.ret (.comp [2] (.tup [(.call "" "before_start" [(.var 0)]), (.var 2)]) (.n 2) (.val (.call "" "all_behind" [(.var 0), (.var 1)])) []))]
def d_rule_starts : DefI := ⟨"rule_starts", "rule_starts", "", "", "rule_starts", top 13, ["rule", "sounds"], ["rule", "sounds", "known"], [], false, b_rule_starts⟩
/-- rule_steps: 0 rule, 1 sounds, 2 stand, 3 sound, 4 before, 5 behind, 6 found, 7 known, 8 holds, 9 out -/
def b_rule_steps : List S := [
  (.set (.t [4, 5]) (.var 2)),
  (.set (.n 6) (.alc (.lst []))),
  (.forr (.n 7) (.val (.call "" "all_behind" [(.var 0), (.var 1)])) [(.cond (.o2 .eq (.call "" "behind_step" [(.var 0), (.var 7), (.var 3)]) (.var 5)) [(.set (.n 8) (.and (.or (.o2 .eq (.o1 .len (.o2 .idx (.var 0) (.cst (.int 1)))) (.cst (.int 0))) (.o2 .idx (.var 4) (.o1 .neg (.cst (.int 1))))) (.or (.o2 .eq (.o1 .len (.o2 .idx (.var 0) (.cst (.int 2)))) (.cst (.int 0))) (.o2 .idx (.var 7) (.cst (.int 0)))))), (.set (.n 9) (.ife (.var 8) (.dget (.o1 .dict (.o2 .idx (.var 0) (.cst (.int 0)))) (.var 3) (.var 3)) (.var 3))), (.app (.var 6) (.tup [(.tup [(.call "" "before_step" [(.var 0), (.var 4), (.var 3)]), (.var 7)]), (.var 9)]))] [])]),
  (.ret (.var 6))]
def d_rule_steps : DefI := ⟨"rule_steps", "rule_steps", "", "", "rule_steps", top 14, ["rule", "sounds", "stand", "sound"], ["rule", "sounds", "stand", "sound", "before", "behind", "found", "known", "holds", "out"], [6], false, b_rule_steps⟩
/-- is_rule_end: 0 rule, 1 stand -/
def b_is_rule_end : List S := [
  (.ret (.o2 .eq (.o2 .idx (.var 1) (.cst (.int 1))) (.call "" "behind_end" [(.var 0)])))]
def d_is_rule_end : DefI := ⟨"is_rule_end", "is_rule_end", "", "", "is_rule_end", top 15, ["rule", "stand"], ["rule", "stand"], [], false, b_is_rule_end⟩
/-- Machine.__init__: 0 self, 1 sounds, 2 history -/
def b_Machine___init : List S := [
  (.seta (.var 0) ["Machine"] "sounds" (.var 1)),
  (.seta (.var 0) ["Machine"] "history" (.var 2)),
  (.seta (.var 0) ["Machine"] "known" (.alc .dict0))]
def d_Machine___init : DefI := ⟨"__init__", "Machine.__init__", "Machine", "Machine", "__init__", (topM 16 0), ["self", "sounds", "history"], ["self", "sounds", "history"], [], false, b_Machine___init⟩
/-- Machine.starts: 0 self, 1 found, 2 rule, 3 stand, 4 one -/
def b_Machine_starts : List S := [
  (.set (.n 1) (.lst [(.tup [])])),
  (.forr (.n 2) (.val (.att ["Machine"] (.var 0) "history")) [(.set (.n 1) (.comp2 [3, 4] (.o2 .add (.var 3) (.tup [(.var 4)])) (.n 3) (.val (.var 1)) [] (.n 4) (.val (.call "" "rule_starts" [(.var 2), (.att ["Machine"] (.var 0) "sounds")])) []))]),
  (.ret (.var 1))]
def d_Machine_starts : DefI := ⟨"starts", "Machine.starts", "Machine", "Machine", "starts", (topM 16 1), ["self"], ["self", "found", "rule", "stand", "one"], [], false, b_Machine_starts⟩
/-- Machine.rule_run: 0 self, 1 k, 2 stand, 3 word, 4 found, 5 sound, 6 longer, 7 here, 8 out, 9 after, 10 more -/
def b_Machine_rule_run : List S := [
  (.set (.n 4) (.lst [(.tup [(.var 2), (.cst (.str []))])])),
  (.forr (.n 5) (.val (.var 3)) [(.set (.n 6) (.alc (.lst []))), (.forr (.t [7, 8]) (.val (.var 4)) [(.forr (.t [9, 10]) (.val (.meth (.var 0) "rule_step" [(.var 1), (.var 7), (.var 5)])) [(.app (.var 6) (.tup [(.var 9), (.o2 .add (.var 8) (.var 10))]))])]), (.set (.n 4) (.var 6))]),
  (.ret (.var 4))]
def d_Machine_rule_run : DefI := ⟨"rule_run", "Machine.rule_run", "Machine", "Machine", "rule_run", (topM 16 2), ["self", "k", "stand", "word"], ["self", "k", "stand", "word", "found", "sound", "longer", "here", "out", "after", "more"], [6], false, b_Machine_rule_run⟩
/-- Machine.rule_step: 0 self, 1 k, 2 stand, 3 sound, 4 key -/
def b_Machine_rule_step : List S := [
  (.set (.n 4) (.tup [(.var 1), (.var 2), (.var 3)])),
  (.cond (.o2 .notin (.var 4) (.att ["Machine"] (.var 0) "known")) [(.seti (.att ["Machine"] (.var 0) "known") (.var 4) (.call "" "rule_steps" [(.o2 .idx (.att ["Machine"] (.var 0) "history") (.var 1)), (.att ["Machine"] (.var 0) "sounds"), (.var 2), (.var 3)]))] []),
  (.ret (.o2 .idx (.att ["Machine"] (.var 0) "known") (.var 4)))]
def d_Machine_rule_step : DefI := ⟨"rule_step", "Machine.rule_step", "Machine", "Machine", "rule_step", (topM 16 3), ["self", "k", "stand", "sound"], ["self", "k", "stand", "sound", "key"], [], false, b_Machine_rule_step⟩
/-- Machine.steps: 0 self, 1 stand, 2 sound, 3 key, 4 rows, 5 k, 6 longer, 7 done, 8 word, 9 after, 10 out -/
def b_Machine_steps : List S := [
  (.set (.n 3) (.tup [(.var 1), (.var 2)])),
  (.cond (.o2 .notin (.var 3) (.att ["Machine"] (.var 0) "known")) [(.set (.n 4) (.lst [(.tup [(.tup []), (.var 2)])])), (.forr (.n 5) (.rng (.o1 .len (.att ["Machine"] (.var 0) "history"))) [(.set (.n 6) (.alc (.lst []))), (.forr (.t [7, 8]) (.val (.var 4)) [(.forr (.t [9, 10]) (.val (.meth (.var 0) "rule_run" [(.var 5), (.o2 .idx (.var 1) (.var 5)), (.var 8)])) [(.app (.var 6) (.tup [(.o2 .add (.var 7) (.tup [(.var 9)])), (.var 10)]))])]), (.set (.n 4) (.var 6))]), (.seti (.att ["Machine"] (.var 0) "known") (.var 3) (.var 4))] []),
  (.ret (.o2 .idx (.att ["Machine"] (.var 0) "known") (.var 3)))]
def d_Machine_steps : DefI := ⟨"steps", "Machine.steps", "Machine", "Machine", "steps", (topM 16 4), ["self", "stand", "sound"], ["self", "stand", "sound", "key", "rows", "k", "longer", "done", "word", "after", "out"], [6], true, b_Machine_steps⟩
/-- Machine.is_end: 0 self, 1 stand, 2 rule, 3 one -/
def b_Machine_is_end : List S := [
  (.ret (.o1 .all (.comp [2, 3] (.call "" "is_rule_end" [(.var 2), (.var 3)]) (.t [2, 3]) (.zip (.att ["Machine"] (.var 0) "history") (.var 1)) [])))]
def d_Machine_is_end : DefI := ⟨"is_end", "Machine.is_end", "Machine", "Machine", "is_end", (topM 16 5), ["self", "stand"], ["self", "stand", "rule", "one"], [], false, b_Machine_is_end⟩
/-- Machine.is_stand: 0 self, 1 value -/
def b_Machine_is_stand : List S := [
  (.exp (.call "" "_wall" [(.cst (.int 0))]))]
def d_Machine_is_stand : DefI := ⟨"is_stand", "Machine.is_stand", "Machine", "Machine", "is_stand", (topM 16 6), ["self", "value"], ["self", "value"], [], false, b_Machine_is_stand⟩
/-- stands_for: 0 machine, 1 word, 2 rows, 3 sound, 4 longer, 5 way, 6 outs, 7 after, 8 out, 9 found, 10 stand, 11 row -/
def b_stands_for : List S := [
  (.set (.n 2) (.comp [10] (.tup [(.lst [(.var 10)]), (.lst [])]) (.n 10) (.val (.meth (.var 0) "starts" [])) [])),
  (.forr (.n 3) (.val (.var 1)) [(.set (.n 4) (.alc (.lst []))), (.forr (.t [5, 6]) (.val (.var 2)) [(.forr (.t [7, 8]) (.val (.meth (.var 0) "steps" [(.o2 .idx (.var 5) (.o1 .neg (.cst (.int 1)))), (.var 3)])) [(.app (.var 4) (.tup [(.o2 .add (.var 5) (.lst [(.var 7)])), (.o2 .add (.var 6) (.lst [(.var 8)]))]))])]), (.set (.n 2) (.var 4))]),
  (.set (.n 9) (.comp [11] (.var 11) (.n 11) (.val (.var 2)) [(.meth (.var 0) "is_end" [(.o2 .idx (.o2 .idx (.var 11) (.cst (.int 0))) (.o1 .neg (.cst (.int 1))))])])),
  (.ret (.o2 .idx (.var 9) (.cst (.int 0))))]
def d_stands_for : DefI := ⟨"stands_for", "stands_for", "", "", "stands_for", top 17, ["machine", "word"], ["machine", "word", "rows", "sound", "longer", "way", "outs", "after", "out", "found", "stand", "row"], [4], false, b_stands_for⟩
/-- _law_same: 0 actual, 1 due, 2 k -/
def b_law_same : List S := [
  (.cond (.or (.o1 (.isi .tup) (.var 1)) (.o1 (.isi .lst) (.var 1))) [(.cond (.or (.o2 .ne (.o1 (.isi .tup) (.var 1)) (.o1 (.isi .tup) (.var 0))) (.o2 .ne (.o1 (.isi .lst) (.var 1)) (.o1 (.isi .lst) (.var 0)))) [(.ret (.cst (.bl false)))] []), (.cond (.o2 .ne (.o1 .len (.var 0)) (.o1 .len (.var 1))) [(.ret (.cst (.bl false)))] []), (.ret (.o2 .eq (.o1 .len (.comp [2] (.var 2) (.n 2) (.rng (.o1 .len (.var 1))) [(.o1 .not (.call "" "_law_same" [(.o2 .idx (.var 0) (.var 2)), (.o2 .idx (.var 1) (.var 2))]))])) (.cst (.int 0))))] []),
  (.cond (.o1 .isN (.var 1)) [(.ret (.o1 .isN (.var 0)))] []),
  (.cond (.or (.o1 (.isi .bool) (.var 1)) (.o1 (.isi .bool) (.var 0))) [(.ret (.and (.o1 (.isi .bool) (.var 1)) (.and (.o1 (.isi .bool) (.var 0)) (.o2 .eq (.var 0) (.var 1)))))] []),
  (.cond (.o1 (.isi .int) (.var 1)) [(.ret (.and (.o1 (.isi .int) (.var 0)) (.o2 .eq (.var 0) (.var 1))))] []),
  (.ret (.and (.o1 (.isi .str) (.var 0)) (.o2 .eq (.var 0) (.var 1))))]
def d_law_same : DefI := ⟨"_law_same", "_law_same", "", "", "_law_same", top 19, ["actual", "due"], ["actual", "due", "k"], [], false, b_law_same⟩
/-- _law_pool: 0 script, 1 salt, 2 cell -/
def b_law_pool : List S := [
  (.set (.n 1) (.cst (.int 7))),
  (.forr (.n 2) (.val (.o3 .slice (.var 0) (.cst .non) (.o1 .ofI (.cst (.int 63))))) [(.set (.n 1) (.o2 .mod (.o1 .int (.o2 .add (.o2 .mul (.var 1) (.cst (.int 31))) (.var 2))) (.cst (.int 1000003))))]),
  (.ret (.lst [(.o1 .list (.var 0)), (.cst (.int 0)), (.cst (.int 0)), (.cst (.int 0)), (.var 1)]))]
def d_law_pool : DefI := ⟨"_law_pool", "_law_pool", "", "", "_law_pool", top 20, ["script"], ["script", "salt", "cell"], [], false, b_law_pool⟩
/-- _law_spread: 0 cell, 1 blended, 2 whole_sum, 3 k -/
def b_law_spread : List S := [
  (.set (.n 1) (.o2 .mod (.o1 .int (.var 0)) (.cst (.int 2147483647)))),
  (.set (.n 2) (.cst (.int 1))),
  (.forr (.n 3) (.rng (.cst (.int 4))) [(.set (.n 1) (.o2 .mod (.o1 .int (.o2 .add (.o2 .add (.o2 .mul (.var 1) (.cst (.int 48271))) (.cst (.int 12345))) (.var 3))) (.cst (.int 2147483647)))), (.set (.n 2) (.o2 .add (.o2 .mul (.var 2) (.cst (.int 2147483647))) (.var 1)))]),
  (.ret (.var 2))]
def d_law_spread : DefI := ⟨"_law_spread", "_law_spread", "", "", "_law_spread", top 21, ["cell"], ["cell", "blended", "whole_sum", "k"], [], false, b_law_spread⟩
/-- _law_draw: 0 pool, 1 many, 2 cell, 3 blended, 4 value -/
def b_law_draw : List S := [
  (.cond (.and (.o2 .le (.o2 .idx (.var 0) (.cst (.int 2))) (.cst (.int 0))) (.o2 .lt (.o2 .idx (.var 0) (.cst (.int 1))) (.o1 .len (.o2 .idx (.var 0) (.cst (.int 0)))))) [(.set (.n 2) (.o2 .idx (.o2 .idx (.var 0) (.cst (.int 0))) (.o2 .idx (.var 0) (.cst (.int 1))))), (.seti (.var 0) (.cst (.int 1)) (.o2 .add (.o2 .idx (.var 0) (.cst (.int 1))) (.cst (.int 1)))), (.seti (.var 0) (.cst (.int 2)) (.var 2)), (.cond (.o2 .lt (.var 2) (.cst (.int 1000000000000000000))) [(.seti (.var 0) (.cst (.int 2)) (.call "" "_law_spread" [(.var 2)]))] [])] []),
  (.seti (.var 0) (.cst (.int 3)) (.o2 .add (.o2 .idx (.var 0) (.cst (.int 3))) (.cst (.int 1)))),
  (.cond (.o2 .le (.o2 .idx (.var 0) (.cst (.int 2))) (.cst (.int 0))) [(.set (.n 3) (.o2 .mod (.o1 .int (.o2 .add (.o2 .add (.o2 .mul (.o2 .idx (.var 0) (.cst (.int 4))) (.cst (.int 48271))) (.o2 .mul (.o2 .idx (.var 0) (.cst (.int 3))) (.cst (.int 69621)))) (.cst (.int 1)))) (.cst (.int 2147483647)))), (.set (.n 3) (.o2 .mod (.o1 .int (.o2 .add (.o2 .mul (.var 3) (.cst (.int 16807))) (.o2 .idx (.var 0) (.cst (.int 3))))) (.cst (.int 2147483629)))), (.ret (.o2 .mod (.o2 .div (.var 3) (.cst (.int 5))) (.var 1)))] []),
  (.set (.n 4) (.o2 .mod (.o1 .int (.o2 .idx (.var 0) (.cst (.int 2)))) (.var 1))),
  (.seti (.var 0) (.cst (.int 2)) (.o2 .div (.o2 .idx (.var 0) (.cst (.int 2))) (.var 1))),
  (.ret (.var 4))]
def d_law_draw : DefI := ⟨"_law_draw", "_law_draw", "", "", "_law_draw", top 22, ["pool", "many"], ["pool", "many", "cell", "blended", "value"], [], false, b_law_draw⟩
/-- _law_sounds: 0 pool -/
def b_law_sounds : List S := [
  (.ret (.o2 .idx (.tup [(.cst (.str [97, 98])), (.cst (.str [97, 98, 99])), (.cst (.str [97])), (.cst (.str [97, 98]))]) (.call "" "_law_draw" [(.var 0), (.cst (.int 4))])))]
def d_law_sounds : DefI := ⟨"_law_sounds", "_law_sounds", "", "", "_law_sounds", top 23, ["pool"], ["pool"], [], false, b_law_sounds⟩
/-- _law_lot: 0 pool, 1 sounds, 2 found, 3 one -/
def b_law_lot : List S := [
  (.set (.n 2) (.o2 .join (.cst (.str [])) (.comp [3] (.var 3) (.n 3) (.val (.var 1)) [(.o2 .eq (.call "" "_law_draw" [(.var 0), (.cst (.int 2))]) (.cst (.int 0)))]))),
  (.ret (.ife (.o2 .ne (.var 2) (.cst (.str []))) (.var 2) (.o2 .idx (.var 1) (.call "" "_law_draw" [(.var 0), (.o1 .len (.var 1))]))))]
def d_law_lot : DefI := ⟨"_law_lot", "_law_lot", "", "", "_law_lot", top 24, ["pool", "sounds"], ["pool", "sounds", "found", "one"], [], false, b_law_lot⟩
/-- _law_word: 0 pool, 1 sounds, 2 most, 3 k -/
def b_law_word : List S := [
  (.ret (.o2 .join (.cst (.str [])) (.comp [3] (.o2 .idx (.var 1) (.call "" "_law_draw" [(.var 0), (.o1 .len (.var 1))])) (.n 3) (.rng (.call "" "_law_draw" [(.var 0), (.o2 .add (.var 2) (.cst (.int 1)))])) [])))]
def d_law_word : DefI := ⟨"_law_word", "_law_word", "", "", "_law_word", top 25, ["pool", "sounds", "most"], ["pool", "sounds", "most", "k"], [], false, b_law_word⟩
/-- _law_slots: 0 pool, 1 sounds, 2 edge, 3 found, 4 k -/
def b_law_slots : List S := [
  (.set (.n 3) (.alc (.comp [4] (.call "" "_law_lot" [(.var 0), (.var 1)]) (.n 4) (.rng (.o2 .idx (.tup [(.cst (.int 0)), (.cst (.int 0)), (.cst (.int 1)), (.cst (.int 1)), (.cst (.int 2))]) (.call "" "_law_draw" [(.var 0), (.cst (.int 5))]))) []))),
  (.cond (.and (.o2 .gt (.o1 .len (.var 3)) (.cst (.int 0))) (.o2 .eq (.call "" "_law_draw" [(.var 0), (.cst (.int 4))]) (.cst (.int 0)))) [(.seti (.var 3) (.ife (.o2 .eq (.var 2) (.cst (.int 0))) (.cst (.int 0)) (.o2 .sub (.o1 .len (.var 3)) (.cst (.int 1)))) (.cst (.str [35])))] []),
  (.ret (.o1 .tuple (.var 3)))]
def d_law_slots : DefI := ⟨"_law_slots", "_law_slots", "", "", "_law_slots", top 26, ["pool", "sounds", "edge"], ["pool", "sounds", "edge", "found", "k"], [3], false, b_law_slots⟩
/-- _law_law: 0 pool, 1 sounds, 2 changes, 3 one -/
def b_law_law : List S := [
  (.set (.n 2) (.o1 .tuple (.comp [3] (.tup [(.var 3), (.call "" "_law_word" [(.var 0), (.var 1), (.cst (.int 2))])]) (.n 3) (.val (.var 1)) [(.o2 .eq (.call "" "_law_draw" [(.var 0), (.cst (.int 2))]) (.cst (.int 0)))]))),
  (.cond (.o2 .eq (.o1 .len (.var 2)) (.cst (.int 0))) [(.set (.n 2) (.tup [(.tup [(.o2 .idx (.var 1) (.cst (.int 0))), (.call "" "_law_word" [(.var 0), (.var 1), (.cst (.int 2))])])]))] []),
  (.ret (.tup [(.var 2), (.call "" "_law_slots" [(.var 0), (.var 1), (.cst (.int 0))]), (.call "" "_law_slots" [(.var 0), (.var 1), (.cst (.int 1))])]))]
def d_law_law : DefI := ⟨"_law_law", "_law_law", "", "", "_law_law", top 27, ["pool", "sounds"], ["pool", "sounds", "changes", "one"], [], false, b_law_law⟩
/-- _law_history: 0 pool, 1 sounds, 2 most, 3 found, 4 slots, 5 k, 6 law -/
def b_law_history : List S := [
  (.set (.t [3, 4]) (.tup [(.tup []), (.cst (.int 0))])),
  (.forr (.n 5) (.rng (.call "" "_law_draw" [(.var 0), (.o2 .add (.var 2) (.cst (.int 1)))])) [(.set (.n 6) (.call "" "_law_law" [(.var 0), (.var 1)])), (.set (.n 4) (.o2 .add (.o2 .add (.var 4) (.o1 .len (.o2 .idx (.var 6) (.cst (.int 1))))) (.o1 .len (.o2 .idx (.var 6) (.cst (.int 2)))))), (.set (.n 3) (.o2 .add (.var 3) (.ife (.o2 .lt (.var 4) (.cst (.int 5))) (.tup [(.var 6)]) (.tup [(.tup [(.o2 .idx (.var 6) (.cst (.int 0))), (.tup []), (.tup [])])]))))]),
  (.ret (.var 3))]
def d_law_history : DefI := ⟨"_law_history", "_law_history", "", "", "_law_history", top 28, ["pool", "sounds", "most"], ["pool", "sounds", "most", "found", "slots", "k", "law"], [], false, b_law_history⟩
/-- _law_holds: 0 word, 1 at, 2 slots, 3 k, 4 here -/
def b_law_holds : List S := [
  (.forr (.n 3) (.rng (.o1 .len (.var 2))) [(.set (.n 4) (.ife (.and (.o2 .ge (.o2 .add (.var 1) (.var 3)) (.cst (.int 0))) (.o2 .lt (.o2 .add (.var 1) (.var 3)) (.o1 .len (.var 0)))) (.o2 .idx (.var 0) (.o2 .add (.var 1) (.var 3))) (.cst (.str [35])))), (.cond (.o2 .notin (.var 4) (.o2 .idx (.var 2) (.var 3))) [(.ret (.cst (.bl false)))] [])]),
  (.ret (.cst (.bl true)))]
def d_law_holds : DefI := ⟨"_law_holds", "_law_holds", "", "", "_law_holds", top 29, ["word", "at", "slots"], ["word", "at", "slots", "k", "here"], [], false, b_law_holds⟩
/-- _law_applies: 0 law, 1 word, 2 at, 3 known, 4 one, 5 out -/
def b_law_applies : List S := [
  (.set (.n 3) (.comp [4, 5] (.var 4) (.t [4, 5]) (.val (.o2 .idx (.var 0) (.cst (.int 0)))) [])),
  (.ret (.and (.o2 .isin (.o2 .idx (.var 1) (.var 2)) (.var 3)) (.and (.call "" "_law_holds" [(.var 1), (.o2 .sub (.var 2) (.o1 .len (.o2 .idx (.var 0) (.cst (.int 1))))), (.o2 .idx (.var 0) (.cst (.int 1)))]) (.call "" "_law_holds" [(.var 1), (.o2 .add (.var 2) (.cst (.int 1))), (.o2 .idx (.var 0) (.cst (.int 2)))]))))]
def d_law_applies : DefI := ⟨"_law_applies", "_law_applies", "", "", "_law_applies", top 30, ["law", "word", "at"], ["law", "word", "at", "known", "one", "out"], [], false, b_law_applies⟩
/-- _law_changed: 0 law, 1 word, 2 found, 3 at -/
def b_law_changed : List S := [
  (.set (.n 2) (.cst (.str []))),
  (.forr (.n 3) (.rng (.o1 .len (.var 1))) [(.set (.n 2) (.o2 .add (.var 2) (.ife (.call "" "_law_applies" [(.var 0), (.var 1), (.var 3)]) (.o2 .idx (.o1 .dict (.o2 .idx (.var 0) (.cst (.int 0)))) (.o2 .idx (.var 1) (.var 3))) (.o2 .idx (.var 1) (.var 3)))))]),
  (.ret (.var 2))]
def d_law_changed : DefI := ⟨"_law_changed", "_law_changed", "", "", "_law_changed", top 31, ["law", "word"], ["law", "word", "found", "at"], [], false, b_law_changed⟩
/-- _law_led: 0 history, 1 word, 2 found, 3 law -/
def b_law_led : List S := [
  (.set (.n 2) (.var 1)),
  (.forr (.n 3) (.val (.var 0)) [(.set (.n 2) (.call "" "_law_changed" [(.var 3), (.var 2)]))]),
  (.ret (.var 2))]
def d_law_led : DefI := ⟨"_law_led", "_law_led", "", "", "_law_led", top 32, ["history", "word"], ["history", "word", "found", "law"], [], false, b_law_led⟩
/-- _law_words: 0 sounds, 1 most, 2 found, 3 last, 4 k, 5 longer, 6 word, 7 one -/
def b_law_words : List S := [
  (.par 2 3 (.lst [(.cst (.str []))]) (.lst [(.cst (.str []))])),
  (.forr (.n 4) (.rng (.var 1)) [(.set (.n 5) (.lst [])), (.forr (.n 6) (.val (.var 3)) [(.set (.n 5) (.o2 .add (.var 5) (.comp [7] (.o2 .add (.var 6) (.var 7)) (.n 7) (.val (.var 0)) [])))]), (.par 2 3 (.o2 .add (.var 2) (.var 5)) (.var 5))]),
  (.ret (.var 2))]
def d_law_words : DefI := ⟨"_law_words", "_law_words", "", "", "_law_words", top 33, ["sounds", "most"], ["sounds", "most", "found", "last", "k", "longer", "word", "one"], [], false, b_law_words⟩
/-- _law_flags_before: 0 law, 1 word, 2 slots, 3 found, 4 k -/
def b_law_flags_before : List S := [
  (.par 2 3 (.o2 .idx (.var 0) (.cst (.int 1))) (.alc (.lst []))),
  (.forr (.n 4) (.rng (.o1 .len (.var 2))) [(.app (.var 3) (.call "" "_law_holds" [(.var 1), (.o2 .sub (.o2 .sub (.o1 .len (.var 1)) (.var 4)) (.cst (.int 1))), (.o3 .slice (.var 2) (.cst .non) (.o1 .ofI (.o2 .add (.var 4) (.cst (.int 1)))))]))]),
  (.ret (.o1 .tuple (.var 3)))]
def d_law_flags_before : DefI := ⟨"_law_flags_before", "_law_flags_before", "", "", "_law_flags_before", top 34, ["law", "word"], ["law", "word", "slots", "found", "k"], [3], false, b_law_flags_before⟩
/-- _law_flags_behind: 0 law, 1 word, 2 k -/
def b_law_flags_behind : List S := [
  (.ret (.o1 .tuple (.comp [2] (.call "" "_law_holds" [(.var 1), (.cst (.int 0)), (.o3 .slice (.o2 .idx (.var 0) (.cst (.int 2))) (.o1 .ofI (.var 2)) (.cst .non))]) (.n 2) (.rng (.o1 .len (.o2 .idx (.var 0) (.cst (.int 2))))) [])))]
def d_law_flags_behind : DefI := ⟨"_law_flags_behind", "_law_flags_behind", "", "", "_law_flags_behind", top 35, ["law", "word"], ["law", "word", "k"], [], false, b_law_flags_behind⟩
/-- _law_stand_at: 0 history, 1 word, 2 at, 3 found, 4 head, 5 tail, 6 law, 7 whole, 8 one, 9 two, 10 k, 11 out -/
def b_law_stand_at : List S := [
  (.par3 3 4 5 (.tup []) (.o3 .slice (.var 1) (.cst .non) (.o1 .ofI (.var 2))) (.o3 .slice (.var 1) (.o1 .ofI (.var 2)) (.cst .non))),
  (.forr (.n 6) (.val (.var 0)) [(.set (.n 7) (.o2 .add (.var 4) (.var 5))), (.set (.n 3) (.o2 .add (.var 3) (.tup [(.tup [(.call "" "_law_flags_before" [(.var 6), (.var 4)]), (.call "" "_law_flags_behind" [(.var 6), (.var 5)])])]))), (.set (.t [8, 9]) (.tup [(.cst (.str [])), (.cst (.str []))])), (.forr (.n 10) (.rng (.o1 .len (.var 7))) [(.set (.n 11) (.ife (.call "" "_law_applies" [(.var 6), (.var 7), (.var 10)]) (.o2 .idx (.o1 .dict (.o2 .idx (.var 6) (.cst (.int 0)))) (.o2 .idx (.var 7) (.var 10))) (.o2 .idx (.var 7) (.var 10)))), (.set (.t [8, 9]) (.ife (.o2 .lt (.var 10) (.o1 .len (.var 4))) (.tup [(.o2 .add (.var 8) (.var 11)), (.var 9)]) (.tup [(.var 8), (.o2 .add (.var 9) (.var 11))])))]), (.par 4 5 (.var 8) (.var 9))]),
  (.ret (.var 3))]
def d_law_stand_at : DefI := ⟨"_law_stand_at", "_law_stand_at", "", "", "_law_stand_at", top 36, ["history", "word", "at"], ["history", "word", "at", "found", "head", "tail", "law", "whole", "one", "two", "k", "out"], [], false, b_law_stand_at⟩
/-- law: 0 script, 1 pool, 2 sounds, 3 history, 4 machine, 5 starts, 6 word, 7 ways, 8 outs, 9 at, 10 due, 11 stand, 12 many, 13 longer, 14 steps, 15 after, 16 out -/
def b_law : List S := [
  (.set (.n 1) (.alc (.call "" "_law_pool" [(.var 0)]))),
  (.set (.n 2) (.call "" "_law_sounds" [(.var 1)])),
  (.set (.n 3) (.call "" "_law_history" [(.var 1), (.var 2), (.cst (.int 2))])),
  (.set (.n 4) (.mk "Machine" [(.var 2), (.var 3)])),
  (.set (.n 5) (.meth (.var 4) "starts" [])),
  (.cond (.o2 .ne (.o1 .len (.var 5)) (.o1 .lset (.var 5))) [(.ret (.cst (.bl false)))] []),
  (.forr (.n 6) (.val (.o2 .add (.o3 .slice (.call "" "_law_words" [(.var 2), (.cst (.int 4))]) (.cst .non) (.o1 .ofI (.cst (.int 40)))) (.lst [(.call "" "_law_word" [(.var 1), (.var 2), (.cst (.int 8))])]))) [(.set (.t [7, 8]) (.call "" "stands_for" [(.var 4), (.var 6)])), (.set (.n 10) (.comp [9] (.call "" "_law_stand_at" [(.var 3), (.var 6), (.var 9)]) (.n 9) (.rng (.o2 .add (.o1 .len (.var 6)) (.cst (.int 1)))) [])), (.cond (.or (.o1 .not (.call "" "_law_same" [(.var 7), (.var 10)])) (.or (.o2 .ne (.o1 .len (.var 8)) (.o1 .len (.var 6))) (.or (.o2 .ne (.o2 .join (.cst (.str [])) (.var 8)) (.call "" "_law_led" [(.var 3), (.var 6)])) (.o2 .ne (.call "" "led" [(.var 3), (.var 6)]) (.call "" "_law_led" [(.var 3), (.var 6)]))))) [(.ret (.cst (.bl false)))] []), (.cond (.or (.o2 .notin (.o2 .idx (.var 10) (.cst (.int 0))) (.var 5)) (.o1 .not (.call "" "_law_same" [(.meth (.var 4) "is_end" [(.o2 .idx (.var 10) (.o1 .neg (.cst (.int 1))))]), (.cst (.bl true))]))) [(.ret (.cst (.bl false)))] []), (.set (.n 12) (.o1 .dict (.comp [11] (.tup [(.var 11), (.cst (.int 1))]) (.n 11) (.val (.var 5)) []))), (.forr (.n 9) (.rng (.o1 .len (.var 6))) [(.set (.n 13) (.alc .dict0)), (.forr (.n 11) (.val (.o1 .list (.var 12))) [(.set (.n 14) (.meth (.var 4) "steps" [(.var 11), (.o2 .idx (.var 6) (.var 9))])), (.cond (.o2 .ne (.o1 .len (.var 14)) (.o1 .lset (.var 14))) [(.ret (.cst (.bl false)))] []), (.forr (.t [15, 16]) (.val (.var 14)) [(.seti (.var 13) (.var 15) (.o2 .add (.dget (.var 13) (.var 15) (.cst (.int 0))) (.o2 .idx (.var 12) (.var 11))))])]), (.cond (.o2 .notin (.tup [(.o2 .idx (.var 10) (.o2 .add (.var 9) (.cst (.int 1)))), (.o2 .idx (.var 8) (.var 9))]) (.meth (.var 4) "steps" [(.o2 .idx (.var 10) (.var 9)), (.o2 .idx (.var 6) (.var 9))])) [(.ret (.cst (.bl false)))] []), (.set (.n 12) (.var 13))]), (.cond (.o2 .ne (.o1 .sum (.comp [11] (.o2 .idx (.var 12) (.var 11)) (.n 11) (.val (.o1 .list (.var 12))) [(.meth (.var 4) "is_end" [(.var 11)])])) (.cst (.int 1))) [(.ret (.cst (.bl false)))] [])]),
  (.ret (.cst (.bl true)))]
def d_law : DefI := ⟨"law", "law", "", "", "law", top 37, ["script"], ["script", "pool", "sounds", "history", "machine", "starts", "word", "ways", "outs", "at", "due", "stand", "many", "longer", "steps", "after", "out"], [1, 13], false, b_law⟩
def L : List DefI := [d_wall, d_slots_hold, d_applies, d_changed, d_led, d_before_start, d_before_step, d_behind_end, d_behind_step, d_all_behind, d_rule_starts, d_rule_steps, d_is_rule_end, d_Machine___init, d_Machine_starts, d_Machine_rule_run, d_Machine_rule_step, d_Machine_steps, d_Machine_is_end, d_Machine_is_stand, d_stands_for, d_law_same, d_law_pool, d_law_spread, d_law_draw, d_law_sounds, d_law_lot, d_law_word, d_law_slots, d_law_law, d_law_history, d_law_holds, d_law_applies, d_law_changed, d_law_led, d_law_words, d_law_flags_before, d_law_flags_behind, d_law_stand_at, d_law]
def cons : List (PySem.Str × Sd.D) := [("EDGE", (.str [35]))]
def cl : ClsT := ⟨[("Machine", "Machine")], [("sounds", "sounds", ["Machine"]), ("history", "history", ["Machine"]), ("known", "known", ["Machine"])], [("starts", "starts"), ("rule_run", "rule_run"), ("rule_step", "rule_step"), ("steps", "steps"), ("is_end", "is_end"), ("is_stand", "is_stand")], [(70, 21)]⟩
def T : Tb := Tof L
theorem t_wall : T "" "_wall" = some ⟨1, 1, b_wall, false⟩ := rfl
theorem t_slots_hold : T "" "slots_hold" = some ⟨3, 7, b_slots_hold, false⟩ := rfl
theorem t_applies : T "" "applies" = some ⟨3, 8, b_applies, false⟩ := rfl
theorem t_changed : T "" "changed" = some ⟨2, 5, b_changed, false⟩ := rfl
theorem t_led : T "" "led" = some ⟨2, 3, b_led, false⟩ := rfl
theorem t_before_start : T "" "before_start" = some ⟨1, 3, b_before_start, false⟩ := rfl
theorem t_before_step : T "" "before_step" = some ⟨3, 6, b_before_step, false⟩ := rfl
theorem t_behind_end : T "" "behind_end" = some ⟨1, 3, b_behind_end, false⟩ := rfl
theorem t_behind_step : T "" "behind_step" = some ⟨3, 6, b_behind_step, false⟩ := rfl
theorem t_all_behind : T "" "all_behind" = some ⟨2, 6, b_all_behind, false⟩ := rfl
theorem t_rule_starts : T "" "rule_starts" = some ⟨2, 3, b_rule_starts, false⟩ := rfl
theorem t_rule_steps : T "" "rule_steps" = some ⟨4, 10, b_rule_steps, false⟩ := rfl
theorem t_is_rule_end : T "" "is_rule_end" = some ⟨2, 2, b_is_rule_end, false⟩ := rfl
theorem t_Machine___init : T "Machine" "__init__" = some ⟨3, 3, b_Machine___init, false⟩ := rfl
theorem t_Machine_starts : T "Machine" "starts" = some ⟨1, 5, b_Machine_starts, false⟩ := rfl
theorem t_Machine_rule_run : T "Machine" "rule_run" = some ⟨4, 11, b_Machine_rule_run, false⟩ := rfl
theorem t_Machine_rule_step : T "Machine" "rule_step" = some ⟨4, 5, b_Machine_rule_step, false⟩ := rfl
theorem t_Machine_steps : T "Machine" "steps" = some ⟨3, 11, b_Machine_steps, true⟩ := rfl
theorem t_Machine_is_end : T "Machine" "is_end" = some ⟨2, 4, b_Machine_is_end, false⟩ := rfl
theorem t_Machine_is_stand : T "Machine" "is_stand" = some ⟨2, 2, b_Machine_is_stand, false⟩ := rfl
theorem t_stands_for : T "" "stands_for" = some ⟨2, 12, b_stands_for, false⟩ := rfl
theorem t_law_same : T "" "_law_same" = some ⟨2, 3, b_law_same, false⟩ := rfl
theorem t_law_pool : T "" "_law_pool" = some ⟨1, 3, b_law_pool, false⟩ := rfl
theorem t_law_spread : T "" "_law_spread" = some ⟨1, 4, b_law_spread, false⟩ := rfl
theorem t_law_draw : T "" "_law_draw" = some ⟨2, 5, b_law_draw, false⟩ := rfl
theorem t_law_sounds : T "" "_law_sounds" = some ⟨1, 1, b_law_sounds, false⟩ := rfl
theorem t_law_lot : T "" "_law_lot" = some ⟨2, 4, b_law_lot, false⟩ := rfl
theorem t_law_word : T "" "_law_word" = some ⟨3, 4, b_law_word, false⟩ := rfl
theorem t_law_slots : T "" "_law_slots" = some ⟨3, 5, b_law_slots, false⟩ := rfl
theorem t_law_law : T "" "_law_law" = some ⟨2, 4, b_law_law, false⟩ := rfl
theorem t_law_history : T "" "_law_history" = some ⟨3, 7, b_law_history, false⟩ := rfl
theorem t_law_holds : T "" "_law_holds" = some ⟨3, 5, b_law_holds, false⟩ := rfl
theorem t_law_applies : T "" "_law_applies" = some ⟨3, 6, b_law_applies, false⟩ := rfl
theorem t_law_changed : T "" "_law_changed" = some ⟨2, 4, b_law_changed, false⟩ := rfl
theorem t_law_led : T "" "_law_led" = some ⟨2, 4, b_law_led, false⟩ := rfl
theorem t_law_words : T "" "_law_words" = some ⟨2, 8, b_law_words, false⟩ := rfl
theorem t_law_flags_before : T "" "_law_flags_before" = some ⟨2, 5, b_law_flags_before, false⟩ := rfl
theorem t_law_flags_behind : T "" "_law_flags_behind" = some ⟨2, 3, b_law_flags_behind, false⟩ := rfl
theorem t_law_stand_at : T "" "_law_stand_at" = some ⟨3, 12, b_law_stand_at, false⟩ := rfl
theorem t_law : T "" "law" = some ⟨1, 17, b_law, false⟩ := rfl
theorem ok_wall : d_wall.Ok (Tof L) (fnsOf L) cons cl 40 := ⟨⟨rfl, rfl, rfl, by decide +kernel, rfl, by decide +kernel, by decide +kernel⟩, by kernel_rfl, rfl, fun _ _ _ _ _ _ us hl => match us, hl with | [_], _ => rfl⟩
theorem ok_slots_hold : d_slots_hold.Ok (Tof L) (fnsOf L) cons cl 40 := ⟨⟨rfl, rfl, rfl, by decide +kernel, rfl, by decide +kernel, by decide +kernel⟩, by kernel_rfl, rfl, fun _ _ _ _ _ _ us hl => match us, hl with | [_, _, _], _ => rfl⟩
theorem ok_applies : d_applies.Ok (Tof L) (fnsOf L) cons cl 40 := ⟨⟨rfl, rfl, rfl, by decide +kernel, rfl, by decide +kernel, by decide +kernel⟩, by kernel_rfl, rfl, fun _ _ _ _ _ _ us hl => match us, hl with | [_, _, _], _ => rfl⟩
theorem ok_changed : d_changed.Ok (Tof L) (fnsOf L) cons cl 40 := ⟨⟨rfl, rfl, rfl, by decide +kernel, rfl, by decide +kernel, by decide +kernel⟩, by kernel_rfl, rfl, fun _ _ _ _ _ _ us hl => match us, hl with | [_, _], _ => rfl⟩
theorem ok_led : d_led.Ok (Tof L) (fnsOf L) cons cl 40 := ⟨⟨rfl, rfl, rfl, by decide +kernel, rfl, by decide +kernel, by decide +kernel⟩, by kernel_rfl, rfl, fun _ _ _ _ _ _ us hl => match us, hl with | [_, _], _ => rfl⟩
theorem ok_before_start : d_before_start.Ok (Tof L) (fnsOf L) cons cl 40 := ⟨⟨rfl, rfl, rfl, by decide +kernel, rfl, by decide +kernel, by decide +kernel⟩, by kernel_rfl, rfl, fun _ _ _ _ _ _ us hl => match us, hl with | [_], _ => rfl⟩
theorem ok_before_step : d_before_step.Ok (Tof L) (fnsOf L) cons cl 40 := ⟨⟨rfl, rfl, rfl, by decide +kernel, rfl, by decide +kernel, by decide +kernel⟩, by kernel_rfl, rfl, fun _ _ _ _ _ _ us hl => match us, hl with | [_, _, _], _ => rfl⟩
theorem ok_behind_end : d_behind_end.Ok (Tof L) (fnsOf L) cons cl 40 := ⟨⟨rfl, rfl, rfl, by decide +kernel, rfl, by decide +kernel, by decide +kernel⟩, by kernel_rfl, rfl, fun _ _ _ _ _ _ us hl => match us, hl with | [_], _ => rfl⟩
theorem ok_behind_step : d_behind_step.Ok (Tof L) (fnsOf L) cons cl 40 := ⟨⟨rfl, rfl, rfl, by decide +kernel, rfl, by decide +kernel, by decide +kernel⟩, by kernel_rfl, rfl, fun _ _ _ _ _ _ us hl => match us, hl with | [_, _, _], _ => rfl⟩
theorem ok_all_behind : d_all_behind.Ok (Tof L) (fnsOf L) cons cl 40 := ⟨⟨rfl, rfl, rfl, by decide +kernel, rfl, by decide +kernel, by decide +kernel⟩, by kernel_rfl, rfl, fun _ _ _ _ _ _ us hl => match us, hl with | [_, _], _ => rfl⟩
theorem ok_rule_starts : d_rule_starts.Ok (Tof L) (fnsOf L) cons cl 40 := ⟨⟨rfl, rfl, rfl, by decide +kernel, rfl, by decide +kernel, by decide +kernel⟩, by kernel_rfl, rfl, fun _ _ _ _ _ _ us hl => match us, hl with | [_, _], _ => rfl⟩
theorem ok_rule_steps : d_rule_steps.Ok (Tof L) (fnsOf L) cons cl 40 := ⟨⟨rfl, rfl, rfl, by decide +kernel, rfl, by decide +kernel, by decide +kernel⟩, by kernel_rfl, rfl, fun _ _ _ _ _ _ us hl => match us, hl with | [_, _, _, _], _ => rfl⟩
theorem ok_is_rule_end : d_is_rule_end.Ok (Tof L) (fnsOf L) cons cl 40 := ⟨⟨rfl, rfl, rfl, by decide +kernel, rfl, by decide +kernel, by decide +kernel⟩, by kernel_rfl, rfl, fun _ _ _ _ _ _ us hl => match us, hl with | [_, _], _ => rfl⟩
theorem ok_Machine___init : d_Machine___init.Ok (Tof L) (fnsOf L) cons cl 40 := ⟨⟨rfl, rfl, rfl, by decide +kernel, rfl, by decide +kernel, by decide +kernel⟩, by kernel_rfl, rfl, fun _ _ _ _ _ _ us hl => match us, hl with | [_, _, _], _ => rfl⟩
theorem ok_Machine_starts : d_Machine_starts.Ok (Tof L) (fnsOf L) cons cl 40 := ⟨⟨rfl, rfl, rfl, by decide +kernel, rfl, by decide +kernel, by decide +kernel⟩, by kernel_rfl, rfl, fun _ _ _ _ _ _ us hl => match us, hl with | [_], _ => rfl⟩
theorem ok_Machine_rule_run : d_Machine_rule_run.Ok (Tof L) (fnsOf L) cons cl 40 := ⟨⟨rfl, rfl, rfl, by decide +kernel, rfl, by decide +kernel, by decide +kernel⟩, by kernel_rfl, rfl, fun _ _ _ _ _ _ us hl => match us, hl with | [_, _, _, _], _ => rfl⟩
theorem ok_Machine_rule_step : d_Machine_rule_step.Ok (Tof L) (fnsOf L) cons cl 40 := ⟨⟨rfl, rfl, rfl, by decide +kernel, rfl, by decide +kernel, by decide +kernel⟩, by kernel_rfl, rfl, fun _ _ _ _ _ _ us hl => match us, hl with | [_, _, _, _], _ => rfl⟩
theorem ok_Machine_steps : d_Machine_steps.Ok (Tof L) (fnsOf L) cons cl 40 := ⟨⟨rfl, rfl, rfl, by decide +kernel, rfl, by decide +kernel, by decide +kernel⟩, by kernel_rfl, rfl, fun _ _ _ _ _ _ us hl => match us, hl with | [_, _, _], _ => rfl⟩
theorem ok_Machine_is_end : d_Machine_is_end.Ok (Tof L) (fnsOf L) cons cl 40 := ⟨⟨rfl, rfl, rfl, by decide +kernel, rfl, by decide +kernel, by decide +kernel⟩, by kernel_rfl, rfl, fun _ _ _ _ _ _ us hl => match us, hl with | [_, _], _ => rfl⟩
theorem ok_Machine_is_stand : d_Machine_is_stand.Ok (Tof L) (fnsOf L) cons cl 40 := ⟨⟨rfl, rfl, rfl, by decide +kernel, rfl, by decide +kernel, by decide +kernel⟩, by kernel_rfl, rfl, fun _ _ _ _ _ _ us hl => match us, hl with | [_, _], _ => rfl⟩
theorem ok_stands_for : d_stands_for.Ok (Tof L) (fnsOf L) cons cl 40 := ⟨⟨rfl, rfl, rfl, by decide +kernel, rfl, by decide +kernel, by decide +kernel⟩, by kernel_rfl, rfl, fun _ _ _ _ _ _ us hl => match us, hl with | [_, _], _ => rfl⟩
theorem ok_law_same : d_law_same.Ok (Tof L) (fnsOf L) cons cl 40 := ⟨⟨rfl, rfl, rfl, by decide +kernel, rfl, by decide +kernel, by decide +kernel⟩, by kernel_rfl, rfl, fun _ _ _ _ _ _ us hl => match us, hl with | [_, _], _ => rfl⟩
theorem ok_law_pool : d_law_pool.Ok (Tof L) (fnsOf L) cons cl 40 := ⟨⟨rfl, rfl, rfl, by decide +kernel, rfl, by decide +kernel, by decide +kernel⟩, by kernel_rfl, rfl, fun _ _ _ _ _ _ us hl => match us, hl with | [_], _ => rfl⟩
theorem ok_law_spread : d_law_spread.Ok (Tof L) (fnsOf L) cons cl 40 := ⟨⟨rfl, rfl, rfl, by decide +kernel, rfl, by decide +kernel, by decide +kernel⟩, by kernel_rfl, rfl, fun _ _ _ _ _ _ us hl => match us, hl with | [_], _ => rfl⟩
theorem ok_law_draw : d_law_draw.Ok (Tof L) (fnsOf L) cons cl 40 := ⟨⟨rfl, rfl, rfl, by decide +kernel, rfl, by decide +kernel, by decide +kernel⟩, by kernel_rfl, rfl, fun _ _ _ _ _ _ us hl => match us, hl with | [_, _], _ => rfl⟩
theorem ok_law_sounds : d_law_sounds.Ok (Tof L) (fnsOf L) cons cl 40 := ⟨⟨rfl, rfl, rfl, by decide +kernel, rfl, by decide +kernel, by decide +kernel⟩, by kernel_rfl, rfl, fun _ _ _ _ _ _ us hl => match us, hl with | [_], _ => rfl⟩
theorem ok_law_lot : d_law_lot.Ok (Tof L) (fnsOf L) cons cl 40 := ⟨⟨rfl, rfl, rfl, by decide +kernel, rfl, by decide +kernel, by decide +kernel⟩, by kernel_rfl, rfl, fun _ _ _ _ _ _ us hl => match us, hl with | [_, _], _ => rfl⟩
theorem ok_law_word : d_law_word.Ok (Tof L) (fnsOf L) cons cl 40 := ⟨⟨rfl, rfl, rfl, by decide +kernel, rfl, by decide +kernel, by decide +kernel⟩, by kernel_rfl, rfl, fun _ _ _ _ _ _ us hl => match us, hl with | [_, _, _], _ => rfl⟩
theorem ok_law_slots : d_law_slots.Ok (Tof L) (fnsOf L) cons cl 40 := ⟨⟨rfl, rfl, rfl, by decide +kernel, rfl, by decide +kernel, by decide +kernel⟩, by kernel_rfl, rfl, fun _ _ _ _ _ _ us hl => match us, hl with | [_, _, _], _ => rfl⟩
theorem ok_law_law : d_law_law.Ok (Tof L) (fnsOf L) cons cl 40 := ⟨⟨rfl, rfl, rfl, by decide +kernel, rfl, by decide +kernel, by decide +kernel⟩, by kernel_rfl, rfl, fun _ _ _ _ _ _ us hl => match us, hl with | [_, _], _ => rfl⟩
theorem ok_law_history : d_law_history.Ok (Tof L) (fnsOf L) cons cl 40 := ⟨⟨rfl, rfl, rfl, by decide +kernel, rfl, by decide +kernel, by decide +kernel⟩, by kernel_rfl, rfl, fun _ _ _ _ _ _ us hl => match us, hl with | [_, _, _], _ => rfl⟩
theorem ok_law_holds : d_law_holds.Ok (Tof L) (fnsOf L) cons cl 40 := ⟨⟨rfl, rfl, rfl, by decide +kernel, rfl, by decide +kernel, by decide +kernel⟩, by kernel_rfl, rfl, fun _ _ _ _ _ _ us hl => match us, hl with | [_, _, _], _ => rfl⟩
theorem ok_law_applies : d_law_applies.Ok (Tof L) (fnsOf L) cons cl 40 := ⟨⟨rfl, rfl, rfl, by decide +kernel, rfl, by decide +kernel, by decide +kernel⟩, by kernel_rfl, rfl, fun _ _ _ _ _ _ us hl => match us, hl with | [_, _, _], _ => rfl⟩
theorem ok_law_changed : d_law_changed.Ok (Tof L) (fnsOf L) cons cl 40 := ⟨⟨rfl, rfl, rfl, by decide +kernel, rfl, by decide +kernel, by decide +kernel⟩, by kernel_rfl, rfl, fun _ _ _ _ _ _ us hl => match us, hl with | [_, _], _ => rfl⟩
theorem ok_law_led : d_law_led.Ok (Tof L) (fnsOf L) cons cl 40 := ⟨⟨rfl, rfl, rfl, by decide +kernel, rfl, by decide +kernel, by decide +kernel⟩, by kernel_rfl, rfl, fun _ _ _ _ _ _ us hl => match us, hl with | [_, _], _ => rfl⟩
theorem ok_law_words : d_law_words.Ok (Tof L) (fnsOf L) cons cl 40 := ⟨⟨rfl, rfl, rfl, by decide +kernel, rfl, by decide +kernel, by decide +kernel⟩, by kernel_rfl, rfl, fun _ _ _ _ _ _ us hl => match us, hl with | [_, _], _ => rfl⟩
theorem ok_law_flags_before : d_law_flags_before.Ok (Tof L) (fnsOf L) cons cl 40 := ⟨⟨rfl, rfl, rfl, by decide +kernel, rfl, by decide +kernel, by decide +kernel⟩, by kernel_rfl, rfl, fun _ _ _ _ _ _ us hl => match us, hl with | [_, _], _ => rfl⟩
theorem ok_law_flags_behind : d_law_flags_behind.Ok (Tof L) (fnsOf L) cons cl 40 := ⟨⟨rfl, rfl, rfl, by decide +kernel, rfl, by decide +kernel, by decide +kernel⟩, by kernel_rfl, rfl, fun _ _ _ _ _ _ us hl => match us, hl with | [_, _], _ => rfl⟩
theorem ok_law_stand_at : d_law_stand_at.Ok (Tof L) (fnsOf L) cons cl 40 := ⟨⟨rfl, rfl, rfl, by decide +kernel, rfl, by decide +kernel, by decide +kernel⟩, by kernel_rfl, rfl, fun _ _ _ _ _ _ us hl => match us, hl with | [_, _, _], _ => rfl⟩
theorem ok_law : d_law.Ok (Tof L) (fnsOf L) cons cl 40 := ⟨⟨rfl, rfl, rfl, by decide +kernel, rfl, by decide +kernel, by decide +kernel⟩, by kernel_rfl, rfl, fun _ _ _ _ _ _ us hl => match us, hl with | [_], _ => rfl⟩
theorem ok_all : ∀ i ∈ L, i.Ok (Tof L) (fnsOf L) cons cl 40 := by
  intro i hi
  simp only [L, List.mem_cons, List.not_mem_nil, or_false] at hi
  rcases hi with rfl | rfl | rfl | rfl | rfl | rfl | rfl | rfl | rfl | rfl | rfl | rfl | rfl | rfl | rfl | rfl | rfl | rfl | rfl | rfl | rfl | rfl | rfl | rfl | rfl | rfl | rfl | rfl | rfl | rfl | rfl | rfl | rfl | rfl | rfl | rfl | rfl | rfl | rfl | rfl
  · exact ok_wall
  · exact ok_slots_hold
  · exact ok_applies
  · exact ok_changed
  · exact ok_led
  · exact ok_before_start
  · exact ok_before_step
  · exact ok_behind_end
  · exact ok_behind_step
  · exact ok_all_behind
  · exact ok_rule_starts
  · exact ok_rule_steps
  · exact ok_is_rule_end
  · exact ok_Machine___init
  · exact ok_Machine_starts
  · exact ok_Machine_rule_run
  · exact ok_Machine_rule_step
  · exact ok_Machine_steps
  · exact ok_Machine_is_end
  · exact ok_Machine_is_stand
  · exact ok_stands_for
  · exact ok_law_same
  · exact ok_law_pool
  · exact ok_law_spread
  · exact ok_law_draw
  · exact ok_law_sounds
  · exact ok_law_lot
  · exact ok_law_word
  · exact ok_law_slots
  · exact ok_law_law
  · exact ok_law_history
  · exact ok_law_holds
  · exact ok_law_applies
  · exact ok_law_changed
  · exact ok_law_led
  · exact ok_law_words
  · exact ok_law_flags_before
  · exact ok_law_flags_behind
  · exact ok_law_stand_at
  · exact ok_law
end K04

/-! K04L: the law k04, of every script. -/
namespace K04
open Sd Sd.Gen Sd.Mach
theorem gt : GT T := ⟨rfl, rfl, rfl, rfl, rfl, rfl, rfl, rfl, rfl, rfl⟩
theorem mt : MT T := ⟨rfl, rfl, rfl, rfl, rfl, rfl, rfl, rfl, rfl, rfl, rfl, rfl, rfl, rfl⟩
theorem wt : WT T := ⟨rfl, rfl, rfl, rfl⟩
theorem wlt : WLT T := ⟨rfl, rfl, rfl, rfl⟩
theorem slt : SLT T := ⟨rfl, rfl, rfl⟩
theorem rl_of {s : List Nat} {r : Rule} (hs : Sounds s) (hr : RuleOk s r) : RL r where
  nd := hr.ch.sub.nodup hs.nodup
  len := by
    have := hr.ch.sub.length_le
    have := hs.len
    simp only [List.length_map] at *
    omega
  out := fun q hq => (hr.ch.out q hq).2
  bf := by have := hr.bf.1; omega
  bh := by have := hr.bh.1; omega
theorem fin_bl {h h1 : Hh} {b : Bool} : ∃ h2, fin h h1 (.bl b) = .ok (.bl b) h2 := by
  unfold fin
  split
  · exact ⟨_, rfl⟩
  · split
    · exact ⟨_, rfl⟩
    · exact ⟨_, rfl⟩
section
variable {h : Hh} {hist : List Rule} {s : List Nat} {l : Nat} {qs : List Key}
theorem MAt_set (m : MAt hist s l qs h) {i : Nat} {o : Ob} (h1 : i ≠ l) (h2 : i ≠ l + 1) : MAt hist s l qs (h.set i o) :=
  ⟨by rw [List.getElem?_set_ne h1]; exact m.ob, by rw [List.getElem?_set_ne h2]; exact m.ch, m.nd, m.ok⟩
theorem cnt_one {α : Type} [DecidableEq α] {x : α} : ∀ {l : List α}, l.Nodup → x ∈ l → cnt x l = 1
  | [], _, h => by simp at h
  | a :: l, hn, h => by
    rw [List.nodup_cons] at hn
    unfold cnt
    rw [List.countP_cons]
    by_cases e : a = x
    · subst e
      have : cnt a l = 0 := by
        have := hn.1
        rw [← cnt_mem] at this
        omega
      rw [show List.countP (fun b => decide (b = a)) l = 0 from this]
      simp
    · rcases List.mem_cons.mp h with h | h
      · exact absurd h.symm e
      · rw [show List.countP (fun b => decide (b = x)) l = 1 from cnt_one hn.2 h]
        simp [e]
theorem idx_fz {α : Type} {f : α → Sd.D} {xs : List α} {k : Nat} {a : α} (ha : xs[k]? = some a) : o2F .idx h (.fz (xs.map f)) (.int (k : Nat)) = some (f a) := idx_map (i := (k : Nat)) rfl ha
theorem idx_fzL {α : Type} {f : α → Sd.D} {xs : List α} {a : α} (ha : xs.getLast? = some a) : o2F .idx h (.fz (xs.map f)) (.int (-1)) = some (f a) := last_idx ha
end
theorem holds_plain (ns : List Int) : ∃ h', callF T 20 "" "law" [.fz (ns.map .int)] [] = .ok (.bl true) h' := by
  have main : Ok (callF T (19 + 1) "" "law" [.fz (ns.map .int)] []) fun v _ => v = .bl true := by
    refine W.fn t_law rfl ?_
    unfold b_law
    simp only [startD, List.map_cons, List.map_nil, List.cons_append, List.nil_append, List.length_cons, List.length_nil, List.replicate, Nat.reduceAdd, Nat.reduceSub]
    refine W.cons (W.set (W.alcL ?_))
    walk_at "S"
    refine (pool_ok (d := 18) gt ns).mono fun v h1 q => ?_
    obtain ⟨rfl, xs, rfl, hp⟩ := q
    refine ⟨xs, rfl, by simp, W.nx ?_⟩
    have a0 : At 0 ([] ++ [Ob.lst xs]) ([] ++ [Ob.lst xs]) := At.start rfl hp
    walk_at "S"
    refine (sounds_ok (d := 16) gt a0).mono fun v h1 q => ?_
    obtain ⟨⟨s, rfl, hs⟩, a1⟩ := q
    have hs3 := hs.len
    walk_at "S"
    refine (history_ok (d := 13) gt a1 hs.ne (by omega) (by decide) (by decide)).mono fun v h2 q => ?_
    obtain ⟨⟨hist, rfl, hrs, hrl⟩, a2⟩ := q
    have hl2 : h2.length = 1 := a2.len
    have H : HK hist s := ⟨fun r hr => RuleOk.rk hs.nodup (hrs r hr), by omega, hs3⟩
    walk_at "S"
    refine Ok.ofEq (init_ok (d := 18) mt (l := h2.length) (by exact W.last_get) (by simp)) ⟨rfl, ?_⟩
    walk_at "S"
    have e0 : (h2 ++ [Ob.ins "Machine" []]).set h2.length (.ins "Machine" (mfs hist s (h2.length + 1))) ++ [.dic [] []] = (h2 ++ [Ob.ins "Machine" (mfs hist s (h2.length + 1))]) ++ [.dic [] []] := by rw [W.last_set]
    rw [e0]
    have m0 : MAt hist s h2.length [] ((h2 ++ [Ob.ins "Machine" (mfs hist s (h2.length + 1))]) ++ [.dic [] []]) := by
      refine ⟨?_, ?_, List.nodup_nil, by simp⟩
      · rw [List.getElem?_append_left (by simp)]; exact W.last_get
      · have := W.last_get (h1 := h2 ++ [Ob.ins "Machine" (mfs hist s (h2.length + 1))]) (o := .dic [] [])
        rwa [List.length_append] at this
    have hpool : ∃ o, ((h2 ++ [Ob.ins "Machine" (mfs hist s (h2.length + 1))]) ++ [Ob.dic [] []])[0]? = some o ∧ PoolOb o := by
      obtain ⟨o, _, po, e⟩ := id a2
      exact ⟨o, by rw [List.append_assoc, List.getElem?_append_left (by omega)]; exact e, po⟩
    have hlen3 : ((h2 ++ [Ob.ins "Machine" (mfs hist s (h2.length + 1))]) ++ [Ob.dic [] []]).length = 3 := by simp [hl2]
    rw [hl2] at m0 hlen3 hpool ⊢
    generalize ((h2 ++ [Ob.ins "Machine" (mfs hist s (1 + 1))]) ++ [Ob.dic [] []]) = h3 at m0 hlen3 hpool ⊢
    have hn2 : hist.length ≤ 2 := by omega
    have hr2 : ∀ r ∈ hist, RL r := fun r hr => rl_of hs (hrs r hr)
    have h35 : 35 ∉ s := by rcases hs with rfl | rfl | rfl <;> decide
    have hst16 : (startsF hist s).length ≤ 16 := by
      have h1 := startsP_few (s := s) H.rules
      have h2 : 4 ^ hist.length ≤ 4 ^ 2 := Nat.pow_le_pow_right (by decide) hn2
      rw [startsF_P]
      omega
    have hstn : (startsF hist s).Nodup := by rw [startsF_P]; exact startsP_nodup s hist
    walk_at "S"
    refine ⟨1, "Machine", mfs hist s 2, rfl, m0.ob, ⟨by decide, rfl⟩, ?_⟩
    walk_at "S"
    refine Ok.ofEq (m_starts_ok (d := 15) mt H m0) ?_
    refine ⟨by simp, W.nx (W.cons (W.cond (W.o2 (W.o1 (W.var rfl ⟨_, rfl, W.o1 (W.var rfl ⟨_, stE.lset (xs := startsF hist s) rfl hstn (by omega), ?_⟩)⟩)))))⟩
    refine ⟨_, W.neI, _, rfl, fun hf => absurd hf (by simp), fun _ => W.nil (W.nx (W.cons ?_))⟩
    refine W.forr (W.val (W.o2 (W.slice (W.call (W.es (W.var rfl (W.es (W.cst (W.es0 ?_)))))))))
    refine (law_words_ok (d := 18) rfl (m := 4) hs3 (by decide)).mono fun v h4 q => ?_
    obtain ⟨rfl, rfl⟩ := q
    obtain ⟨_, hwe⟩ := words_each s 4
    refine W.cst (W.o1 (W.cst ⟨_, rfl, ⟨_, rfl, ?_⟩⟩))
    refine W.lst (W.es (W.call (W.es (W.var rfl (W.es (W.var rfl (W.es (W.cst (W.es0 ?_)))))))))
    obtain ⟨po, hpo, hpb⟩ := hpool
    refine (word_ok (d := 16) gt (At.start hpo hpb) hs.ne (by omega) (by decide) (by decide)).mono fun v h6 q => ?_
    obtain ⟨⟨w, rfl, hw1, hw2⟩, a4⟩ := q
    have m1 : MAt hist s 1 [] h6 := ⟨(a4.other (by decide)).trans m0.ob, (a4.other (by decide)).trans m0.ch, m0.nd, m0.ok⟩
    have hcut : Sd.cut ((wordsM s 4).1.map D.str) none (some 40) = ((wordsM s 4).1.take 40).map D.str := by
      rw [show (40 : Int) = ((40 : Nat) : Int) from rfl, cut_to, List.map_take]
    refine W.es0 ⟨_, addL (xs := ((wordsM s 4).1.take 40).map D.str) (ys := [D.str w]) (by rw [← hcut]; rfl) rfl (fun _ z => nomatch z) (fun _ z => nomatch z) (fun _ z => nomatch z) (by
      simp only [List.length_map, List.length_take, List.length_cons, List.length_nil]
      unfold line
      omega), ?_⟩
    have hall : ∀ (i : Nat) (x : Sd.D), (((wordsM s 4).1.take 40).map D.str ++ [D.str w])[i]? = some x → ∃ u : List Nat, x = D.str u ∧ u.length ≤ 8 ∧ ∀ c ∈ u, c ∈ s := by
      intro i x hx
      rcases List.mem_append.mp (List.mem_of_getElem? hx) with hm | hm
      · obtain ⟨u, hu, rfl⟩ := List.mem_map.mp hm
        have := hwe u (List.mem_of_mem_take hu)
        exact ⟨u, rfl, by omega, this.2⟩
      · rw [List.mem_singleton.mp hm]
        exact ⟨w, rfl, by omega, hw1⟩
    refine ⟨_, rfl, fun i σ h' => ∃ (qs : List Key) (o6 o7 o8 o9 o10 o11 o12 o13 o14 o15 o16 : Option Sd.D), σ = [some (.fz (ns.map .int)), some (.ref 0), some (.str s), some (.tup (hist.map ruleD)), some (.ref 1), some (.fz ((startsF hist s).map stD)), o6, o7, o8, o9, o10, o11, o12, o13, o14, o15, o16] ∧ MAt hist s 1 qs h', ⟨_, _, _, _, _, _, _, _, _, _, _, _, rfl, m1⟩, fun _ _ _ _ => wat_nil _ _, ?_, ?_⟩
    · rintro i x σ h' hx ⟨qs, o6, o7, o8, o9, o10, o11, o12, o13, o14, o15, o16, rfl, m⟩
      obtain ⟨u, rfl, hu8, hus⟩ := hall i x hx
      have hul : u.length ≤ line := by unfold line; omega
      have due := due_ok H h35 hrs hus
      obtain ⟨way, outs, hdue⟩ : ∃ way outs, dueW hist u = (way, outs) := ⟨_, _, rfl⟩
      rw [hdue] at due
      simp only at due
      have hpow : u.length * 2 ^ hist.length ≤ 32 := by
        have h2 : 2 ^ hist.length ≤ 2 ^ 2 := Nat.pow_le_pow_right (by decide) hn2
        have := Nat.mul_le_mul hu8 h2
        omega
      refine ⟨_, rfl, ?_⟩
      refine W.cons (W.setT (W.call (W.es (W.var rfl (W.es (W.var rfl (W.es0 ?_)))))))
      refine (stands_for_ok (d := 12) rfl mt H m hu8 hus).mono fun v h7 q => ?_
      obtain ⟨rfl, t⟩ := q
      obtain ⟨qs1, _, m⟩ := id t
      rw [hdue]
      refine ⟨_, rfl, W.nx (W.cons (W.set (W.compR (m := u.length + 1) (fun i => stD (sAt hist (u.take i) (u.drop i))) (by omega) (by simp [Sd.wipe]) ?_ (fun p hp => ?_) ?_)))⟩
      · refine W.o2 (W.o1 (W.var rfl ⟨_, len_str hul, W.cst ⟨_, rfl, rfl, rfl⟩⟩))
      · refine W.call (W.es (W.var rfl (W.es (W.var rfl (W.es (W.var rfl (W.es0 ?_)))))))
        refine Ok.ofEq (stand_at_ok (d := 16) slt wlt hr2 (by omega) (by omega) (by omega)) ⟨?_, rfl⟩
        rw [sLaw_eq h35 hrs]
        rfl
      have hway : (List.range (u.length + 1)).map (fun i => stD (sAt hist (u.take i) (u.drop i))) = way.map stD := by
        rw [due.at_, List.map_map]
        rfl
      rw [hway]
      refine ⟨by simp, W.nx (W.cons (W.cond (W.or (W.o1 (W.call (W.es (W.var rfl (W.es (W.var rfl (W.es0 ?_)))))))))) ⟩
      refine (same_ok (d := 14) (n := 4) gt (.fz (way.map stD)) ?_).mono fun v h8 q => ?_
      · simp only [dat, Bool.and_eq_true, List.all_eq_true, decide_eq_true_eq, List.length_map]
        refine ⟨fun x hx => ?_, by rw [due.at_, List.length_map, List.length_range]; omega⟩
        obtain ⟨st, hst, rfl⟩ := List.mem_map.mp hx
        exact dat_st H (due.ok st hst) 0
      obtain ⟨rfl, rfl⟩ := q
      refine ⟨_, rfl, _, rfl, fun _ => ?_, fun hf => Bool.noConfusion hf⟩
      refine W.or (W.o2 (W.o1 (W.var rfl ⟨_, rfl, W.o1 (W.var rfl ⟨_, len_str hul, _, W.neI, _, rfl, fun _ => ?_, fun hf => absurd hf (by simp [due.olen])⟩)⟩)))
      have hjl : ((outs.map id).map List.length).sum ≤ line := by
        have e1 := congrArg List.length due.join
        have e2 := led_len (rs := hist) (fun r hr => (hr2 r hr).toRF) u
        rw [List.length_flatten] at e1
        rw [List.map_id]
        unfold line; omega
      have hjoin : ∀ h : Hh, o2F .join h (.str []) (.fz (outs.map .str)) = some (.str (ledM hist u)) := fun h => by
        have := join_map (h := h) (f := id) hjl
        rw [List.map_id, due.join] at this
        exact this
      refine W.or (W.o2 (W.o2 (W.cst (W.var rfl ⟨_, hjoin _, W.call (W.es (W.var rfl (W.es (W.var rfl (W.es0 ?_)))))⟩))))
      refine (law_led_ok (d := 15) wlt (by omega) hr2).mono fun v h9 q => ?_
      obtain ⟨rfl, rfl⟩ := q
      refine ⟨_, W.neS, _, rfl, fun _ => ?_, fun hf => absurd hf (by simp)⟩
      refine W.o2 (W.call (W.es (W.var rfl (W.es (W.var rfl (W.es0 ?_))))))
      refine (led_ok (d := 15) wt (by omega) (fun r hr => (hr2 r hr).toRF)).mono fun v h10 q => ?_
      obtain ⟨rfl, rfl⟩ := q
      refine W.call (W.es (W.var rfl (W.es (W.var rfl (W.es0 ?_)))))
      refine (law_led_ok (d := 15) wlt (by omega) hr2).mono fun v h11 q => ?_
      obtain ⟨rfl, rfl⟩ := q
      refine ⟨_, W.neS, _, rfl, fun hf => absurd hf (by simp), fun _ => W.nil (W.nx (W.cons ?_))⟩
      obtain ⟨st0, hs0, hs0m⟩ := due.first
      obtain ⟨stl, hsl, hslok, hsle⟩ := due.last
      refine W.cond (W.or (W.o2 (W.o2 (W.var rfl (W.cst ⟨_, idx_fz (k := 0) hs0, W.var rfl ⟨_, notin_list (eD := stD) (eP := stP) (xs := startsF hist s) (fun a s z => by simp [stD] at z) (fun f => st_pd (n := 56) f) st_eqv rfl, _, rfl, fun _ => ?_, fun hf => absurd hf (by simp [hs0m])⟩⟩)))))
      refine W.o1 (W.call (W.es (W.meth (W.var rfl ⟨1, "Machine", mfs hist s 2, rfl, m.ob, ⟨by decide, rfl⟩, W.es (W.o2 (W.var rfl (W.o1 (W.cst ⟨_, rfl, ⟨_, idx_fzL hsl, W.es0 ?_⟩⟩))))⟩))))
      refine Ok.ofEq (m_is_end_ok (d := 16) mt H m hslok) ?_
      rw [hsle]
      refine W.es (W.cst (W.es0 ?_))
      refine (same_ok (d := 18) (n := 0) gt (.bl true) rfl).mono fun v h12 q => ?_
      obtain ⟨rfl, rfl⟩ := q
      refine ⟨_, rfl, _, rfl, fun hf => Bool.noConfusion hf, fun _ => W.nil (W.nx (W.cons ?_))⟩
      refine W.set (W.o1 (W.compV (xs := startsF hist s) stD (fun st => .tup [stD st, .int 1]) (by unfold line; omega) (by simp [Sd.wipe]) ?_ (fun st hst => ?_) ?_))
      · exact W.var rfl ⟨⟨_, rfl⟩, rfl⟩
      · exact W.tup (W.es (W.var rfl (W.es (W.cst (W.es0 ⟨rfl, rfl⟩)))))
      refine ⟨_, stE.dictOf (xs := startsF hist s) (f := fun _ => .int 1) rfl hstn (fun ys z => nomatch z), ⟨by simp, W.nx (W.cons ?_)⟩⟩
      let P : Nat → List St := fun k => endsF hist s (u.take k)
      have hus' : ∀ k, ∀ c ∈ u.take k, c ∈ s := fun k c hc => hus c (List.mem_of_mem_take hc)
      refine W.forR (m := u.length) (fun k σ h' => ∃ (qs : List Key) (ks : List St) (mv : Sd.D) (o9 o11 o13 o14 o15 o16 : Option Sd.D), σ = [some (.fz (ns.map .int)), some (.ref 0), some (.str s), some (.tup (hist.map ruleD)), some (.ref 1), some (.fz ((startsF hist s).map stD)), some (.str u), some (.fz (way.map stD)), some (.fz (outs.map .str)), o9, some (.fz (way.map stD)), o11, some mv, o13, o14, o15, o16] ∧ MAt hist s 1 qs h' ∧
        stE.Has h' mv (fun st => .int (cnt st (P k) : Nat)) ks ∧ ks.Nodup ∧ (∀ st, st ∈ ks ↔ st ∈ P k) ∧ ∀ l, mv = .ref l → 3 ≤ l) (by omega) ?_ ?_ ?_ ?_
      · refine W.o1 (W.var rfl ⟨_, len_str hul, rfl, qs1, startsF hist s, _, o9, _, _, _, _, _, rfl, m, ⟨?_, .inl ?_⟩, hstn, fun st => by simp only [P, List.take_zero, endsF_nil], fun l z => nomatch z⟩)
        · have := endsF_ne (w := []) H (by simp)
          rwa [endsF_nil] at this
        · simp only [Sd.D.keep, P, List.take_zero, endsF_nil]
          congr 1
          refine List.map_congr_left fun st hst => ?_
          rw [cnt_one hstn hst]
          rfl
      · rintro k σ h' ⟨qs, ks, mv, o9, o11, o13, o14, o15, o16, rfl, _⟩; simp
      · rintro k σ h' hk ⟨qs, ks, mv, o9, o11, o13, o14, o15, o16, rfl, m, hmv, hksn, hksm, hm3⟩
        obtain ⟨c, hc⟩ : ∃ c, u[k]? = some c := ⟨_, List.getElem?_eq_getElem hk⟩
        have hcs : c ∈ s := hus c (List.mem_of_getElem? hc)
        have hidx : ∀ h : Hh, o2F .idx h (.str u) (.int (k : Nat)) = some (.str [c]) := fun h => by
          rw [here_in (h := h) (w := u) (i := (k : Nat)) (by omega) (by omega) hul]
          simp [hereM, hc]
        obtain ⟨x, y, o, hx, hy, ho, hxok, hstep⟩ := due.step k c hc
        have hP1 : P (k + 1) = (P k).flatMap fun st => (stepsF hist s st c).map (·.1) := by
          simp only [P]
          rw [List.take_succ, hc]
          exact endsF_snoc _ _ _ _
        have hPok : ∀ st ∈ P k, StOk hist st := endsF_ok H (hus' k)
        let F : St → List (St × List Nat) := fun st => stepsF hist s st c
        let Q : Nat → List St := fun j => wide (ks.take j) (P k) F
        have hwide : ∀ (ks' : List St), (∀ st ∈ ks', st ∈ ks) → ∀ st' ∈ wide ks' (P k) F, StOk hist st' := fun ks' hks' st' hst' => by
          obtain ⟨st2, h1, h2⟩ := List.mem_flatMap.mp hst'
          obtain ⟨q, h3, h4⟩ := List.mem_flatMap.mp h2
          rw [(List.mem_replicate.mp h4).2]
          exact steps_st H (hPok st2 ((hksm st2).mp (hks' st2 h1))) hcs q h3
        have hlt := m.lt
        have hlf : ∀ l, mv = .ref l → l ≠ h'.length ∧ l ≠ 1 ∧ l ≠ 1 + 1 := fun l hl => by
          have h1 := hmv.lt hl
          have h2 := hm3 l hl
          omega
        refine W.cons (W.set (W.alcDic ⟨by simp, W.nx (W.cons ?_)⟩))
        refine W.forV (xs := ks) (ws := []) stD (fun j σ h2 => ∃ (qs : List Key) (ks2 : List St) (o11 o14 o15 o16 : Option Sd.D), σ = [some (.fz (ns.map .int)), some (.ref 0), some (.str s), some (.tup (hist.map ruleD)), some (.ref 1), some (.fz ((startsF hist s).map stD)), some (.str u), some (.fz (way.map stD)), some (.fz (outs.map .str)), some (.int (k : Nat)), some (.fz (way.map stD)), o11, some mv, some (.ref h'.length), o14, o15, o16] ∧ MAt hist s 1 qs h2 ∧
          h2[h'.length]? = some (stE.ob (fun st => .int (cnt st (Q j) : Nat)) ks2) ∧ ks2.Nodup ∧ (∀ st, st ∈ ks2 ↔ st ∈ Q j) ∧ ∀ l, mv = .ref l → h2[l]? = h'[l]?) ?_ ?_ ?_
        · refine W.o1 (W.var rfl ⟨_, (hmv.mono (h2 := h' ++ [.dic [] []]) fun l hl => List.getElem?_append_left (hmv.lt hl)).list, rfl, ⟨qs, [], o11, o14, o15, o16, rfl, m.app _, ?_, List.nodup_nil, fun st => ?_, fun l hl => List.getElem?_append_left (hmv.lt hl)⟩, ?_, fun _ _ _ _ => wat_nil _ _⟩)
          · simp [Enc.ob]
          · simp [Q, wide]
          · rintro j σ h2 ⟨qs, ks2, o11, o14, o15, o16, rfl, _⟩; simp
        · rintro j st σ h2 hj ⟨qs, ks2, o11, o14, o15, o16, rfl, m2, hl2, hn2', hm2, hk2⟩
          have hstk := List.mem_of_getElem? hj
          have hstP := (hksm st).mp hstk
          have hstok := hPok st hstP
          have hpos : 0 < cnt st (P k) := cnt_mem.mpr hstP
          refine W.cons (W.set (W.meth (W.var rfl ⟨1, "Machine", mfs hist s 2, rfl, m2.ob, ⟨by decide, rfl⟩, W.es (W.var rfl (W.es (W.o2 (W.var rfl (W.var rfl ⟨_, hidx _, W.es0 ?_⟩)))))⟩)))
          refine (m_steps_ok (d := 13) mt H m2 hstok hcs).mono fun v h3 q => ?_
          obtain ⟨rfl, t3⟩ := q
          obtain ⟨qs3, _, m3⟩ := id t3
          have hFn : (F st).Nodup := by simp only [F]; rw [stepsF_W]; exact stepsW_nodup _ _ _
          have hFl : (F st).length < 64 := by
            have h1 := stepsF_few H hstok hcs
            have h2 : 4 ^ hist.length ≤ 4 ^ 2 := Nat.pow_le_pow_right (by decide) hn2
            simp only [F]; omega
          refine ⟨by simp, W.nx (W.cons (W.cond (W.o2 (W.o1 (W.var rfl ⟨_, rfl, W.o1 (W.var rfl ⟨_, srE.lset (xs := F st) rfl hFn hFl, _, W.neI, _, rfl, fun hf => absurd hf (by simp [F]), fun _ => W.nil (W.nx (W.cons ?_))⟩)⟩)))))⟩
          let R : Nat → List St := fun n => ((F st).take n).flatMap fun q => List.replicate (cnt st (P k)) q.1
          have hl3 := (t3.other (i := h'.length) (by omega)).trans hl2
          have hk3 : ∀ l, mv = .ref l → h3[l]? = h'[l]? := fun l hl => (t3.other (hlf l hl).2.2).trans (hk2 l hl)
          refine forP (xs := F st) (ws := []) (fun y => stD y.1) (fun y => .str y.2) (fun n σ h4 => ∃ (qs : List Key) (ks3 : List St) (o15 o16 : Option Sd.D), σ = [some (.fz (ns.map .int)), some (.ref 0), some (.str s), some (.tup (hist.map ruleD)), some (.ref 1), some (.fz ((startsF hist s).map stD)), some (.str u), some (.fz (way.map stD)), some (.fz (outs.map .str)), some (.int (k : Nat)), some (.fz (way.map stD)), some (stD st), some mv, some (.ref h'.length), some (valD hist s (.ss st c)), o15, o16] ∧ MAt hist s 1 qs h4 ∧
            h4[h'.length]? = some (stE.ob (fun st => .int (cnt st (Q j ++ R n) : Nat)) ks3) ∧ ks3.Nodup ∧ (∀ st, st ∈ ks3 ↔ st ∈ Q j ++ R n) ∧ ∀ l, mv = .ref l → h4[l]? = h'[l]?) ?_ ?_ ?_
          · refine W.var rfl ⟨rfl, ⟨qs3, ks2, o15, o16, rfl, m3, ?_, hn2', fun st => ?_, hk3⟩, ?_, fun _ _ _ _ => wat_nil _ _⟩
            · rw [hl3]; simp [R]
            · rw [hm2]; simp [R]
            · rintro n σ h4 ⟨qs, ks3, o15, o16, rfl, _⟩; simp
          · rintro n z σ h4 hn ⟨qs4, ks3, o15, o16, rfl, m4, hl4, hn4, hm4, hk4⟩
            have hzF := List.mem_of_getElem? hn
            have hR1 : R (n + 1) = R n ++ List.replicate (cnt st (P k)) z.1 := by
              simp only [R]
              rw [flat_snoc hn]
            have hcnt : ∀ a, cnt a (Q j ++ R (n + 1)) = cnt a (Q j ++ R n) + if z.1 = a then cnt st (P k) else 0 := fun a => by
              rw [hR1, ← List.append_assoc, cnt_app, cnt_rep]
            have hok3 : ∀ a ∈ ks3, StOk hist a := fun a ha => by
              rcases List.mem_append.mp ((hm4 a).mp ha) with z | z
              · exact hwide _ (fun b hb => List.mem_of_mem_take hb) a z
              · obtain ⟨q, h1, h2⟩ := List.mem_flatMap.mp z
                rw [(List.mem_replicate.mp h2).2]
                exact steps_st H hstok hcs q (List.mem_of_mem_take h1)
            have hl3n : ks3.length < lineN := by
              have := st_few H hn4 hok3
              unfold lineN; omega
            have hdic : isDic h4 (.ref h'.length) = true := by
              unfold isDic
              cases ks3 with
              | nil => simp [Sd.dict, hl4, Enc.ob]
              | cons a b => simp [Sd.dict, Sd.dictn, hl4, Enc.ob]
            have hold : ∃ r, dlook h4 (.ref h'.length) (stD z.1) = some r ∧ r.getD (.int 0) = .int (cnt z.1 (Q j ++ R n) : Nat) := by
              refine ⟨_, stE.look z.1 hl4, ?_⟩
              split
              · rfl
              · rename_i hz
                have : cnt z.1 (Q j ++ R n) = 0 := by
                  have h1 : ¬ 0 < cnt z.1 (Q j ++ R n) := fun h => hz ((hm4 _).mpr (cnt_mem.mp h))
                  omega
                rw [this]; rfl
            obtain ⟨r, hr1, hr2⟩ := hold
            have hmv4 := hmv.mono hk4
            have hput : ∃ ks4 : List St, obPut (stE.ob (fun st => .int (cnt st (Q j ++ R n) : Nat)) ks3) (stD z.1) (.int ((cnt z.1 (Q j ++ R n) : Nat) + (cnt st (P k) : Nat))) = some (stE.ob (fun st => .int (cnt st (Q j ++ R (n + 1)) : Nat)) ks4) ∧ ks4.Nodup ∧ ∀ a, a ∈ ks4 ↔ a ∈ Q j ++ R (n + 1) := by
              have hmem : ∀ a, a ∈ Q j ++ R (n + 1) ↔ a ∈ Q j ++ R n ∨ a = z.1 := fun a => by
                rw [hR1, ← List.append_assoc, List.mem_append (t := List.replicate _ _), List.mem_replicate]
                constructor
                · rintro (h | h)
                  · exact .inl h
                  · exact .inr h.2
                · rintro (h | h)
                  · exact .inl h
                  · exact .inr ⟨by omega, h⟩
              by_cases hz : z.1 ∈ ks3
              · refine ⟨ks3, stE.put_same hz hl3n fun p hp => ?_, hn4, fun a => ?_⟩
                · rw [hcnt]
                  by_cases e : p = z.1
                  · subst e; simp
                  · have e2 : ¬ z.1 = p := fun w => e w.symm
                    simp [e, e2]
                · rw [hmem, ← hm4]
                  exact ⟨.inl, fun h => h.elim id fun e => e ▸ hz⟩
              · refine ⟨ks3 ++ [z.1], stE.put_more hz hl3n (by rw [hcnt]; simp) fun p hp => ?_, ?_, fun a => ?_⟩
                · have e2 : ¬ z.1 = p := fun w => hz (w ▸ hp)
                  rw [hcnt]; simp [e2]
                · rw [List.nodup_append]
                  exact ⟨hn4, by simp, fun a ha b hb => by rw [List.mem_singleton.mp hb]; exact fun e => hz (e ▸ ha)⟩
                · rw [hmem, ← hm4]; simp
            obtain ⟨ks4, hput, hn5, hm5⟩ := hput
            refine W.cons (W.setiD (W.o2 (W.dget (W.var rfl ⟨hdic, W.var rfl (W.cst ⟨_, hr1, ?_⟩)⟩))))
            rw [hr2]
            refine W.o2 (W.var rfl (W.var rfl ⟨_, hmv4.idx hstk, _, rfl, W.var rfl (W.var rfl ⟨h'.length, _, _, rfl, hl4, hput, W.nx (W.nil ?_)⟩)⟩))
            refine ⟨qs4, ks4, _, _, rfl, MAt_set m4 (by omega) (by omega), ?_, hn5, hm5, fun l hl => ?_⟩
            · exact List.getElem?_set_self (List.getElem?_eq_some_iff.mp hl4).1
            · rw [List.getElem?_set_ne (fun e => (hlf l hl).1 e.symm)]
              exact hk4 l hl
          · rintro σ h4 ⟨qs4, ks3, o15, o16, rfl, m4, hl4, hn4, hm4, hk4⟩
            have hQ : Q j ++ R (F st).length = Q (j + 1) := by
              simp only [Q, R, List.take_length, wide]
              rw [flat_snoc hj]
            rw [hQ] at hl4 hm4
            exact W.nx (W.nil ⟨qs4, ks3, _, _, _, _, rfl, m4, hl4, hn4, hm4, hk4⟩)
        · rintro σ h2 ⟨qs, ks2, o11, o14, o15, o16, rfl, m2, hl2, hn2', hm2, hk2⟩
          have hQ : Q ks.length = wide ks (P k) F := by simp only [Q, List.take_length]
          have hcnt : ∀ a, cnt a (Q ks.length) = cnt a (P (k + 1)) := fun a => by
            rw [hQ, hP1]
            exact wide_count hksn (fun st hst => (hksm st).mpr hst) a
          refine W.nx (W.cons (W.cond (W.o2 (W.tup (W.es (W.o2 (W.var rfl (W.o2 (W.var rfl (W.cst ?_))))))))))
          refine ⟨_, rfl, ⟨_, idx_fz (k := k + 1) hy, ?_⟩⟩
          refine W.es (W.o2 (W.var rfl (W.var rfl ⟨_, idx_fz ho, W.es0 ?_⟩)))
          refine W.meth (W.var rfl ⟨1, "Machine", mfs hist s 2, rfl, m2.ob, ⟨by decide, rfl⟩, W.es (W.o2 (W.var rfl (W.var rfl ⟨_, idx_fz hx, W.es (W.o2 (W.var rfl (W.var rfl ⟨_, hidx _, W.es0 ?_⟩)))⟩)))⟩)
          refine (m_steps_ok (d := 13) mt H m2 hxok hcs).mono fun v h3 q => ?_
          obtain ⟨rfl, t3⟩ := q
          obtain ⟨qs3, _, m3⟩ := id t3
          refine ⟨_, notin_list (eD := srowD) (eP := srowP) (xs := stepsF hist s x c) (k := (y, o)) (fun a s z => by simp [srowD] at z) (fun f => srow_pd f) srow_eqv rfl, _, rfl, fun hf => absurd hf (by simp [hstep]), fun _ => W.nil (W.nx (W.cons (W.set (W.var rfl ⟨by simp, W.nx (W.nil ?_)⟩))))⟩
          have hl3 := (t3.other (i := h'.length) (by omega)).trans hl2
          have hmem : ∀ st, st ∈ ks2 ↔ st ∈ P (k + 1) := fun st => by rw [hm2, ← cnt_mem, hcnt, cnt_mem]
          have hne : ks2 ≠ [] := fun e => by
            have h1 := endsF_ne (w := u.take (k + 1)) H (hus' (k + 1))
            obtain ⟨a, ha⟩ := List.exists_mem_of_ne_nil _ h1
            have := (hmem a).mpr ha
            rw [e] at this
            simp at this
          refine ⟨qs3, ks2, .ref h'.length, _, _, _, _, _, _, rfl, m3, ⟨hne, .inr ⟨h'.length, rfl, ?_⟩⟩, hn2', hmem, fun l hl => by cases hl; omega⟩
          rw [hl3]
          cases ks2 with
          | nil => exact absurd rfl hne
          | cons a b => simp only [Enc.ob, hcnt]
      · rintro σ h' ⟨qs, ks, mv, o9, o11, o13, o14, o15, o16, rfl, m, hmv, hksn, hksm, hm3⟩
        rw [show P u.length = endsF hist s u by simp only [P, List.take_length]] at *
        refine W.nx (W.cons (W.cond (W.o2 (W.o1 (W.comp (W.val (W.o1 (W.var rfl ⟨_, hmv.list, ⟨_, rfl, fun n ys h2 => ys = ((ks.take n).filter (fun st => endF hist st)).map (fun st => Sd.D.int (cnt st (endsF hist s u) : Nat)) ∧ h2 = h', ⟨rfl, rfl⟩, fun n ys h2 z => by rw [z.2]; exact wat_refl _ _, fun n y ys h2 hn z => ?_, fun ys h2 z => ?_⟩⟩))))))))
        · obtain ⟨rfl, rfl⟩ := z
          simp only [List.getElem?_map] at hn
          obtain ⟨st, hst, rfl⟩ := Option.map_eq_some_iff.mp hn
          have hstk := List.mem_of_getElem? hst
          have hstok := endsF_ok H hus st ((hksm st).mp hstk)
          refine ⟨_, rfl, W.ts1 (W.meth (W.var rfl ⟨1, "Machine", mfs hist s 2, rfl, m.ob, ⟨by decide, rfl⟩, W.es (W.var rfl (W.es0 ?_))⟩))⟩
          refine Ok.ofEq (m_is_end_ok (d := 16) mt H m hstok) ?_
          have e2 : (ks.take (n + 1)).filter (fun st => endF hist st) = (ks.take n).filter (fun st => endF hist st) ++ (if endF hist st then [st] else []) := by
            rw [List.take_succ, hst, List.filter_append]
            simp [List.filter_cons]
          refine ⟨_, rfl, fun he => ?_, fun he => ?_⟩
          · refine W.o2 (W.var rfl (W.var rfl ⟨_, hmv.idx hstk, ?_, rfl⟩))
            rw [e2, if_pos he]
            simp [Sd.D.keep]
          · refine ⟨?_, rfl⟩
            rw [e2, he]
            simp
        · obtain ⟨rfl, rfl⟩ := z
          have hkl : ks.length ≤ 117649 := st_few H hksn fun st hst => endsF_ok H hus st ((hksm st).mp hst)
          have hints : ∀ l : List St, intsOf (l.map fun st => Sd.D.int (cnt st (endsF hist s u) : Nat)) = some (l.map fun st => ((cnt st (endsF hist s u) : Nat) : Int)) := by
            intro l
            induction l with
            | nil => rfl
            | cons a l ih => simp [intsOf, ih]
          have hsum : ∀ l : List St, ((l.filter fun st => endF hist st).map fun st => ((cnt st (endsF hist s u) : Nat) : Int)).sum = (((l.map fun a => cnt a (endsF hist s u) * if endF hist a then 1 else 0).sum : Nat) : Int) := by
            intro l
            induction l with
            | nil => rfl
            | cons a l ih =>
              rw [List.filter_cons, List.map_cons, List.sum_cons, Int.natCast_add]
              by_cases he : endF hist a = true
              · rw [if_pos he, List.map_cons, List.sum_cons, ih, if_pos he, Nat.mul_one]
              · rw [if_neg he, ih, if_neg he, Nat.mul_zero]; simp
          have hone : ((ks.filter fun st => endF hist st).map fun st => ((cnt st (endsF hist s u) : Nat) : Int)).sum = 1 := by
            rw [hsum, ← sum_keys (fun a => if endF hist a then 1 else 0) hksn fun a ha => (hksm a).mpr ha, endsF_end H hus]
            rfl
          have e3 : ((ks.take (List.length (Prod.fst (ks.map stE.d, ([] : List Nat))))).filter fun st => endF hist st) = ks.filter fun st => endF hist st := by
            show ((ks.take (List.length (ks.map stE.d))).filter _) = _
            rw [List.length_map, List.take_length]
          rw [e3]
          refine ⟨?_, _, by simp only [o1F, items, hints, Option.map_some]; rfl, W.cst ⟨_, W.neI, _, rfl, fun hf => absurd hf (by simp [hone]), fun _ => W.nil (W.nx (W.nil ⟨qs, _, _, _, _, _, _, _, _, _, _, _, rfl, m⟩))⟩⟩
          rw [List.length_map]
          have := List.length_filter_le (fun st => endF hist st) ks
          unfold line; omega
    · rintro σ h' ⟨qs, o6, o7, o8, o9, o10, o11, o12, o13, o14, o15, o16, rfl, m⟩
      walk_at "S"
      refine W.en ?_
      obtain ⟨h9, e9⟩ := fin_bl (h := []) (h1 := h') (b := true)
      exact Ok.ofEq e9 rfl
  obtain ⟨v, h', e, rfl⟩ := main
  exact ⟨h', e⟩
end K04

/-! K04H: the head of k04: the run of the top, the facts, the law's end (printed by mkhead.py). -/
namespace K04
open PySem PySem.Spec PyProof.Rows L2 Sd
def dd (i : DefI) : He.DefD := ⟨(if i.k = "" then (i.x, none) else (i.kx, some i.x)), i.x, i.q, defArgs i.st, defBody i.st, defScope i.st, [], []⟩
def fn : List He.DefD := L.map dd
def fa : List He.Fa := [.glo "_wall", .glo "slots_hold", .glo "applies", .glo "changed", .glo "led", .glo "before_start", .glo "before_step", .glo "behind_end", .glo "behind_step", .glo "all_behind", .glo "rule_starts", .glo "rule_steps", .glo "is_rule_end", .glo "stands_for", .glo "_law_same", .glo "_law_pool", .glo "_law_spread", .glo "_law_draw", .glo "_law_sounds", .glo "_law_lot", .glo "_law_word", .glo "_law_slots", .glo "_law_law", .glo "_law_history", .glo "_law_holds", .glo "_law_applies", .glo "_law_changed", .glo "_law_led", .glo "_law_words", .glo "_law_flags_before", .glo "_law_flags_behind", .glo "_law_stand_at", .glo "law", .free "len", .free "int", .free "str", .free "tuple", .free "list", .free "all", .free "any", .free "dict", .free "sum", .free "min", .free "max", .free "isinstance", .free "range", .free "enumerate", .free "zip", .free "sorted", .free "set", .free "repr", .free "bool", .str "EDGE" "#", .glo "Machine", .cls "Machine", .mkr "Machine", .meth "Machine" "__init__", .meth "Machine" "starts", .meth "Machine" "rule_run", .meth "Machine" "rule_step", .meth "Machine" "steps", .meth "Machine" "is_end", .meth "Machine" "is_stand", .noat "Machine" "sounds", .noat "Machine" "history", .noat "Machine" "known"]
abbrev R : PySem.W.OpenRow := PySem.W.OpenLaw.row PySem.Challenge.rw_soundsled_k04_whole_stands
abbrev hk : PySem.W.Hook := He.hookD 8 fa fn
def ob (s : PySem.W.SharedT) : He.AlD := He.obsDG 8 fa fn (HandSHeadRun.getT s)
theorem ob_eq (s : PySem.W.SharedT) : ob s = hk.obs s.abs := He.obsDG_eq (HandSHeadRun.getT_eq s)
def loose : List PySem.Str := (["_wall", "slots_hold", "applies", "changed", "led", "before_start", "before_step", "behind_end", "behind_step", "all_behind", "rule_starts", "rule_steps", "is_rule_end", "stands_for", "_law_same", "_law_pool", "_law_spread", "_law_draw", "_law_sounds", "_law_lot", "_law_word", "_law_slots", "_law_law", "_law_history", "_law_holds", "_law_applies", "_law_changed", "_law_led", "_law_words", "_law_flags_before"] : List PySem.Str) ++ (["_law_flags_behind", "_law_stand_at", "EDGE", "Machine"] : List PySem.Str)
theorem run (w : World) : HandSHeadRun.RunEq R (PySem.W.view R.prog [37]) hk ob 6000 loose w := by
  intro os
  kernel_rfl
theorem facts {P : Program} {w : World} {K : PySem.W.Frag} {h : Heap} {mg : PySem.Str → Option Value} {f : Addr} (hlaw : ∀ ns : List Int, ns.length ≤ 63 → ∃ h', callF T 20 "" "law" [.fz (ns.map .int)] [] = .ok (.bl true) h')
    (X : K.In h) (G : h.Ns mainGlobals mg) (hfa : mg ("law" : PySem.Str) = some (.ref f)) (c : He.SaysD fa fn K) :
    ∃ fd : FuncData, (∀ (s : Shared) (v : Value), BindsTo s fd ⟨[v], []⟩ [("script", v)]) ∧ ∀ base : Heap, K.In base → base.Ns mainGlobals mg → FnOk P w K mg base CX0 40 f fd ["script"] (spEnd K) := by
  have hfree : ∀ x ∈ bnames, (fnsOf L).lookup x = none → mg x = none := by
    intro x hx hl
    simp only [bnames, List.mem_cons, List.not_mem_nil, or_false] at hx
    rcases hx with rfl | rfl | rfl | rfl | rfl | rfl | rfl | rfl | rfl | rfl | rfl | rfl | rfl | rfl | rfl | rfl | rfl | rfl | rfl
    · exact He.free_ok X G (c.fact 33 (f := .free "len") rfl)
    · exact He.free_ok X G (c.fact 34 (f := .free "int") rfl)
    · exact He.free_ok X G (c.fact 35 (f := .free "str") rfl)
    · exact He.free_ok X G (c.fact 36 (f := .free "tuple") rfl)
    · exact He.free_ok X G (c.fact 37 (f := .free "list") rfl)
    · exact He.free_ok X G (c.fact 38 (f := .free "all") rfl)
    · exact He.free_ok X G (c.fact 39 (f := .free "any") rfl)
    · exact He.free_ok X G (c.fact 40 (f := .free "dict") rfl)
    · exact He.free_ok X G (c.fact 41 (f := .free "sum") rfl)
    · exact He.free_ok X G (c.fact 42 (f := .free "min") rfl)
    · exact He.free_ok X G (c.fact 43 (f := .free "max") rfl)
    · exact He.free_ok X G (c.fact 44 (f := .free "isinstance") rfl)
    · exact He.free_ok X G (c.fact 45 (f := .free "range") rfl)
    · exact He.free_ok X G (c.fact 46 (f := .free "enumerate") rfl)
    · exact He.free_ok X G (c.fact 47 (f := .free "zip") rfl)
    · exact He.free_ok X G (c.fact 48 (f := .free "sorted") rfl)
    · exact He.free_ok X G (c.fact 49 (f := .free "set") rfl)
    · exact He.free_ok X G (c.fact 50 (f := .free "repr") rfl)
    · exact He.free_ok X G (c.fact 51 (f := .free "bool") rfl)
  have hcon : ∀ x d, cons.lookup x = some d → ∃ u v, mg x = some u ∧ RelV v u ∧ KD ⟨⟨K, P, w, clsOf K cl⟩, []⟩ d v := by
    intro x d hx
    simp only [cons] at hx
    rw [List.lookup_cons] at hx
    split at hx
    · rename_i hn
      cases hx
      obtain rfl := eq_of_beq hn
      obtain ⟨t, e⟩ := He.str_ok X G (c.fact 52 (f := .str "EDGE" "#") rfl)
      exact ⟨_, .str "#", e, ⟨t, rfl⟩, KD.strE (by decide +kernel)⟩
    cases hx
  have hf : ∀ i ∈ L, ∃ f fd, i.fn K f fd ∧ (i.k = "" → mg i.x = some (.ref f)) ∧ (i.k ≠ "" → ∃ A, clsOf K cl i.k = some A ∧ Meth K A (sOf i.m) f) := by
    intro i hi
    simp only [L, List.mem_cons, List.not_mem_nil, or_false] at hi
    rcases hi with rfl | rfl | rfl | rfl | rfl | rfl | rfl | rfl | rfl | rfl | rfl | rfl | rfl | rfl | rfl | rfl | rfl | rfl | rfl | rfl | rfl | rfl | rfl | rfl | rfl | rfl | rfl | rfl | rfl | rfl | rfl | rfl | rfl | rfl | rfl | rfl | rfl | rfl | rfl | rfl
    · obtain ⟨fd, F⟩ := c.def_ 0 (d := dd d_wall) rfl
      exact ⟨_, fd, F, fun _ => He.glo_ok X G (c.fact 0 (f := .glo "_wall") rfl), fun z => absurd rfl z⟩
    · obtain ⟨fd, F⟩ := c.def_ 1 (d := dd d_slots_hold) rfl
      exact ⟨_, fd, F, fun _ => He.glo_ok X G (c.fact 1 (f := .glo "slots_hold") rfl), fun z => absurd rfl z⟩
    · obtain ⟨fd, F⟩ := c.def_ 2 (d := dd d_applies) rfl
      exact ⟨_, fd, F, fun _ => He.glo_ok X G (c.fact 2 (f := .glo "applies") rfl), fun z => absurd rfl z⟩
    · obtain ⟨fd, F⟩ := c.def_ 3 (d := dd d_changed) rfl
      exact ⟨_, fd, F, fun _ => He.glo_ok X G (c.fact 3 (f := .glo "changed") rfl), fun z => absurd rfl z⟩
    · obtain ⟨fd, F⟩ := c.def_ 4 (d := dd d_led) rfl
      exact ⟨_, fd, F, fun _ => He.glo_ok X G (c.fact 4 (f := .glo "led") rfl), fun z => absurd rfl z⟩
    · obtain ⟨fd, F⟩ := c.def_ 5 (d := dd d_before_start) rfl
      exact ⟨_, fd, F, fun _ => He.glo_ok X G (c.fact 5 (f := .glo "before_start") rfl), fun z => absurd rfl z⟩
    · obtain ⟨fd, F⟩ := c.def_ 6 (d := dd d_before_step) rfl
      exact ⟨_, fd, F, fun _ => He.glo_ok X G (c.fact 6 (f := .glo "before_step") rfl), fun z => absurd rfl z⟩
    · obtain ⟨fd, F⟩ := c.def_ 7 (d := dd d_behind_end) rfl
      exact ⟨_, fd, F, fun _ => He.glo_ok X G (c.fact 7 (f := .glo "behind_end") rfl), fun z => absurd rfl z⟩
    · obtain ⟨fd, F⟩ := c.def_ 8 (d := dd d_behind_step) rfl
      exact ⟨_, fd, F, fun _ => He.glo_ok X G (c.fact 8 (f := .glo "behind_step") rfl), fun z => absurd rfl z⟩
    · obtain ⟨fd, F⟩ := c.def_ 9 (d := dd d_all_behind) rfl
      exact ⟨_, fd, F, fun _ => He.glo_ok X G (c.fact 9 (f := .glo "all_behind") rfl), fun z => absurd rfl z⟩
    · obtain ⟨fd, F⟩ := c.def_ 10 (d := dd d_rule_starts) rfl
      exact ⟨_, fd, F, fun _ => He.glo_ok X G (c.fact 10 (f := .glo "rule_starts") rfl), fun z => absurd rfl z⟩
    · obtain ⟨fd, F⟩ := c.def_ 11 (d := dd d_rule_steps) rfl
      exact ⟨_, fd, F, fun _ => He.glo_ok X G (c.fact 11 (f := .glo "rule_steps") rfl), fun z => absurd rfl z⟩
    · obtain ⟨fd, F⟩ := c.def_ 12 (d := dd d_is_rule_end) rfl
      exact ⟨_, fd, F, fun _ => He.glo_ok X G (c.fact 12 (f := .glo "is_rule_end") rfl), fun z => absurd rfl z⟩
    · obtain ⟨fd, F⟩ := c.def_ 13 (d := dd d_Machine___init) rfl
      refine ⟨_, fd, F, fun z => absurd z (by decide), fun _ => ⟨He.ga K "Machine", rfl, ?_⟩⟩
      have e : sOf "__init__" = ("__init__" : PySem.Str) := by decide +kernel
      show Meth K (He.ga K "Machine") (sOf "__init__") _
      rw [e]
      exact He.meth_ok (c.fact 56 (f := .meth "Machine" "__init__") rfl)
    · obtain ⟨fd, F⟩ := c.def_ 14 (d := dd d_Machine_starts) rfl
      refine ⟨_, fd, F, fun z => absurd z (by decide), fun _ => ⟨He.ga K "Machine", rfl, ?_⟩⟩
      have e : sOf "starts" = ("starts" : PySem.Str) := by decide +kernel
      show Meth K (He.ga K "Machine") (sOf "starts") _
      rw [e]
      exact He.meth_ok (c.fact 57 (f := .meth "Machine" "starts") rfl)
    · obtain ⟨fd, F⟩ := c.def_ 15 (d := dd d_Machine_rule_run) rfl
      refine ⟨_, fd, F, fun z => absurd z (by decide), fun _ => ⟨He.ga K "Machine", rfl, ?_⟩⟩
      have e : sOf "rule_run" = ("rule_run" : PySem.Str) := by decide +kernel
      show Meth K (He.ga K "Machine") (sOf "rule_run") _
      rw [e]
      exact He.meth_ok (c.fact 58 (f := .meth "Machine" "rule_run") rfl)
    · obtain ⟨fd, F⟩ := c.def_ 16 (d := dd d_Machine_rule_step) rfl
      refine ⟨_, fd, F, fun z => absurd z (by decide), fun _ => ⟨He.ga K "Machine", rfl, ?_⟩⟩
      have e : sOf "rule_step" = ("rule_step" : PySem.Str) := by decide +kernel
      show Meth K (He.ga K "Machine") (sOf "rule_step") _
      rw [e]
      exact He.meth_ok (c.fact 59 (f := .meth "Machine" "rule_step") rfl)
    · obtain ⟨fd, F⟩ := c.def_ 17 (d := dd d_Machine_steps) rfl
      refine ⟨_, fd, F, fun z => absurd z (by decide), fun _ => ⟨He.ga K "Machine", rfl, ?_⟩⟩
      have e : sOf "steps" = ("steps" : PySem.Str) := by decide +kernel
      show Meth K (He.ga K "Machine") (sOf "steps") _
      rw [e]
      exact He.meth_ok (c.fact 60 (f := .meth "Machine" "steps") rfl)
    · obtain ⟨fd, F⟩ := c.def_ 18 (d := dd d_Machine_is_end) rfl
      refine ⟨_, fd, F, fun z => absurd z (by decide), fun _ => ⟨He.ga K "Machine", rfl, ?_⟩⟩
      have e : sOf "is_end" = ("is_end" : PySem.Str) := by decide +kernel
      show Meth K (He.ga K "Machine") (sOf "is_end") _
      rw [e]
      exact He.meth_ok (c.fact 61 (f := .meth "Machine" "is_end") rfl)
    · obtain ⟨fd, F⟩ := c.def_ 19 (d := dd d_Machine_is_stand) rfl
      refine ⟨_, fd, F, fun z => absurd z (by decide), fun _ => ⟨He.ga K "Machine", rfl, ?_⟩⟩
      have e : sOf "is_stand" = ("is_stand" : PySem.Str) := by decide +kernel
      show Meth K (He.ga K "Machine") (sOf "is_stand") _
      rw [e]
      exact He.meth_ok (c.fact 62 (f := .meth "Machine" "is_stand") rfl)
    · obtain ⟨fd, F⟩ := c.def_ 20 (d := dd d_stands_for) rfl
      exact ⟨_, fd, F, fun _ => He.glo_ok X G (c.fact 13 (f := .glo "stands_for") rfl), fun z => absurd rfl z⟩
    · obtain ⟨fd, F⟩ := c.def_ 21 (d := dd d_law_same) rfl
      exact ⟨_, fd, F, fun _ => He.glo_ok X G (c.fact 14 (f := .glo "_law_same") rfl), fun z => absurd rfl z⟩
    · obtain ⟨fd, F⟩ := c.def_ 22 (d := dd d_law_pool) rfl
      exact ⟨_, fd, F, fun _ => He.glo_ok X G (c.fact 15 (f := .glo "_law_pool") rfl), fun z => absurd rfl z⟩
    · obtain ⟨fd, F⟩ := c.def_ 23 (d := dd d_law_spread) rfl
      exact ⟨_, fd, F, fun _ => He.glo_ok X G (c.fact 16 (f := .glo "_law_spread") rfl), fun z => absurd rfl z⟩
    · obtain ⟨fd, F⟩ := c.def_ 24 (d := dd d_law_draw) rfl
      exact ⟨_, fd, F, fun _ => He.glo_ok X G (c.fact 17 (f := .glo "_law_draw") rfl), fun z => absurd rfl z⟩
    · obtain ⟨fd, F⟩ := c.def_ 25 (d := dd d_law_sounds) rfl
      exact ⟨_, fd, F, fun _ => He.glo_ok X G (c.fact 18 (f := .glo "_law_sounds") rfl), fun z => absurd rfl z⟩
    · obtain ⟨fd, F⟩ := c.def_ 26 (d := dd d_law_lot) rfl
      exact ⟨_, fd, F, fun _ => He.glo_ok X G (c.fact 19 (f := .glo "_law_lot") rfl), fun z => absurd rfl z⟩
    · obtain ⟨fd, F⟩ := c.def_ 27 (d := dd d_law_word) rfl
      exact ⟨_, fd, F, fun _ => He.glo_ok X G (c.fact 20 (f := .glo "_law_word") rfl), fun z => absurd rfl z⟩
    · obtain ⟨fd, F⟩ := c.def_ 28 (d := dd d_law_slots) rfl
      exact ⟨_, fd, F, fun _ => He.glo_ok X G (c.fact 21 (f := .glo "_law_slots") rfl), fun z => absurd rfl z⟩
    · obtain ⟨fd, F⟩ := c.def_ 29 (d := dd d_law_law) rfl
      exact ⟨_, fd, F, fun _ => He.glo_ok X G (c.fact 22 (f := .glo "_law_law") rfl), fun z => absurd rfl z⟩
    · obtain ⟨fd, F⟩ := c.def_ 30 (d := dd d_law_history) rfl
      exact ⟨_, fd, F, fun _ => He.glo_ok X G (c.fact 23 (f := .glo "_law_history") rfl), fun z => absurd rfl z⟩
    · obtain ⟨fd, F⟩ := c.def_ 31 (d := dd d_law_holds) rfl
      exact ⟨_, fd, F, fun _ => He.glo_ok X G (c.fact 24 (f := .glo "_law_holds") rfl), fun z => absurd rfl z⟩
    · obtain ⟨fd, F⟩ := c.def_ 32 (d := dd d_law_applies) rfl
      exact ⟨_, fd, F, fun _ => He.glo_ok X G (c.fact 25 (f := .glo "_law_applies") rfl), fun z => absurd rfl z⟩
    · obtain ⟨fd, F⟩ := c.def_ 33 (d := dd d_law_changed) rfl
      exact ⟨_, fd, F, fun _ => He.glo_ok X G (c.fact 26 (f := .glo "_law_changed") rfl), fun z => absurd rfl z⟩
    · obtain ⟨fd, F⟩ := c.def_ 34 (d := dd d_law_led) rfl
      exact ⟨_, fd, F, fun _ => He.glo_ok X G (c.fact 27 (f := .glo "_law_led") rfl), fun z => absurd rfl z⟩
    · obtain ⟨fd, F⟩ := c.def_ 35 (d := dd d_law_words) rfl
      exact ⟨_, fd, F, fun _ => He.glo_ok X G (c.fact 28 (f := .glo "_law_words") rfl), fun z => absurd rfl z⟩
    · obtain ⟨fd, F⟩ := c.def_ 36 (d := dd d_law_flags_before) rfl
      exact ⟨_, fd, F, fun _ => He.glo_ok X G (c.fact 29 (f := .glo "_law_flags_before") rfl), fun z => absurd rfl z⟩
    · obtain ⟨fd, F⟩ := c.def_ 37 (d := dd d_law_flags_behind) rfl
      exact ⟨_, fd, F, fun _ => He.glo_ok X G (c.fact 30 (f := .glo "_law_flags_behind") rfl), fun z => absurd rfl z⟩
    · obtain ⟨fd, F⟩ := c.def_ 38 (d := dd d_law_stand_at) rfl
      exact ⟨_, fd, F, fun _ => He.glo_ok X G (c.fact 31 (f := .glo "_law_stand_at") rfl), fun z => absurd rfl z⟩
    · obtain ⟨fd, F⟩ := c.def_ 39 (d := dd d_law) rfl
      exact ⟨_, fd, F, fun _ => He.glo_ok X G (c.fact 32 (f := .glo "law") rfl), fun z => absurd rfl z⟩
  have hcls : ∀ k A, clsOf K cl k = some A → Cls K A := by
    intro k A hA
    obtain ⟨p, hp, rfl, rfl⟩ := clsOf_mem hA
    simp only [cl, List.mem_cons, List.not_mem_nil, or_false] at hp
    rcases hp with rfl
    · exact He.cls_ok (c.fact 54 (f := .cls "Machine") rfl)
  have hmk : ∀ x k, cl.mks.lookup x = some k → ∃ A f fd, mg x = some (.ref A) ∧ clsOf K cl k = some A ∧ Mk K A f ∧ ∃ i ∈ L, i.k = k ∧ i.m = "__init__" ∧ i.fn K f fd := by
    intro x k hx
    have hp := lookup_mem hx
    simp only [cl, List.mem_cons, List.not_mem_nil, or_false, Prod.mk.injEq] at hp
    rcases hp with ⟨rfl, rfl⟩
    · obtain ⟨fd, F⟩ := c.def_ 13 (d := dd d_Machine___init) rfl
      exact ⟨He.ga K "Machine", _, fd, He.glo_ok X G (c.fact 53 (f := .glo "Machine") rfl), rfl, He.mkr_ok (c.fact 55 (f := .mkr "Machine") rfl), d_Machine___init, by simp [L], rfl, rfl, F⟩
  have hat : ∀ x f cs, cl.ats.lookup x = some (f, cs) → ∀ k ∈ cs, ∀ A, clsOf K cl k = some A → NoAttr K A x := by
    intro x f cs hx k hk A hA
    have hp := lookup_mem hx
    obtain ⟨p, hp2, rfl, rfl⟩ := clsOf_mem hA
    simp only [cl, List.mem_cons, List.not_mem_nil, or_false, Prod.mk.injEq] at hp hp2
    rcases hp with ⟨rfl, rfl, rfl⟩ | ⟨rfl, rfl, rfl⟩ | ⟨rfl, rfl, rfl⟩
    · simp only [List.mem_cons, List.not_mem_nil, or_false] at hk
      rcases hp2 with rfl
      · exact He.noat_ok (c.fact 63 (f := .noat "Machine" "sounds") rfl)
    · simp only [List.mem_cons, List.not_mem_nil, or_false] at hk
      rcases hp2 with rfl
      · exact He.noat_ok (c.fact 64 (f := .noat "Machine" "history") rfl)
    · simp only [List.mem_cons, List.not_mem_nil, or_false] at hk
      rcases hp2 with rfl
      · exact He.noat_ok (c.fact 65 (f := .noat "Machine" "known") rfl)
  obtain ⟨fd, F⟩ := c.def_ 39 (d := dd d_law) rfl
  have e := hfa.symm.trans (He.glo_ok X G (c.fact 32 (f := .glo "law") rfl))
  cases e
  have b := FunD.bindsA (ps := ["script"]) F fun _ _ _ _ _ _ us hl => match us, hl with | [_], _ => rfl
  refine ⟨fd, fun s v => b s [v] rfl, fun base _ _ => ?_⟩
  have W := wf_all (G := ⟨⟨K, P, w, clsOf K cl⟩, []⟩) (P := P) (w := w) (mg := mg) (base := base) (L := L) (cons := cons) (cl := cl) ⟨rfl, rfl⟩ hfree hcon ok_all hf hcls hmk hat 19
  exact (fn_step W ok_law F).imp fun vs H Q E hs => sp_end (B := ⟨K, P, w, clsOf K cl⟩) hlaw hs
end K04
open PySem PySem.W PySem.Calls PyProof.Rows
theorem K04.holds (hlaw : ∀ ns : List Int, ns.length ≤ 63 → ∃ h', Sd.callF K04.T 20 "" "law" [.fz (ns.map .int)] [] = .ok (.bl true) h') : PySem.Challenge.rw_soundsled_k04_whole_stands.Holds := by
  w_on; o_law
  refine HandSHeadRun.head_any (r := OpenLaw.row PySem.Challenge.rw_soundsled_k04_whole_stands) (q := view (OpenLaw.row PySem.Challenge.rw_soundsled_k04_whole_stands).prog [37]) (H := K04.hk) (ob := K04.ob) (M := 6000) (loose := K04.loose) (d := HandSHeadRun.topDef (OpenLaw.row PySem.Challenge.rw_soundsled_k04_whole_stands).prog 37) (kwd := []) K04.ob_eq
    (by kernel_rfl) (fun s => by kernel_rfl) K04.run (by kernel_rfl) (by kernel_rfl) (by kernel_rfl) (by rfl) (by first | assumption | decide +kernel) (by decide +kernel) ⟨rfl, rfl, rfl, rfl, rfl, by decide +kernel⟩ ?hw ?hc
  case hw => w_witness2
  case hc =>
    refine L2.walk_ofE (l := PySem.Challenge.rw_soundsled_k04_whole_stands) (n := 63) (k := 40) (x := "script") (CX := L2.CX0) rfl (by decide) (by kernel_rfl) ⟨rfl, by decide, by decide⟩ ?F (fun _ _ _ _ z => z)
    intro w mg fa h Y G hmg0
    obtain ⟨K, KX, c⟩ := Y
    have hmg : mg ("law" : PySem.Str) = some (.ref fa) := by
      have e : (HandSHeadRun.topDef (OpenLaw.row PySem.Challenge.rw_soundsled_k04_whole_stands).prog 37).name = ("law" : PySem.Str) := by kernel_rfl
      rw [← e]
      exact hmg0
    obtain ⟨fd, hb, hF⟩ := K04.facts (P := (PySem.Challenge.rw_soundsled_k04_whole_stands).prog) (w := w) hlaw KX G hmg c
    exact ⟨K, fd, Sd.spEnd K, KX, hb, fun H a ns hl _ hS => ⟨a, ns, rfl, hl, hS, fun _ => rfl⟩, hF⟩

theorem PySem.Challenge.cw_soundsled_k04_whole_stands_holds : PySem.Challenge.rw_soundsled_k04_whole_stands.Holds := by
  exact K04.holds fun ns _ => K04.holds_plain ns
