import PyProof.Rows.All
import Wide.All
import OpenK.AllK
import Wide.FinOn
import KE.KStateDown
import PyProof.ListStr
import KE.DataEq
import KE.GoesEnum
import KE.GoesMore
import KE.KDictPairs
import HandS.Comp
import HandS.Defaults
import HandS.Dict
import HandS.ForMost
import HandS.Head0
import HandS.Head1
import HandS.Head2
import HandS.Head3
import HandS.HeadEnd
import HandS.HeadHook1
import HandS.HeadHook2
import HandS.IsInst
import HandS.Style
import HandS.Text
import HandS.TupAny
import HandS.TupMul
import HandS.Walk
import PySem.Challenge.RW_soundsled_k02_whole_leading
set_option Elab.async false
set_option linter.all false
set_option maxRecDepth 100000
set_option maxHeartbeats 0
set_option autoImplicit false
/-! PyA: a small evaluator of the program's language over plain values, of our own. D: values; Ob: objects that may change; E, S: the texts. -/
namespace Sd
open PySem (Str PyData)

inductive D where
  | non | bl (b : Bool) | int (i : Int) | str (s : List Nat)
  | tup (xs : List D)
  /-- a list that nobody changes any more -/
  | fz (xs : List D)
  /-- a list just made -/
  | lv (xs : List D)
  /-- a dict that nobody changes any more, one just made: keys, values -/
  | fd (ks vs : List D) | dv (ks vs : List D)
  /-- an object that may change -/
  | ref (l : Nat)
  deriving Inhabited

inductive Ob where
  | lst (xs : List D)
  | dic (ks vs : List D)
  | ins (c : String) (fs : List (String × D))
  deriving Inhabited
abbrev Hh := List Ob

inductive Out (α : Type) where
  | ok (a : α) (h : Hh)
  | ex (c : String) (d : D) (h : Hh)
  | bad

namespace Out
def thn {α β : Type} : Out α → (α → Hh → Out β) → Out β
  | ok a h, f => f a h
  | ex c d h, _ => ex c d h
  | bad, _ => bad
@[simp] theorem thn_ok {α β : Type} (a : α) (h : Hh) (f : α → Hh → Out β) : (ok a h).thn f = f a h := rfl
@[simp] theorem thn_ex {α β : Type} (c : String) (d : D) (h : Hh) (f : α → Hh → Out β) : (ex c d h).thn f = ex c d h := rfl
@[simp] theorem thn_bad {α β : Type} (f : α → Hh → Out β) : (bad : Out α).thn f = bad := rfl
def of {α : Type} (h : Hh) : Option α → Out α
  | some a => ok a h
  | none => bad
@[simp] theorem of_some {α : Type} (h : Hh) (a : α) : of h (some a) = ok a h := rfl
@[simp] theorem of_none {α : Type} (h : Hh) : of h (none : Option α) = bad := rfl
theorem thn_eq_ok {α β : Type} {o : Out α} {f : α → Hh → Out β} {b : β} {h : Hh} (e : o.thn f = ok b h) : ∃ a h1, o = ok a h1 ∧ f a h1 = ok b h := by
  cases o with
  | ok a h1 => exact ⟨a, h1, rfl, e⟩
  | ex c d h1 => cases e
  | bad => cases e
theorem of_eq_ok {α : Type} {h h1 : Hh} {o : Option α} {a : α} (e : of h o = ok a h1) : o = some a ∧ h1 = h := by
  cases o with
  | some b => cases e; exact ⟨rfl, rfl⟩
  | none => cases e
end Out

/-! ### values -/
namespace D
/-- a value that is kept: a list just made is from now on not changed -/
def keep : D → D
  | lv xs => fz xs
  | dv ks vs => fd ks vs
  | d => d
mutual
/-- all objects within are below n; nothing just made within -/
def und (n : Nat) : D → Bool
  | non | bl _ | int _ | str _ => true
  | tup xs | fz xs => undAll n xs
  | fd ks vs => undAll n ks && undAll n vs
  | ref l => decide (l < n)
  | lv _ | dv _ _ => false
def undAll (n : Nat) : List D → Bool
  | [] => true
  | x :: xs => und n x && undAll n xs
end
end D
def Ob.und (n : Nat) : Ob → Bool
  | .lst xs => D.undAll n xs
  | .dic ks vs => D.undAll n ks && D.undAll n vs
  | .ins _ fs => D.undAll n (fs.map (·.2))

/-- the items of a list -/
def items (h : Hh) : D → Option (List D)
  | .fz xs | .lv xs => some xs
  | .ref l => match h[l]? with
    | some (.lst xs) => some xs
    | _ => none
  | _ => none
/-- the items of a list or tuple -/
def seqs (h : Hh) : D → Option (List D)
  | .tup xs => some xs
  | d => items h d
def dict (h : Hh) : D → Option (List D × List D)
  | .fd ks vs | .dv ks vs => some (ks, vs)
  | .ref l => match h[l]? with
    | some (.dic ks vs) => some (ks, vs)
    | _ => none
  | _ => none

def mapO {α β : Type} (f : α → Option β) : List α → Option (List β)
  | [] => some []
  | x :: xs => match f x, mapO f xs with
    | some y, some ys => some (y :: ys)
    | _, _ => none
/-- as data -/
def pd (h : Hh) : Nat → D → Option PyData
  | 0, _ => none
  | n + 1, d => match d with
    | .non => some .none
    | .bl b => some (.bool b)
    | .int i => some (.int i)
    | .str s => some (.str ⟨s.toArray⟩)
    | .tup xs => (mapO (pd h n) xs).map .tuple
    | .fz xs => (mapO (pd h n) xs).map .list
    | .lv xs => (mapO (pd h n) xs).map .list
    | .ref l => match h[l]? with
      | some (.lst xs) => (mapO (pd h n) xs).map .list
      | _ => none
    | .fd _ _ => none
    | .dv _ _ => none
abbrev pds (h : Hh) (n : Nat) : List D → Option (List PyData) := mapO (pd h n)
def deep : Nat := 60
def eqF (h : Hh) (x y : D) : Option Bool := match pd h deep x, pd h deep y with
  | some p, some q => some (PyData.eqv p q)
  | _, _ => none

/-! ### what operators and builtins give -/
inductive Ty where | str | tup | lst | int | bool | dict
  deriving DecidableEq
def isTy (h : Hh) : Ty → D → Option Bool
  | t, .non => some false
  | t, .bl _ => some (t == .bool || t == .int)
  | t, .int _ => some (t == .int)
  | t, .str _ => some (t == .str)
  | t, .tup _ => some (t == .tup)
  | t, .fz _ | t, .lv _ => some (t == .lst)
  | t, .fd _ _ | t, .dv _ _ => some (t == .dict)
  | t, .ref l => match h[l]? with
    | some (.lst _) => some (t == .lst)
    | some (.dic _ _) => some (t == .dict)
    | _ => none

def line : Nat := 16777216
def bools : List D → Option (List Bool)
  | [] => some []
  | .bl b :: xs => (bools xs).map (b :: ·)
  | _ => none
def intsOf : List D → Option (List Int)
  | [] => some []
  | .int i :: xs => (intsOf xs).map (i :: ·)
  | _ => none
def strsOf : List D → Option (List (List Nat))
  | [] => some []
  | .str s :: xs => (strsOf xs).map (s :: ·)
  | _ => none
def digits (i : Int) : List Nat := (toString i).toList.map Char.toNat
def isNon : D → Bool
  | .non => true
  | _ => false
/-- pairs of a dict -/
def pairsOf : List D → Option (List D × List D)
  | [] => some ([], [])
  | .tup [k, v] :: r => (pairsOf r).map fun p => (k :: p.1, v :: p.2)
  | _ => none
def sIx (n d : Nat) : Option Int → Nat
  | none => d
  | some v => if v < 0 then (v + (n : Int)).toNat else min v.toNat n
def cut {α : Type} (xs : List α) (lo hi : Option Int) : List α := (xs.drop (sIx xs.length 0 lo)).take (sIx xs.length xs.length hi - sIx xs.length 0 lo)
def ixN (n : Nat) (i : Int) : Option Nat := if 0 ≤ i then (if i < n then some i.toNat else none) else if -(n : Int) ≤ i then some (i + n).toNat else none
def atI {α : Type} (xs : List α) (i : Int) : Option α := (ixN xs.length i).bind fun j => xs[j]?

inductive O1 where
  | len | int | str | tuple | list | all | any | neg | isN | notN | not | isi (t : Ty) | rev | dict
  | sorted | sset | repr | sum | ofI
inductive O2 where
  | add | sub | mul | div | mod | eq | ne | lt | le | gt | ge | isin | notin | idx | min | max | join
inductive O3 where
  | slice

def o1F : O1 → Hh → D → Option D
  | .len, _, .str s => if s.length ≤ line then some (.int s.length) else none
  | .len, h, d => match seqs h d with
    | some xs => some (.int xs.length)
    | none => none
  | .int, _, .int i => some (.int i)
  | .int, _, .bl b => some (.int (if b then 1 else 0))
  | .int, _, _ => none
  | .str, _, .int i => if i.natAbs.log2 < 1920 then some (.str (digits i)) else none
  | .str, _, _ => none
  | .tuple, h, d => (seqs h d).map .tup
  | .list, _, .str s => if s.length ≤ line then some (.lv (s.map fun c => .str [c])) else none
  | .list, h, d => (seqs h d).map .lv
  | .all, h, d => match items h d with
    | some xs => (bools xs).map fun bs => .bl (bs.all id)
    | none => none
  | .any, h, d => match items h d with
    | some xs => (bools xs).map fun bs => .bl (bs.any id)
    | none => none
  | .neg, _, .int i => some (.int (-i))
  | .neg, _, _ => none
  | .isN, _, d => some (.bl (isNon d))
  | .notN, _, d => some (.bl (!isNon d))
  | .not, _, .bl b => some (.bl (!b))
  | .not, _, _ => none
  | .isi t, h, d => (isTy h t d).map .bl
  | .rev, _, .str s => if s.length ≤ line then some (.str s.reverse) else none
  | .rev, _, .tup xs => some (.tup xs.reverse)
  | .rev, h, d => (items h d).map fun xs => .lv xs.reverse
  | .dict, _, .tup xs => match pairsOf xs with
    | some (ks, vs) => match strsOf ks with
      | some ss => if ss.Nodup then some (.dv ks vs) else none
      | none => none
    | none => none
  | .dict, _, _ => none
  | .sorted, _, _ => none
  | .sset, _, _ => none
  | .repr, _, _ => none
  | .sum, h, d => match items h d with
    | some xs => (intsOf xs).map fun ns => .int ns.sum
    | none => none
  | .ofI, _, .int i => some (.int i)
  | .ofI, _, _ => none

/-- order of texts -/
def strLt (a b : List Nat) : Bool := decide (a < b)
def strLe (a b : List Nat) : Bool := !decide (b < a)
/-- one sign in a text -/
def isSub (a b : List Nat) : Option Bool := match a with
  | [c] => some (b.contains c)
  | _ => none
def joined (sep : List Nat) : List (List Nat) → List Nat
  | [] => []
  | [x] => x
  | x :: y :: r => x ++ (sep ++ joined sep (y :: r))
def memF (h : Hh) (x : D) (ys : List D) : Option Bool := match pd h deep x, pds h deep ys with
  | some p, some qs => some (qs.any fun q => PyData.eqv q p)
  | _, _ => none
def keyAt (k : List Nat) : List D → List D → Option D
  | .str s :: ks, v :: vs => if s = k then some v else keyAt k ks vs
  | .int _ :: ks, _ :: vs => keyAt k ks vs
  | _, _ => none

def o2F : O2 → Hh → D → D → Option D
  | .add, _, .int i, .int j => some (.int (i + j))
  | .add, _, .str a, .str b => if a.length + b.length ≤ line then some (.str (a ++ b)) else none
  | .add, _, .tup a, .tup b => if a.length + b.length ≤ line then some (.tup (a ++ b)) else none
  | .add, h, x, y => match items h x, items h y with
    | some a, some b => if a.length + b.length ≤ line then some (.lv (a ++ b)) else none
    | _, _ => none
  | .sub, _, .int i, .int j => some (.int (i - j))
  | .sub, _, _, _ => none
  | .mul, _, .int i, .int j => if (-(2 ^ 64) < i ∧ i < 2 ^ 64) ∨ (-(2 ^ 64) < j ∧ j < 2 ^ 64) then some (.int (i * j)) else none
  | .mul, _, _, _ => none
  | .div, _, .int i, .int j => if 0 < j ∧ j < 1073741824 then some (.int (i / j)) else none
  | .div, _, _, _ => none
  | .mod, _, .int i, .int j => if 0 < j then some (.int (i % j)) else none
  | .mod, _, _, _ => none
  | .eq, h, x, y => (eqF h x y).map .bl
  | .ne, h, x, y => (eqF h x y).map fun b => .bl (!b)
  | .lt, _, .int i, .int j => some (.bl (decide (i < j)))
  | .lt, _, .str a, .str b => some (.bl (strLt a b))
  | .lt, _, _, _ => none
  | .le, _, .int i, .int j => some (.bl (decide (i ≤ j)))
  | .le, _, .str a, .str b => some (.bl (strLe a b))
  | .le, _, _, _ => none
  | .gt, _, .int i, .int j => some (.bl (decide (j < i)))
  | .gt, _, .str a, .str b => some (.bl (strLt b a))
  | .gt, _, _, _ => none
  | .ge, _, .int i, .int j => some (.bl (decide (j ≤ i)))
  | .ge, _, .str a, .str b => some (.bl (strLe b a))
  | .ge, _, _, _ => none
  | .isin, _, .str a, .str b => (isSub a b).map .bl
  | .isin, h, x, y => match seqs h y with
    | some ys => (memF h x ys).map .bl
    | none => none
  | .notin, _, .str a, .str b => (isSub a b).map fun b => .bl (!b)
  | .notin, h, x, y => match seqs h y with
    | some ys => (memF h x ys).map fun b => .bl (!b)
    | none => none
  | .idx, _, .str s, .int i => if s.length ≤ line then (atI s i).map fun c => .str [c] else none
  | .idx, h, x, .int i => match seqs h x with
    | some xs => atI xs i
    | none => none
  | .idx, h, x, .str k => match dict h x with
    | some (ks, vs) => keyAt k ks vs
    | none => none
  | .idx, _, _, _ => none
  | .min, _, .int i, .int j => some (.int (if j < i then j else i))
  | .min, _, _, _ => none
  | .max, _, .int i, .int j => some (.int (if j > i then j else i))
  | .max, _, _, _ => none
  | .join, h, .str sep, y => match items h y with
    | some ys => match strsOf ys with
      | some ss => if (ss.map List.length).sum + ss.length * sep.length ≤ line then some (.str (joined sep ss)) else none
      | none => none
    | none => none
  | .join, _, _, _ => none

def partOf : D → Option (Option Int)
  | .non => some none
  | .int i => some (some i)
  | _ => none
def sliceF (h : Hh) (x : D) (lo hi : Option Int) : Option D := match x with
  | .str s => if s.length ≤ line then some (.str (cut s lo hi)) else none
  | .tup xs => some (.tup (cut xs lo hi))
  | x => (items h x).map fun xs => .lv (cut xs lo hi)
def o3F : O3 → Hh → D → D → D → Option D
  | .slice, h, x, a, b => match partOf a, partOf b with
    | some lo, some hi => sliceF h x lo hi
    | _, _ => none

/-! ### texts -/
inductive Pat where
  | n (i : Nat)
  | t (is : List Nat)
def Pat.ix : Pat → List Nat
  | .n i => [i]
  | .t is => is
mutual
inductive E where
  | cst (d : D) | var (i : Nat)
  | tup (es : List E) | lst (es : List E)
  | o1 (o : O1) (a : E) | o2 (o : O2) (a b : E) | o3 (o : O3) (a b c : E)
  | chn (o p : O2) (a b c : E)
  | and (a b : E) | or (a b : E) | ife (c a b : E)
  | call (c m : String) (es : List E)
  | meth (a : E) (m : String) (es : List E)
  | mk (c : String) (es : List E)
  | att (a : E) (f : String)
  | comp (own : List Nat) (elt : E) (p : Pat) (it : It) (ifs : List E)
  | comp2 (own : List Nat) (elt : E) (p : Pat) (it : It) (ifs : List E) (p2 : Pat) (it2 : It) (ifs2 : List E)
  | alc (a : E)
  | pop (a : E)
  | dict0
inductive It where
  | val (e : E) | rng (a : E) | rng2 (a b : E) | enu (a : E) | zip (a b : E)
end
inductive S where
  | set (p : Pat) (e : E)
  | par (i j : Nat) (a b : E)
  | seti (o i e : E)
  | seta (o : E) (f : String) (e : E)
  | aug (i : Nat) (o : O2) (e : E)
  | app (o e : E) | ext (o e : E)
  | exp (e : E)
  | ret (e : E) | retn
  | cond (c : E) (a b : List S)
  | whl (c : E) (a : List S)
  | forr (p : Pat) (it : It) (a : List S)
  | pass

abbrev Env := List (Option D)
def putA (f : String) (d : D) : List (String × D) → List (String × D)
  | [] => [(f, d)]
  | p :: r => if p.1 = f then (f, d) :: r else p :: putA f d r
inductive Fl where
  | nx (σ : Env) | rt (v : D) | br (σ : Env) | ct (σ : Env)

def setP : Pat → D → Env → Option Env
  | .n i, d, σ => if i < σ.length then some (σ.set i (some d)) else none
  | .t is, .tup xs, σ => if is.length = xs.length ∧ is.all (fun i => decide (i < σ.length)) then some ((is.zip xs).foldl (fun s p => s.set p.1 (some p.2)) σ) else none
  | .t _, _, _ => none
def wipe (σ : Env) : List Nat → Env
  | [] => σ
  | v :: vs => (wipe σ vs).set v none

section
open Classical
/-- the items one after the other, what each gives put together -/
noncomputable def compL (turn : D → Hh → Out (List D)) (okh : Hh → Prop) : List D → Hh → Out (List D)
  | [], h => if okh h then .ok [] h else .bad
  | x :: xs, h => if okh h then (turn x h).thn fun ys h1 => (compL turn okh xs h1).thn fun zs h2 => .ok (ys ++ zs) h2 else .bad
noncomputable def forL (body : D → Env → Hh → Out Fl) (okh : Hh → Prop) : List D → Env → Hh → Out Fl
  | [], σ, h => if okh h then .ok (.nx σ) h else .bad
  | x :: xs, σ, h => if okh h then (body x σ h).thn fun f h1 => match f with
      | .nx σ1 | .ct σ1 => forL body okh xs σ1 h1
      | .br σ1 => .ok (.nx σ1) h1
      | .rt v => .ok (.rt v) h1
    else .bad
def whileN (c : Env → Hh → Out D) (b : Env → Hh → Out Fl) : Nat → Env → Hh → Out Fl
  | 0, _, _ => .bad
  | n + 1, σ, h => (c σ h).thn fun t h1 => match t with
    | .bl true => (b σ h1).thn fun f h2 => match f with
      | .nx σ1 | .ct σ1 => whileN c b n σ1 h2
      | .br σ1 => .ok (.nx σ1) h2
      | .rt v => .ok (.rt v) h2
    | .bl false => .ok (.nx σ) h1
    | _ => .bad
noncomputable def whileF (c : Env → Hh → Out D) (b : Env → Hh → Out Fl) (σ : Env) (h : Hh) : Out Fl :=
  if H : ∃ n, whileN c b n σ h ≠ .bad then whileN c b (choose H) σ h else .bad

/-- the objects that are watched are as they were -/
def Wat (ws : List Nat) (h0 h : Hh) : Prop := ∀ l ∈ ws, h[l]? = h0[l]?
def testF (b : D → Hh → Out D) (d : D) (h : Hh) (k : Hh → Out (List D)) : Out (List D) :=
  (b d h).thn fun t h1 => match t with
    | .bl true => k h1
    | .bl false => .ok [] h1
    | _ => .bad

def rngD (a b : Int) : List D := (List.range (b - a).toNat).map fun k => .int (a + (k : Nat))
def enuD : Nat → List D → List D
  | _, [] => []
  | k, x :: xs => .tup [.int k, x] :: enuD (k + 1) xs
def zipD : List D → List D → List D
  | x :: xs, y :: ys => .tup [x, y] :: zipD xs ys
  | _, _ => []
/-- what is walked: its items, what is watched -/
def walkD (h : Hh) : D → Option (List D × List Nat)
  | .str s => some (s.map fun c => .str [c], [])
  | .tup xs | .fz xs | .lv xs => some (xs, [])
  | .ref l => match h[l]? with
    | some (.lst xs) => some (xs, [l])
    | _ => none
  | _ => none
abbrev Calls := String → String → List D → Hh → Out D
def small (i : Int) : Bool := decide (-(2 ^ 62) ≤ i) && decide (i < 2 ^ 62)
def boolD (d : D) (h : Hh) : Out Bool := match d with
  | .bl b => .ok b h
  | _ => .bad

mutual
noncomputable def evE (C : Calls) : E → Env → Hh → Out D
  | .cst d, _, h => .ok d h
  | .var i, σ, h => match σ[i]? with
    | some (some d) => .ok d h
    | _ => .bad
  | .tup es, σ, h => (evEs C es σ h).thn fun xs h1 => .ok (.tup xs) h1
  | .lst es, σ, h => (evEs C es σ h).thn fun xs h1 => .ok (.lv xs) h1
  | .o1 o a, σ, h => (evE C a σ h).thn fun x h1 => .of h1 (o1F o h1 x)
  | .o2 o a b, σ, h => (evE C a σ h).thn fun x h1 => (evE C b σ h1).thn fun y h2 => .of h2 (o2F o h2 x y)
  | .o3 o a b c, σ, h => (evE C a σ h).thn fun x h1 => (evE C b σ h1).thn fun y h2 => (evE C c σ h2).thn fun z h3 => .of h3 (o3F o h3 x y z)
  | .chn o p a b c, σ, h => (evE C a σ h).thn fun x h1 => (evE C b σ h1).thn fun y h2 => (Out.of h2 (o2F o h2 x y)).thn fun t h3 => match t with
    | .bl true => (evE C c σ h3).thn fun z h4 => .of h4 (o2F p h4 y z)
    | .bl false => .ok (.bl false) h3
    | _ => .bad
  | .and a b, σ, h => (evE C a σ h).thn fun x h1 => match x with
    | .bl true => evE C b σ h1
    | .bl false => .ok (.bl false) h1
    | _ => .bad
  | .or a b, σ, h => (evE C a σ h).thn fun x h1 => match x with
    | .bl false => evE C b σ h1
    | .bl true => .ok (.bl true) h1
    | _ => .bad
  | .ife c a b, σ, h => (evE C c σ h).thn fun x h1 => match x with
    | .bl true => evE C a σ h1
    | .bl false => evE C b σ h1
    | _ => .bad
  | .call c m es, σ, h => (evEs C es σ h).thn fun xs h1 => C c m xs h1
  | .meth a m es, σ, h => (evE C a σ h).thn fun x h1 => match x with
    | .ref l => match h1[l]? with
      | some (.ins c fs) => if (fs.lookup m).isNone then (evEs C es σ h1).thn fun xs h2 => C c m (.ref l :: xs) h2 else .bad
      | _ => .bad
    | _ => .bad
  | .mk c es, σ, h => (evEs C es σ h).thn fun xs h1 => (C c "__init__" (.ref h1.length :: xs) (h1 ++ [.ins c []])).thn fun _ h2 => .ok (.ref h1.length) h2
  | .att a f, σ, h => (evE C a σ h).thn fun x h1 => match x with
    | .ref l => match h1[l]? with
      | some (.ins _ fs) => .of h1 (fs.lookup f)
      | _ => .bad
    | _ => .bad
  | .comp own elt p it ifs, σ, h => (evI C it σ h).thn fun r h1 =>
      (compL (fun d h2 => match setP p d (wipe σ own) with
        | some σ2 => (evTs C ifs σ2 h2).thn fun t h3 => if t then (evE C elt σ2 h3).thn fun y h4 => .ok [y.keep] h4 else .ok [] h3
        | none => .bad) (Wat r.2 h1) r.1 h1).thn fun ys h5 => if ys.length ≤ line then .ok (.lv ys) h5 else .bad
  | .comp2 own elt p it ifs p2 it2 ifs2, σ, h => (evI C it σ h).thn fun r h1 =>
      (compL (fun d h2 => match setP p d (wipe σ own) with
        | some σ2 => (evTs C ifs σ2 h2).thn fun t h3 => if t then (evI C it2 σ2 h3).thn fun r2 h4 =>
            compL (fun d2 h5 => match setP p2 d2 (wipe σ2 p2.ix) with
              | some σ3 => (evTs C ifs2 σ3 h5).thn fun t2 h6 => if t2 then (evE C elt σ3 h6).thn fun y h7 => .ok [y.keep] h7 else .ok [] h6
              | none => .bad) (Wat r2.2 h4) r2.1 h4
          else .ok [] h3
        | none => .bad) (Wat r.2 h1) r.1 h1).thn fun ys h5 => if ys.length ≤ line then .ok (.lv ys) h5 else .bad
  | .alc a, σ, h => (evE C a σ h).thn fun x h1 => match x with
    | .lv xs => .ok (.ref h1.length) (h1 ++ [.lst xs])
    | .dv ks vs => .ok (.ref h1.length) (h1 ++ [.dic ks vs])
    | d => .ok d h1
  | .pop a, σ, h => (evE C a σ h).thn fun x h1 => match x with
    | .ref l => match h1[l]? with
      | some (.lst xs) => match xs.getLast? with
        | some y => .ok y (h1.set l (.lst xs.dropLast))
        | none => .bad
      | _ => .bad
    | _ => .bad
  | .dict0, _, h => .ok (.dv [] []) h
noncomputable def evEs (C : Calls) : List E → Env → Hh → Out (List D)
  | [], _, h => .ok [] h
  | e :: es, σ, h => (evE C e σ h).thn fun x h1 => (evEs C es σ h1).thn fun xs h2 => .ok (x.keep :: xs) h2
noncomputable def evTs (C : Calls) : List E → Env → Hh → Out Bool
  | [], _, h => .ok true h
  | e :: es, σ, h => (evE C e σ h).thn fun x h1 => match x with
    | .bl true => evTs C es σ h1
    | .bl false => .ok false h1
    | _ => .bad
noncomputable def evI (C : Calls) : It → Env → Hh → Out (List D × List Nat)
  | .val e, σ, h => (evE C e σ h).thn fun x h1 => .of h1 (walkD h1 x)
  | .rng a, σ, h => (evE C a σ h).thn fun x h1 => match x with
    | .int i => if small i then .ok (rngD 0 i, []) h1 else .bad
    | _ => .bad
  | .rng2 a b, σ, h => (evE C a σ h).thn fun x h1 => (evE C b σ h1).thn fun y h2 => match x, y with
    | .int i, .int j => if small i && small j then .ok (rngD i j, []) h2 else .bad
    | _, _ => .bad
  | .enu a, σ, h => (evE C a σ h).thn fun x h1 => match walkD h1 x with
    | some (xs, ws) => .ok (enuD 0 xs, ws) h1
    | none => .bad
  | .zip a b, σ, h => (evE C a σ h).thn fun x h1 => (evE C b σ h1).thn fun y h2 => match walkD h2 x, walkD h2 y with
    | some (xs, ws), some (ys, vs) => .ok (zipD xs ys, ws ++ vs) h2
    | _, _ => .bad
end

mutual
noncomputable def evS (C : Calls) : S → Env → Hh → Out Fl
  | .set p e, σ, h => (evE C e σ h).thn fun x h1 => match setP p x.keep σ with
    | some σ1 => .ok (.nx σ1) h1
    | none => .bad
  | .par i j a b, σ, h => (evE C a σ h).thn fun x h1 => (evE C b σ h1).thn fun y h2 => if i < σ.length ∧ j < σ.length ∧ i ≠ j then .ok (.nx ((σ.set i (some x.keep)).set j (some y.keep))) h2 else .bad
  | .seti o i e, σ, h => (evE C e σ h).thn fun x h1 => (evE C o σ h1).thn fun y h2 => (evE C i σ h2).thn fun z h3 => match y, z with
    | .ref l, .int k => match h3[l]? with
      | some (.lst xs) => match ixN xs.length k with
        | some j => .ok (.nx σ) (h3.set l (.lst (xs.set j x.keep)))
        | none => .bad
      | _ => .bad
    | _, _ => .bad
  | .seta o f e, σ, h => (evE C e σ h).thn fun x h1 => (evE C o σ h1).thn fun y h2 => match y with
    | .ref l => match h2[l]? with
      | some (.ins c fs) => .ok (.nx σ) (h2.set l (.ins c (putA f x.keep fs)))
      | _ => .bad
    | _ => .bad
  | .aug i o e, σ, h => match σ[i]? with
    | some (some x) => (evE C e σ h).thn fun y h1 => (Out.of h1 (o2F o h1 x y)).thn fun z h2 => .ok (.nx (σ.set i (some z.keep))) h2
    | _ => .bad
  | .app o e, σ, h => (evE C o σ h).thn fun y h1 => match y with
    | .ref l => match h1[l]? with
      | some (.lst _) => (evE C e σ h1).thn fun x h2 => match h2[l]? with
        | some (.lst xs) => if xs.length < line then .ok (.nx σ) (h2.set l (.lst (xs ++ [x.keep]))) else .bad
        | _ => .bad
      | _ => .bad
    | _ => .bad
  | .ext o e, σ, h => (evE C o σ h).thn fun y h1 => match y with
    | .ref l => match h1[l]? with
      | some (.lst _) => (evE C e σ h1).thn fun x h2 => match h2[l]?, items h2 x with
        | some (.lst xs), some ys => if xs.length + ys.length ≤ line then .ok (.nx σ) (h2.set l (.lst (xs ++ ys))) else .bad
        | _, _ => .bad
      | _ => .bad
    | _ => .bad
  | .exp e, σ, h => (evE C e σ h).thn fun _ h1 => .ok (.nx σ) h1
  | .ret e, σ, h => (evE C e σ h).thn fun x h1 => .ok (.rt x) h1
  | .retn, σ, h => .ok (.rt .non) h
  | .cond c a b, σ, h => (evE C c σ h).thn fun x h1 => match x with
    | .bl true => evSs C a σ h1
    | .bl false => evSs C b σ h1
    | _ => .bad
  | .whl c a, σ, h => whileF (fun σ h => evE C c σ h) (fun σ h => evSs C a σ h) σ h
  | .forr p it a, σ, h => (evI C it σ h).thn fun r h1 => forL (fun d σ h => match setP p d σ with
      | some σ1 => evSs C a σ1 h
      | none => .bad) (Wat r.2 h1) r.1 σ h1
  | .pass, σ, h => .ok (.nx σ) h
noncomputable def evSs (C : Calls) : List S → Env → Hh → Out Fl
  | [], σ, h => .ok (.nx σ) h
  | s :: ss, σ, h => (evS C s σ h).thn fun f h1 => match f with
    | .nx σ1 => evSs C ss σ1 h1
    | f => .ok f h1
end
end
end Sd

/-! PyB: how our plain values stand in the model's heap (RD, RV, RelH), what stays (Stp). -/
namespace Sd
open PySem PySem.Spec PyProof.Rows L2

/-- what is fixed -/
structure Gx where
  K : PySem.W.Frag
  cls : String → Option Addr
  /-- what is hidden for a while: no value leans on it -/
  av : List Addr
abbrev Gx.at (G : Gx) (av : List Addr) : Gx := { G with av := av }
abbrev Gx.hide (G : Gx) (a : Addr) : Gx := { G with av := a :: G.av }

/-- a tuple, a list of the module's own -/
def KTup (K : PySem.W.Frag) (a : Addr) (vs : List V) : Prop := ∃ (o : Obj) (its : Array Value) (n : Nat), K.lookup a = some o ∧ o.cls = .type "tuple" ∧ o.dict = none ∧ o.data = .seq its n ∧ its.size ≤ sizeLine ∧ Vals vs its.toList
def KLst (K : PySem.W.Frag) (a : Addr) (vs : List V) : Prop := ∃ (o : Obj) (its : Array Value) (n : Nat), K.lookup a = some o ∧ o.cls = .type "list" ∧ o.dict = none ∧ o.data = .seq its n ∧ its.size ≤ sizeLine ∧ Vals vs its.toList
def keyD : Key → D
  | .inl i => .int i
  | .inr x => .str x.cps.toList

mutual
inductive RD (G : Gx) (ρ : List Addr) (H : Hp) : D → V → Prop
  | non : RD G ρ H .non .non
  | bl (b : Bool) : RD G ρ H (.bl b) (.bl b)
  | int (i : Int) : RD G ρ H (.int i) (.int i)
  | str (s : List Nat) : RD G ρ H (.str s) (.str ⟨s.toArray⟩)
  | tup {a : Addr} {ob : Obj} {vs : List V} {xs : List D} : H a = some (.frz ob (.tup vs)) → ob.dict = none → a ∉ ρ → a ∉ G.av → RDs G ρ H xs vs → RD G ρ H (.tup xs) (.ref a)
  | tupK {a : Addr} {vs : List V} {xs : List D} : KTup G.K a vs → RDs G ρ H xs vs → RD G ρ H (.tup xs) (.ref a)
  | fz {a : Addr} {vs : List V} {xs : List D} : Rd H a (.lst vs) → a ∉ ρ → a ∉ G.av → RDs G ρ H xs vs → RD G ρ H (.fz xs) (.ref a)
  | fzK {a : Addr} {vs : List V} {xs : List D} : KLst G.K a vs → RDs G ρ H xs vs → RD G ρ H (.fz xs) (.ref a)
  | fd {a : Addr} {kvs : List (Key × V)} {vs : List D} : Rd H a (.dK kvs) → a ∉ ρ → a ∉ G.av → RDs G ρ H vs (kvs.map (·.2)) → RD G ρ H (.fd (kvs.map fun p => keyD p.1) vs) (.ref a)
  | ref {l : Nat} {a : Addr} : ρ[l]? = some a → RD G ρ H (.ref l) (.ref a)
inductive RDs (G : Gx) (ρ : List Addr) (H : Hp) : List D → List V → Prop
  | nil : RDs G ρ H [] []
  | cons {x : D} {v : V} {xs : List D} {vs : List V} : RD G ρ H x v → RDs G ρ H xs vs → RDs G ρ H (x :: xs) (v :: vs)
end

/-- what stays: what is ours keeps its place, what is not ours is as it was and stays not ours -/
structure Stp (ρ ρ' : List Addr) (H H' : Hp) : Prop where
  pre : ∀ (l : Nat) (a : Addr), ρ[l]? = some a → ρ'[l]? = some a
  frm : ∀ b o, H b = some o → b ∉ ρ → H' b = some o ∧ b ∉ ρ'
theorem Stp.refl (ρ : List Addr) (H : Hp) : Stp ρ ρ H H := ⟨fun _ _ h => h, fun _ _ h n => ⟨h, n⟩⟩
theorem Stp.trans {ρ ρ1 ρ2 : List Addr} {H H1 H2 : Hp} (a : Stp ρ ρ1 H H1) (b : Stp ρ1 ρ2 H1 H2) : Stp ρ ρ2 H H2 :=
  ⟨fun l x h => b.pre l x (a.pre l x h), fun c o h n => let ⟨h1, n1⟩ := a.frm c o h n; b.frm c o h1 n1⟩
theorem Stp.new {ρ : List Addr} {H : Hp} {p : Addr} {o : HO} (h : H p = none) : Stp ρ ρ H (upd H p o) :=
  ⟨fun _ _ h => h, fun b u e n => ⟨by rw [upd_ne (ne_of_none e h)]; exact e, n⟩⟩

section
variable {G : Gx} {ρ ρ' : List Addr} {H H' : Hp}
theorem Rd.step {a : Addr} {o : HO} (s : Stp ρ ρ' H H') (h : Rd H a o) (n : a ∉ ρ) : Rd H' a o ∧ a ∉ ρ' := by
  rcases h with h | ⟨u, h⟩
  · exact ⟨.inl (s.frm a _ h n).1, (s.frm a _ h n).2⟩
  · exact ⟨.inr ⟨u, (s.frm a _ h n).1⟩, (s.frm a _ h n).2⟩
theorem Rd.there {a : Addr} {o : HO} (h : Rd H a o) : ∃ u, H a = some u := by
  rcases h with h | ⟨u, h⟩
  · exact ⟨_, h⟩
  · exact ⟨_, h⟩
mutual
/-- carried over: the values that lean on nothing but what stays -/
theorem RD.move {G' : Gx} (hK : G'.K = G.K) (pre : ∀ (l : Nat) (a : Addr), ρ[l]? = some a → ρ'[l]? = some a) (f : ∀ b o, H b = some o → b ∉ ρ → b ∉ G.av → H' b = some o ∧ b ∉ ρ' ∧ b ∉ G'.av) : ∀ {d : D} {v : V}, RD G ρ H d v → RD G' ρ' H' d v
  | _, _, .non => .non
  | _, _, .bl b => .bl b
  | _, _, .int i => .int i
  | _, _, .str x => .str x
  | _, _, .tup h d n m r => let ⟨h1, h2, h3⟩ := f _ _ h n m; .tup h1 d h2 h3 (RDs.move hK pre f r)
  | _, _, .tupK h r => .tupK (by rw [hK]; exact h) (RDs.move hK pre f r)
  | _, _, .fz h n m r => match h with
    | .inl h => let ⟨h1, h2, h3⟩ := f _ _ h n m; .fz (.inl h1) h2 h3 (RDs.move hK pre f r)
    | .inr ⟨u, h⟩ => let ⟨h1, h2, h3⟩ := f _ _ h n m; .fz (.inr ⟨u, h1⟩) h2 h3 (RDs.move hK pre f r)
  | _, _, .fzK h r => .fzK (by rw [hK]; exact h) (RDs.move hK pre f r)
  | _, _, .fd h n m r => match h with
    | .inl h => let ⟨h1, h2, h3⟩ := f _ _ h n m; .fd (.inl h1) h2 h3 (RDs.move hK pre f r)
    | .inr ⟨u, h⟩ => let ⟨h1, h2, h3⟩ := f _ _ h n m; .fd (.inr ⟨u, h1⟩) h2 h3 (RDs.move hK pre f r)
  | _, _, .ref h => .ref (pre _ _ h)
theorem RDs.move {G' : Gx} (hK : G'.K = G.K) (pre : ∀ (l : Nat) (a : Addr), ρ[l]? = some a → ρ'[l]? = some a) (f : ∀ b o, H b = some o → b ∉ ρ → b ∉ G.av → H' b = some o ∧ b ∉ ρ' ∧ b ∉ G'.av) : ∀ {ds : List D} {vs : List V}, RDs G ρ H ds vs → RDs G' ρ' H' ds vs
  | _, _, .nil => .nil
  | _, _, .cons r rs => .cons (RD.move hK pre f r) (RDs.move hK pre f rs)
end
theorem RD.step (s : Stp ρ ρ' H H') {d : D} {v : V} (r : RD G ρ H d v) : RD G ρ' H' d v := r.move (G := G) (G' := G) rfl s.pre fun b o e n m => ⟨(s.frm b o e n).1, (s.frm b o e n).2, m⟩
theorem RDs.step (s : Stp ρ ρ' H H') {d : List D} {v : List V} (r : RDs G ρ H d v) : RDs G ρ' H' d v := r.move (G := G) (G' := G) rfl s.pre fun b o e n m => ⟨(s.frm b o e n).1, (s.frm b o e n).2, m⟩
theorem RD.new {p : Addr} {o : HO} (n : H p = none) {d : D} {v : V} (r : RD G ρ H d v) : RD (G.hide p) ρ (upd H p o) d v := r.move (G := G) (G' := G.hide p) (H' := upd H p o) rfl (fun _ _ h => h) fun b u e nn m => ⟨by rw [upd_ne (ne_of_none e n)]; exact e, nn, by
  simp only [List.mem_cons, not_or]; exact ⟨ne_of_none e n, m⟩⟩
theorem RDs.new {p : Addr} {o : HO} (n : H p = none) {d : List D} {v : List V} (r : RDs G ρ H d v) : RDs (G.hide p) ρ (upd H p o) d v := r.move (G := G) (G' := G.hide p) (H' := upd H p o) rfl (fun _ _ h => h) fun b u e nn m => ⟨by rw [upd_ne (ne_of_none e n)]; exact e, nn, by
  simp only [List.mem_cons, not_or]; exact ⟨ne_of_none e n, m⟩⟩
theorem RD.show {p : Addr} {d : D} {v : V} (r : RD (G.hide p) ρ H d v) : RD G ρ H d v := r.move (G := (G.hide p)) (G' := G) rfl (fun _ _ h => h) fun b u e nn m => ⟨e, nn, fun z => m (List.mem_cons_of_mem _ z)⟩
theorem RDs.show {p : Addr} {d : List D} {v : List V} (r : RDs (G.hide p) ρ H d v) : RDs G ρ H d v := r.move (G := (G.hide p)) (G' := G) rfl (fun _ _ h => h) fun b u e nn m => ⟨e, nn, fun z => m (List.mem_cons_of_mem _ z)⟩
theorem RDs.length : ∀ {ds : List D} {vs : List V}, RDs G ρ H ds vs → ds.length = vs.length
  | _, _, .nil => rfl
  | _, _, .cons _ r => by rw [List.length_cons, List.length_cons, RDs.length r]
theorem RDs.get : ∀ {ds : List D} {vs : List V} {i : Nat} {d : D}, RDs G ρ H ds vs → ds[i]? = some d → ∃ v, vs[i]? = some v ∧ RD G ρ H d v
  | _, _, _, _, .nil, h => by simp at h
  | _, _, 0, _, .cons r _, h => by simp at h; subst h; exact ⟨_, rfl, r⟩
  | _, _, i + 1, d, .cons _ rs, h => by
    obtain ⟨v, h1, h2⟩ := RDs.get (i := i) (d := d) rs (by simpa using h)
    exact ⟨v, by simpa using h1, h2⟩
theorem RDs.get' : ∀ {ds : List D} {vs : List V} {i : Nat} {v : V}, RDs G ρ H ds vs → vs[i]? = some v → ∃ d, ds[i]? = some d ∧ RD G ρ H d v
  | _, _, _, _, .nil, h => by simp at h
  | _, _, 0, _, .cons r _, h => by simp at h; subst h; exact ⟨_, rfl, r⟩
  | _, _, i + 1, d, .cons _ rs, h => by
    obtain ⟨v, h1, h2⟩ := RDs.get' (i := i) rs (by simpa using h)
    exact ⟨v, by simpa using h1, h2⟩
theorem RDs.append : ∀ {xs ys : List D} {vs ws : List V}, RDs G ρ H xs vs → RDs G ρ H ys ws → RDs G ρ H (xs ++ ys) (vs ++ ws)
  | _, _, _, _, .nil, s => s
  | _, _, _, _, .cons r t, s => .cons r (RDs.append t s)
theorem RDs.take : ∀ {xs : List D} {vs : List V} (n : Nat), RDs G ρ H xs vs → RDs G ρ H (xs.take n) (vs.take n)
  | _, _, 0, _ => by simp; exact .nil
  | _, _, _ + 1, .nil => .nil
  | _, _, n + 1, .cons r t => .cons r (RDs.take n t)
theorem RDs.drop : ∀ {xs : List D} {vs : List V} (n : Nat), RDs G ρ H xs vs → RDs G ρ H (xs.drop n) (vs.drop n)
  | _, _, 0, r => r
  | _, _, _ + 1, .nil => .nil
  | _, _, n + 1, .cons _ t => RDs.drop n t
theorem RDs.reverse : ∀ {xs : List D} {vs : List V}, RDs G ρ H xs vs → RDs G ρ H xs.reverse vs.reverse
  | _, _, .nil => .nil
  | _, _, .cons r t => by
    rw [List.reverse_cons, List.reverse_cons]
    exact RDs.append (RDs.reverse t) (.cons r .nil)
theorem RDs.set : ∀ {xs : List D} {vs : List V} {d : D} {v : V} (i : Nat), RDs G ρ H xs vs → RD G ρ H d v → RDs G ρ H (xs.set i d) (vs.set i v)
  | _, _, _, _, _, .nil, _ => .nil
  | _, _, _, _, 0, .cons _ t, q => .cons q t
  | _, _, _, _, i + 1, .cons r t, q => .cons r (RDs.set i t q)
theorem RDs.one {d : D} {vs : List V} (r : RDs G ρ H [d] vs) : ∃ v, vs = [v] ∧ RD G ρ H d v := by
  cases r with
  | cons r t => cases t; exact ⟨_, rfl, r⟩
end

/-- what an object of ours is -/
def RO (G : Gx) (ρ : List Addr) (H : Hp) (a : Addr) : Ob → Prop
  | .lst xs => ∃ vs, H a = some (.lst vs) ∧ RDs G ρ H xs vs
  | .dic ks vs => ∃ kvs : List (Key × V), H a = some (.dK kvs) ∧ ks = kvs.map (fun p => keyD p.1) ∧ RDs G ρ H vs (kvs.map (·.2))
  | .ins c fs => ∃ (C dx : Addr) (vfs : List (Str × V)), G.cls c = some C ∧ H a = some (.ins C dx vfs) ∧ vfs.map (·.1) = fs.map (fun p => Str.ofString p.1) ∧ RDs G ρ H (fs.map (·.2)) (vfs.map (·.2))
structure RelH (G : Gx) (ρ : List Addr) (h : Hh) (H : Hp) : Prop where
  len : ρ.length = h.length
  nd : ρ.Nodup
  obj : ∀ (l : Nat) (o : Ob), h[l]? = some o → ∃ a, ρ[l]? = some a ∧ RO G ρ H a o
  avd : ∀ b ∈ G.av, ∃ o, H b = some o
  avn : ∀ b ∈ G.av, b ∉ ρ
section
variable {G : Gx} {ρ ρ' : List Addr} {H H' : Hp} {h h' : Hh}
theorem RO.move {G' : Gx} {a : Addr} {o : Ob} (hK : G'.K = G.K) (hC : G'.cls = G.cls) (pre : ∀ (l : Nat) (a : Addr), ρ[l]? = some a → ρ'[l]? = some a) (f : ∀ b o, H b = some o → b ∉ ρ → b ∉ G.av → H' b = some o ∧ b ∉ ρ' ∧ b ∉ G'.av) (k : ∀ u, H a = some u → H' a = some u) : RO G ρ H a o → RO G' ρ' H' a o := by
  cases o with
  | lst xs => rintro ⟨vs, e, r⟩; exact ⟨vs, k _ e, r.move hK pre f⟩
  | dic ks vs => rintro ⟨kvs, e, q, r⟩; exact ⟨kvs, k _ e, q, r.move hK pre f⟩
  | ins c fs => rintro ⟨C, dx, vfs, e1, e, q, r⟩; exact ⟨C, dx, vfs, by rw [hC]; exact e1, k _ e, q, r.move hK pre f⟩
theorem RO.step {a : Addr} {o : Ob} (s : Stp ρ ρ' H H') (k : ∀ u, H a = some u → H' a = some u) (r : RO G ρ H a o) : RO G ρ' H' a o :=
  r.move (G := G) (G' := G) rfl rfl s.pre (fun b o e n m => ⟨(s.frm b o e n).1, (s.frm b o e n).2, m⟩) k
theorem RO.there {a : Addr} {o : Ob} : RO G ρ H a o → ∃ u, H a = some u := by
  cases o with
  | lst xs => rintro ⟨vs, e, r⟩; exact ⟨_, e⟩
  | dic ks vs => rintro ⟨kvs, e, q, r⟩; exact ⟨_, e⟩
  | ins c fs => rintro ⟨C, dx, vfs, e1, e, q, r⟩; exact ⟨_, e⟩
theorem RO.lst_inv {a : Addr} {xs : List D} (r : RO G ρ H a (.lst xs)) : ∃ vs, H a = some (.lst vs) ∧ RDs G ρ H xs vs := r
theorem RelH.lt {l : Nat} {a : Addr} (R : RelH G ρ h H) (e : ρ[l]? = some a) : ∃ o, h[l]? = some o ∧ RO G ρ H a o := by
  have hl : l < ρ.length := (List.getElem?_eq_some_iff.mp e).1
  rw [R.len] at hl
  obtain ⟨a', e', r⟩ := R.obj l _ (List.getElem?_eq_getElem hl)
  rw [e] at e'; cases e'
  exact ⟨_, List.getElem?_eq_getElem hl, r⟩
theorem RelH.mem {a : Addr} (R : RelH G ρ h H) (e : a ∈ ρ) : ∃ u, H a = some u := by
  obtain ⟨l, hl, e⟩ := List.mem_iff_getElem.mp e
  obtain ⟨o, _, r⟩ := R.lt (l := l) (a := a) (by rw [← e]; exact List.getElem?_eq_getElem hl)
  exact r.there
theorem RelH.notIn {p : Addr} (R : RelH G ρ h H) (n : H p = none) : p ∉ ρ := fun hm => by
  obtain ⟨u, e⟩ := R.mem hm
  rw [n] at e; cases e
theorem RelH.notAv {p : Addr} (R : RelH G ρ h H) (n : H p = none) : p ∉ G.av := fun hm => by
  obtain ⟨u, e⟩ := R.avd p hm
  rw [n] at e; cases e
/-- a new object that isn't ours -/
theorem RelH.new {p : Addr} {o : HO} (R : RelH G ρ h H) (n : H p = none) : RelH G ρ h (upd H p o) :=
  ⟨R.len, R.nd, fun l u e => by
    obtain ⟨a, e1, r⟩ := R.obj l u e
    refine ⟨a, e1, r.step (Stp.new n) fun w q => ?_⟩
    rw [upd_ne (ne_of_none q n)]; exact q, fun b hb => by
    obtain ⟨u, e⟩ := R.avd b hb
    exact ⟨u, by rw [upd_ne (ne_of_none e n)]; exact e⟩, R.avn⟩
/-- .. and is hidden -/
theorem RelH.newHid {p : Addr} {o : HO} (R : RelH G ρ h H) (n : H p = none) : RelH (G.hide p) ρ h (upd H p o) := by
  refine ⟨R.len, R.nd, fun l u e => ?_, fun b hb => ?_, fun b hb => ?_⟩
  · obtain ⟨a, e1, r⟩ := R.obj l u e
    refine ⟨a, e1, r.move (G := G) (G' := G.hide p) (H' := upd H p o) rfl rfl (fun _ _ h => h) (fun b u e nn m => ⟨by rw [upd_ne (ne_of_none e n)]; exact e, nn, ?_⟩) fun w q => ?_⟩
    · simp only [List.mem_cons, not_or]; exact ⟨ne_of_none e n, m⟩
    · rw [upd_ne (ne_of_none q n)]; exact q
  · rcases List.mem_cons.mp hb with rfl | hb
    · exact ⟨_, upd_same⟩
    · obtain ⟨u, e⟩ := R.avd b hb
      exact ⟨u, by rw [upd_ne (ne_of_none e n)]; exact e⟩
  · rcases List.mem_cons.mp hb with rfl | hb
    · exact R.notIn n
    · exact R.avn b hb
theorem RelH.show {p : Addr} (R : RelH (G.hide p) ρ h H) : RelH G ρ h H :=
  ⟨R.len, R.nd, fun l u e => by
    obtain ⟨a, e1, r⟩ := R.obj l u e
    exact ⟨a, e1, r.move (G := (G.hide p)) (G' := G) rfl rfl (fun _ _ h => h) (fun b u e nn m => ⟨e, nn, fun z => m (List.mem_cons_of_mem _ z)⟩) fun w q => q⟩, fun b hb => R.avd b (List.mem_cons_of_mem _ hb), fun b hb => R.avn b (List.mem_cons_of_mem _ hb)⟩
theorem nodup_concat {p : Addr} (nd : ρ.Nodup) (n : p ∉ ρ) : (ρ ++ [p]).Nodup := by
  rw [List.nodup_append]
  exact ⟨nd, by simp, fun a ha b hb => by rw [List.mem_singleton.mp hb]; exact fun e => n (e ▸ ha)⟩
/-- an object of ours is written -/
theorem ixInj {α : Type} {ρ : List α} (nd : ρ.Nodup) {l l' : Nat} {a : α} (e : ρ[l]? = some a) (e' : ρ[l']? = some a) : l = l' := by
  obtain ⟨h1, q1⟩ := List.getElem?_eq_some_iff.mp e
  obtain ⟨h2, q2⟩ := List.getElem?_eq_some_iff.mp e'
  exact (List.getElem_inj nd).mp (q1.trans q2.symm)
theorem Stp.write {a : Addr} {o : HO} (m : a ∈ ρ) : Stp ρ ρ H (upd H a o) :=
  ⟨fun _ _ h => h, fun b u e n => ⟨by rw [upd_ne (fun z => n (by rw [z]; exact m))]; exact e, n⟩⟩
theorem RelH.write {l : Nat} {a : Addr} {o : HO} {ob : Ob} (R : RelH G ρ h H) (e : ρ[l]? = some a) (q : RO G ρ (upd H a o) a ob) : RelH G ρ (h.set l ob) (upd H a o) := by
  have hm : a ∈ ρ := List.mem_of_getElem? e
  refine ⟨by rw [List.length_set]; exact R.len, R.nd, fun l' u e' => ?_, fun b hb => ?_, R.avn⟩
  rotate_left
  · obtain ⟨u, e1⟩ := R.avd b hb
    exact ⟨u, by rw [upd_ne (fun z => R.avn b hb (by rw [z]; exact hm))]; exact e1⟩
  by_cases hl : l = l'
  · subst hl
    have hlt : l < h.length := by rw [← R.len]; exact (List.getElem?_eq_some_iff.mp e).1
    rw [List.getElem?_set_self hlt] at e'
    cases e'
    exact ⟨a, e, q⟩
  · rw [List.getElem?_set_ne hl] at e'
    obtain ⟨b, e1, r⟩ := R.obj l' u e'
    refine ⟨b, e1, r.step (Stp.write hm) fun w z => ?_⟩
    rw [upd_ne (fun z' => hl (ixInj R.nd e (by rw [← z']; exact e1)))]
    exact z
/-- an object that was hidden becomes ours -/
theorem RelH.own {p : Addr} {ob : Ob} (nv : p ∉ G.av) (R : RelH (G.hide p) ρ h H) (ro : RO (G.hide p) ρ H p ob) : RelH G (ρ ++ [p]) (h ++ [ob]) H ∧ (ρ ++ [p])[h.length]? = some p := by
  have pre : ∀ (l : Nat) (a : Addr), ρ[l]? = some a → (ρ ++ [p])[l]? = some a := fun l a e => by
    rw [List.getElem?_append_left (List.getElem?_eq_some_iff.mp e).1]; exact e
  have at_ : (ρ ++ [p])[h.length]? = some p := by
    rw [← R.len, List.getElem?_append_right (Nat.le_refl _)]; simp
  have np : p ∉ ρ := R.avn p List.mem_cons_self
  have mv : ∀ b o, H b = some o → b ∉ ρ → b ∉ (G.hide p).av → H b = some o ∧ b ∉ ρ ++ [p] ∧ b ∉ G.av := fun b o e n m => by
    simp only [List.mem_cons, not_or] at m
    exact ⟨e, by simp only [List.mem_append, List.mem_singleton, not_or]; exact ⟨n, m.1⟩, m.2⟩
  refine ⟨⟨by simp [R.len], nodup_concat R.nd np, fun l u el => ?_, fun b hb => R.avd b (List.mem_cons_of_mem _ hb), fun b hb hm => ?_⟩, at_⟩
  · by_cases hl : l < h.length
    · rw [List.getElem?_append_left hl] at el
      obtain ⟨a, ea, ra⟩ := R.obj l u el
      exact ⟨a, pre l a ea, ra.move (G := (G.hide p)) (G' := G) rfl rfl pre mv fun w q => q⟩
    · have hle : l = h.length := by
        have := (List.getElem?_eq_some_iff.mp el).1
        simp at this; omega
      subst hle
      rw [List.getElem?_append_right (Nat.le_refl _)] at el
      simp at el
      subst el
      exact ⟨p, at_, ro.move (G := (G.hide p)) (G' := G) rfl rfl pre mv fun w q => q⟩
  · rcases List.mem_append.mp hm with hm | hm
    · exact R.avn b (List.mem_cons_of_mem _ hb) hm
    · rw [List.mem_singleton.mp hm] at hb
      exact nv hb
end

/-- what an expression gives: a list just made is new, not ours, and nothing leans on it -/
def RV (G : Gx) (ρ : List Addr) (h : Hh) (H0 H : Hp) (d : D) (v : V) : Prop := match d with
  | .lv xs => ∃ a vs, v = .ref a ∧ H0 a = none ∧ a ∉ G.av ∧ H a = some (.lst vs) ∧ RDs (G.hide a) ρ H xs vs ∧ RelH (G.hide a) ρ h H
  | .dv ks vs => ∃ (a : Addr) (kvs : List (Key × V)), v = .ref a ∧ H0 a = none ∧ a ∉ G.av ∧ H a = some (.dK kvs) ∧ ks = kvs.map (fun p => keyD p.1) ∧ RDs (G.hide a) ρ H vs (kvs.map (·.2)) ∧ RelH (G.hide a) ρ h H
  | d => RD G ρ H d v
section
variable {G : Gx} {ρ ρ' ρ0 : List Addr} {h h' : Hh} {H H' H0 H1 : Hp} {d : D} {v : V}
theorem RV.keep (r : RV G ρ h H0 H d v) : RD G ρ H d.keep v := by
  cases d with
  | lv xs => obtain ⟨a, vs, rfl, _, n, e, r, R⟩ := r; exact .fz (.inl e) (R.avn a List.mem_cons_self) n r.show
  | dv ks vs => obtain ⟨a, kvs, rfl, _, n, e, rfl, r, R⟩ := r; exact .fd (.inl e) (R.avn a List.mem_cons_self) n r.show
  | _ => exact r
theorem RD.rv (r : RD G ρ H d v) : RV G ρ h H0 H d v := by
  cases d with
  | lv xs => cases r
  | dv ks vs => cases r
  | _ => exact r
theorem RD.keep (r : RD G ρ H d v) : RD G ρ H d.keep v := by
  cases d with
  | lv xs => cases r
  | dv ks vs => cases r
  | _ => exact r
theorem Stp.mem (s : Stp ρ ρ' H H') : ∀ x ∈ ρ, x ∈ ρ' := fun x m => by
  obtain ⟨l, hl, e⟩ := List.mem_iff_getElem.mp m
  exact List.mem_of_getElem? (s.pre l x (by rw [← e]; exact List.getElem?_eq_getElem hl))
theorem free_of_step (s : Stp ρ0 ρ H0 H1) (s2 : Stp ρ ρ' H1 H) {a : Addr} (n1 : H1 a = none) (n : a ∉ ρ') : H0 a = none := by
  cases q : H0 a with
  | none => rfl
  | some o =>
    have n0 : a ∉ ρ0 := fun m => n (s2.mem a (s.mem a m))
    have := (s.frm a o q n0).1
    rw [n1] at this; cases this
/-- seen from an earlier time -/
theorem RV.back (s : Stp ρ0 ρ H0 H1) (s2 : Stp ρ ρ' H1 H) (r : RV G ρ' h H1 H d v) : RV G ρ' h H0 H d v := by
  cases d with
  | lv xs => obtain ⟨a, vs, e, n0, n, q, r, R⟩ := r; exact ⟨a, vs, e, free_of_step s s2 n0 (R.avn a List.mem_cons_self), n, q, r, R⟩
  | dv ks vs => obtain ⟨a, kvs, e, n0, n, q, e2, r, R⟩ := r; exact ⟨a, kvs, e, free_of_step s s2 n0 (R.avn a List.mem_cons_self), n, q, e2, r, R⟩
  | _ => exact r
end

/-- the names' values -/
def RelE (G : Gx) (ρ : List Addr) (H : Hp) (σD : Env) (σ : L2.St) : Prop :=
  σD.length = σ.length ∧ ∀ (i : Nat) (d : D), σD[i]? = some (some d) → ∃ v, σ[i]? = some (some v) ∧ RD G ρ H d v
section
variable {G : Gx} {ρ ρ' : List Addr} {H H' : Hp} {σD : Env} {σ : L2.St}
theorem RelE.step (s : Stp ρ ρ' H H') (r : RelE G ρ H σD σ) : RelE G ρ' H' σD σ :=
  ⟨r.1, fun i d e => let ⟨v, q, z⟩ := r.2 i d e; ⟨v, q, z.step s⟩⟩
theorem RelE.set {i : Nat} {d : D} {v : V} (r : RelE G ρ H σD σ) (q : RD G ρ H d v) : RelE G ρ H (σD.set i (some d)) (σ.set i (some v)) := by
  refine ⟨by rw [List.length_set, List.length_set]; exact r.1, fun j e hj => ?_⟩
  by_cases hi : i = j
  · subst hi
    have hl : i < σD.length := by
      have := (List.getElem?_eq_some_iff.mp hj).1
      rwa [List.length_set] at this
    rw [List.getElem?_set_self hl] at hj
    cases hj
    exact ⟨v, by rw [List.getElem?_set_self (by rw [← r.1]; exact hl)], q⟩
  · rw [List.getElem?_set_ne hi] at hj
    obtain ⟨w, e1, z⟩ := r.2 j e hj
    exact ⟨w, by rw [List.getElem?_set_ne hi]; exact e1, z⟩
theorem RelE.setNone {i : Nat} (r : RelE G ρ H σD σ) : RelE G ρ H (σD.set i none) (σ.set i none) := by
  refine ⟨by rw [List.length_set, List.length_set]; exact r.1, fun j e hj => ?_⟩
  by_cases hi : i = j
  · subst hi
    have hl : i < σD.length := by
      have := (List.getElem?_eq_some_iff.mp hj).1
      rwa [List.length_set] at this
    rw [List.getElem?_set_self hl] at hj
    cases hj
  · rw [List.getElem?_set_ne hi] at hj
    obtain ⟨w, e1, z⟩ := r.2 j e hj
    exact ⟨w, by rw [List.getElem?_set_ne hi]; exact e1, z⟩
theorem RelE.wipe (r : RelE G ρ H σD σ) : ∀ vs : List Nat, RelE G ρ H (Sd.wipe σD vs) (L2.wipe σ vs)
  | [] => r
  | v :: vs => (RelE.wipe r vs).setNone
end

/-! ### readings -/
def tD (G : Gx) (m : Env → Hh → Out D) : TE := fun σ H Q => ∃ av ρ h σD d h', RelH (G.at av) ρ h H ∧ RelE (G.at av) ρ H σD σ ∧ m σD h = .ok d h' ∧
  ∀ ρ' H' v, Stp ρ ρ' H H' → RelH (G.at av) ρ' h' H' → RV (G.at av) ρ' h' H H' d v → Q v H'
def tDs (G : Gx) (m : Env → Hh → Out (List D)) : TA := fun σ H Q => ∃ av ρ h σD ds h', RelH (G.at av) ρ h H ∧ RelE (G.at av) ρ H σD σ ∧ m σD h = .ok ds h' ∧
  ∀ ρ' H' vs, Stp ρ ρ' H H' → RelH (G.at av) ρ' h' H' → RDs (G.at av) ρ' H' ds vs → Q vs H'
def tDt (G : Gx) (m : Env → Hh → Out D) : TT := fun σ H Q => ∃ av ρ h σD b h', RelH (G.at av) ρ h H ∧ RelE (G.at av) ρ H σD σ ∧ m σD h = .ok (.bl b) h' ∧
  ∀ ρ' H', Stp ρ ρ' H H' → RelH (G.at av) ρ' h' H' → Q b H'
theorem PE.imp {X : Cx} {e : Expr} {t t' : TE} (p : PE X e t) (h : ∀ σ H Q, t' σ H Q → t σ H Q) : PE X e t' := ⟨fun pins s σ H Q I q => p.run pins s σ H Q I (h σ H Q q)⟩
theorem PT.imp {X : Cx} {e : Expr} {t t' : TT} (p : PT X e t) (h : ∀ σ H Q, t' σ H Q → t σ H Q) : PT X e t' := ⟨fun pins s σ H Q I q => p.run pins s σ H Q I (h σ H Q q)⟩
theorem PW.imp {X : Cx} {e : Expr} {t t' : TT} (p : PW X e t) (h : ∀ σ H Q, t' σ H Q → t σ H Q) : PW X e t' := ⟨fun wh pins s σ H Q I q => p.run wh pins s σ H Q I (h σ H Q q)⟩
theorem PA.imp {X : Cx} {e : List Expr} {t t' : TA} (p : PA X e t) (h : ∀ σ H Q, t' σ H Q → t σ H Q) : PA X e t' := ⟨fun pos pins s σ H Q I q => p.run pos pins s σ H Q I (h σ H Q q)⟩
theorem PS.imp {X : Cx} {e : Stmt} {t t' : TS} (p : PS X e t) (h : ∀ D σ H, t' D σ H → t D σ H) : PS X e t' := ⟨fun pins s σ H D I q => p.run pins s σ H D I (h D σ H q)⟩
theorem PSs.imp {X : Cx} {e : List Stmt} {t t' : TS} (p : PSs X e t) (h : ∀ D σ H, t' D σ H → t D σ H) : PSs X e t' := ⟨fun pins s σ H D I q => p.run pins s σ H D I (h D σ H q)⟩
theorem RelH.keeps {G : Gx} {ρ : List Addr} {h : Hh} {H : Hp} (R : RelH G ρ h H) : RelH G ρ h H := R
end Sd

/-! PyC: what operators and builtins give, over the model. -/
namespace Sd
open PySem PySem.Spec PyProof.Rows L2

def U1 (G : Gx) (F : Hh → D → Option D) : V → Hp → VK → Prop := fun v H Q => ∃ av ρ h x z, RelH (G.at av) ρ h H ∧ RD (G.at av) ρ H x v ∧ F h x = some z ∧
  ∀ H' u, Stp ρ ρ H H' → RelH (G.at av) ρ h H' → RV (G.at av) ρ h H H' z u → Q u H'
def U2 (G : Gx) (F : Hh → D → D → Option D) : R2 := fun v w H Q => ∃ av ρ h x y z, RelH (G.at av) ρ h H ∧ RD (G.at av) ρ H x v ∧ RD (G.at av) ρ H y w ∧ F h x y = some z ∧
  ∀ H' u, Stp ρ ρ H H' → RelH (G.at av) ρ h H' → RV (G.at av) ρ h H H' z u → Q u H'

theorem o1_keep (o : O1) (h : Hh) (x : D) : o1F o h x.keep = o1F o h x := by
  cases o <;> cases x <;> rfl
theorem pd_keep (h : Hh) (n : Nat) (x : D) : (pd h n x.keep) = pd h n x := by
  cases n <;> cases x <;> first | rfl | simp only [pd, D.keep]
theorem seqs_keep (h : Hh) (x : D) : seqs h x.keep = seqs h x := by cases x <;> rfl
theorem items_keep (h : Hh) (x : D) : items h x.keep = items h x := by cases x <;> rfl
theorem dict_keep (h : Hh) (x : D) : dict h x.keep = dict h x := by cases x <;> rfl
theorem eqF_keep (h : Hh) (x y : D) : eqF h x.keep y.keep = eqF h x y := by unfold eqF; rw [pd_keep, pd_keep]
theorem memF_keep (h : Hh) (x : D) (ys : List D) : memF h x.keep ys = memF h x ys := by unfold memF; rw [pd_keep]

section
variable {G : Gx} {ρ : List Addr} {h : Hh} {H : Hp} {x : D} {v : V}
/-! ### inversions -/
theorem RD.int_inv {i : Int} (r : RD G ρ H (.int i) v) : v = .int i := by cases r; rfl
theorem RD.bl_inv {b : Bool} (r : RD G ρ H (.bl b) v) : v = .bl b := by cases r; rfl
theorem RD.non_inv (r : RD G ρ H .non v) : v = .non := by cases r; rfl
theorem RD.str_inv {s : List Nat} (r : RD G ρ H (.str s) v) : v = .str ⟨s.toArray⟩ := by cases r; rfl
theorem RD.items_inv {xs : List D} (R : RelH G ρ h H) (r : RD G ρ H x v) (e : items h x = some xs) : ∃ a vs, v = .ref a ∧ SqL G.K H a vs ∧ RDs G ρ H xs vs := by
  cases r with
  | fz q n m rs => cases e; exact ⟨_, _, rfl, .inl q, rs⟩
  | fzK q rs => cases e; exact ⟨_, _, rfl, .inr q, rs⟩
  | @ref l a q =>
    obtain ⟨o, e1, ro⟩ := R.lt q
    simp only [items, e1] at e
    cases o with
    | lst ys =>
      cases e
      obtain ⟨vs, e2, rs⟩ := ro
      exact ⟨_, _, rfl, .inl (.inl e2), rs⟩
    | _ => cases e
  | _ => cases e
theorem RD.seqs_inv {xs : List D} (R : RelH G ρ h H) (r : RD G ρ H x v) (e : seqs h x = some xs) : ∃ a vs, v = .ref a ∧ (SqL G.K H a vs ∨ SqT G.K H a vs) ∧ RDs G ρ H xs vs := by
  cases x with
  | tup ys =>
    cases e
    cases r with
    | tup q d n m rs => exact ⟨_, _, rfl, .inr (.inl (.inr ⟨_, q⟩)), rs⟩
    | tupK q rs =>
      obtain ⟨o, its, n, e1, e2, _, e4, e5, e6⟩ := q
      exact ⟨_, _, rfl, .inr (.inr ⟨o, its, n, e1, e2, e4, e5, e6⟩), rs⟩
  | _ =>
    obtain ⟨a, vs, e1, q, rs⟩ := RD.items_inv R r (by exact e)
    exact ⟨a, vs, e1, .inl q, rs⟩
theorem RD.tup_inv {xs : List D} (r : RD G ρ H (.tup xs) v) : ∃ a vs, v = .ref a ∧ SqT G.K H a vs ∧ RDs G ρ H xs vs := by
  cases r with
  | tup q d n m rs => exact ⟨_, _, rfl, .inl (.inr ⟨_, q⟩), rs⟩
  | tupK q rs =>
    obtain ⟨o, its, n, e1, e2, _, e4, e5, e6⟩ := q
    exact ⟨_, _, rfl, .inr ⟨o, its, n, e1, e2, e4, e5, e6⟩, rs⟩
/-! ### endings -/
theorem fin_tup {X : Cx} {pins : List (Addr × Obj)} {σ : L2.St} {s : Shared} {xs : List D} {vs : List V} {us : List Value} {Q : VK} {t : Nat} (I : Inv X pins σ H s) (R : RelH G ρ h H) (rs : RDs G ρ H xs vs) (rv : Vals vs us) (hz : vs.length ≤ sizeLine)
    (q : ∀ H' u, Stp ρ ρ H H' → RelH G ρ h H' → RV G ρ h H H' (.tup xs) u → Q u H') : EP X pins σ Q (.ref s.heap.objs.size) { s with heap := s.heap.push { cls := .type "tuple", data := .seq us.toArray }, toks := t } := by
  have n : H s.heap.objs.size = none := I.hok.fresh (Nat.le_refl _)
  have e := Heap.get?_push_size s.heap (o := { cls := .type "tuple", data := .seq us.toArray }) rfl
  refine ⟨.ref s.heap.objs.size, _, I.laid (t' := t) (o := .frz { cls := .type "tuple", data := .seq us.toArray } (.tup vs)) (fun b ob q => Heap.get?_push_of_some _ q) (Nat.le_refl _) ⟨e, hz, us, rv, IsTup.new _ _⟩, rfl, ?_⟩
  exact q _ _ (Stp.new n) (R.new n) (RD.tup upd_same rfl (R.notIn n) (R.notAv n) (rs.step (Stp.new n)))
theorem fin_lst {xs : List D} {vs : List V} {p : Addr} {Q : VK} (R : RelH G ρ h H) (rs : RDs G ρ H xs vs) (n : H p = none)
    (q : ∀ H' u, Stp ρ ρ H H' → RelH G ρ h H' → RV G ρ h H H' (.lv xs) u → Q u H') : Q (.ref p) (upd H p (.lst vs)) :=
  q _ _ (Stp.new n) (R.new n) ⟨p, vs, rfl, n, R.notAv n, upd_same, rs.new n, R.newHid n⟩
theorem fin_at {z : D} {u : V} {Q : VK} (R : RelH G ρ h H) (r : RD G ρ H z u)
    (q : ∀ H' u, Stp ρ ρ H H' → RelH G ρ h H' → RV G ρ h H H' z u → Q u H') : Q u H := q _ _ (Stp.refl _ _) R r.rv

/-! ### lists of plain values -/
theorem RDs.bools {xs : List D} {vs : List V} (r : RDs G ρ H xs vs) : ∀ {bs : List Bool}, Sd.bools xs = some bs → vs = bs.map V.bl := by
  induction xs generalizing vs with
  | nil => intro bs e; cases e; cases r; rfl
  | cons x xs ih =>
    intro bs e
    cases r with
    | cons r rs =>
      cases x with
      | bl b =>
        simp only [Sd.bools, Option.map_eq_some_iff] at e
        obtain ⟨bs', e, rfl⟩ := e
        cases r
        rw [ih rs e]; rfl
      | _ => cases e
theorem RDs.ints {xs : List D} {vs : List V} (r : RDs G ρ H xs vs) : ∀ {bs : List Int}, Sd.intsOf xs = some bs → vs = bs.map V.int := by
  induction xs generalizing vs with
  | nil => intro bs e; cases e; cases r; rfl
  | cons x xs ih =>
    intro bs e
    cases r with
    | cons r rs =>
      cases x with
      | int b =>
        simp only [Sd.intsOf, Option.map_eq_some_iff] at e
        obtain ⟨bs', e, rfl⟩ := e
        cases r
        rw [ih rs e]; rfl
      | _ => cases e
theorem RDs.strs {xs : List D} {vs : List V} (r : RDs G ρ H xs vs) : ∀ {bs : List (List Nat)}, Sd.strsOf xs = some bs → vs = (bs.map fun s => (⟨s.toArray⟩ : Str)).map V.str := by
  induction xs generalizing vs with
  | nil => intro bs e; cases e; cases r; rfl
  | cons x xs ih =>
    intro bs e
    cases r with
    | cons r rs =>
      cases x with
      | str b =>
        simp only [Sd.strsOf, Option.map_eq_some_iff] at e
        obtain ⟨bs', e, rfl⟩ := e
        cases r
        rw [ih rs e]; rfl
      | _ => cases e
/-! ### as data -/
theorem Dps_of {f : D → Option PyData} : ∀ (xs : List D) (vs : List V) (ps : List PyData), (∀ x ∈ xs, ∀ v p, RD G ρ H x v → f x = some p → Dp G.K H v p) → RDs G ρ H xs vs → mapO f xs = some ps → DpAll G.K H vs ps
  | [], _, _, _, r, e => by cases r; cases e; exact .nil
  | x :: xs, _, _, hf, r, e => by
    cases r with
    | cons r rs =>
      cases h1 : f x with
      | none => simp [mapO, h1] at e
      | some p =>
        cases h2 : mapO f xs with
        | none => simp [mapO, h1, h2] at e
        | some qs =>
          simp only [mapO, h1, h2] at e
          cases e
          exact .cons (hf x List.mem_cons_self _ p r h1) (Dps_of xs _ qs (fun y hy => hf y (List.mem_cons_of_mem _ hy)) rs h2)
theorem Dp_of (R : RelH G ρ h H) : ∀ (n : Nat) (x : D) (v : V) (p : PyData), RD G ρ H x v → pd h n x = some p → Dp G.K H v p := by
  intro n
  induction n with
  | zero => intro x v p r e; cases e
  | succ n ih =>
    intro x v p r e
    cases x with
    | non => cases r; cases e; exact .non
    | bl b => cases r; cases e; exact .bl b
    | int b => cases r; cases e; exact .int b
    | str b => cases r; cases e; exact .str _
    | tup xs =>
      simp only [pd, Option.map_eq_some_iff] at e
      obtain ⟨ps, e, rfl⟩ := e
      obtain ⟨a, vs, rfl, q, rs⟩ := r.tup_inv
      exact .tup q (Dps_of xs vs ps (fun x _ v p => ih x v p) rs e)
    | fz xs =>
      simp only [pd, Option.map_eq_some_iff] at e
      obtain ⟨ps, e, rfl⟩ := e
      obtain ⟨a, vs, rfl, q, rs⟩ := RD.items_inv R r (xs := xs) rfl
      exact .lst q (Dps_of xs vs ps (fun x _ v p => ih x v p) rs e)
    | lv xs => cases r
    | fd _ _ => cases e
    | dv _ _ => cases r
    | ref l =>
      cases ho : h[l]? with
      | none => simp [pd, ho] at e
      | some o =>
        cases o with
        | lst xs =>
          simp only [pd, ho, Option.map_eq_some_iff] at e
          obtain ⟨ps, e, rfl⟩ := e
          obtain ⟨a, vs, rfl, q, rs⟩ := RD.items_inv R r (xs := xs) (by simp [items, ho])
          exact .lst q (Dps_of xs vs ps (fun x _ v p => ih x v p) rs e)
        | _ => simp [pd, ho] at e
theorem pds_plain {f : D → Option PyData} {n : Nat} (hf : ∀ x p, f x = some p → p.plain = true ∧ p.depth ≤ n) : ∀ (xs : List D) (ps : List PyData), mapO f xs = some ps → PyData.plainAll ps = true ∧ PyData.depthAll ps ≤ n
  | [], _, e => by cases e; exact ⟨rfl, by simp [PyData.depthAll]⟩
  | x :: xs, _, e => by
    cases h1 : f x with
    | none => simp [mapO, h1] at e
    | some p =>
      cases h2 : mapO f xs with
      | none => simp [mapO, h1, h2] at e
      | some qs =>
        simp only [mapO, h1, h2] at e
        cases e
        have a1 := hf x p h1
        have a2 := pds_plain hf xs qs h2
        exact ⟨by simp [PyData.plainAll, a1.1, a2.1], by simp only [PyData.depthAll]; omega⟩
theorem pd_plain (h : Hh) : ∀ (n : Nat) (x : D) (p : PyData), pd h n x = some p → p.plain = true ∧ p.depth ≤ n := by
  intro n
  induction n with
  | zero => intro x p e; cases e
  | succ n ih =>
    intro x p e
    have sub : ∀ (xs : List D) (ps : List PyData), mapO (pd h n) xs = some ps → PyData.plainAll ps = true ∧ PyData.depthAll ps ≤ n := fun xs ps e => pds_plain ih xs ps e
    cases x with
    | non => cases e; exact ⟨rfl, by simp [PyData.depth]⟩
    | bl b => cases e; exact ⟨rfl, by simp [PyData.depth]⟩
    | int b => cases e; exact ⟨rfl, by simp [PyData.depth]⟩
    | str b => cases e; exact ⟨rfl, by simp [PyData.depth]⟩
    | tup xs =>
      simp only [pd, Option.map_eq_some_iff] at e
      obtain ⟨ps, e, rfl⟩ := e
      have := sub xs ps e
      exact ⟨by simpa [PyData.plain] using this.1, by simp only [PyData.depth]; omega⟩
    | fz xs =>
      simp only [pd, Option.map_eq_some_iff] at e
      obtain ⟨ps, e, rfl⟩ := e
      have := sub xs ps e
      exact ⟨by simpa [PyData.plain] using this.1, by simp only [PyData.depth]; omega⟩
    | lv xs =>
      simp only [pd, Option.map_eq_some_iff] at e
      obtain ⟨ps, e, rfl⟩ := e
      have := sub xs ps e
      exact ⟨by simpa [PyData.plain] using this.1, by simp only [PyData.depth]; omega⟩
    | fd _ _ => cases e
    | dv _ _ => cases e
    | ref l =>
      cases ho : h[l]? with
      | none => simp [pd, ho] at e
      | some o =>
        cases o with
        | lst xs =>
          simp only [pd, ho, Option.map_eq_some_iff] at e
          obtain ⟨ps, e, rfl⟩ := e
          have := sub xs ps e
          exact ⟨by simpa [PyData.plain] using this.1, by simp only [PyData.depth]; omega⟩
        | _ => simp [pd, ho] at e
end

section
variable {G : Gx} {X : Cx}
/-! ### == and != -/
theorem rd_reads {pins : List (Addr × Obj)} {σ : L2.St} {H : Hp} {s : Shared} {ρ : List Addr} {h : Hh} {x : D} {v : V} {p : PyData} {n : Nat} {u : Value} (hK : X.K = G.K) (I : Inv X pins σ H s) (R : RelH G ρ h H) (r : RD G ρ H x v) (e : pd h n x = some p) (rv : RelV v u) : ∃ as, Reads s.heap u p as :=
  Dp.reads I p v u (by rw [hK]; exact Dp_of R n x v p r e) rv
theorem op_eqF (hK : X.K = G.K) (hu : X.A.units + 200 < cLine) : OpR X (compareOp .Eq) (U2 G (o2F .eq)) := by
  intro pins s σ H v w v' w' Q I rv rw' q
  obtain ⟨av, ρ, h, x, y, z, R, rx, ry, e, q⟩ := q
  have hK : X.K = (G.at av).K := hK
  simp only [o2F, eqF] at e
  cases h1 : pd h deep x with
  | none => simp [h1] at e
  | some p1 =>
    cases h2 : pd h deep y with
    | none => simp [h1, h2] at e
    | some p2 =>
      simp only [h1, h2, Option.map_some, Option.some.injEq] at e
      subst e
      obtain ⟨as, ra⟩ := rd_reads hK I R rx h1 rv
      obtain ⟨bs, rb⟩ := rd_reads hK I R ry h2 rw'
      have a1 := pd_plain h deep x p1 h1
      have a2 := pd_plain h deep y p2 h2
      refine PySem.SeqAt.eq_plain ra rb a1.1 a2.1 ?_ ⟨.bl _, H, I, rfl, fin_at R (RD.bl _) q⟩
      have := Nat.min_le_left p1.depth p2.depth
      have : p1.depth ≤ 60 := a1.2
      omega
theorem op_neF (hK : X.K = G.K) (hu : X.A.units + 200 < cLine) : OpR X (compareOp .NotEq) (U2 G (o2F .ne)) := by
  intro pins s σ H v w v' w' Q I rv rw' q
  obtain ⟨av, ρ, h, x, y, z, R, rx, ry, e, q⟩ := q
  have hK : X.K = (G.at av).K := hK
  simp only [o2F, eqF] at e
  cases h1 : pd h deep x with
  | none => simp [h1] at e
  | some p1 =>
    cases h2 : pd h deep y with
    | none => simp [h1, h2] at e
    | some p2 =>
      simp only [h1, h2, Option.map_some, Option.some.injEq] at e
      subst e
      obtain ⟨as, ra⟩ := rd_reads hK I R rx h1 rv
      obtain ⟨bs, rb⟩ := rd_reads hK I R ry h2 rw'
      have a1 := pd_plain h deep x p1 h1
      have a2 := pd_plain h deep y p2 h2
      refine PySem.SeqAt.ne_plain ra rb a1.1 a2.1 ?_ ⟨.bl _, H, I, rfl, fin_at R (RD.bl _) q⟩
      have := Nat.min_le_left p1.depth p2.depth
      have : p1.depth ≤ 60 := a1.2
      omega
end
end Sd

/-! PyD: arithmetic, order, in, subscripts, slices, builtins. -/
namespace Sd
open PySem PySem.Spec PyProof.Rows L2

theorem line_eq : sizeLine = line := by rw [sizeLine_eq]; rfl
theorem strLen (s : List Nat) : (⟨s.toArray⟩ : Str).length = s.length := by simp [Str.length]
theorem strAdd (a b : List Nat) : (⟨a.toArray⟩ : Str) ++ ⟨b.toArray⟩ = ⟨(a ++ b).toArray⟩ := by
  show Str.append _ _ = _
  simp [Str.append]

section
variable {G : Gx} {X : Cx}
theorem op_addF (hK : X.K = G.K) : OpR X (binaryOp .Add) (U2 G (o2F .add)) := by
  intro pins s σ H v w v' w' Q I rv rw' q
  obtain ⟨av, ρ, h, x, y, z, R, rx, ry, e, q⟩ := q
  have hK : X.K = (G.at av).K := hK
  have lists : ∀ (a b : List D), items h x = some a → items h y = some b → (if a.length + b.length ≤ line then some (D.lv (a ++ b)) else none) = some z → wpAny (model X.prog X.w) X.A (binaryOp .Add v' w') (EP X pins σ Q) X.xe s := fun a b ha hb e => by
    split at e
    · rename_i hl
      cases e
      obtain ⟨p1, vs, rfl, q1, r1⟩ := rx.items_inv R ha
      obtain ⟨p2, ws, rfl, q2, r2⟩ := ry.items_inv R hb
      cases rv
      cases rw'
      rw [← hK] at q1 q2
      obtain ⟨its, s1, l1, z1⟩ := I.list q1
      obtain ⟨its2, s2, l2, z2⟩ := I.list q2
      obtain ⟨⟨cls, dd, data, sl⟩, ho, hc, n, hd⟩ := id l1.isList
      obtain ⟨⟨cls2, dd2, data2, sl2⟩, ho2, hc2, n2, hd2⟩ := id l2.isList
      simp only at hc hd hc2 hd2
      subst hc hd hc2 hd2
      have hlen : its.length + its2.length ≤ sizeLine := by rw [← s1.length, ← s2.length, ← r1.length, ← r2.length, line_eq]; exact hl
      refine concat_meets ⟨_, ho, rfl⟩ ⟨_, ho2, rfl⟩ noFill_list_add seq_list_add PySem.F.slot_list_add PySem.F.entry_list_add (PySem.F.args_list_add_2 _ _) (list_addW p1 p2 its.toArray its2.toArray n n2 dd dd2 sl sl2 (by simpa using hlen)) ⟨ho, ho2, ?_⟩
      have e : its.toArray ++ its2.toArray = (its ++ its2).toArray := by simp
      rw [e]
      have nn : H s.heap.objs.size = none := I.hok.fresh (Nat.le_refl _)
      refine ⟨.ref s.heap.objs.size, _, I.laid (t' := s.toks) (o := .lst (vs ++ ws)) (fun b ob q => Heap.get?_push_of_some _ q) (Nat.le_refl _) ?_, rfl, fin_lst R (r1.append r2) nn q⟩
      refine ⟨?_, _, _, s1.append s2, Heap.get?_push_size _ rfl⟩
      rw [List.length_append, s1.length, s2.length]; exact hlen
    · cases e
  unfold o2F at e
  split at e
  all_goals (try contradiction)
  · -- ints
    cases e
    cases rx; cases ry
    exact op_add pins s σ H _ _ v' w' Q I rv rw' ⟨_, _, rfl, rfl, fin_at R (RD.int _) q⟩
  · -- texts
    split at e
    · rename_i hl
      cases e
      cases rx; cases ry
      refine op_add_str pins s σ H _ _ v' w' Q I rv rw' ⟨_, _, rfl, rfl, ?_, ?_⟩
      · rw [strLen, strLen, line_eq]; exact hl
      · rw [strAdd]
        exact fin_at R (RD.str _) q
    · cases e
  · -- tuples
    split at e
    · rename_i a b hl
      cases e
      obtain ⟨p1, vs, rfl, q1, r1⟩ := rx.tup_inv
      obtain ⟨p2, ws, rfl, q2, r2⟩ := ry.tup_inv
      rw [← hK] at q1 q2
      cases rv
      cases rw'
      obtain ⟨its, s1, l1, z1⟩ := I.tuple q1
      obtain ⟨its2, s2, l2, z2⟩ := I.tuple q2
      have hlen : its.length + its2.length ≤ sizeLine := by rw [← s1.length, ← s2.length, ← r1.length, ← r2.length, line_eq]; exact hl
      by_cases e1 : its = []
      · subst e1; cases s1; cases r1
        exact cat_tup0 l1 l2 ⟨.ref p2, H, I, rfl, fin_at R ry q⟩
      · refine HT.cat_tup l1 l2 e1 (fun e2 => ?_) (fun e2 => ?_) hlen
        · subst e2; cases s2; cases r2
          rw [List.append_nil] at q
          exact ⟨.ref p1, H, I, rfl, fin_at R rx q⟩
        · exact fin_tup (t := s.toks) I R (r1.append r2) (s1.append s2) (by rw [List.length_append, s1.length, s2.length]; exact hlen) q
    · cases e
  · split at e
    · rename_i h1 h2
      exact lists _ _ h1 h2 e
    · cases e
theorem op_subF : OpR X (binaryOp .Sub) (U2 G (o2F .sub)) := by
  intro pins s σ H v w v' w' Q I rv rw' q
  obtain ⟨av, ρ, h, x, y, z, R, rx, ry, e, q⟩ := q
  unfold o2F at e
  split at e
  all_goals (try contradiction)
  cases e
  cases rx; cases ry
  exact op_sub pins s σ H _ _ v' w' Q I rv rw' ⟨_, _, rfl, rfl, fin_at R (RD.int _) q⟩
theorem op_divF : OpR X (binaryOp .FloorDiv) (U2 G (o2F .div)) := by
  intro pins s σ H v w v' w' Q I rv rw' q
  obtain ⟨av, ρ, h, x, y, z, R, rx, ry, e, q⟩ := q
  unfold o2F at e
  split at e
  all_goals (try contradiction)
  split at e
  · rename_i hj
    cases e
    cases rx; cases ry
    exact op_fdiv pins s σ H _ _ v' w' Q I rv rw' ⟨_, _, rfl, rfl, hj, fin_at R (RD.int _) q⟩
  · cases e
theorem op_modF : OpR X (binaryOp .Mod) (U2 G (o2F .mod)) := by
  intro pins s σ H v w v' w' Q I rv rw' q
  obtain ⟨av, ρ, h, x, y, z, R, rx, ry, e, q⟩ := q
  unfold o2F at e
  split at e
  all_goals (try contradiction)
  split at e
  · rename_i hj
    cases e
    cases rx; cases ry
    exact op_mod pins s σ H _ _ v' w' Q I rv rw' ⟨_, _, rfl, rfl, hj, fin_at R (RD.int _) q⟩
  · cases e
/-! ### order -/
theorem strLt_of (a b : List Nat) : decide ((⟨a.toArray⟩ : Str).cps.toList < (⟨b.toArray⟩ : Str).cps.toList) = strLt a b := rfl
theorem op_ltF : OpR X (compareOp .Lt) (U2 G (o2F .lt)) := by
  intro pins s σ H v w v' w' Q I rv rw' q
  obtain ⟨av, ρ, h, x, y, z, R, rx, ry, e, q⟩ := q
  unfold o2F at e
  split at e
  all_goals (try contradiction)
  · cases e; cases rx; cases ry
    exact op_lt pins s σ H _ _ v' w' Q I rv rw' ⟨_, _, rfl, rfl, fin_at R (RD.bl _) q⟩
  · cases e; cases rx; cases ry
    exact op_lt_str pins s σ H _ _ v' w' Q I rv rw' ⟨_, _, rfl, rfl, fin_at R (RD.bl _) q⟩
theorem op_leF : OpR X (compareOp .LtE) (U2 G (o2F .le)) := by
  intro pins s σ H v w v' w' Q I rv rw' q
  obtain ⟨av, ρ, h, x, y, z, R, rx, ry, e, q⟩ := q
  unfold o2F at e
  split at e
  all_goals (try contradiction)
  · cases e; cases rx; cases ry
    exact op_le pins s σ H _ _ v' w' Q I rv rw' ⟨_, _, rfl, rfl, fin_at R (RD.bl _) q⟩
  · cases e; cases rx; cases ry
    exact op_le_str pins s σ H _ _ v' w' Q I rv rw' ⟨_, _, rfl, rfl, fin_at R (RD.bl _) q⟩
theorem op_gtF : OpR X (compareOp .Gt) (U2 G (o2F .gt)) := by
  intro pins s σ H v w v' w' Q I rv rw' q
  obtain ⟨av, ρ, h, x, y, z, R, rx, ry, e, q⟩ := q
  unfold o2F at e
  split at e
  all_goals (try contradiction)
  · cases e; cases rx; cases ry
    exact op_gt pins s σ H _ _ v' w' Q I rv rw' ⟨_, _, rfl, rfl, fin_at R (RD.bl _) q⟩
  · cases e; cases rx; cases ry
    exact op_gt_str pins s σ H _ _ v' w' Q I rv rw' ⟨_, _, rfl, rfl, fin_at R (RD.bl _) q⟩
theorem op_geF : OpR X (compareOp .GtE) (U2 G (o2F .ge)) := by
  intro pins s σ H v w v' w' Q I rv rw' q
  obtain ⟨av, ρ, h, x, y, z, R, rx, ry, e, q⟩ := q
  unfold o2F at e
  split at e
  all_goals (try contradiction)
  · cases e; cases rx; cases ry
    exact op_ge pins s σ H _ _ v' w' Q I rv rw' ⟨_, _, rfl, rfl, fin_at R (RD.bl _) q⟩
  · cases e; cases rx; cases ry
    exact op_ge_str pins s σ H _ _ v' w' Q I rv rw' ⟨_, _, rfl, rfl, fin_at R (RD.bl _) q⟩
end
end Sd

/-! PyD2: in, subscripts, slices, builtins. -/
namespace Sd
open PySem PySem.Spec PyProof.Rows L2

section
variable {G : Gx} {X : Cx} {ρ : List Addr} {h : Hh} {H : Hp}
theorem RDs_reads {pins : List (Addr × Obj)} {σ : L2.St} {s : Shared} {xs : List D} {vs : List V} {us : List Value} {ps : List PyData} (hK : X.K = G.K) (I : Inv X pins σ H s) (R : RelH G ρ h H) (r : RDs G ρ H xs vs) (e : mapO (pd h deep) xs = some ps) (rv : Vals vs us) : ∃ as, ReadsAll s.heap us ps as :=
  Dp.readsAll I ps vs us (by rw [hK]; exact Dps_of xs vs ps (fun x _ v p => Dp_of R deep x v p) r e) rv
/-- what in asks of a list or a tuple -/
theorem in_data {pins : List (Addr × Obj)} {σ : L2.St} {s : Shared} {x y : D} {v w : V} {v' w' : Value} {ys : List D} {k : Bool} {E : Value → Shared → Prop} {Q : Value → Shared → Prop} (hK : X.K = G.K) (hu : X.A.units + 200 < cLine) (I : Inv X pins σ H s) (R : RelH G ρ h H)
    (rx : RD G ρ H x v) (ry : RD G ρ H y w) (rv : RelV v v') (rw' : RelV w w') (e : seqs h y = some ys) (m : memF h x ys = some k) :
    (Q (.bool k) s → wpAny (model X.prog X.w) X.A (compareOp .In v' w') Q E s) ∧ (Q (.bool (!k)) s → wpAny (model X.prog X.w) X.A (compareOp .NotIn v' w') Q E s) := by
  unfold memF at m
  cases h1 : pd h deep x with
  | none => simp [h1] at m
  | some p =>
    cases h2 : mapO (pd h deep) ys with
    | none => simp [h1, h2] at m
    | some qs =>
      simp only [h1, h2, Option.some.injEq] at m
      subst m
      have a1 := pd_plain h deep x p h1
      have a2 := pds_plain (pd_plain h deep) ys qs h2
      have room : X.A.units + 1 + min (PyData.depthAll qs) p.depth < cLine := by
        have := Nat.min_le_right (PyData.depthAll qs) p.depth
        have : p.depth ≤ 60 := a1.2
        omega
      obtain ⟨as, ra⟩ := rd_reads hK I R rx h1 rv
      obtain ⟨a, vs, rfl, q, rs⟩ := ry.seqs_inv R e
      cases rw'
      rw [← hK] at q
      rcases q with q | q
      · obtain ⟨its, s1, l1, z1⟩ := I.list q
        obtain ⟨bs, rb⟩ := RDs_reads hK I R rs h2 s1
        obtain ⟨o, n, ho, hc, hd, hdat⟩ := l1
        exact ⟨fun q => PySem.SeqAt.in_list_data (.list ho hc hdat rb) ra a2.1 a1.1 room q, fun q => PySem.SeqAt.notIn_list_data (.list ho hc hdat rb) ra a2.1 a1.1 room q⟩
      · obtain ⟨its, s1, l1, z1⟩ := I.tuple q
        obtain ⟨bs, rb⟩ := RDs_reads hK I R rs h2 s1
        obtain ⟨o, ho, hc, n, hdat⟩ := l1
        exact ⟨fun q => PySem.SeqAt.in_tuple_data (.tuple ho hc hdat rb) ra a2.1 a1.1 room q, fun q => PySem.SeqAt.notIn_tuple_data (.tuple ho hc hdat rb) ra a2.1 a1.1 room q⟩
theorem isSub_one {a b : List Nat} {k : Bool} (e : isSub a b = some k) : ∃ c, a = [c] ∧ k = decide (c ∈ b) := by
  unfold isSub at e
  split at e
  · rename_i c
    cases e
    exact ⟨c, rfl, by simp⟩
  · cases e
theorem op_inF (hK : X.K = G.K) (hu : X.A.units + 200 < cLine) : OpR X (compareOp .In) (U2 G (o2F .isin)) := by
  intro pins s σ H v w v' w' Q I rv rw' q
  obtain ⟨av, ρ, h, x, y, z, R, rx, ry, e, q⟩ := q
  have hK : X.K = (G.at av).K := hK
  unfold o2F at e
  split at e
  all_goals (try contradiction)
  · obtain ⟨k, e2, rfl⟩ := Option.map_eq_some_iff.mp e
    obtain ⟨c, rfl, rfl⟩ := isSub_one e2
    cases rx; cases ry
    exact op_in_sign pins s σ H _ _ v' w' Q I rv rw' ⟨c, _, rfl, rfl, fin_at R (RD.bl _) q⟩
  · split at e
    · rename_i ys he
      obtain ⟨k, e2, rfl⟩ := Option.map_eq_some_iff.mp e
      exact (in_data hK hu I R rx ry rv rw' he e2).1 ⟨.bl k, H, I, rfl, fin_at R (RD.bl _) q⟩
    · cases e
theorem op_notinF (hK : X.K = G.K) (hu : X.A.units + 200 < cLine) : OpR X (compareOp .NotIn) (U2 G (o2F .notin)) := by
  intro pins s σ H v w v' w' Q I rv rw' q
  obtain ⟨av, ρ, h, x, y, z, R, rx, ry, e, q⟩ := q
  have hK : X.K = (G.at av).K := hK
  unfold o2F at e
  split at e
  all_goals (try contradiction)
  · obtain ⟨k, e2, rfl⟩ := Option.map_eq_some_iff.mp e
    obtain ⟨c, rfl, rfl⟩ := isSub_one e2
    cases rx; cases ry
    exact op_notIn_sign pins s σ H _ _ v' w' Q I rv rw' ⟨c, _, rfl, rfl, fin_at R (RD.bl _) q⟩
  · split at e
    · rename_i ys he
      obtain ⟨k, e2, rfl⟩ := Option.map_eq_some_iff.mp e
      exact (in_data hK hu I R rx ry rv rw' he e2).2 ⟨.bl (!k), H, I, rfl, fin_at R (RD.bl _) q⟩
    · cases e
/-! ### subscripts -/
theorem atI_eq {α : Type} (xs : List α) (i : Int) : Sd.atI xs i = L2.atI xs i := rfl
theorem atI_RDs {xs : List D} {vs : List V} {i : Int} {d : D} (r : RDs G ρ H xs vs) (e : Sd.atI xs i = some d) : ∃ v, L2.atI vs i = some v ∧ RD G ρ H d v := by
  unfold Sd.atI at e
  obtain ⟨j, e1, e2⟩ := Option.bind_eq_some_iff.mp e
  obtain ⟨v, h1, h2⟩ := r.get e2
  refine ⟨v, ?_, h2⟩
  show (L2.ixN vs.length i).bind _ = _
  rw [← r.length, show L2.ixN xs.length i = some j from e1]
  exact h1
theorem keyAt_val {k : List Nat} {d : D} : ∀ {kvs : List (Key × V)} {vs : List D}, RDs G ρ H vs (kvs.map (·.2)) → keyAt k (kvs.map fun p => keyD p.1) vs = some d → ∃ v, valV kvs (.inr ⟨k.toArray⟩) = some v ∧ RD G ρ H d v
  | [], _, r, e => by cases r; simp [keyAt] at e
  | (.inl i, v) :: kvs, _, .cons r rs, e => by
    obtain ⟨w, h1, h2⟩ := keyAt_val rs (show keyAt k (kvs.map fun p => keyD p.1) _ = some d from e)
    exact ⟨w, by rw [valV_neg (by simp)]; exact h1, h2⟩
  | (.inr x, v) :: kvs, y :: ys, .cons r rs, e => by
    have e : (if x.cps.toList = k then some y else keyAt k (kvs.map fun p => keyD p.1) ys) = some d := e
    by_cases hk : x.cps.toList = k
    · rw [if_pos hk] at e
      cases e
      exact ⟨v, valV_pos (by subst hk; rfl), r⟩
    · rw [if_neg hk] at e
      obtain ⟨w, h1, h2⟩ := keyAt_val rs e
      refine ⟨w, ?_, h2⟩
      rw [valV_neg (fun q => hk (by have := Sum.inr.inj q; subst this; simp))]
      exact h1
theorem RD.dict_inv {x : D} {v : V} {ks vs : List D} (R : RelH G ρ h H) (r : RD G ρ H x v) (e : dict h x = some (ks, vs)) :
    ∃ (a : Addr) (kvs : List (Key × V)), v = .ref a ∧ Rd H a (.dK kvs) ∧ ks = kvs.map (fun p => keyD p.1) ∧ RDs G ρ H vs (kvs.map (·.2)) := by
  cases r with
  | fd q n m rs => cases e; exact ⟨_, _, rfl, q, rfl, rs⟩
  | @ref l a q =>
    obtain ⟨o, e1, ro⟩ := R.lt q
    simp only [dict, e1] at e
    cases o with
    | dic _ _ =>
      cases e
      obtain ⟨kvs, e2, e3, rs⟩ := ro
      exact ⟨_, kvs, rfl, .inl e2, e3, rs⟩
    | _ => cases e
  | _ => cases e
theorem ix_dictD (hu : X.A.units + 200 < cLine) : IxR X (fun x y H Q => ∃ a v, x = .ref a ∧ DGet H a y (some v) ∧ Q v H) := by
  intro value slice pins s σ H x y v u Q I rx ry q hs
  obtain ⟨a, w, rfl, g, q⟩ := q
  cases rx
  have hT := dict_typeIs I g
  unfold subscriptTail
  refine wpAny_bind ?_
  rw [getitemInPython_of_ne hT.not_modules]
  refine wpAny_bind (wpAny_specialOf hT PySem.F.slot_dict_getitem.lookup ?_)
  have fin : wpAny (model X.prog X.w) X.A (subscripted slice false (.ref a) u) (fun r s₃ => wpAny (model X.prog X.w) X.A (letTemporaryGo value (.ref a) r >>= fun _ => pure r) (EP X pins σ Q) X.xe s₃) X.xe s := by
    rw [hs]
    refine wpAny_operating (d_getItem (by omega) I g ry fun w' s3 I3 rw' => wpAny_bind (wpAny_letTemporaryGo (wpAny_pure ⟨w, H, I3, rw', q⟩)))
  first
    | exact wpAny_pure (wpAny_bind fin)
    | exact fin
theorem ix_F (hK : X.K = G.K) (hu : X.A.units + 200 < cLine) : IxR X (U2 G (o2F .idx)) := by
  intro value slice pins s σ H v w v' w' Q I rv rw' q hs
  obtain ⟨av, ρ, h, x, y, z, R, rx, ry, e, q⟩ := q
  have hK : X.K = (G.at av).K := hK
  unfold o2F at e
  split at e
  all_goals (try contradiction)
  · -- text
    split at e
    · rename_i hl
      obtain ⟨c, e2, rfl⟩ := Option.map_eq_some_iff.mp e
      cases rx; cases ry
      exact ix_str value slice pins s σ H _ _ v' w' Q I rv rw' ⟨_, _, c, rfl, rfl, by rw [strLen, line_eq]; exact hl, e2, fin_at R (RD.str [c]) q⟩ hs
    · cases e
  · -- list, tuple
    split at e
    · rename_i xs he
      obtain ⟨a, vs, rfl, p, rs⟩ := rx.seqs_inv R he
      cases ry
      obtain ⟨u, e1, r1⟩ := atI_RDs rs e
      rw [← hK] at p
      rcases p with p | p
      · exact ix_list value slice pins s σ H _ _ v' w' Q I rv rw' ⟨_, _, _, u, rfl, rfl, p, e1, fin_at R r1 q⟩ hs
      · exact ix_tup value slice pins s σ H _ _ v' w' Q I rv rw' ⟨_, _, _, u, rfl, rfl, p, e1, fin_at R r1 q⟩ hs
    · cases e
  · -- dict
    split at e
    · rename_i k ks vs he
      obtain ⟨a, kvs, rfl, p, rfl, rs⟩ := rx.dict_inv R he
      obtain ⟨u, e1, r1⟩ := keyAt_val rs e
      cases ry
      exact ix_dictD hu value slice pins s σ H _ _ v' w' Q I rv rw' ⟨a, u, rfl, .inl ⟨kvs, .inr ⟨_⟩, p, rfl, e1.symm⟩, fin_at R r1 q⟩ hs
    · cases e
end
end Sd

/-! PyD3: slices, builtins. -/
namespace Sd
open PySem PySem.Spec PyProof.Rows L2

section
variable {G : Gx} {X : Cx}
/-! ### slices -/
def U3 (G : Gx) : V → Option Int → Option Int → Hp → VK → Prop := fun v lo hi H Q => ∃ av ρ h x z, RelH (G.at av) ρ h H ∧ RD (G.at av) ρ H x v ∧ sliceF h x lo hi = some z ∧
  ∀ H' u, Stp ρ ρ H H' → RelH (G.at av) ρ h H' → RV (G.at av) ρ h H H' z u → Q u H'
theorem cut_eq (vs : List V) (lo hi : Option Int) : Sd.cut vs lo hi = cutV vs lo hi := rfl
theorem RDs.cut {ρ : List Addr} {H : Hp} {xs : List D} {vs : List V} (r : RDs G ρ H xs vs) (lo hi : Option Int) : RDs G ρ H (Sd.cut xs lo hi) (cutV vs lo hi) := by
  rw [← cut_eq]
  unfold Sd.cut
  rw [r.length]
  exact (r.drop _).take _
theorem cutS_eq (s : List Nat) (lo hi : Option Int) : (cutS ⟨s.toArray⟩ lo hi) = ⟨(Sd.cut s lo hi).toArray⟩ := by
  unfold cutS Sd.cut
  rw [strLen]
  rfl
theorem sl_F (hK : X.K = G.K) : SlR X (U3 G) := by
  intro pins s σ H x v vl vu lo hi sl Q I rx hs pl pu h
  obtain ⟨av, ρ, h, d, z, R, rd, e, q⟩ := h
  have hK : X.K = (G.at av).K := hK
  have lists : ∀ a, items h d = some a → D.lv (Sd.cut a lo hi) = z → ∃ T id, typeLookup (.type T) "__getitem__" = pure (some (.builtin id)) ∧ s.TypeIs v T ∧ wpAny (model X.prog X.w) X.A (getItem v (.ref sl)) (EP X pins σ Q) X.xe s := fun a ha e => by
    subst e
    obtain ⟨p, vs, rfl, q1, r1⟩ := rd.items_inv R ha
    rw [← hK] at q1
    exact sl_list pins s σ H _ v vl vu lo hi sl Q I rx hs pl pu ⟨p, vs, rfl, q1, fun p n => fin_lst R (r1.cut lo hi) n q⟩
  unfold sliceF at e
  split at e
  · split at e
    · rename_i hl
      cases e
      cases rd
      refine sl_str pins s σ H _ v vl vu lo hi sl Q I rx hs pl pu ⟨_, rfl, by rw [strLen, line_eq]; exact hl, ?_⟩
      rw [cutS_eq]
      exact fin_at R (RD.str _) q
    · cases e
  · cases e
    rename_i xs
    obtain ⟨p, vs, rfl, q1, r1⟩ := rd.tup_inv
    rw [← hK] at q1
    cases rx
    obtain ⟨its, r, ht, hz⟩ := I.tuple q1
    have hlen : its.toArray.size = vs.length := by rw [List.size_toArray]; exact r.length.symm
    refine ⟨"tuple", _, PyProof.Rows.slot_tuple_getitem.lookup, ht.typeIs, ?_⟩
    by_cases hw : HT.sIx vs.length 0 lo = 0 ∧ HT.sIx vs.length vs.length hi = vs.length
    · refine getItem_tuple_whole ht hs pl pu (by rw [hlen]; exact hw) ⟨.ref p, H, I, rfl, ?_⟩
      have e1 : Sd.cut xs lo hi = xs := by
        unfold Sd.cut
        rw [← r1.length] at hw
        rw [show Sd.sIx xs.length 0 lo = 0 from hw.1, show Sd.sIx xs.length xs.length hi = xs.length from hw.2]
        simp
      rw [e1] at q
      exact fin_at R rd q
    · refine HT.getItem_tuple_cut ht hs pl pu (by rw [hlen]; exact hw) ?_ (by rw [hlen]; exact hz)
      refine fin_tup (t := s.toks) I R (r1.cut lo hi) ?_ (Nat.le_trans (cutV_length _ _ _) hz) q
      unfold cutV
      rw [hlen]
      exact (r.drop _).take _
  · obtain ⟨a, e2, e3⟩ := Option.map_eq_some_iff.mp e
    exact lists a e2 e3

theorem vals_at : ∀ {xs : List V} {us : List Value}, xs.length = us.length → (∀ (j : Nat) (x : V) (u : Value), xs[j]? = some x → us[j]? = some u → RelV x u) → Vals xs us
  | [], [], _, _ => .nil
  | x :: xs, u :: us, hl, h => .cons (h 0 x u rfl rfl) (vals_at (by simpa using hl) fun j y w e1 e2 => h (j + 1) y w (by simpa using e1) (by simpa using e2))
  | [], _ :: _, hl, _ => by simp at hl
  | _ :: _, [], hl, _ => by simp at hl
/-! ### builtins of one value -/
def C1 (G : Gx) (F : Hh → D → Option D) : List V → Hp → VK → Prop := fun vs H Q => ∃ v, vs = [v] ∧ U1 G F v H Q
theorem call_lenF (hK : X.K = G.K) : CallR X (.builtin "len") (C1 G (o1F .len)) := by
  intro pins s σ H vs us Q I r q
  obtain ⟨v, rfl, av, ρ, h, x, z, R, rx, e, q⟩ := q
  have hK : X.K = (G.at av).K := hK
  unfold o1F at e
  split at e
  all_goals (try contradiction)
  · split at e
    · rename_i hl
      cases e; cases rx
      exact call_len pins s σ H _ us Q I r ⟨_, _, rfl, ⟨by rw [strLen, line_eq]; exact hl, rfl⟩, by rw [strLen]; exact fin_at R (RD.int _) q⟩
    · cases e
  · split at e
    · rename_i xs he
      cases e
      obtain ⟨a, ws, rfl, p, rs⟩ := rx.seqs_inv R he
      rw [← hK] at p
      refine call_len pins s σ H _ us Q I r ⟨_, ws.length, rfl, ?_, by rw [← rs.length]; exact fin_at R (RD.int _) q⟩
      rcases p with p | p
      · exact .inl ⟨_, p, rfl⟩
      · exact .inr ⟨_, p, rfl⟩
    · cases e
theorem call_intF : CallR X (.type "int") (C1 G (o1F .int)) := by
  intro pins s σ H vs us Q I r q
  obtain ⟨v, rfl, av, ρ, h, x, z, R, rx, e, q⟩ := q
  unfold o1F at e
  split at e
  all_goals (try contradiction)
  · cases e; cases rx
    exact call_int1 pins s σ H _ us Q I r (.inl ⟨_, rfl, fin_at R (RD.int _) q⟩)
  · cases e; cases rx
    exact call_int1 pins s σ H _ us Q I r (.inr ⟨_, rfl, fin_at R (RD.int _) q⟩)
theorem digits_eq (i : Int) : (Str.ofString (toString i)) = ⟨(digits i).toArray⟩ := by
  unfold Str.ofString digits
  rw [cpsOfBytes_string]
theorem call_strF : CallR X (.type "str") (C1 G (o1F .str)) := by
  intro pins s σ H vs us Q I r q
  obtain ⟨v, rfl, av, ρ, h, x, z, R, rx, e, q⟩ := q
  unfold o1F at e
  split at e
  all_goals (try contradiction)
  split at e
  · rename_i hl
    cases e; cases rx
    refine call_str_int pins s σ H _ us Q I r ⟨_, rfl, hl, ?_⟩
    show Q (.str (Str.ofString (toString _))) H
    rw [digits_eq]
    exact fin_at R (RD.str _) q
  · cases e
theorem call_tupleF (hK : X.K = G.K) : CallR X (.type "tuple") (C1 G (o1F .tuple)) := by
  intro pins s σ H vs us Q I r q
  obtain ⟨v, rfl, av, ρ, h, x, z, R, rx, e, q⟩ := q
  have hK : X.K = (G.at av).K := hK
  have e : (seqs h x).map D.tup = some z := by
    unfold o1F at e
    split at e
    all_goals (try contradiction)
    exact e
  obtain ⟨xs, e3, rfl⟩ := Option.map_eq_some_iff.mp e
  obtain ⟨u, rfl, ru⟩ := vals1 r
  by_cases ht : ∃ ys, x = .tup ys
  · obtain ⟨ys, rfl⟩ := ht
    cases e3
    obtain ⟨a, ws, rfl, p, rs⟩ := rx.tup_inv
    cases ru
    rw [← hK] at p
    obtain ⟨its, _, p1, _⟩ := I.tuple p
    exact call_tuple_same (items := its.toArray) p1 ⟨.ref a, H, I, rfl, fin_at R rx q⟩
  · have e2 : items h x = some xs := by
      cases x with
      | tup ys => exact (ht ⟨_, rfl⟩).elim
      | _ => exact e3
    obtain ⟨a, ws, rfl, p, rs⟩ := rx.items_inv R e2
    cases ru
    rw [← hK] at p
    obtain ⟨its, r', pl, hz⟩ := I.list p
    have hlen := r'.length
    refine call_tuple_list pl.isList (fun h' kp => ?_) (by simp only [List.size_toArray] <;> omega)
    have I1 : Inv X pins σ H { s with heap := h' } := I.kept (t' := s.toks) kp
    exact fin_tup (s := { s with heap := h' }) (t := s.toks) I1 R rs r' hz q
theorem call_listF (hK : X.K = G.K) (hc : X.calm = true) : CallR X (.type "list") (C1 G (o1F .list)) := by
  intro pins s σ H vs us Q I r q
  obtain ⟨v, rfl, av, ρ, h, x, z, R, rx, e, q⟩ := q
  have hK : X.K = (G.at av).K := hK
  unfold o1F at e
  split at e
  all_goals (try contradiction)
  · split at e
    · rename_i s1 _ hl
      cases e; cases rx
      obtain ⟨u, rfl, ru⟩ := vals1 r
      obtain ⟨t, rfl⟩ := ru
      refine call_list_str (I.ok.hd hc) _ t (fun h' tk acc c' hk ha hit => ?_) (by rw [line_eq]; simpa using hl)
      have nn : H s.heap.objs.size = none := I.hok.fresh (Nat.le_refl _)
      obtain ⟨i1, i2⟩ := hit
      have hv : Vals (s1.map fun c => V.str ⟨#[c]⟩) acc.toList := by
        refine vals_at (by rw [List.length_map, Array.length_toList]; simpa using i1.symm) fun j v u e1 e2 => ?_
        obtain ⟨c, t', e3, rfl⟩ := i2 j u (by simpa using e2)
        rw [List.getElem?_map] at e1
        have e3 : s1[j]? = some c := by simpa using e3
        rw [e3] at e1
        cases e1
        exact ⟨t', rfl⟩
      refine ⟨.ref s.heap.objs.size, _, I.laid (t' := tk) (o := .lst (s1.map fun c => V.str ⟨#[c]⟩)) hk (Nat.le_refl _) ⟨by rw [List.length_map, line_eq]; exact hl, acc.toList, c', hv, by simpa using ha⟩, rfl, fin_lst R ?_ nn q⟩
      clear hl ha hv i1 i2 q r
      induction s1 with
      | nil => exact .nil
      | cons c r ih => exact .cons (RD.str [c]) ih
    · cases e
  · obtain ⟨xs, e3, rfl⟩ := Option.map_eq_some_iff.mp e
    obtain ⟨a, ws, rfl, p, rs⟩ := rx.seqs_inv R e3
    rw [← hK] at p
    exact call_list_of pins s σ H _ us Q I r ⟨a, ws, rfl, p, fun l n => fin_lst R rs n q⟩
theorem call_allF (hK : X.K = G.K) (hc : X.calm = true) : CallR X (.builtin "all") (C1 G (o1F .all)) := by
  intro pins s σ H vs us Q I r q
  obtain ⟨v, rfl, av, ρ, h, x, z, R, rx, e, q⟩ := q
  have hK : X.K = (G.at av).K := hK
  unfold o1F at e
  split at e
  all_goals (try contradiction)
  split at e
  · rename_i xs he
    obtain ⟨bs, e3, rfl⟩ := Option.map_eq_some_iff.mp e
    obtain ⟨a, ws, rfl, p, rs⟩ := rx.items_inv R he
    have := rs.bools e3
    subst this
    rw [← hK] at p
    exact cr_all hc pins s σ H _ us Q I r ⟨a, bs, rfl, p, fin_at R (RD.bl _) q⟩
  · cases e
theorem call_anyF (hK : X.K = G.K) (hc : X.calm = true) : CallR X (.builtin "any") (C1 G (o1F .any)) := by
  intro pins s σ H vs us Q I r q
  obtain ⟨v, rfl, av, ρ, h, x, z, R, rx, e, q⟩ := q
  have hK : X.K = (G.at av).K := hK
  unfold o1F at e
  split at e
  all_goals (try contradiction)
  split at e
  · rename_i xs he
    obtain ⟨bs, e3, rfl⟩ := Option.map_eq_some_iff.mp e
    obtain ⟨a, ws, rfl, p, rs⟩ := rx.items_inv R he
    have := rs.bools e3
    subst this
    rw [← hK] at p
    exact cr_any hc pins s σ H _ us Q I r ⟨a, bs, rfl, p, fin_at R (RD.bl _) q⟩
  · cases e
theorem call_sumF (hK : X.K = G.K) (hc : X.calm = true) : CallR X (.builtin "sum") (C1 G (o1F .sum)) := by
  intro pins s σ H vs us Q I r q
  obtain ⟨v, rfl, av, ρ, h, x, z, R, rx, e, q⟩ := q
  have hK : X.K = (G.at av).K := hK
  unfold o1F at e
  split at e
  all_goals (try contradiction)
  split at e
  · rename_i xs he
    obtain ⟨bs, e3, rfl⟩ := Option.map_eq_some_iff.mp e
    obtain ⟨a, ws, rfl, p, rs⟩ := rx.items_inv R he
    have := rs.ints e3
    subst this
    rw [← hK] at p
    exact cr_sum hc pins s σ H _ us Q I r ⟨a, bs, rfl, p, fin_at R (RD.int _) q⟩
  · cases e
/-! ### of two values -/
def C2 (G : Gx) (F : Hh → D → D → Option D) : List V → Hp → VK → Prop := fun vs H Q => ∃ v w, vs = [v, w] ∧ U2 G F v w H Q
theorem call_minF (hc : X.calm = true) : CallR X (.builtin "min") (C2 G (o2F .min)) := by
  intro pins s σ H vs us Q I r q
  obtain ⟨v, w, rfl, av, ρ, h, x, y, z, R, rx, ry, e, q⟩ := q
  unfold o2F at e
  split at e
  all_goals (try contradiction)
  cases e; cases rx; cases ry
  exact call_min2 hc pins s σ H _ us Q I r ⟨_, _, rfl, fin_at R (RD.int _) q⟩
theorem call_maxF (hc : X.calm = true) : CallR X (.builtin "max") (C2 G (o2F .max)) := by
  intro pins s σ H vs us Q I r q
  obtain ⟨v, w, rfl, av, ρ, h, x, y, z, R, rx, ry, e, q⟩ := q
  unfold o2F at e
  split at e
  all_goals (try contradiction)
  cases e; cases rx; cases ry
  exact call_max2 hc pins s σ H _ us Q I r ⟨_, _, rfl, fin_at R (RD.int _) q⟩
theorem joinL_eq (sep : List Nat) : ∀ ss : List (List Nat), TL.joinL sep ss = joined sep ss
  | [] => rfl
  | [x] => rfl
  | x :: y :: r => by
    show x ++ (sep ++ TL.joinL sep (y :: r)) = x ++ (sep ++ joined sep (y :: r))
    rw [joinL_eq sep (y :: r)]
/-- sep.join(list of texts) -/
theorem joined_eq (sep : List Nat) (ss : List (List Nat)) : Txt.join ⟨sep.toArray⟩ (ss.map fun s => (⟨s.toArray⟩ : Str)) = ⟨(joined sep ss).toArray⟩ := by
  have e : TL.tl (Txt.join ⟨sep.toArray⟩ (ss.map fun s => (⟨s.toArray⟩ : Str))) = joined sep ss := by
    rw [TL.join_eq, TL.tl_join]
    have : (ss.map fun s => (⟨s.toArray⟩ : Str)).map TL.tl = ss := by
      rw [List.map_map]
      exact (List.map_congr_left fun s _ => rfl).trans (List.map_id _)
    rw [this]
    exact joinL_eq sep ss
  generalize Txt.join ⟨sep.toArray⟩ (ss.map fun s => (⟨s.toArray⟩ : Str)) = t at e
  obtain ⟨a⟩ := t
  have e : a.toList = joined sep ss := e
  rw [← e]
theorem mt_joinF (hK : X.K = G.K) : MtR X "str.join" (fun v ws H Q => ∃ w, ws = [w] ∧ U2 G (o2F .join) v w H Q) := by
  intro pins s σ H v ws v' us Q I rv r q
  obtain ⟨w, rfl, av, ρ, h, x, y, z, R, rx, ry, e, q⟩ := q
  have hK : X.K = (G.at av).K := hK
  unfold o2F at e
  split at e
  all_goals (try contradiction)
  split at e
  · rename_i ys he
    split at e
    · rename_i ss h2
      split at e
      · rename_i hl
        cases e
        obtain ⟨a, ws, rfl, p, rs⟩ := ry.items_inv R he
        have := rs.strs h2
        subst this
        cases rx
        rw [← hK] at p
        refine mt_join pins s σ H _ _ v' us Q I rv r ⟨_, a, _, rfl, rfl, .inl p, ?_, ?_⟩
        · rw [List.length_map, strLen, List.map_map]
          have : (List.map ((fun x => x.length) ∘ fun (s : List Nat) => (⟨s.toArray⟩ : Str)) ss) = ss.map List.length := List.map_congr_left fun s _ => strLen s
          rw [this]
          exact hl
        · rw [joined_eq]
          exact fin_at R (RD.str _) q
      · cases e
    · cases e
  · cases e
end
end Sd

/-! PyD4: dict(tuple of pairs), isinstance. -/
namespace Sd
open PySem PySem.Spec PyProof.Rows L2

theorem putK_new {kvs : List (Key × V)} {k : Key} {v : V} (h : k ∉ kvs.map (·.1)) : putK kvs k v = kvs ++ [(k, v)] := by
  unfold putK
  rw [if_neg]
  intro q
  obtain ⟨p, hp, e⟩ := List.any_eq_true.mp q
  exact h (List.mem_map.mpr ⟨p, hp, of_decide_eq_true e⟩)
theorem mergeK_new : ∀ (more kvs : List (Key × V)), ((kvs ++ more).map (·.1)).Nodup → mergeK kvs more = kvs ++ more
  | [], kvs, _ => by rw [List.append_nil]; rfl
  | (k, v) :: more, kvs, h => by
    show mergeK (putK kvs k v) more = _
    have e : kvs ++ (k, v) :: more = (kvs ++ [(k, v)]) ++ more := by simp
    rw [e] at h ⊢
    have hk : k ∉ kvs.map (·.1) := fun hm => by
      rw [List.map_append, List.map_append, List.nodup_append, List.nodup_append] at h
      exact h.1.2.2 k hm k (by simp) rfl
    rw [putK_new hk]
    exact mergeK_new more _ h

theorem KV_nil {κ : Type} : KV ([] : List (κ × V)) [] := .nil
/-- a pair of a tuple that becomes a dict: where it stands, its key, its value -/
structure PairE where
  b : Addr
  k : Value
  x : Str
  v : Value
  y : V
section
variable {G : Gx} {X : Cx} {ρ : List Addr} {h : Hh} {H : Hp} {pins : List (Addr × Obj)} {σ : L2.St} {s : Shared}
theorem pairs_inv (hK : X.K = G.K) (I : Inv X pins σ H s) : ∀ {xs : List D} {vs : List V} {us : List Value} {ks ds : List D} {ss : List (List Nat)}, RDs G ρ H xs vs → Vals vs us → pairsOf xs = some (ks, ds) → strsOf ks = some ss →
    ∃ L : List PairE, us = L.map (fun e => Value.ref e.b) ∧ (∀ e ∈ L, IsTup s.heap e.b #[e.k, e.v] ∧ (∃ t, e.k = .str e.x t) ∧ RelV e.y e.v) ∧ ks = L.map (fun e => .str e.x.cps.toList) ∧ ss = L.map (fun e => e.x.cps.toList) ∧ RDs G ρ H ds (L.map (·.y))
  | [], _, _, _, _, _, .nil, .nil, e, e2 => by
    cases e; cases e2
    exact ⟨[], rfl, (fun e h => absurd h (by simp)), rfl, rfl, RDs.nil⟩
  | x :: xs, _, _, ks, ds, ss, .cons r rs, .cons rv rvs, e, e2 => by
    unfold pairsOf at e
    split at e
    · rename_i he; cases he
    · rename_i k v r0 he
      cases he
      obtain ⟨⟨ks', ds'⟩, e3, e4⟩ := Option.map_eq_some_iff.mp e
      cases e4
      cases k with
      | str sk =>
        obtain ⟨ss', e5, rfl⟩ := Option.map_eq_some_iff.mp (show (strsOf ks').map (sk :: ·) = some ss from e2)
        obtain ⟨L, h1, h2, h3, h4, h5⟩ := pairs_inv hK I rs rvs e3 e5
        obtain ⟨a, ws, rfl, q, rws⟩ := r.tup_inv
        cases rv
        rw [← hK] at q
        obtain ⟨its, rits, p1, _⟩ := I.tuple q
        cases rws with
        | cons rk rr =>
          cases rr with
          | cons ry rr =>
            cases rr
            cases rk
            obtain ⟨u1, u2, rfl, q1, q3⟩ := vals2 rits
            obtain ⟨t, rfl⟩ := q1
            refine ⟨⟨a, .str ⟨sk.toArray⟩ t, ⟨sk.toArray⟩, u2, _⟩ :: L, by rw [h1]; rfl, fun e he => ?_, by rw [h3] <;> rfl, by rw [h4] <;> rfl, .cons ry h5⟩
            rcases List.mem_cons.mp he with rfl | he
            · exact ⟨p1, ⟨t, rfl⟩, q3⟩
            · exact h2 e he
      | _ => cases e2
    · cases e
theorem call_dictF (hK : X.K = G.K) (hc : X.calm = true) : CallR X (.type "dict") (C1 G (o1F .dict)) := by
  intro pins s σ H vs us Q I r q
  obtain ⟨v, rfl, av, ρ, h, x, z, R, rx, e, q⟩ := q
  have hK : X.K = (G.at av).K := hK
  unfold o1F at e
  split at e
  all_goals (try contradiction)
  rename_i xs _
  split at e
  · rename_i ks ds hp
    split at e
    · rename_i ss hs
      split at e
      · rename_i hn
        cases e
        obtain ⟨u, rfl, ru⟩ := vals1 r
        -- the tuple's object
        have obj : ∃ (a : Addr) (ws : List V) (its : List Value), v = .ref a ∧ RDs (G.at av) ρ H xs ws ∧ Vals ws its ∧ PlainSeq "tuple" s.heap a its.toArray ∧ ws.length ≤ sizeLine := by
          cases rx with
          | @tup a ob ws _ e1 d1 _ _ rs =>
            obtain ⟨e2, hz, its, rv, o, e3, c3, n, dt⟩ := I.hok a _ e1
            rw [e2] at e3
            cases e3
            exact ⟨a, ws, its, rfl, rs, rv, ⟨ob, n, e2, c3, d1, dt⟩, hz⟩
          | @tupK a ws _ e1 rs =>
            obtain ⟨o, its, n, h1, h2, h3, h4, h5, h6⟩ := e1
            rw [← hK] at h1
            refine ⟨a, ws, its.toList, rfl, rs, h6, ⟨o, n, I.kIn a o h1, h2, h3, by simpa using h4⟩, ?_⟩
            have q6 : ws.length = its.toList.length := Vals.length h6
            rw [q6]; simpa using h5
        obtain ⟨a, ws, its, rfl, rs, rv, pl, hz⟩ := obj
        cases ru
        obtain ⟨L, rfl, h2, rfl, rfl, h5⟩ := pairs_inv hK I rs rv hp hs
        have hlen : ws.length = L.length := by rw [rv.length, List.length_map]
        have hm : (s.heap.objs.size == sysModules) = false := beq_eq_false_iff_ne.mpr (Nat.ne_of_gt I.big)
        have nn : H s.heap.objs.size = none := I.hok.fresh (Nat.le_refl _)
        have kv : KV (L.map fun e => ((.inr e.x : Key), e.y)) (L.map fun e => ((.inr e.x : Key), e.v)) := by
          clear h5 hn hs hp rs rv pl hz hlen q
          induction L with
          | nil => exact .nil
          | cons e L ih => exact .cons ⟨rfl, (h2 e List.mem_cons_self).2.2⟩ (ih fun e he => h2 e (List.mem_cons_of_mem _ he))
        have nd : ((([] : List (Key × V)) ++ L.map fun e => ((.inr e.x : Key), e.y)).map (·.1)).Nodup := by
          rw [List.nil_append, List.map_map]
          show (L.map fun e => (.inr e.x : Key)).Nodup
          refine List.pairwise_map.mpr (List.Pairwise.imp (fun {e f} hne he => hne ?_) (List.pairwise_map.mp hn))
          rw [Sum.inr.inj he]
        have mk := mergeK_new _ [] nd
        rw [List.nil_append] at mk
        refine call_dict_pairs (knd := mixKind X.prog X.w) (kvs := L.map fun e => ((.inr e.x : Key), e.v)) (PairArg.tuple a (L.map fun e => Value.ref e.b).toArray (fun j => (L[j]?.map (·.b)).getD 0) (L.map fun e => (e.k, e.v))) (I.ok.hd hc) ⟨pl, ?_, ?_⟩ ⟨?_, ?_⟩ ?_ fun h' tk hd' k => ?_
        · simp
        · intro j k v hj
          rw [List.getElem?_map] at hj
          obtain ⟨e, he, hkv⟩ := Option.map_eq_some_iff.mp hj
          cases hkv
          refine ⟨by simp [he], .inl ?_⟩
          simp only [he, Option.map_some, Option.getD_some]
          exact (h2 e (List.mem_of_getElem? he)).1
        · simp
        · intro j k v hj
          have hj : (L.map fun e => (e.k, e.v))[j]? = some (k, v) := hj
          rw [List.getElem?_map] at hj
          obtain ⟨e, he, hkv⟩ := Option.map_eq_some_iff.mp hj
          cases hkv
          refine ⟨.inr e.x, by simp [he], ?_⟩
          obtain ⟨t, et⟩ := (h2 e (List.mem_of_getElem? he)).2.1
          rw [et]
          exact mixKind_str _ _ _ _
        · rw [List.length_map, ← hlen]; exact hz
        · have kv2 := KV.merge kv (KV_nil (κ := Key))
          rw [mk] at kv2
          refine ⟨.ref s.heap.objs.size, _, I.laid (t' := tk) (o := .dK (L.map fun e => ((.inr e.x : Key), e.y))) (fun b o e => k b o (by simp) e) (Nat.le_refl _) ⟨by rw [List.length_map, ← hlen]; exact hz, hm, _, kv2, hd'⟩, rfl, ?_⟩
          refine q _ _ (Stp.new nn) (R.new nn) ⟨s.heap.objs.size, _, rfl, nn, R.notAv nn, upd_same, ?_, ?_, R.newHid nn⟩
          · rw [List.map_map]; rfl
          · rw [List.map_map]
            exact h5.new nn
      · cases e
    · cases e
  · cases e
/-! ### isinstance -/
def tyName : Ty → String
  | .str => "str" | .tup => "tuple" | .lst => "list" | .int => "int" | .bool => "bool" | .dict => "dict"
theorem kit_dec {K : PySem.W.Frag} (s : Option Ty) (t : Ty) : PySem.W.kitOne K (.type (match s with | some s => tyName s | none => "NoneType")) (.type (tyName t)) = some (match s with | some .bool => (t == .bool || t == .int) | some s => t == s | none => false) := by
  rcases s with _ | s
  · cases t <;> exact kit_ty (by decide +kernel)
  · cases s <;> cases t <;> exact kit_ty (by decide +kernel)
theorem call_isiF (t : Ty) (hK : X.K = G.K) : CallR X (.builtin "isinstance") (fun vs H Q => ∃ v, vs = [v, .ty (tyName t)] ∧ U1 G (o1F (.isi t)) v H Q) := by
  intro pins s σ H vs us Q I r q
  obtain ⟨v, rfl, av, ρ, h, x, z, R, rx, e, q⟩ := q
  have hK : X.K = (G.at av).K := hK
  have e : (isTy h t x).map D.bl = some z := by
    unfold o1F at e
    split at e
    all_goals (try contradiction)
    rename_i he
    cases he
    exact e
  obtain ⟨k, e, rfl⟩ := Option.map_eq_some_iff.mp e
  have go : ∀ (s0 : Option Ty), TyX X.K H v (.type (match s0 with | some s => tyName s | none => "NoneType")) → k = (match s0 with | some .bool => (t == .bool || t == .int) | some s => t == s | none => false) → wpAny (model X.prog X.w) X.A (call (.builtin "isinstance") us) (EP X pins σ Q) X.xe s := fun s0 ty ek => by
    refine call_isi pins s σ H _ us Q I r ⟨v, _, _, _, _, rfl, .ty _, ty, kit_dec s0 t, ?_⟩
    rw [← ek]
    exact fin_at R (RD.bl k) q
  cases rx with
  | non => cases e; exact go none (.base .non) rfl
  | bl b => cases e; exact go (some .bool) (.base (.bl _)) rfl
  | int i => cases e; exact go (some .int) (.base (.int _)) rfl
  | str x => cases e; exact go (some .str) (.base (.str _)) rfl
  | tup h _ _ _ _ => cases e; exact go (some .tup) (.fTuple h) rfl
  | tupK h _ =>
    cases e
    obtain ⟨o, its, n, h1, h2, _⟩ := h
    rw [← hK] at h1
    exact go (some .tup) (.kTuple h1 h2) rfl
  | fz h _ _ _ =>
    cases e
    rcases h with h | ⟨u, h⟩
    · exact go (some .lst) (.base (.lst h)) rfl
    · exact go (some .lst) (.base (.frz h)) rfl
  | fzK h _ =>
    cases e
    obtain ⟨o, its, n, h1, h2, _⟩ := h
    rw [← hK] at h1
    exact go (some .lst) (.kList h1 h2) rfl
  | fd h _ _ _ =>
    cases e
    rcases h with h | ⟨u, h⟩
    · exact go (some .dict) (.base (.dK h)) rfl
    · exact go (some .dict) (.fDict h) rfl
  | @ref l a h0 =>
    obtain ⟨o, e1, ro⟩ := R.lt h0
    simp only [isTy, e1] at e
    cases o with
    | lst ys =>
      cases e
      obtain ⟨vs, e2, _⟩ := ro
      exact go (some .lst) (.base (.lst e2)) rfl
    | dic ks ys =>
      cases e
      obtain ⟨kvs, e2, _⟩ := ro
      exact go (some .dict) (.base (.dK e2)) rfl
    | ins c fs => cases e
end
end Sd

/-! PyE: readings of expressions by the evaluator; each construct. -/
namespace Sd
open PySem PySem.Spec PyProof.Rows L2

theorem o2_keep (o : O2) (h : Hh) (x y : D) : o2F o h x.keep y.keep = o2F o h x y := by
  cases x <;> cases y <;> first | rfl | (cases o <;> rfl)
theorem partOf_keep (x : D) : partOf x.keep = partOf x := by cases x <;> rfl
theorem slice_keep (h : Hh) (x : D) (lo hi : Option Int) : sliceF h x.keep lo hi = sliceF h x lo hi := by cases x <;> rfl

section
variable {G : Gx} {C : Calls} {a b c : E} {σ : L2.St} {H : Hp} {Q : VK}
theorem tD_o1 (o : O1) (q : tD G (evE C (.o1 o a)) σ H Q) : tD G (evE C a) σ H fun v H1 => U1 G (o1F o) v H1 Q := by
  obtain ⟨av, ρ, h, σD, d, h', R, RE, e, q⟩ := q
  simp only [evE] at e
  obtain ⟨x, h1, e1, e⟩ := Out.thn_eq_ok e
  obtain ⟨e, rfl⟩ := Out.of_eq_ok e
  exact ⟨av, ρ, h, σD, x, _, R, RE, e1, fun ρ1 H1 v S1 R1 r1 => ⟨av, ρ1, _, x.keep, d, R1, r1.keep, by rw [o1_keep]; exact e,
    fun H' u S R r => q _ _ _ (S1.trans S) R (r.back S1 S)⟩⟩
theorem tD_o2 (o : O2) (q : tD G (evE C (.o2 o a b)) σ H Q) : tOp (U2 G (o2F o)) (tD G (evE C a)) (tD G (evE C b)) σ H Q := by
  obtain ⟨av, ρ, h, σD, d, h', R, RE, e, q⟩ := q
  simp only [evE] at e
  obtain ⟨x, h1, e1, e⟩ := Out.thn_eq_ok e
  obtain ⟨y, h2, e2, e⟩ := Out.thn_eq_ok e
  obtain ⟨e, rfl⟩ := Out.of_eq_ok e
  exact ⟨av, ρ, h, σD, x, h1, R, RE, e1, fun ρ1 H1 v S1 R1 r1 => ⟨av, ρ1, h1, σD, y, _, R1, RE.step S1, e2, fun ρ2 H2 w S2 R2 r2 =>
    ⟨av, ρ2, _, x.keep, y.keep, d, R2, r1.keep.step S2, r2.keep, by rw [o2_keep]; exact e, fun H' u S R r => q _ _ _ (S1.trans (S2.trans S)) R (r.back (S1.trans S2) S)⟩⟩⟩
/-- a test from a value -/
theorem tDt_tB {e : E} {Q : Bool → Hp → Prop} (q : tDt G (evE C e) σ H Q) : tB (tD G (evE C e)) σ H Q := by
  obtain ⟨av, ρ, h, σD, k, h', R, RE, e, q⟩ := q
  exact ⟨av, ρ, h, σD, _, h', R, RE, e, fun ρ1 H1 v S1 R1 r1 => ⟨k, RD.bl_inv (G := G.at av) (ρ := ρ1) (H := H1) r1, q _ _ S1 R1⟩⟩
theorem tD_and (q : tD G (evE C (.and a b)) σ H Q) : tAndV (tD G (evE C a)) (tD G (evE C b)) σ H Q := by
  obtain ⟨av, ρ, h, σD, d, h', R, RE, e, q⟩ := q
  simp only [evE] at e
  obtain ⟨x, h1, e1, e⟩ := Out.thn_eq_ok e
  refine ⟨av, ρ, h, σD, x, h1, R, RE, e1, fun ρ1 H1 v S1 R1 r1 => ?_⟩
  split at e
  · refine ⟨true, RD.bl_inv (G := G.at av) (ρ := ρ1) (H := H1) r1, ?_⟩
    refine iteT ?_
    exact ⟨av, ρ1, h1, σD, d, h', R1, RE.step S1, e, fun ρ2 H2 w S2 R2 r2 => q _ _ _ (S1.trans S2) R2 (r2.back S1 S2)⟩
  · cases e
    refine ⟨false, RD.bl_inv (G := G.at av) (ρ := ρ1) (H := H1) r1, ?_⟩
    refine iteF ?_
    exact q _ _ _ S1 R1 (RD.bl false).rv
  · cases e
theorem tD_or (q : tD G (evE C (.or a b)) σ H Q) : tOrV (tD G (evE C a)) (tD G (evE C b)) σ H Q := by
  obtain ⟨av, ρ, h, σD, d, h', R, RE, e, q⟩ := q
  simp only [evE] at e
  obtain ⟨x, h1, e1, e⟩ := Out.thn_eq_ok e
  refine ⟨av, ρ, h, σD, x, h1, R, RE, e1, fun ρ1 H1 v S1 R1 r1 => ?_⟩
  split at e
  · refine ⟨false, RD.bl_inv (G := G.at av) (ρ := ρ1) (H := H1) r1, ?_⟩
    refine iteF ?_
    exact ⟨av, ρ1, h1, σD, d, h', R1, RE.step S1, e, fun ρ2 H2 w S2 R2 r2 => q _ _ _ (S1.trans S2) R2 (r2.back S1 S2)⟩
  · cases e
    refine ⟨true, RD.bl_inv (G := G.at av) (ρ := ρ1) (H := H1) r1, ?_⟩
    refine iteT ?_
    exact q _ _ _ S1 R1 (RD.bl true).rv
  · cases e
theorem tDt_and {Q : Bool → Hp → Prop} (q : tDt G (evE C (.and a b)) σ H Q) : tAnd (tDt G (evE C a)) (tDt G (evE C b)) σ H Q := by
  obtain ⟨av, ρ, h, σD, d, h', R, RE, e, q⟩ := q
  simp only [evE] at e
  obtain ⟨x, h1, e1, e⟩ := Out.thn_eq_ok e
  split at e
  · refine ⟨av, ρ, h, σD, true, h1, R, RE, e1, fun ρ1 H1 S1 R1 => ?_⟩
    refine iteT ?_
    exact ⟨av, ρ1, h1, σD, d, h', R1, RE.step S1, e, fun ρ2 H2 S2 R2 => q _ _ (S1.trans S2) R2⟩
  · cases e
    refine ⟨av, ρ, h, σD, false, _, R, RE, e1, fun ρ1 H1 S1 R1 => ?_⟩
    refine iteF ?_
    exact q _ _ S1 R1
  · cases e
theorem tDt_or {Q : Bool → Hp → Prop} (q : tDt G (evE C (.or a b)) σ H Q) : tOr (tDt G (evE C a)) (tDt G (evE C b)) σ H Q := by
  obtain ⟨av, ρ, h, σD, d, h', R, RE, e, q⟩ := q
  simp only [evE] at e
  obtain ⟨x, h1, e1, e⟩ := Out.thn_eq_ok e
  split at e
  · refine ⟨av, ρ, h, σD, false, h1, R, RE, e1, fun ρ1 H1 S1 R1 => ?_⟩
    refine iteF ?_
    exact ⟨av, ρ1, h1, σD, d, h', R1, RE.step S1, e, fun ρ2 H2 S2 R2 => q _ _ (S1.trans S2) R2⟩
  · cases e
    refine ⟨av, ρ, h, σD, true, _, R, RE, e1, fun ρ1 H1 S1 R1 => ?_⟩
    refine iteT ?_
    exact q _ _ S1 R1
  · cases e
theorem not_inv {h h' : Hh} {x d : D} (e : Out.of h (o1F .not h x) = .ok d h') : ∃ k, x = .bl k ∧ d = .bl (!k) ∧ h' = h := by
  obtain ⟨e, rfl⟩ := Out.of_eq_ok e
  unfold o1F at e
  split at e
  all_goals (try contradiction)
  cases e
  exact ⟨_, rfl, rfl, rfl⟩
theorem tDt_not {Q : Bool → Hp → Prop} (q : tDt G (evE C (.o1 .not a)) σ H Q) : tNot (tDt G (evE C a)) σ H Q := by
  obtain ⟨av, ρ, h, σD, d, h', R, RE, e, q⟩ := q
  simp only [evE] at e
  obtain ⟨x, h1, e1, e⟩ := Out.thn_eq_ok e
  obtain ⟨k, rfl, ek, rfl⟩ := not_inv e
  cases ek
  exact ⟨av, ρ, h, σD, k, _, R, RE, e1, fun ρ1 H1 S1 R1 => q _ _ S1 R1⟩
theorem tD_not (q : tD G (evE C (.o1 .not a)) σ H Q) : tNotV (tD G (evE C a)) σ H Q := by
  obtain ⟨av, ρ, h, σD, d, h', R, RE, e, q⟩ := q
  simp only [evE] at e
  obtain ⟨x, h1, e1, e⟩ := Out.thn_eq_ok e
  obtain ⟨k, rfl, rfl, rfl⟩ := not_inv e
  exact ⟨av, ρ, h, σD, _, _, R, RE, e1, fun ρ1 H1 v S1 R1 r1 => ⟨k, RD.bl_inv (G := G.at av) (ρ := ρ1) (H := H1) r1, q _ _ _ S1 R1 (RD.bl _).rv⟩⟩
theorem tD_ife (q : tD G (evE C (.ife c a b)) σ H Q) : tIf (tDt G (evE C c)) (tD G (evE C a)) (tD G (evE C b)) σ H Q := by
  obtain ⟨av, ρ, h, σD, d, h', R, RE, e, q⟩ := q
  simp only [evE] at e
  obtain ⟨x, h1, e1, e⟩ := Out.thn_eq_ok e
  split at e
  · refine ⟨av, ρ, h, σD, true, h1, R, RE, e1, fun ρ1 H1 S1 R1 => ?_⟩
    refine iteT ?_
    exact ⟨av, ρ1, h1, σD, d, h', R1, RE.step S1, e, fun ρ2 H2 w S2 R2 r2 => q _ _ _ (S1.trans S2) R2 (r2.back S1 S2)⟩
  · refine ⟨av, ρ, h, σD, false, h1, R, RE, e1, fun ρ1 H1 S1 R1 => ?_⟩
    refine iteF ?_
    exact ⟨av, ρ1, h1, σD, d, h', R1, RE.step S1, e, fun ρ2 H2 w S2 R2 r2 => q _ _ _ (S1.trans S2) R2 (r2.back S1 S2)⟩
  · cases e
theorem tD_chn {o p : O2} (q : tD G (evE C (.chn o p a b c)) σ H Q) : tChain (U2 G (o2F o)) (U2 G (o2F p)) (tD G (evE C a)) (tD G (evE C b)) (tD G (evE C c)) σ H Q := by
  obtain ⟨av, ρ, h, σD, d, h', R, RE, e, q⟩ := q
  simp only [evE] at e
  obtain ⟨x, h1, e1, e⟩ := Out.thn_eq_ok e
  obtain ⟨y, h2, e2, e7⟩ := Out.thn_eq_ok e
  obtain ⟨t, h3, e3, e5⟩ := Out.thn_eq_ok e7
  obtain ⟨e6, rfl⟩ := Out.of_eq_ok e3
  clear e7 e3
  refine ⟨av, ρ, h, σD, x, h1, R, RE, e1, fun ρ1 H1 v S1 R1 r1 => ⟨av, ρ1, h1, σD, y, _, R1, RE.step S1, e2, fun ρ2 H2 w S2 R2 r2 =>
    ⟨av, ρ2, _, x.keep, y.keep, t, R2, r1.keep.step S2, r2.keep, by rw [o2_keep]; exact e6, fun H' u S R3 r3 => ?_⟩⟩⟩
  split at e5
  · refine ⟨true, RD.bl_inv (G := G.at av) (ρ := ρ2) (H := H') r3, ?_⟩
    refine iteT ?_
    obtain ⟨z, h4, e4, e8⟩ := Out.thn_eq_ok e5
    obtain ⟨e9, rfl⟩ := Out.of_eq_ok e8
    refine ⟨av, ρ2, _, σD, z, _, R3, (RE.step S1).step (S2.trans S), e4, fun ρ4 H4 w4 S4 R4 r4 => ⟨av, ρ4, _, y.keep, z.keep, d, R4, (r2.keep.step S).step S4, r4.keep, by rw [o2_keep]; exact e9, fun H5 u5 S5 R5 r5 =>
      q _ _ _ (S1.trans (S2.trans (S.trans (S4.trans S5)))) R5 (r5.back (S1.trans (S2.trans (S.trans S4))) S5)⟩⟩
  · cases e5
    refine ⟨false, RD.bl_inv (G := G.at av) (ρ := ρ2) (H := H') r3, ?_⟩
    refine iteF ?_
    exact q _ _ _ (S1.trans (S2.trans S)) R3 (RD.bl false).rv
  · cases e5
theorem tDt_test {e : E} {Q : Bool → Hp → Prop} (q : tDt G (evE C e) σ H Q) : tD G (evE C e) σ H fun x H' => ∃ k, x = .bl k ∧ Q k H' := tDt_tB q
theorem tD_alc (q : tD G (evE C (.alc a)) σ H Q) : tD G (evE C a) σ H Q := by
  obtain ⟨av, ρ, h, σD, d, h', R, RE, e, q⟩ := q
  simp only [evE] at e
  obtain ⟨x, h1, e1, e⟩ := Out.thn_eq_ok e
  refine ⟨av, ρ, h, σD, x, h1, R, RE, e1, fun ρ1 H1 v S1 R1 r1 => ?_⟩
  have stp : ∀ p : Addr, H p = none → Stp ρ (ρ1 ++ [p]) H H1 := fun p n => ⟨fun l a e => by
      have e := S1.pre l a e
      rw [List.getElem?_append_left (List.getElem?_eq_some_iff.mp e).1]; exact e, fun b u eb nb => ⟨(S1.frm b u eb nb).1, fun hm => by
      rcases List.mem_append.mp hm with hm | hm
      · exact (S1.frm b u eb nb).2 hm
      · rw [List.mem_singleton.mp hm, n] at eb; cases eb⟩⟩
  split at e
  · cases e
    obtain ⟨p, vs, rfl, n0, nv, e2, rs, Rh⟩ := r1
    obtain ⟨R2, at_⟩ := RelH.own (ob := .lst _) nv Rh ⟨vs, e2, rs⟩
    exact q _ _ _ (stp p n0) R2 (RD.ref at_)
  · cases e
    obtain ⟨p, kvs, rfl, n0, nv, e2, e3, rs, Rh⟩ := r1
    obtain ⟨R2, at_⟩ := RelH.own (ob := .dic _ _) nv Rh ⟨kvs, e2, e3, rs⟩
    exact q _ _ _ (stp p n0) R2 (RD.ref at_)
  · cases e
    exact q _ _ _ S1 R1 r1
end
end Sd

/-! PyF: argument lists, calls, walks, comprehensions. -/
namespace Sd
open PySem PySem.Spec PyProof.Rows L2

/-! ### argument lists -/
section
variable {G : Gx} {C : Calls} {e : E} {es : List E} {σ : L2.St} {H : Hp} {Q : List V → Hp → Prop}
theorem tDs_nil (q : tDs G (evEs C []) σ H Q) : tNil σ H Q := by
  obtain ⟨av, ρ, h, σD, ds, h', R, RE, e, q⟩ := q
  simp only [evEs] at e
  cases e
  exact q _ _ _ (Stp.refl _ _) R .nil
theorem tDs_cons (q : tDs G (evEs C (e :: es)) σ H Q) : tCons (tD G (evE C e)) (tDs G (evEs C es)) σ H Q := by
  obtain ⟨av, ρ, h, σD, ds, h', R, RE, e, q⟩ := q
  simp only [evEs] at e
  obtain ⟨x, h1, e1, e2⟩ := Out.thn_eq_ok e
  obtain ⟨xs, h2, e3, e4⟩ := Out.thn_eq_ok e2
  cases e4
  exact ⟨av, ρ, h, σD, x, h1, R, RE, e1, fun ρ1 H1 v S1 R1 r1 => ⟨av, ρ1, h1, σD, xs, _, R1, RE.step S1, e3, fun ρ2 H2 vs S2 R2 r2 => q _ _ _ (S1.trans S2) R2 (.cons (r1.keep.step S2) r2)⟩⟩
theorem evEs_len : ∀ {es : List E} {σD : Env} {h : Hh} {ds : List D} {h' : Hh}, evEs C es σD h = .ok ds h' → ds.length = es.length
  | [], _, _, _, _, e => by simp only [evEs] at e; cases e; rfl
  | _ :: es, _, _, _, _, e => by
    simp only [evEs] at e
    obtain ⟨x, h1, e1, e2⟩ := Out.thn_eq_ok e
    obtain ⟨xs, h2, e3, e4⟩ := Out.thn_eq_ok e2
    cases e4
    rw [List.length_cons, List.length_cons, evEs_len e3]
end
section
variable {G : Gx} {C : Calls} {X : Cx} {es : List E} {xs : List Expr} {k : Nat} {pos : Pos}
theorem pe_tupF (ha : PA X xs (tDs G (evEs C es))) (hl : es.length ≤ 1000) : PE X (.Tuple xs k pos) (tD G (evE C (.tup es))) := by
  refine ⟨fun pins s σ H Q I q => ?_⟩
  obtain ⟨av, ρ, h, σD, d, h', R, RE, e, q⟩ := q
  simp only [evE] at e
  obtain ⟨ds, h1, e1, e2⟩ := Out.thn_eq_ok e
  cases e2
  have hn := evEs_len e1
  refine wpAny_Tuple_spliced (thn (ha.run pos pins s σ H (fun vs H1 => ∃ ρ1, Stp ρ ρ1 H H1 ∧ RelH (G.at av) ρ1 h' H1 ∧ RDs (G.at av) ρ1 H1 ds vs) I ⟨av, ρ, h, σD, ds, h', R, RE, e1, fun ρ1 H1 vs S1 R1 r1 => ⟨ρ1, S1, R1, r1⟩⟩) fun us s1 ⟨vs, H1, I1, rv, ρ1, S1, R1, r1⟩ => ?_)
  have hz : vs.length ≤ 1000 := by rw [← r1.length, hn]; exact hl
  have hz2 : vs.length ≤ sizeLine := Nat.le_trans hz (by rw [sizeLine_eq]; decide)
  exact ⟨by rw [← rv.length]; exact hz2, fin_tup (t := s1.toks) I1 R1 r1 rv hz2 fun H' u S2 R2 r2 => q _ _ _ (S1.trans S2) R2 (r2.back S1 S2)⟩
theorem pe_lstF (ha : PA X xs (tDs G (evEs C es))) (hl : es.length ≤ 1000) : PE X (.List xs pos) (tD G (evE C (.lst es))) := by
  refine PE.imp (pe_lst ha) fun σ H Q q => ?_
  obtain ⟨av, ρ, h, σD, d, h', R, RE, e, q⟩ := q
  simp only [evE] at e
  obtain ⟨ds, h1, e1, e2⟩ := Out.thn_eq_ok e
  cases e2
  have hn := evEs_len e1
  refine ⟨av, ρ, h, σD, ds, h', R, RE, e1, fun ρ1 H1 vs S1 R1 r1 => ⟨?_, fun p n => fin_lst R1 r1 n fun H' u S2 R2 r2 => q _ _ _ (S1.trans S2) R2 (r2.back S1 S2)⟩⟩
  rw [← r1.length, hn]
  exact Nat.le_trans hl (by rw [sizeLine_eq]; decide)
end

/-! ### calls of the program's own -/
/-- what a def promises: that it gives what F gives -/
def spC (G : Gx) (n : Nat) (F : List D → Hh → Out D) : Sp := fun vs H Q E => vs.length = n ∧ ∃ av ρ h ds d h', RelH (G.at av) ρ h H ∧ RDs (G.at av) ρ H ds vs ∧ F ds h = .ok d h' ∧
  ∀ ρ' H' v, Stp ρ ρ' H H' → RelH (G.at av) ρ' h' H' → RV (G.at av) ρ' h' H H' d v → Q v H'
/-- a def of the program's own, as it may be called here -/
structure FnFit (G : Gx) (X : Cx) (x : Str) (F : List D → Hh → Out D) : Prop where
  ex : ∃ (k : Nat) (f : Addr) (fd : FuncData) (ps : List Str), X.mg x = some (.ref f) ∧ PySem.W.keepIn X.K (.ref f) = true ∧ Binds X.K fd ps [] ∧ Room k X.A ∧
    FnOk X.prog X.w X.K X.mg X.base CX0 k f fd ps (spC G ps.length F) ∧ ∀ ds h d h', F ds h = .ok d h' → ds.length = ps.length
section
variable {G : Gx} {C : Calls} {X : Cx} {es : List E} {e : Expr} {xs : List Expr} {x : Str} {p pos : Pos} {c m : String}
theorem tCall_of {n : Nat} {σ : L2.St} {H : Hp} {Q : VK} (hl : ∀ ds h d h', C c m ds h = .ok d h' → ds.length = n) (q : tD G (evE C (.call c m es)) σ H Q) : tCall (spC G n (C c m)) [] E0 (tDs G (evEs C es)) σ H Q := by
  obtain ⟨av, ρ, h, σD, d, h', R, RE, e, q⟩ := q
  simp only [evE] at e
  obtain ⟨ds, h1, e1, e2⟩ := Out.thn_eq_ok e
  refine ⟨av, ρ, h, σD, ds, h1, R, RE, e1, fun ρ1 H1 vs S1 R1 r1 => ?_⟩
  show spC G n (C c m) (vs ++ []) H1 Q E0
  rw [List.append_nil]
  exact ⟨by rw [← r1.length]; exact hl _ _ _ _ e2, av, ρ1, h1, ds, d, h', R1, r1, e2, fun ρ2 H2 v S2 R2 r2 => q _ _ _ (S1.trans S2) R2 (r2.back S1 S2)⟩
theorem pe_callF (F : FnFit G X x (C c m)) (hg : Gl X x) (ha : PA X (e :: xs) (tDs G (evEs C es))) (hdb : (x == ("__debug__" : Str)) = false)
    (he : starEach (e :: xs) X.env = (false, eval e X.env) :: starEach xs X.env) (hpl : (backTo pos (starEach xs X.env)).any (·.1) = false) : PE X (.Call (.Name x p) (e :: xs) [] pos) (tD G (evE C (.call c m es))) := by
  obtain ⟨k, f, fd, ps, h1, h2, h3, h4, h5, h6⟩ := F.ex
  exact PE.imp (pe_call h5 h4 hg h1 h2 h3 .nil pass0 ha hdb he hpl) fun σ H Q q => tCall_of h6 q
theorem pe_callF0 (F : FnFit G X x (C c m)) (hg : Gl X x) (hdb : (x == ("__debug__" : Str)) = false) : PE X (.Call (.Name x p) [] [] pos) (tD G (evE C (.call c m []))) := by
  obtain ⟨k, f, fd, ps, h1, h2, h3, h4, h5, h6⟩ := F.ex
  refine PE.imp (pe_call0 h5 h4 hg h1 h2 h3 .nil pass0 hdb) fun σ H Q q => ?_
  have := tCall_of h6 q
  exact tDs_nil this
end

/-! ### builtins by their names -/
section
variable {G : Gx} {C : Calls} {X : Cx} {a b : E} {e1 e2 : Expr} {x : Str} {p pos : Pos} {id T : String}
theorem pe_b1 {o : O1} (hc : CallR X (.builtin id) (C1 G (o1F o))) (hg : Gl X x) (hm : X.mg x = none) (hv : bootBuiltins x = some (.builtin id)) (ha : PE X e1 (tD G (evE C a))) (hn : x ≠ "__name__") (hdb : (x == ("__debug__" : Str)) = false)
    (he : starEach [e1] X.env = [(false, eval e1 X.env)]) : PE X (.Call (.Name x p) [e1] [] pos) (tD G (evE C (.o1 o a))) :=
  PE.imp (pe_callB hc hg hm hv (pa_cons ha pa_nil he) hn hdb he (by rfl)) fun σ H Q q => by
    obtain ⟨av, ρ, h, σD, d, h', R, RE, e, r⟩ := tD_o1 o q
    exact ⟨av, ρ, h, σD, d, h', R, RE, e, fun ρ' H' v S R r' => ⟨v, rfl, r ρ' H' v S R r'⟩⟩
theorem pe_t1 {o : O1} (hc : CallR X (.type T) (C1 G (o1F o))) (hg : Gl X x) (hm : X.mg x = none) (hv : bootBuiltins x = some (.type T)) (ha : PE X e1 (tD G (evE C a))) (hn : x ≠ "__name__") (hdb : (x == ("__debug__" : Str)) = false)
    (he : starEach [e1] X.env = [(false, eval e1 X.env)]) : PE X (.Call (.Name x p) [e1] [] pos) (tD G (evE C (.o1 o a))) :=
  PE.imp (pe_callTy hc hg hm hv (pa_cons ha pa_nil he) hn hdb he (by rfl)) fun σ H Q q => by
    obtain ⟨av, ρ, h, σD, d, h', R, RE, e, r⟩ := tD_o1 o q
    exact ⟨av, ρ, h, σD, d, h', R, RE, e, fun ρ' H' v S R r' => ⟨v, rfl, r ρ' H' v S R r'⟩⟩
theorem pe_b2 {o : O2} (hc : CallR X (.builtin id) (C2 G (o2F o))) (hg : Gl X x) (hm : X.mg x = none) (hv : bootBuiltins x = some (.builtin id)) (ha : PE X e1 (tD G (evE C a))) (hb : PE X e2 (tD G (evE C b))) (hn : x ≠ "__name__") (hdb : (x == ("__debug__" : Str)) = false)
    (he : starEach [e1, e2] X.env = (false, eval e1 X.env) :: starEach [e2] X.env) (he2 : starEach [e2] X.env = [(false, eval e2 X.env)]) : PE X (.Call (.Name x p) [e1, e2] [] pos) (tD G (evE C (.o2 o a b))) :=
  PE.imp (pe_callB hc hg hm hv (pa_cons ha (pa_cons hb pa_nil he2) he) hn hdb he (by rw [he2]; rfl)) fun σ H Q q => by
    obtain ⟨av, ρ, h, σD, d, h', R, RE, e, r⟩ := tD_o2 o q
    refine ⟨av, ρ, h, σD, d, h', R, RE, e, fun ρ' H' v S R r' => ?_⟩
    obtain ⟨av2, ρ2, h2, σD2, d2, h2', R2, RE2, e2, r2⟩ := r ρ' H' v S R r'
    exact ⟨av2, ρ2, h2, σD2, d2, h2', R2, RE2, e2, fun ρ3 H3 w S3 R3 r3 => ⟨v, w, rfl, r2 ρ3 H3 w S3 R3 r3⟩⟩
theorem pe_isiF {t : Ty} {y : Str} {p2 : Pos} (hK : X.K = G.K) (hg : Gl X "isinstance") (hm : X.mg "isinstance" = none) (hg2 : Gl X y) (hm2 : X.mg y = none) (hv2 : bootBuiltins y = some (.type (tyName t))) (hn2 : y ≠ "__name__") (hd2 : (y == ("__debug__" : Str)) = false) (ha : PE X e1 (tD G (evE C a)))
    (he : starEach [e1, .Name y p2] X.env = (false, eval e1 X.env) :: starEach [.Name y p2] X.env) : PE X (.Call (.Name "isinstance" p) [e1, .Name y p2] [] pos) (tD G (evE C (.o1 (.isi t) a))) :=
  PE.imp (pe_callB (call_isiF t hK) hg hm (by decide +kernel) (pa_cons ha (pa_cons (pe_bltn hg2 hm2 hv2 (v := .ty (tyName t)) rfl hn2 hd2) pa_nil (by rfl)) he) (by decide) (by decide) he (by rfl)) fun σ H Q q => by
    obtain ⟨av, ρ, h, σD, d, h', R, RE, e, r⟩ := tD_o1 (.isi t) q
    exact ⟨av, ρ, h, σD, d, h', R, RE, e, fun ρ' H' v S R r' => ⟨v, rfl, r ρ' H' v S R r'⟩⟩
end

/-! ### tests of a clause -/
def tTs (G : Gx) (m : Env → Hh → Out Bool) : TT := fun σ H Q => ∃ av ρ h σD b h', RelH (G.at av) ρ h H ∧ RelE (G.at av) ρ H σD σ ∧ m σD h = .ok b h' ∧
  ∀ ρ' H', Stp ρ ρ' H H' → RelH (G.at av) ρ' h' H' → Q b H'
theorem PTs.imp {X : Cx} {e : List Expr} {t t' : TT} (p : PTs X e t) (h : ∀ σ H Q, t' σ H Q → t σ H Q) : PTs X e t' := ⟨fun pins s σ H Q I q => p.run pins s σ H Q I (h σ H Q q)⟩
theorem pts_nilF {G : Gx} {C : Calls} {X : Cx} : PTs X [] (tTs G (evTs C [])) := PTs.imp pts_nil fun σ H Q q => by
  obtain ⟨av, ρ, h, σD, b, h', R, RE, e, q⟩ := q
  simp only [evTs] at e
  cases e
  exact q _ _ (Stp.refl _ _) R
theorem pts_oneF {G : Gx} {C : Calls} {X : Cx} {e1 : Expr} {a : E} (ha : PT X e1 (tDt G (evE C a))) : PTs X [e1] (tTs G (evTs C [a])) := PTs.imp (pts_one ha) fun σ H Q q => by
  obtain ⟨av, ρ, h, σD, b, h', R, RE, e, q⟩ := q
  simp only [evTs] at e
  obtain ⟨x, h1, e1, e2⟩ := Out.thn_eq_ok e
  split at e2
  · cases e2; exact ⟨av, ρ, h, σD, true, _, R, RE, e1, fun ρ1 H1 S1 R1 => q _ _ S1 R1⟩
  · cases e2; exact ⟨av, ρ, h, σD, false, _, R, RE, e1, fun ρ1 H1 S1 R1 => q _ _ S1 R1⟩
  · cases e2

/-! ### targets -/
/-- an item: as a value; or a pair that is taken apart at once -/
def RI (G : Gx) (pt : Bool) (ρ : List Addr) (H : Hp) (d : D) (x : V) : Prop := RD G ρ H d x ∨ (pt = true ∧ ∃ a ds vs, d = .tup ds ∧ x = .ref a ∧ SqT G.K H a vs ∧ RDs G ρ H ds vs)
def Pat.isT : Pat → Bool
  | .n _ => false
  | .t _ => true
def tP (G : Gx) (p : Pat) : TG := fun v σ H Q => ∃ av ρ σD d σ', RelE (G.at av) ρ H σD σ ∧ RI (G.at av) p.isT ρ H d v ∧ setP p d σD = some σ' ∧
  ∀ σ2, RelE (G.at av) ρ H σ' σ2 → (∀ vs, (∀ i ∈ p.ix, i ∈ vs) → L2.wipe σ2 vs = L2.wipe σ vs) → Q σ2 H
theorem PG.imp {X : Cx} {e : Expr} {t t' : TG} (p : PG X e t) (h : ∀ v σ H Q, t' v σ H Q → t v σ H Q) : PG X e t' := ⟨fun pins s σ H v u Q I r q => p.run pins s σ H v u Q I r (h v σ H Q q)⟩
theorem wipe_set {σ : L2.St} {i : Nat} {v : Option V} : ∀ {vs : List Nat}, i ∈ vs → L2.wipe (σ.set i v) vs = L2.wipe σ vs
  | j :: vs, h => by
    show (L2.wipe (σ.set i v) vs).set j none = (L2.wipe σ vs).set j none
    rcases List.mem_cons.mp h with e | h
    · subst e
      clear h
      have key : ∀ ws : List Nat, (L2.wipe (σ.set i v) ws).set i none = (L2.wipe σ ws).set i none := fun ws => by
        induction ws with
        | nil => show (σ.set i v).set i none = σ.set i none; rw [List.set_set]
        | cons w ws ih =>
          show ((L2.wipe (σ.set i v) ws).set w none).set i none = ((L2.wipe σ ws).set w none).set i none
          by_cases hw : w = i
          · subst hw; rw [List.set_set, List.set_set, ih]
          · rw [List.set_comm _ _ hw, List.set_comm _ _ hw, ih]
      exact key vs
    · rw [wipe_set h]
theorem pg_nameF {G : Gx} {X : Cx} {i : Nat} {x : Str} {pos : Pos} (hN : X.N.Nodup) (hi : X.N[i]? = some x) (hx : Loc X.env.scope x) (hf : X.fn x = true ∨ X.env.scope.names.lookup x = some .local) : PG X (.Name x pos) (tP G (.n i)) :=
  PG.imp (pg_name hN hi hx hf) fun v σ H Q q => by
    obtain ⟨av, ρ, σD, d, σ', RE, ri, e, q⟩ := q
    simp only [setP] at e
    split at e
    · cases e
      rcases ri with ri | ⟨z, _⟩
      · exact q _ (RE.set ri) fun vs hv => wipe_set (hv i (by simp [Pat.ix]))
      · cases z
    · cases e
/-- names only -/
def nameOf : Expr → Option Str
  | .Name x _ => some x
  | _ => none
structure NameOk (X : Cx) (e : Expr) (i : Nat) : Prop where
  ex : ∃ x pos, e = .Name x pos ∧ X.N[i]? = some x ∧ Loc X.env.scope x ∧ (X.fn x = true ∨ X.env.scope.names.lookup x = some .local)
inductive NamesOk (X : Cx) : List Expr → List Nat → Prop
  | nil : NamesOk X [] []
  | cons {e : Expr} {es : List Expr} {i : Nat} {is : List Nat} : NameOk X e i → NamesOk X es is → NamesOk X (e :: es) (i :: is)
def gNames : List Nat → TGs
  | [] => gNil
  | i :: is => gCons (gName i) (gNames is)
theorem NamesOk.each {X : Cx} : ∀ {es : List Expr} {is : List Nat}, NamesOk X es is → (assignEach es X.env).map (·.2) = es.map (fun e => assign e X.env) ∧ (assignEach es X.env).length = is.length ∧ (assignEach es X.env).findIdx? (·.1) = none
  | _, _, .nil => ⟨rfl, rfl, rfl⟩
  | _, _, .cons h t => by
    obtain ⟨x, pos, rfl, _⟩ := h.ex
    obtain ⟨h1, h2, h3⟩ := t.each
    refine ⟨?_, ?_, ?_⟩
    · show assign (.Name x pos) X.env :: (assignEach _ X.env).map (·.2) = _
      rw [h1]; rfl
    · show (assignEach _ X.env).length + 1 = _
      rw [h2]; rfl
    · show List.findIdx? (·.1) ((false, assign (.Name x pos) X.env) :: assignEach _ X.env) = none
      rw [List.findIdx?_cons, h3]; rfl
theorem pgs_names {X : Cx} (hN : X.N.Nodup) : ∀ {es : List Expr} {is : List Nat}, NamesOk X es is → PGs X es (gNames is)
  | _, _, .nil => pgs_nil
  | _, _, .cons h t => by
    obtain ⟨x, pos, rfl, h1, h2, h3⟩ := h.ex
    exact pgs_cons (pg_name hN h1 h2 h3) (pgs_names hN t) (by rfl)
theorem gNames_of {G : Gx} {ρ : List Addr} {H : Hp} {vs0 : List Nat} {σ0 : L2.St} {Q : L2.St → Hp → Prop} : ∀ {is : List Nat} {ds : List D} {vs : List V} {σD : Env} {σ : L2.St}, is.length = ds.length → RDs G ρ H ds vs → RelE G ρ H σD σ →
    (∀ σ2, RelE G ρ H ((is.zip ds).foldl (fun s p => s.set p.1 (some p.2)) σD) σ2 → (∀ ws, (∀ i ∈ is, i ∈ ws) → L2.wipe σ2 ws = L2.wipe σ ws) → Q σ2 H) → gNames is vs σ H Q
  | [], [], _, σD, σ, _, .nil, RE, q => ⟨rfl, q _ RE fun _ _ => rfl⟩
  | i :: is, d :: ds, v :: vs, σD, σ, hl, .cons r rs, RE, q => by
    refine ⟨v, vs, rfl, ?_⟩
    show gNames is vs (σ.set i (some v)) H Q
    refine gNames_of (vs0 := vs0) (σ0 := σ0) (by simpa using hl) rs (RE.set r) fun σ2 R2 w2 => q σ2 R2 fun ws hw => ?_
    rw [w2 ws fun j hj => hw j (List.mem_cons_of_mem _ hj), wipe_set (hw i List.mem_cons_self)]
theorem pg_tupF {G : Gx} {X : Cx} {es : List Expr} {k : Nat} {is : List Nat} {pos : Pos} (hK : X.K = G.K) (hc : X.calm = true) (hN : X.N.Nodup) (ho : NamesOk X es is) : PG X (.Tuple es k pos) (tP G (.t is)) := by
  obtain ⟨h1, h2, h3⟩ := ho.each
  refine PG.imp (pg_tup (n := is.length) hc (pgs_names hN ho) h2 h3) fun v σ H Q q => ?_
  obtain ⟨av, ρ, σD, d, σ', RE, ri, e, q⟩ := q
  have go : ∀ (a : Addr) (ds : List D) (vs : List V), d = .tup ds → v = .ref a → SqT (G.at av).K H a vs → RDs (G.at av) ρ H ds vs → gTup X.K is.length (gNames is) v σ H Q := fun a ds vs ed ev sq rs => by
    subst ed ev
    simp only [setP] at e
    split at e
    · rename_i hl
      cases e
      refine ⟨a, vs, rfl, by rw [hK]; exact sq, by rw [← rs.length]; exact hl.1.symm, ?_⟩
      exact gNames_of (vs0 := []) (σ0 := σ) hl.1 rs RE fun σ2 R2 w2 => q σ2 R2 w2
    · cases e
  rcases ri with ri | ⟨_, a, ds, vs, ed, ev, sq, rs⟩
  · cases d with
    | tup ds =>
      obtain ⟨a, vs, ev, sq, rs⟩ := ri.tup_inv
      exact go a ds vs rfl ev sq rs
    | _ => simp [setP] at e
  · exact go a ds vs ed ev sq rs
end Sd

/-! PyG: walks, comprehensions. -/
namespace Sd
open PySem PySem.Spec PyProof.Rows L2

/-- as Stp, but for what is hidden -/
structure StpA (G : Gx) (ρ ρ' : List Addr) (H H' : Hp) : Prop where
  pre : ∀ (l : Nat) (a : Addr), ρ[l]? = some a → ρ'[l]? = some a
  frm : ∀ b o, H b = some o → b ∉ ρ → b ∉ G.av → H' b = some o ∧ b ∉ ρ'
section
variable {G : Gx} {ρ ρ1 ρ2 : List Addr} {H H1 H2 : Hp}
theorem Stp.a (s : Stp ρ ρ1 H H1) : StpA G ρ ρ1 H H1 := ⟨s.pre, fun b o e n _ => s.frm b o e n⟩
theorem StpA.trans (a : StpA G ρ ρ1 H H1) (b : StpA G ρ1 ρ2 H1 H2) : StpA G ρ ρ2 H H2 :=
  ⟨fun l x h => b.pre l x (a.pre l x h), fun c o h n m => let ⟨h1, n1⟩ := a.frm c o h n m; b.frm c o h1 n1 m⟩
end
/-- a walk over items: it goes through them as long as what is watched stays -/
structure WalkJ (G : Gx) (pt : Bool) (ρ0 : List Addr) (h0 : Hh) (H0 : Hp) (ws : List Nat) (xs : List D) (J : L2.It) : Prop where
  go : ∀ (i : Nat) (d : D), xs[i]? = some d → ∀ (av' ρ : List Addr) (h : Hh) (H : Hp), (∀ b ∈ av', b ∈ G.av ∨ H0 b = none) → StpA G ρ0 ρ H0 H → RelH (G.at av') ρ h H → Wat ws h0 h →
    J.go i H ∧ ∀ x H', J.yld i H x H' → Stp ρ ρ H H' ∧ RelH (G.at av') ρ h H' ∧ RI (G.at av') pt ρ H' d x
  stop : ∀ (av' ρ : List Addr) (h : Hh) (H : Hp), (∀ b ∈ av', b ∈ G.av ∨ H0 b = none) → StpA G ρ0 ρ H0 H → RelH (G.at av') ρ h H → Wat ws h0 h → J.stop xs.length H
def tI (G : Gx) (pt : Bool) (m : Env → Hh → Out (List D × List Nat)) : TI := fun σ H R => ∃ av ρ h σD xs ws h', RelH (G.at av) ρ h H ∧ RelE (G.at av) ρ H σD σ ∧ m σD h = .ok (xs, ws) h' ∧
  ∀ ρ' H' J, Stp ρ ρ' H H' → RelH (G.at av) ρ' h' H' → WalkJ (G.at av) pt ρ' h' H' ws xs J → R J H'
section
variable {G : Gx} {pt : Bool} {ρ0 ρ : List Addr} {h0 h : Hh} {H0 H : Hp} {ws : List Nat} {xs : List D} {vs : List V} {J : L2.It} {a : Addr}
/-- the items of an unchanging thing, at a later time -/
theorem items_later {av' : List Addr} (ha : ∀ b ∈ av', b ∈ G.av ∨ H0 b = none) (s : StpA G ρ0 ρ H0 H) {d : D} {v : V} (r : RD G ρ0 H0 d v) : RD (G.at av') ρ H d v :=
  r.move (G := G) (G' := G.at av') rfl s.pre fun b o e n m => ⟨(s.frm b o e n m).1, (s.frm b o e n m).2, fun hb => by
    rcases ha b hb with z | z
    · exact m z
    · rw [z] at e; cases e⟩
theorem WalkJ.tup (q : SqT G.K H0 a vs) (hq : ∀ (ρ : List Addr) (H : Hp), StpA G ρ0 ρ H0 H → SqT G.K H a vs) (rs : RDs G ρ0 H0 xs vs) : WalkJ G pt ρ0 h0 H0 [] xs (Itt G.K a) := by
  have w := walk_tup (K := G.K) (a := a) (xs := vs)
  have hl := rs.length
  refine ⟨fun i d hd av' ρ h H ha s R _ => ?_, fun av' ρ h H ha s R _ => by rw [hl]; exact w.stops H (hq ρ H s)⟩
  have hi : i < vs.length := by rw [← hl]; exact (List.getElem?_eq_some_iff.mp hd).1
  refine ⟨w.goes i H hi (hq ρ H s), fun x H' y => ?_⟩
  obtain ⟨rfl, e⟩ := w.yields i H x H' hi (hq ρ H s) y
  obtain ⟨d', e1, r⟩ := rs.get' e
  rw [hd] at e1; cases e1
  exact ⟨Stp.refl _ _, R, .inl (items_later ha s r)⟩
theorem WalkJ.lst (q : SqL G.K H0 a vs) (hq : ∀ (ρ : List Addr) (H : Hp), StpA G ρ0 ρ H0 H → SqL G.K H a vs) (rs : RDs G ρ0 H0 xs vs) : WalkJ G pt ρ0 h0 H0 [] xs (Itl G.K a) := by
  have w := walk_list (K := G.K) (a := a) (xs := vs)
  have hl := rs.length
  refine ⟨fun i d hd av' ρ h H ha s R _ => ?_, fun av' ρ h H ha s R _ => by rw [hl]; exact w.stops H (hq ρ H s)⟩
  have hi : i < vs.length := by rw [← hl]; exact (List.getElem?_eq_some_iff.mp hd).1
  refine ⟨w.goes i H hi (hq ρ H s), fun x H' y => ?_⟩
  obtain ⟨rfl, e⟩ := w.yields i H x H' hi (hq ρ H s) y
  obtain ⟨d', e1, r⟩ := rs.get' e
  rw [hd] at e1; cases e1
  exact ⟨Stp.refl _ _, R, .inl (items_later ha s r)⟩
theorem WalkJ.own {l : Nat} (e : ρ0[l]? = some a) (hl : h0[l]? = some (.lst xs)) : WalkJ G pt ρ0 h0 H0 [l] xs (Itl G.K a) := by
  have at_ : ∀ (av' ρ : List Addr) (h : Hh) (H : Hp), StpA G ρ0 ρ H0 H → RelH (G.at av') ρ h H → Wat [l] h0 h → ∃ vs, H a = some (.lst vs) ∧ RDs (G.at av') ρ H xs vs := fun av' ρ h H s R w => by
    have hw := w l (by simp)
    rw [hl] at hw
    obtain ⟨a', e', ro⟩ := R.obj l _ hw
    rw [s.pre l a e] at e'
    cases e'
    exact ro
  refine ⟨fun i d hd av' ρ h H ha s R w => ?_, fun av' ρ h H ha s R w => ?_⟩
  · obtain ⟨vs, q, rs⟩ := at_ av' ρ h H s R w
    have wk := walk_list (K := G.K) (a := a) (xs := vs)
    have hi : i < vs.length := by rw [← rs.length]; exact (List.getElem?_eq_some_iff.mp hd).1
    refine ⟨wk.goes i H hi (.inl (.inl q)), fun x H' y => ?_⟩
    obtain ⟨rfl, e⟩ := wk.yields i H x H' hi (.inl (.inl q)) y
    obtain ⟨d', e1, r⟩ := rs.get' e
    rw [hd] at e1; cases e1
    exact ⟨Stp.refl _ _, R, .inl r⟩
  · obtain ⟨vs, q, rs⟩ := at_ av' ρ h H s R w
    have wk := walk_list (K := G.K) (a := a) (xs := vs)
    rw [rs.length]
    exact wk.stops H (.inl (.inl q))
theorem WalkJ.str (s : List Nat) : WalkJ G pt ρ0 h0 H0 [] (s.map fun c => D.str [c]) (Its ⟨s.toArray⟩) := by
  have w := walk_str (z := ⟨s.toArray⟩)
  have hl : (s.map fun c => D.str [c]).length = (⟨s.toArray⟩ : Str).cps.size := by simp
  refine ⟨fun i d hd av' ρ h H ha s R _ => ?_, fun av' ρ h H ha s R _ => by rw [hl]; exact w.stops H trivial⟩
  have hi := (List.getElem?_eq_some_iff.mp hd).1
  rw [hl] at hi
  refine ⟨w.goes i H hi trivial, fun x H' y => ?_⟩
  obtain ⟨rfl, c, e, rfl⟩ := w.yields i H x H' hi trivial y
  rw [List.getElem?_map] at hd
  obtain ⟨c', e1, rfl⟩ := Option.map_eq_some_iff.mp hd
  have : c = c' := by simpa [e1] using e.symm
  subst this
  exact ⟨Stp.refl _ _, R, .inl (RD.str [c])⟩
theorem WalkJ.range (lo : Int) (n : Nat) : WalkJ G pt ρ0 h0 H0 [] ((List.range n).map fun k => D.int (lo + (k : Nat))) (Itr lo n) := by
  have w := walk_range (lo := lo) (n := n)
  have hl : ((List.range n).map fun k => D.int (lo + (k : Nat))).length = n := by simp
  refine ⟨fun i d hd av' ρ h H ha s R _ => ?_, fun av' ρ h H ha s R _ => by rw [hl]; exact w.stops H trivial⟩
  have hi := (List.getElem?_eq_some_iff.mp hd).1
  rw [hl] at hi
  refine ⟨w.goes i H hi trivial, fun x H' y => ?_⟩
  obtain ⟨rfl, rfl⟩ := w.yields i H x H' hi trivial y
  rw [List.getElem?_map, List.getElem?_range hi] at hd
  cases hd
  exact ⟨Stp.refl _ _, R, .inl (RD.int _)⟩
end

/-! ### PI -/
section
variable {G : Gx} {C : Calls} {X : Cx} {tg e : Expr} {a b : E} {pt : Bool}
theorem SqT.later {ρ0 ρ : List Addr} {H0 H : Hp} {a : Addr} {ob : Obj} {vs : List V} (e : H0 a = some (.frz ob (.tup vs))) (n : a ∉ ρ0) (m : a ∉ G.av) (s : StpA G ρ0 ρ H0 H) : SqT G.K H a vs := .inl (.inr ⟨_, (s.frm a _ e n m).1⟩)
theorem pi_valF (hK : X.K = G.K) (ha : PE X e (tD G (evE C a))) : PI X tg e (tI G pt (evI C (.val a))) := by
  refine ⟨fun pins s σ H R I q => ?_⟩
  obtain ⟨av, ρ, h, σD, xs, ws, h', Rh, RE, ev, q⟩ := q
  simp only [evI] at ev
  obtain ⟨d, h1, e1, e2⟩ := Out.thn_eq_ok ev
  obtain ⟨e3, rfl⟩ := Out.of_eq_ok e2
  have hK' : X.K = (G.at av).K := hK
  -- the value, kept
  have go : ∀ (tq : VK), (∀ ρ1 H1 v, Stp ρ ρ1 H H1 → RelH (G.at av) ρ1 h' H1 → RD (G.at av) ρ1 H1 d.keep v → tq v H1) → tD G (evE C a) σ H tq := fun tq hq => ⟨av, ρ, h, σD, d, _, Rh, RE, e1, fun ρ1 H1 v S1 R1 r1 => hq ρ1 H1 v S1 R1 r1.keep⟩
  cases d with
  | str s =>
    cases e3
    refine (pi_str (tg := tg) ha).run pins _ σ H R I (go _ fun ρ1 H1 v S1 R1 r1 => ?_)
    have := RD.str_inv (G := G.at av) (ρ := ρ1) (H := H1) r1
    subst this
    exact ⟨_, rfl, q _ _ _ S1 R1 (WalkJ.str s)⟩
  | tup ys =>
    cases e3
    refine (pi_tup (tg := tg) ha).run pins _ σ H R I (go _ fun ρ1 H1 v S1 R1 r1 => ?_)
    cases r1 with
    | tup h2 d2 n m rs => exact ⟨_, rfl, ⟨_, .inl (.inr ⟨_, h2⟩)⟩, by rw [hK']; exact q _ _ _ S1 R1 (WalkJ.tup (.inl (.inr ⟨_, h2⟩)) (fun ρ' H' s => SqT.later h2 n m s) rs)⟩
    | tupK h2 rs =>
      obtain ⟨o, its, n, k1, k2, _, k4, k5, k6⟩ := h2
      have sq : ∀ H', SqT (G.at av).K H' _ _ := fun H' => .inr ⟨o, its, n, k1, k2, k4, k5, k6⟩
      exact ⟨_, rfl, ⟨_, by rw [hK']; exact sq H1⟩, by rw [hK']; exact q _ _ _ S1 R1 (WalkJ.tup (sq H1) (fun ρ' H' s => sq H') rs)⟩
  | ref l =>
    simp only [walkD] at e3
    split at e3
    · rename_i ys hl
      cases e3
      refine (pi_list (tg := tg) ha).run pins _ σ H R I (go _ fun ρ1 H1 v S1 R1 r1 => ?_)
      cases r1 with
      | @ref _ p h2 =>
        obtain ⟨o, e4, ro⟩ := R1.lt h2
        rw [hl] at e4; cases e4
        obtain ⟨vs, e5, rs⟩ := ro
        exact ⟨_, rfl, ⟨vs, .inl (.inl e5)⟩, by rw [hK']; exact q _ _ _ S1 R1 (WalkJ.own h2 hl)⟩
    · cases e3
  | fz ys =>
    cases e3
    refine (pi_list (tg := tg) ha).run pins _ σ H R I (go _ fun ρ1 H1 v S1 R1 r1 => ?_)
    have r1 : RD (G.at av) ρ1 H1 (.fz xs) v := r1
    cases r1 with
    | fz h2 n m rs => exact ⟨_, rfl, ⟨_, .inl h2⟩, by
        rw [hK']
        refine q _ _ _ S1 R1 (WalkJ.lst (.inl h2) (fun ρ' H' s => ?_) rs)
        rcases h2 with h2 | ⟨u, h2⟩
        · exact .inl (.inl (s.frm _ _ h2 n m).1)
        · exact .inl (.inr ⟨u, (s.frm _ _ h2 n m).1⟩)⟩
    | fzK h2 rs => exact ⟨_, rfl, ⟨_, by rw [hK']; exact .inr h2⟩, by rw [hK']; exact q _ _ _ S1 R1 (WalkJ.lst (.inr h2) (fun ρ' H' s => .inr h2) rs)⟩
  | lv ys =>
    cases e3
    refine (pi_list (tg := tg) ha).run pins _ σ H R I (go _ fun ρ1 H1 v S1 R1 r1 => ?_)
    have r1 : RD (G.at av) ρ1 H1 (.fz xs) v := r1
    cases r1 with
    | fz h2 n m rs => exact ⟨_, rfl, ⟨_, .inl h2⟩, by
        rw [hK']
        refine q _ _ _ S1 R1 (WalkJ.lst (.inl h2) (fun ρ' H' s => ?_) rs)
        rcases h2 with h2 | ⟨u, h2⟩
        · exact .inl (.inl (s.frm _ _ h2 n m).1)
        · exact .inl (.inr ⟨u, (s.frm _ _ h2 n m).1⟩)⟩
    | fzK h2 rs => exact ⟨_, rfl, ⟨_, by rw [hK']; exact .inr h2⟩, by rw [hK']; exact q _ _ _ S1 R1 (WalkJ.lst (.inr h2) (fun ρ' H' s => .inr h2) rs)⟩
  | _ => simp [walkD] at e3
theorem pi_rngF {p pos : Pos} (hg : Gl X "range") (hm : X.mg "range" = none) (ha : PE X e (tD G (evE C a))) (hs : starEach [e] X.env = [(false, eval e X.env)]) : PI X tg (.Call (.Name "range" p) [e] [] pos) (tI G pt (evI C (.rng a))) := by
  refine ⟨fun pins s σ H R I q => ?_⟩
  obtain ⟨av, ρ, h, σD, xs, ws, h', Rh, RE, ev, q⟩ := q
  simp only [evI] at ev
  obtain ⟨d, h1, e1, e2⟩ := Out.thn_eq_ok ev
  split at e2
  · split at e2
    · rename_i i hi
      cases e2
      refine (pi_range1 (tg := tg) hg hm (pa_cons ha pa_nil hs) hs).run pins _ σ H R I ⟨av, ρ, h, σD, _, _, Rh, RE, e1, fun ρ1 H1 v S1 R1 r1 => ?_⟩
      have := RD.int_inv (G := G.at av) (ρ := ρ1) (H := H1) r1
      subst this
      simp only [small, Bool.and_eq_true, decide_eq_true_eq] at hi
      refine ⟨i, rfl, hi.1, hi.2, q _ _ _ S1 R1 ?_⟩
      have := WalkJ.range (G := G.at av) (pt := pt) (ρ0 := ρ1) (h0 := h') (H0 := H1) 0 i.toNat
      simpa [rngD] using this
    · cases e2
  · cases e2
theorem pi_rng2F {e2 : Expr} {p pos : Pos} (hg : Gl X "range") (hm : X.mg "range" = none) (ha : PE X e (tD G (evE C a))) (hb : PE X e2 (tD G (evE C b))) (hs : starEach [e, e2] X.env = [(false, eval e X.env), (false, eval e2 X.env)]) (hs2 : starEach [e2] X.env = [(false, eval e2 X.env)]) :
    PI X tg (.Call (.Name "range" p) [e, e2] [] pos) (tI G pt (evI C (.rng2 a b))) := by
  refine ⟨fun pins s σ H R I q => ?_⟩
  obtain ⟨av, ρ, h, σD, xs, ws, h', Rh, RE, ev, q⟩ := q
  simp only [evI] at ev
  obtain ⟨d, h1, e1, e4⟩ := Out.thn_eq_ok ev
  obtain ⟨d2, h2, e3, e5⟩ := Out.thn_eq_ok e4
  split at e5
  · split at e5
    · rename_i i j hi
      cases e5
      refine (pi_range2 (tg := tg) hg hm (pa_cons ha (pa_cons hb pa_nil hs2) (by rw [hs, hs2])) hs hs2).run pins _ σ H R I ⟨av, ρ, h, σD, _, _, Rh, RE, e1, fun ρ1 H1 v S1 R1 r1 => ⟨av, ρ1, h1, σD, _, _, R1, RE.step S1, e3, fun ρ2 H2 w S2 R2 r2 => ?_⟩⟩
      have := RD.int_inv (G := G.at av) (ρ := ρ1) (H := H1) r1
      subst this
      have := RD.int_inv (G := G.at av) (ρ := ρ2) (H := H2) r2
      subst this
      simp only [small, Bool.and_eq_true, decide_eq_true_eq] at hi
      exact ⟨i, j, rfl, ⟨hi.1.1, hi.1.2, hi.2.1, hi.2.2⟩, q _ _ _ (S1.trans S2) R2 (WalkJ.range i (j - i).toNat)⟩
    · cases e5
  · cases e5
end
end Sd

/-! PyH: comprehensions. -/
namespace Sd
open PySem PySem.Spec PyProof.Rows L2

/-- as Stp, but for D -/
structure StpX (D : Addr) (ρ ρ' : List Addr) (H H' : Hp) : Prop where
  pre : ∀ (l : Nat) (a : Addr), ρ[l]? = some a → ρ'[l]? = some a
  frm : ∀ b o, b ≠ D → H b = some o → b ∉ ρ → H' b = some o ∧ b ∉ ρ'
section
variable {G : Gx} {D : Addr} {ρ ρ1 ρ2 : List Addr} {H H1 H2 : Hp} {h : Hh}
theorem StpX.refl (ρ : List Addr) (H : Hp) : StpX D ρ ρ H H := ⟨fun _ _ h => h, fun _ _ _ h n => ⟨h, n⟩⟩
theorem Stp.x (s : Stp ρ ρ1 H H1) : StpX D ρ ρ1 H H1 := ⟨s.pre, fun b o _ e n => s.frm b o e n⟩
theorem StpX.trans (a : StpX D ρ ρ1 H H1) (b : StpX D ρ1 ρ2 H1 H2) : StpX D ρ ρ2 H H2 :=
  ⟨fun l x h => b.pre l x (a.pre l x h), fun c o hc h n => let ⟨h1, n1⟩ := a.frm c o hc h n; b.frm c o hc h1 n1⟩
theorem StpX.a (hD : D ∈ G.av) (s : StpX D ρ ρ1 H H1) : StpA G ρ ρ1 H H1 := ⟨s.pre, fun b o e n m => s.frm b o (fun z => m (z ▸ hD)) e n⟩
theorem StpX.upd {o : HO} : StpX D ρ ρ H (upd H D o) := ⟨fun _ _ h => h, fun b u hb e n => ⟨by rw [upd_ne hb]; exact e, n⟩⟩
theorem RD.x (hD : D ∈ G.av) (s : StpX D ρ ρ1 H H1) {d : Sd.D} {v : V} (r : RD G ρ H d v) : RD G ρ1 H1 d v :=
  r.move (G := G) (G' := G) rfl s.pre fun b o e n m => ⟨(s.frm b o (fun z => m (z ▸ hD)) e n).1, (s.frm b o (fun z => m (z ▸ hD)) e n).2, m⟩
theorem RDs.x (hD : D ∈ G.av) (s : StpX D ρ ρ1 H H1) {d : List Sd.D} {v : List V} (r : RDs G ρ H d v) : RDs G ρ1 H1 d v :=
  r.move (G := G) (G' := G) rfl s.pre fun b o e n m => ⟨(s.frm b o (fun z => m (z ▸ hD)) e n).1, (s.frm b o (fun z => m (z ▸ hD)) e n).2, m⟩
theorem RelE.x (hD : D ∈ G.av) (s : StpX D ρ ρ1 H H1) {σD : Env} {σ : L2.St} (r : RelE G ρ H σD σ) : RelE G ρ1 H1 σD σ :=
  ⟨r.1, fun i d e => let ⟨v, q, z⟩ := r.2 i d e; ⟨v, q, z.x hD s⟩⟩
/-- what is hidden is written -/
theorem RelH.updHid {o : HO} (hD : D ∈ G.av) (R : RelH G ρ h H) : RelH G ρ h (upd H D o) := by
  refine ⟨R.len, R.nd, fun l u e => ?_, fun b hb => ?_, R.avn⟩
  · obtain ⟨a, e1, r⟩ := R.obj l u e
    have na : a ≠ D := fun z => R.avn D hD (z ▸ List.mem_of_getElem? e1)
    exact ⟨a, e1, r.move (G := G) (G' := G) rfl rfl (fun _ _ h => h) (fun b o e n m => ⟨by rw [upd_ne (fun z => m (by rw [z]; exact hD))]; exact e, n, m⟩) fun w q => by rw [upd_ne na]; exact q⟩
  · by_cases hb2 : b = D
    · subst hb2; exact ⟨_, upd_same⟩
    · obtain ⟨u, e⟩ := R.avd b hb
      exact ⟨u, by rw [upd_ne hb2]; exact e⟩
/-- what has been gathered at D -/
def AccSt (G : Gx) (D : Addr) (ρ : List Addr) (h : Hh) (H : Hp) (acc : List Sd.D) : Prop := D ∈ G.av ∧ RelH G ρ h H ∧ ∃ vs, H D = some (.lst vs) ∧ RDs G ρ H acc vs
theorem AccSt.step {acc : List Sd.D} {h1 : Hh} (A : AccSt G D ρ h H acc) (s : Stp ρ ρ1 H H1) (R : RelH G ρ1 h1 H1) : AccSt G D ρ1 h1 H1 acc := by
  obtain ⟨hD, R0, vs, e, rs⟩ := A
  exact ⟨hD, R, vs, (s.frm D _ e (R0.avn D hD)).1, rs.step s⟩
theorem AccSt.push {acc : List Sd.D} {d : Sd.D} {v : V} (A : AccSt G D ρ h H acc) (r : RD G ρ H d v) (hl : acc.length + 1 ≤ line) :
    ∃ vs, H D = some (.lst vs) ∧ vs.length < sizeLine ∧ AccSt G D ρ h (upd H D (.lst (vs ++ [v]))) (acc ++ [d]) := by
  obtain ⟨hD, R0, vs, e, rs⟩ := A
  refine ⟨vs, e, ?_, hD, R0.updHid hD, vs ++ [v], upd_same, (rs.append (.cons r .nil)).x hD StpX.upd⟩
  rw [← rs.length, line_eq]; omega
end

/-- gathering over a walk -/
theorem acc_loop {G Gh : Gx} {pt : Bool} {ρ0 ρ1 : List Addr} {h0 h1 h5 : Hh} {H0 H1 : Hp} {ws : List Nat} {xs ys acc0 : List D} {J : L2.It} {D : Addr} {turn : Sd.D → Hh → Out (List Sd.D)}
    {B : V → Hp → (Hp → Prop) → Prop} {Fin : Hp → Prop} (WJ : WalkJ G pt ρ0 h0 H0 ws xs J) (hG : ∃ av', Gh = G.at av' ∧ ∀ b ∈ av', b ∈ G.av ∨ H0 b = none)
    (s0 : StpA G ρ0 ρ1 H0 H1) (hx : ∀ ρ H, StpX D ρ1 ρ H1 H → StpA G ρ0 ρ H0 H) (A0 : AccSt Gh D ρ1 h1 H1 acc0) (ev : compL turn (Wat ws h0) xs h1 = .ok ys h5) (hl : acc0.length + ys.length ≤ line)
    (step : ∀ d ρ h H acc zs h2, StpX D ρ1 ρ H1 H → AccSt Gh D ρ h H acc → turn d h = .ok zs h2 → acc.length + zs.length ≤ line → ∀ x, RI Gh pt ρ H d x → ∀ N : Hp → Prop,
      (∀ ρ2 H2, StpX D ρ ρ2 H H2 → AccSt Gh D ρ2 h2 H2 (acc ++ zs) → N H2) → B x H N)
    (fin : ∀ ρ H, StpX D ρ1 ρ H1 H → AccSt Gh D ρ h5 H (acc0 ++ ys) → Fin H) :
    ∃ W : Nat → Nat → Hp → Prop, (∃ m, W 0 m H1) ∧ ∀ i m H, W i m H →
      (J.stop i H ∧ Fin H) ∨ (J.go i H ∧ ∃ Nx : Hp → Prop, (∀ H', Nx H' → ∃ m', m' < m ∧ W (i + 1) m' H') ∧ ∀ x H', J.yld i H x H' → B x H' Nx) := by
  obtain ⟨av', rfl, hav⟩ := hG
  refine ⟨fun i m H => m = xs.length - i ∧ i ≤ xs.length ∧ ∃ ρ h acc zs, StpX D ρ1 ρ H1 H ∧ AccSt (G.at av') D ρ h H acc ∧ compL turn (Wat ws h0) (xs.drop i) h = .ok zs h5 ∧ acc ++ zs = acc0 ++ ys, ⟨xs.length, by simp, Nat.zero_le _, ρ1, h1, acc0, ys, StpX.refl _ _, A0, by simpa using ev, rfl⟩, ?_⟩
  rintro i m H ⟨rfl, hi, ρ, h, acc, zs, sx, A, e, ea⟩
  by_cases hlt : i < xs.length
  · right
    have hd : xs[i]? = some xs[i] := by simp [hlt]
    rw [List.drop_eq_getElem_cons hlt] at e
    unfold compL at e
    split at e
    · rename_i okh
      obtain ⟨z1, h2, e1, e2⟩ := Out.thn_eq_ok e
      obtain ⟨z2, h3, e3, e4⟩ := Out.thn_eq_ok e2
      cases e4
      obtain ⟨g1, g2⟩ := WJ.go i _ hd av' ρ h H hav (hx ρ H sx) A.2.1 okh
      refine ⟨g1, fun H' => ∃ ρ2, StpX D ρ1 ρ2 H1 H' ∧ AccSt (G.at av') D ρ2 h2 H' (acc ++ z1), fun H' hn => ?_, fun x H' hy => ?_⟩
      · obtain ⟨ρ2, s2, A2⟩ := hn
        exact ⟨xs.length - (i + 1), by omega, rfl, hlt, ρ2, h2, acc ++ z1, z2, s2, A2, e3, by rw [List.append_assoc]; exact ea⟩
      · obtain ⟨sy, Ry, ri⟩ := g2 x H' hy
        have hle : acc.length + z1.length ≤ line := by
          have := congrArg List.length ea
          simp only [List.length_append] at this
          omega
        exact step _ ρ h H' acc z1 h2 (sx.trans sy.x) (A.step sy Ry) e1 hle x ri _ fun ρ2 H2 s2 A2 => ⟨ρ2, sx.trans (sy.x.trans s2), A2⟩
    · cases e
  · left
    have he : i = xs.length := by omega
    subst he
    rw [List.drop_length] at e
    unfold compL at e
    split at e
    · rename_i okh
      cases e
      rw [List.append_nil] at ea
      subst ea
      exact ⟨WJ.stop av' ρ _ H hav (hx ρ H sx) A.2.1 okh, fin ρ H sx A⟩
    · cases e

theorem wipe_idem2 {σ : L2.St} (ws : List Nat) : ∀ us : List Nat, (∀ i ∈ us, i ∈ ws) → L2.wipe (L2.wipe σ ws) us = L2.wipe σ ws := fun us hu => by
  induction us with
  | nil => rfl
  | cons u us ih =>
    show (L2.wipe (L2.wipe σ ws) us).set u none = _
    rw [ih fun i hi => hu i (List.mem_cons_of_mem _ hi)]
    have hm := hu u List.mem_cons_self
    clear ih hu
    induction ws with
    | nil => cases hm
    | cons w ws ih =>
      show ((L2.wipe σ ws).set w none).set u none = (L2.wipe σ ws).set w none
      by_cases hw : w = u
      · subst hw; rw [List.set_set]
      · rcases List.mem_cons.mp hm with z | z
        · exact absurd z.symm hw
        · rw [List.set_comm _ _ hw, ih z]
theorem wipe_idem {σ : L2.St} {ws : List Nat} : L2.wipe (L2.wipe σ ws) ws = L2.wipe σ ws := wipe_idem2 ws ws fun _ h => h
/-- the value and the store of one item -/
theorem elt_step {G : Gx} {C : Calls} {D : Addr} {ρ : List Addr} {h h2 : Hh} {H : Hp} {acc zs : List Sd.D} {p : Pat} {d : Sd.D} {x : V} {σD : Env} {σ : L2.St} {vs : List Nat} {elt : E} {ifs : List E} {N : Hp → Prop} {av : List Addr}
    (hp : ∀ i ∈ p.ix, i ∈ vs) (A : AccSt (G.at av) D ρ h H acc) (RE : RelE (G.at av) ρ H σD σ) (ri : RI (G.at av) p.isT ρ H d x)
    (ev : (match setP p d (Sd.wipe σD vs) with
        | some σ2 => (evTs C ifs σ2 h).thn fun t h3 => if t then (evE C elt σ2 h3).thn fun y h4 => .ok [y.keep] h4 else .ok [] h3
        | none => .bad) = Out.ok zs h2) (hl : acc.length + zs.length ≤ line)
    (q : ∀ ρ2 H2, StpX D ρ ρ2 H H2 → AccSt (G.at av) D ρ2 h2 H2 (acc ++ zs) → N H2) :
    tP G p x (L2.wipe σ vs) H fun σ2 H2 => L2.wipe σ2 vs = L2.wipe σ vs ∧ tTs G (evTs C ifs) σ2 H2 fun b H3 =>
      if b = true then tD G (evE C elt) σ2 H3 fun y H4 => ∃ acc, H4 D = some (.lst acc) ∧ acc.length < sizeLine ∧ N (upd H4 D (.lst (acc ++ [y]))) else N H3 := by
  split at ev
  · rename_i σ2 hs
    obtain ⟨t, h3, e1, e2⟩ := Out.thn_eq_ok ev
    refine ⟨av, ρ, Sd.wipe σD vs, d, σ2, RE.wipe vs, ri, hs, fun σ3 R3 w3 => ⟨?_, ?_⟩⟩
    · rw [w3 vs hp, wipe_idem]
    · refine ⟨av, ρ, h, σ2, t, h3, A.2.1, R3, e1, fun ρ4 H4 S4 R4 => ?_⟩
      have A4 := A.step S4 R4
      cases t with
      | true =>
        refine iteT ?_
        obtain ⟨y, h5, e3, e4⟩ := Out.thn_eq_ok e2
        cases e4
        refine ⟨av, ρ4, h3, σ2, y, _, R4, R3.step S4, e3, fun ρ5 H5 v S5 R5 r5 => ?_⟩
        have A5 := A4.step S5 R5
        obtain ⟨ws, e5, l5, A6⟩ := A5.push r5.keep hl
        exact ⟨ws, e5, l5, q _ _ ((S4.x.trans S5.x).trans StpX.upd) A6⟩
      | false =>
        refine iteF ?_
        cases e2
        rw [List.append_nil] at q
        exact q _ _ S4.x A4
  · cases ev

section
variable {G : Gx} {C : Calls} {X : Cx} {elt tg iter : Expr} {ifs : List Expr} {scope : Scope} {own : List (Str × Nat)} {pos : Pos} {p : Pat} {it : Sd.It} {elt' : E} {ifs' : List E}
theorem tD_comp (hp : ∀ i ∈ p.ix, i ∈ own.map (·.2)) {σ : L2.St} {H : Hp} {Q : VK} (q : tD G (evE C (.comp (own.map (·.2)) elt' p it ifs')) σ H Q) :
    tLc (tI G p.isT (evI C it)) (tP G p) (tTs G (evTs C ifs')) (tD G (evE C elt')) (own.map (·.2)) σ H Q := by
  obtain ⟨av, ρ, h, σD, d, h', R, RE, e, q⟩ := q
  simp only [evE] at e
  obtain ⟨⟨xs, ws⟩, h1, e1, e2⟩ := Out.thn_eq_ok e
  obtain ⟨ys, h5, e3, e4⟩ := Out.thn_eq_ok e2
  split at e4
  · rename_i hl
    cases e4
    refine ⟨av, ρ, h, σD, xs, ws, h1, R, RE, e1, fun ρ1 H1 J S1 R1 WJ D n => ?_⟩
    have nav : D ∉ av := R1.notAv n
    have hx : ∀ ρ2 H2, StpX D ρ1 ρ2 (upd H1 D (.lst [])) H2 → StpA (G.at av) ρ1 ρ2 H1 H2 := fun ρ2 H2 s => ⟨s.pre, fun b o e n2 m => s.frm b o (ne_of_none e n) (by rw [upd_ne (ne_of_none e n)]; exact e) n2⟩
    refine acc_loop (Gh := G.at (D :: av)) (acc0 := []) WJ ⟨D :: av, rfl, fun b hb => ?_⟩ (hx _ _ (StpX.refl _ _)) hx ⟨List.mem_cons_self, R1.newHid n, [], upd_same, .nil⟩ e3 (by simpa using hl) (fun d ρ2 h2 H2 acc zs h3 s2 A2 ev hle x ri N hN => ?_) fun ρ2 H2 s2 A2 => ?_
    · rcases List.mem_cons.mp hb with rfl | hb
      · exact .inr n
      · exact .inl hb
    · refine elt_step (av := D :: av) hp A2 ?_ ri ev hle hN
      -- the names at the later time
      have RE1 := RE.step S1
      refine ⟨RE1.1, fun i d e => ?_⟩
      obtain ⟨v, e5, r⟩ := RE1.2 i d e
      refine ⟨v, e5, r.move (G := G.at av) (G' := G.at (D :: av)) rfl s2.pre fun b o eb nb mb => ?_⟩
      have hb := ne_of_none eb n
      have := s2.frm b o hb (by rw [upd_ne hb]; exact eb) nb
      exact ⟨this.1, this.2, by simp only [List.mem_cons, not_or]; exact ⟨hb, mb⟩⟩
    · obtain ⟨_, R2, vs, e5, rs⟩ := A2
      have stp : Stp ρ1 ρ2 H1 H2 := ⟨s2.pre, fun b o eb nb => s2.frm b o (ne_of_none eb n) (by rw [upd_ne (ne_of_none eb n)]; exact eb) nb⟩
      rw [List.nil_append] at rs
      refine q _ _ _ (S1.trans stp) R2.show ⟨D, vs, rfl, ?_, nav, e5, rs, R2⟩
      exact free_of_step S1 (Stp.refl _ _) n (R1.notIn n)
  · cases e4
theorem pe_compF (hc : X.calm = true) (hN : X.N.Nodup) (hp : ∀ i ∈ p.ix, i ∈ own.map (·.2)) (hi : PI X tg iter (tI G p.isT (evI C it))) (ok : BlkOk X.N X.env.scope scope own)
    (hg : ∀ (s : Shared) (H : Hp) (Ca : Addr) (cl : List (Str × Addr)) (fp : List Addr), PG (X.blk s H scope (compEnvC scope cl Ca X.env) fp) tg (tP G p))
    (ht : ∀ (s : Shared) (H : Hp) (Ca : Addr) (cl : List (Str × Addr)) (fp : List Addr), PTs (X.blk s H scope (compEnvC scope cl Ca X.env) fp) ifs (tTs G (evTs C ifs')))
    (he : ∀ (s : Shared) (H : Hp) (Ca : Addr) (cl : List (Str × Addr)) (fp : List Addr), PE (X.blk s H scope (compEnvC scope cl Ca X.env) fp) elt (tD G (evE C elt'))) (hs : ∀ x, foldedSetIterable iter X.env x = pure x) :
    PE X (.ListComp elt [⟨tg, iter, ifs, 0⟩] scope pos) (tD G (evE C (.comp (own.map (·.2)) elt' p it ifs'))) :=
  PE.imp (pe_lc hc hN hi ok hg ht he hs) fun σ H Q q => tD_comp hp q
variable {tg1 iter1 : Expr} {ifs1 : List Expr} {p1 : Pat} {it1 : Sd.It} {ifs1' : List E}
theorem tD_comp2 (hp : ∀ i ∈ p.ix, i ∈ own.map (·.2)) {σ : L2.St} {H : Hp} {Q : VK} (q : tD G (evE C (.comp2 (own.map (·.2)) elt' p it ifs' p1 it1 ifs1')) σ H Q) :
    tLc2 (tI G p.isT (evI C it)) (tP G p) (tTs G (evTs C ifs')) (tI G p1.isT (evI C it1)) (tP G p1) (tTs G (evTs C ifs1')) (tD G (evE C elt')) (own.map (·.2)) p1.ix σ H Q := by
  obtain ⟨av, ρ, h, σD, d, h', R, RE, e, q⟩ := q
  simp only [evE] at e
  obtain ⟨⟨xs, ws⟩, h1, e1, e2⟩ := Out.thn_eq_ok e
  obtain ⟨ys, h5, e3, e4⟩ := Out.thn_eq_ok e2
  split at e4
  · rename_i hl
    cases e4
    refine ⟨av, ρ, h, σD, xs, ws, h1, R, RE, e1, fun ρ1 H1 J S1 R1 WJ D n => ?_⟩
    have nav : D ∉ av := R1.notAv n
    have hx : ∀ ρ2 H2, StpX D ρ1 ρ2 (upd H1 D (.lst [])) H2 → StpA (G.at av) ρ1 ρ2 H1 H2 := fun ρ2 H2 s => ⟨s.pre, fun b o e n2 m => s.frm b o (ne_of_none e n) (by rw [upd_ne (ne_of_none e n)]; exact e) n2⟩
    refine acc_loop (Gh := G.at (D :: av)) (acc0 := []) WJ ⟨D :: av, rfl, fun b hb => ?_⟩ (hx _ _ (StpX.refl _ _)) hx ⟨List.mem_cons_self, R1.newHid n, [], upd_same, .nil⟩ e3 (by simpa using hl) (fun d ρ2 h2 H2 acc zs h3 s2 A2 ev hle x ri N hN => ?_) fun ρ2 H2 s2 A2 => ?_
    · rcases List.mem_cons.mp hb with rfl | hb
      · exact .inr n
      · exact .inl hb
    · -- the names at the later time
      have RE2 : RelE (G.at (D :: av)) ρ2 H2 σD σ := by
        have RE1 := RE.step S1
        refine ⟨RE1.1, fun i d e => ?_⟩
        obtain ⟨v, e5, r⟩ := RE1.2 i d e
        refine ⟨v, e5, r.move (G := G.at av) (G' := G.at (D :: av)) rfl s2.pre fun b o eb nb mb => ?_⟩
        have hb := ne_of_none eb n
        have := s2.frm b o hb (by rw [upd_ne hb]; exact eb) nb
        exact ⟨this.1, this.2, by simp only [List.mem_cons, not_or]; exact ⟨hb, mb⟩⟩
      split at ev
      · rename_i σ2 hs2
        obtain ⟨t, h6, e6, e7⟩ := Out.thn_eq_ok ev
        refine ⟨D :: av, ρ2, Sd.wipe σD _, d, σ2, RE2.wipe _, ri, hs2, fun σ3 R3 w3 => ⟨?_, ?_⟩⟩
        · rw [w3 _ hp, wipe_idem]
        · refine ⟨D :: av, ρ2, h2, σ2, t, h6, A2.2.1, R3, e6, fun ρ4 H4 S4 R4 => ?_⟩
          have A4 := A2.step S4 R4
          cases t with
          | true =>
            refine iteT ?_
            obtain ⟨⟨xs2, ws2⟩, h7, e8, e9⟩ := Out.thn_eq_ok e7
            refine ⟨D :: av, ρ4, h6, σ2, xs2, ws2, h7, R4, R3.step S4, e8, fun ρ5 H5 J1 S5 R5 WJ1 => ?_⟩
            have A5 := A4.step S5 R5
            refine acc_loop (Gh := G.at (D :: av)) WJ1 ⟨D :: av, rfl, fun b hb => .inl hb⟩ ⟨fun _ _ h => h, fun b o e n m => ⟨e, n⟩⟩ (fun ρ H s => s.a (G := G.at (D :: av)) List.mem_cons_self) A5 e9 hle (fun d3 ρ6 h8 H6 acc2 zs2 h9 s6 A6 ev2 hle2 x2 ri2 N2 hN2 => ?_) fun ρ6 H6 s6 A6 => ?_
            · exact elt_step (av := D :: av) (fun i hi => hi) A6 ((R3.step S4).step S5 |>.x (G := G.at (D :: av)) List.mem_cons_self s6) ri2 ev2 hle2 hN2
            · exact hN ρ6 H6 ((S4.x.trans S5.x).trans s6) A6
          | false =>
            refine iteF ?_
            cases e7
            rw [List.append_nil] at hN
            exact hN _ _ S4.x A4
      · cases ev
    · obtain ⟨_, R2, vs, e5, rs⟩ := A2
      have stp : Stp ρ1 ρ2 H1 H2 := ⟨s2.pre, fun b o eb nb => s2.frm b o (ne_of_none eb n) (by rw [upd_ne (ne_of_none eb n)]; exact eb) nb⟩
      rw [List.nil_append] at rs
      refine q _ _ _ (S1.trans stp) R2.show ⟨D, vs, rfl, ?_, nav, e5, rs, R2⟩
      exact free_of_step S1 (Stp.refl _ _) n (R1.notIn n)
  · cases e4
theorem pe_comp2F (hc : X.calm = true) (hN : X.N.Nodup) (hp : ∀ i ∈ p.ix, i ∈ own.map (·.2)) (hp1 : ∀ i ∈ p1.ix, i ∈ own.map (·.2)) (hi : PI X tg iter (tI G p.isT (evI C it))) (ok : BlkOk X.N X.env.scope scope own)
    (hg : ∀ (s : Shared) (H : Hp) (Ca : Addr) (cl : List (Str × Addr)) (fp : List Addr), PG (X.blk s H scope (compEnvC scope cl Ca X.env) fp) tg (tP G p))
    (ht : ∀ (s : Shared) (H : Hp) (Ca : Addr) (cl : List (Str × Addr)) (fp : List Addr), PTs (X.blk s H scope (compEnvC scope cl Ca X.env) fp) ifs (tTs G (evTs C ifs')))
    (hi1 : ∀ (s : Shared) (H : Hp) (Ca : Addr) (cl : List (Str × Addr)) (fp : List Addr), PI (X.blk s H scope (compEnvC scope cl Ca X.env) fp) tg1 iter1 (tI G p1.isT (evI C it1)))
    (hg1 : ∀ (s : Shared) (H : Hp) (Ca : Addr) (cl : List (Str × Addr)) (fp : List Addr), PG (X.blk s H scope (compEnvC scope cl Ca X.env) fp) tg1 (tP G p1))
    (ht1 : ∀ (s : Shared) (H : Hp) (Ca : Addr) (cl : List (Str × Addr)) (fp : List Addr), PTs (X.blk s H scope (compEnvC scope cl Ca X.env) fp) ifs1 (tTs G (evTs C ifs1')))
    (he : ∀ (s : Shared) (H : Hp) (Ca : Addr) (cl : List (Str × Addr)) (fp : List Addr), PE (X.blk s H scope (compEnvC scope cl Ca X.env) fp) elt (tD G (evE C elt'))) (hs : ∀ x, foldedSetIterable iter X.env x = pure x) (hs1 : ∀ env x, foldedSetIterable iter1 env x = pure x) :
    PE X (.ListComp elt [⟨tg, iter, ifs, 0⟩, ⟨tg1, iter1, ifs1, 0⟩] scope pos) (tD G (evE C (.comp2 (own.map (·.2)) elt' p it ifs' p1 it1 ifs1'))) :=
  PE.imp (pe_lc2 hc hN hi ok hp1 hg ht hi1 hg1 ht1 he hs hs1) fun σ H Q q => tD_comp2 hp q
end
end Sd

/-! PyG2: enumerate over a list, a tuple, a text. -/
namespace Sd
open PySem PySem.Spec PyProof.Rows L2

theorem vals_get : ∀ {xs : List V} {us : List Value} {i : Nat} {u : Value}, Vals xs us → us[i]? = some u → ∃ x, xs[i]? = some x ∧ RelV x u
  | _, _, _, _, .nil, h => by simp at h
  | _, _, 0, _, .cons r _, h => by simp at h; subst h; exact ⟨_, rfl, r⟩
  | _, _, i + 1, u, .cons _ rs, h => by
    obtain ⟨v, h1, h2⟩ := vals_get (i := i) rs (by simpa using h)
    exact ⟨v, by simpa using h1, h2⟩
/-- what an iterator is made of: it draws the values that stand in the source -/
structure Src (P : Program) (w : World) (K : PySem.W.Frag) (is : Hp → List V → Prop) (o0 : Obj) (tn : Addr → Nat → Heap → Prop) (u : Value) : Prop where
  obj : ∀ it i h, tn it i h → ∃ o, h.get? it = some o ∧ ∀ v, o.data ≠ .cell v
  keep : ∀ it i h h', tn it i h → (∀ o, h.get? it = some o → h'.get? it = some o) → tn it i h'
  zero : ∀ it h, h.get? it = some o0 → tn it 0 h
  apart : ∀ it i h, tn it i h → ∃ o, h.get? it = some o ∧ o.cls ≠ .type "enumerate" ∧ o.cls ≠ .type "zip" ∧ o.cls ≠ .type "tuple"
  inj : ∀ (X : Cx) (pins : List (Addr × Obj)) (s : Shared) (σ : L2.St) (H : Hp) (xs ys : List V), X.prog = P → X.w = w → X.K = K → Inv X pins σ H s → is H xs → is H ys → xs = ys
  begins : ∀ (X : Cx) (pins : List (Addr × Obj)) (s : Shared) (σ : L2.St) (H : Hp) (xs : List V), X.prog = P → X.w = w → X.K = K → Inv X pins σ H s → is H xs → ∃ Hb, Begins u o0 Hb ∧ Hb s.heap
  draw : ∀ (X : Cx) (pins : List (Addr × Obj)) (s : Shared) (σ : L2.St) (H : Hp) (xs : List V) (it : Addr) (i : Nat), X.prog = P → X.w = w → X.K = K → X.calm = true → Inv X pins σ H s → is H xs → tn it i s.heap →
    ∃ (fp : List Addr) (Pv : Nat → Value → Prop) (St : Nat → Heap → Prop), Draws P w X.A.in1 it (it :: fp) xs.length Pv St ∧ St i s.heap ∧ (∀ b ∈ fp, ∃ o, s.heap.get? b = some o ∧ (o.cls = .type "tuple" ∨ o.cls = .type "list")) ∧
      (∀ j h, St j h → tn it j h) ∧ ∀ j v, Pv j v → ∃ x, xs[j]? = some x ∧ RelV x v

theorem src_tup {P : Program} {w : World} {K : PySem.W.Frag} (a : Addr) : Src P w K (fun H xs => SqT K H a xs) { cls := .type "tuple_iterator", data := .fields #[.ref a, .int 0 0] } (fun it i h => h.IsTupleIter it a i) (.ref a) where
  obj := fun it i h st => by
    obtain ⟨o, e, c, d⟩ := st
    exact ⟨o, e, fun v z => by rw [d] at z; cases z⟩
  keep := fun it i h h' st k => st.at k
  zero := fun it h e => ⟨_, e, rfl, rfl⟩
  apart := fun it i h st => by
    obtain ⟨o, e, c, d⟩ := st
    exact ⟨o, e, by rw [c]; decide, by rw [c]; decide, by rw [c]; decide⟩
  inj := fun X pins s σ H xs ys hP hw hK I q r => by subst hP hw hK; exact I.tuple_inj q r
  begins := fun X pins s σ H xs hP hw hK I q => by
    subst hP hw hK
    obtain ⟨its, rv, p, hz⟩ := I.tuple q
    exact ⟨_, begins_tuple a its.toArray, p⟩
  draw := fun X pins s σ H xs it i hP hw hK hc I q st => by
    subst hP hw hK
    obtain ⟨its, rv, p, hz⟩ := I.tuple q
    have p' : s.heap.IsTuple a its.toArray := p
    obtain ⟨oa, ea, ca, da⟩ := id p'
    have hne : a ≠ it := by
      rintro rfl
      obtain ⟨o, e, c, d⟩ := st
      rw [ea] at e; cases e
      rw [c] at ca; exact absurd ca (by decide)
    have D := Draws.tuple (prog := X.prog) (w := X.w) (A := X.A.in1) (I.ok.hd hc) it a hne its.toArray
    refine ⟨[a], _, (fun i h => h.IsTupleIter it a i ∧ h.IsTuple a its.toArray), by rw [rv.length, ← List.size_toArray]; exact D, ⟨st, p'⟩, fun b hb => ?_, fun j h z => z.1, fun j v e => ?_⟩
    · have : b = a := by simpa using hb
      subst this
      exact ⟨oa, ea, .inl ca⟩
    · have e' : its[j]? = some v := by simpa using e
      obtain ⟨x, e1, r⟩ := vals_get rv e'
      exact ⟨x, e1, r⟩
theorem src_lst {P : Program} {w : World} {K : PySem.W.Frag} (a : Addr) : Src P w K (fun H xs => SqL K H a xs) { cls := .type "list_iterator", data := .fields #[.ref a, .int 0 0] } (fun it i h => h.IsListIter it a i) (.ref a) where
  obj := fun it i h st => by
    obtain ⟨o, e, c, d⟩ := st
    exact ⟨o, e, fun v z => by rw [d] at z; cases z⟩
  keep := fun it i h h' st k => st.at k
  zero := fun it h e => ⟨_, e, rfl, rfl⟩
  apart := fun it i h st => by
    obtain ⟨o, e, c, d⟩ := st
    exact ⟨o, e, by rw [c]; decide, by rw [c]; decide, by rw [c]; decide⟩
  inj := fun X pins s σ H xs ys hP hw hK I q r => by subst hP hw hK; exact I.list_inj q r
  begins := fun X pins s σ H xs hP hw hK I q => by
    subst hP hw hK
    obtain ⟨its, rv, p, hz⟩ := I.list q
    exact ⟨_, begins_list a its.toArray, p.isList⟩
  draw := fun X pins s σ H xs it i hP hw hK hc I q st => by
    subst hP hw hK
    obtain ⟨its, rv, p, hz⟩ := I.list q
    have p' := p.isList
    obtain ⟨oa, ea, ca, da⟩ := id p'
    have hne : a ≠ it := by
      rintro rfl
      obtain ⟨o, e, c, d⟩ := st
      rw [ea] at e; cases e
      rw [c] at ca; exact absurd ca (by decide)
    have D := Draws.list (prog := X.prog) (w := X.w) (A := X.A.in1) (I.ok.hd hc) it a hne its.toArray
    refine ⟨[a], _, (fun i h => h.IsListIter it a i ∧ h.IsList a its.toArray), by rw [rv.length, ← List.size_toArray]; exact D, ⟨st, p'⟩, fun b hb => ?_, fun j h z => z.1, fun j v e => ?_⟩
    · have : b = a := by simpa using hb
      subst this
      exact ⟨oa, ea, .inr ca⟩
    · have e' : its[j]? = some v := by simpa using e
      obtain ⟨x, e1, r⟩ := vals_get rv e'
      exact ⟨x, e1, r⟩
theorem src_str {P : Program} {w : World} {K : PySem.W.Frag} (x : Str) (t : Tok) : Src P w K (fun _ xs => xs = x.cps.toList.map fun c => V.str ⟨#[c]⟩) { cls := .type (strIterType x), data := .fields #[.str x t, .int 0 0] } (fun it i h => h.IsStrIter it (strIterType x) x t i) (.str x t) where
  obj := fun it i h st => by
    obtain ⟨o, e, c, d⟩ := st
    exact ⟨o, e, fun v z => by rw [d] at z; cases z⟩
  keep := fun it i h h' st k => let ⟨o, e, c, d⟩ := st; ⟨o, k o e, c, d⟩
  zero := fun it h e => ⟨_, e, rfl, rfl⟩
  apart := fun it i h st => by
    obtain ⟨o, e, c, d⟩ := st
    have hs : strIterType x = "str_ascii_iterator" ∨ strIterType x = "str_iterator" := by
      unfold strIterType
      split
      · exact .inl rfl
      · exact .inr rfl
    refine ⟨o, e, ?_, ?_, ?_⟩ <;> (rw [c]; rcases hs with z | z <;> (rw [z]; decide))
  inj := fun X pins s σ H xs ys hP hw hK I q r => q.trans r.symm
  begins := fun X pins s σ H xs hP hw hK I q => ⟨_, begins_text x t, trivial⟩
  draw := fun X pins s σ H xs it i hP hw hK hc I q st => by
    subst hP hw hK q
    have D := Draws.text (prog := X.prog) (w := X.w) (A := X.A.in1) (I.ok.hd hc) it x t
    refine ⟨[], _, _, by rw [List.length_map, Array.length_toList]; exact D, st, fun b hb => absurd hb (by simp), fun j h z => z, fun j v e => ?_⟩
    obtain ⟨c, u, e, rfl⟩ := e
    exact ⟨V.str ⟨#[c]⟩, by simp [e], ⟨u, rfl⟩⟩

/-- the items, each in a new pair with its index -/
def IteG (is : Hp → List V → Prop) : L2.It :=
  ⟨fun i H => ∃ xs, is H xs ∧ i < xs.length, fun i H v H' => ∃ T x, v = .ref T ∧ H T = none ∧ H' = upd H T (.tup [.int (i : Nat), x]) ∧ ∀ xs, is H xs → xs[i]? = some x, fun i H => ∃ xs, is H xs ∧ i = xs.length⟩
theorem turn_enuG {P : Program} {w : World} {K : PySem.W.Frag} {is : Hp → List V → Prop} {o0 : Obj} {tn : Addr → Nat → Heap → Prop} {u : Value} (S : Src P w K is o0 tn u) {elts : List Expr} {kk : Nat} {tpos : Pos} (e it : Addr) :
    Turn P w K (.Tuple elts kk tpos) (IteG is) [e, it] e (fun i h => (∃ old, IsEnum h e it ((i : Nat) : Int) old) ∧ tn it i h) where
  mem := List.mem_cons_self
  obj := fun i h st b hb => by
    obtain ⟨⟨old, he⟩, h2⟩ := st
    rcases List.mem_cons.mp hb with rfl | hb
    · exact ⟨_, he, fun v q => nomatch q⟩
    · rw [List.mem_singleton.mp hb]; exact S.obj it i h h2
  keep := fun i h h' st k => ⟨⟨st.1.choose, k e List.mem_cons_self _ st.1.choose_spec⟩, S.keep it i h h' st.2 (k it (List.mem_cons_of_mem _ List.mem_cons_self))⟩
  item := by
    intro X hP hw hK hc i pins s σ H E I hf st hg
    obtain ⟨⟨old, he⟩, h2⟩ := st
    obtain ⟨xs, hq, hx⟩ := hg
    obtain ⟨fp, Pv, St, D, hst, hfp, htn, hv⟩ := S.draw X pins s σ H xs it i hP hw hK hc I hq h2
    obtain ⟨oi, ei, ni, _, _⟩ := S.apart it i _ h2
    have hne : e ≠ it := by
      rintro rfl
      have he' : s.heap.get? e = _ := he
      rw [he'] at ei; cases ei; exact ni rfl
    have hef : e ∉ it :: fp := fun hm => by
      rcases List.mem_cons.mp hm with z | z
      · exact hne z
      · obtain ⟨o, eo, co⟩ := hfp e z
        have he' : s.heap.get? e = _ := he
        rw [he'] at eo; cases eo
        rcases co with co | co
        · have co' : Value.type "enumerate" = Value.type "tuple" := co
          exact absurd co' (by decide)
        · have co' : Value.type "enumerate" = Value.type "list" := co
          exact absurd co' (by decide)
    subst hP hw hK
    have hel : e < s.heap.objs.size := Heap.lt_size he
    have hil : it < s.heap.objs.size := Heap.lt_size ei
    refine wpAny_pyNext_enum_itemD D he hst hx hne hef fun v h' tk pv ho hst' hT hsz hk => ?_
    obtain ⟨x, hxx, rx⟩ := hv i v pv
    refine ⟨_, rfl, wpAny_letOwnedTupleGo_enum (s := { s with heap := h', toks := tk + 1 }) ho fun h'' he' sb => ?_⟩
    have hT2 : h''.get? s.heap.objs.size = some { cls := .type "tuple", data := .seq #[.int i tk, v] } := (sb.2 _ (Nat.ne_of_gt hel)).trans hT
    have new : ObjOk X.prog X.w (upd H s.heap.objs.size (.tup [.int (i : Nat), x])) h'' s.heap.objs.size (.tup [.int (i : Nat), x]) :=
      ⟨show 2 ≤ sizeLine by rw [sizeLine_eq]; decide, [.int i tk, v], .cons ⟨_, rfl⟩ (.cons rx .nil), ⟨_, hT2, rfl, _, rfl⟩⟩
    have far : ∀ b ob, b ∉ [e, it] → s.heap.get? b = some ob → h''.get? b = some ob := fun b ob hb q => by
      have n1 : b ≠ e := fun z => hb (z ▸ List.mem_cons_self)
      have n2 : b ≠ it := fun z => hb (z ▸ List.mem_cons_of_mem _ List.mem_cons_self)
      exact (sb.2 b n1).trans (hk b ob n1 n2 q)
    have I1 : Inv X pins σ (upd H s.heap.objs.size (.tup [.int (i : Nat), x])) { s with heap := h'', toks := tk + 1 } := I.turnedNew (ch := [e, it]) far hf (Nat.le_refl _) new
    refine ⟨.ref s.heap.objs.size, _, I1, rfl, ⟨_, x, rfl, I.hok.fresh (Nat.le_refl _), rfl, fun ys hy => ?_⟩, ⟨⟨v, ?_⟩, ?_⟩, fun b hb => ?_⟩
    · rw [S.inj X pins s σ H ys xs rfl rfl rfl I hy hq]; exact hxx
    · rw [show ((i + 1 : Nat) : Int) = (i : Int) + 1 by omega]; exact he'
    · exact S.keep it (i + 1) h' h'' (htn _ _ hst') fun o q => (sb.2 it (Ne.symm hne)).trans q
    · have hb' : b < s.heap.objs.size := by
        rcases List.mem_cons.mp hb with z | hb
        · rw [z]; exact hel
        · rw [List.mem_singleton.mp hb]; exact hil
      rw [upd_ne (Nat.ne_of_lt hb')]
      exact (hf b hb).1
  done := by
    intro X hP hw hK hc i pins s σ H E I hf st hg
    obtain ⟨⟨old, he⟩, h2⟩ := st
    obtain ⟨xs, hq, hx⟩ := hg
    obtain ⟨fp, Pv, St, D, hst, hfp, htn, hv⟩ := S.draw X pins s σ H xs it i hP hw hK hc I hq h2
    obtain ⟨g0, g1, g2, g3, g4, g5⟩ := hf it (List.mem_cons_of_mem _ List.mem_cons_self)
    subst hP hw hK hx
    exact wpAny_pyNext_enum_endD D he hst fun h' eb => ⟨rfl, I.turned (t' := s.toks) (fun b o hb q => eb b o hb q) g0 g1 g3 g4 g5⟩
  self := fun A i s Q E st h => wpAny_pyIter_enum st.1.choose_spec h

/-- the items as they stand at a later time -/
def AtJ (G : Gx) (ρ0 : List Addr) (h0 : Hh) (H0 : Hp) (ws : List Nat) (xs : List D) (is : Hp → List V → Prop) : Prop :=
  ∀ (av' ρ : List Addr) (h : Hh) (H : Hp), (∀ b ∈ av', b ∈ G.av ∨ H0 b = none) → StpA G ρ0 ρ H0 H → RelH (G.at av') ρ h H → Wat ws h0 h → ∃ vs, is H vs ∧ RDs (G.at av') ρ H xs vs
section
variable {G : Gx} {ρ0 ρ : List Addr} {h0 h : Hh} {H0 H : Hp} {ws : List Nat} {xs : List D} {P : Program} {w : World}
theorem itemss_later {av' : List Addr} (ha : ∀ b ∈ av', b ∈ G.av ∨ H0 b = none) (s : StpA G ρ0 ρ H0 H) {d : List D} {v : List V} (r : RDs G ρ0 H0 d v) : RDs (G.at av') ρ H d v :=
  r.move (G := G) (G' := G.at av') rfl s.pre fun b o e n m => ⟨(s.frm b o e n m).1, (s.frm b o e n m).2, fun hb => by
    rcases ha b hb with z | z
    · exact m z
    · rw [z] at e; cases e⟩
theorem signs_rds {av' : List Addr} (s : List Nat) : RDs (G.at av') ρ H (s.map fun c => D.str [c]) (s.map fun c => V.str ⟨#[c]⟩) := by
  induction s with
  | nil => exact .nil
  | cons c s ih => exact .cons (RD.str [c]) ih
theorem src_of {d : D} {v : V} {u : Value} (R : RelH G ρ0 h0 H0) (r : RD G ρ0 H0 d v) (e : walkD h0 d = some (xs, ws)) (rv : RelV v u) :
    ∃ (is : Hp → List V → Prop) (o0 : Obj) (tn : Addr → Nat → Heap → Prop), Src P w G.K is o0 tn u ∧ AtJ G ρ0 h0 H0 ws xs is := by
  cases r with
  | str s =>
    cases e
    obtain ⟨t, rfl⟩ := rv
    exact ⟨_, _, _, src_str ⟨s.toArray⟩ t, fun av' ρ h H ha st R' _ => ⟨_, rfl, by simpa using signs_rds s⟩⟩
  | tup h2 d2 n m rs =>
    cases e
    obtain rfl : u = Value.ref _ := rv
    exact ⟨_, _, _, src_tup _, fun av' ρ h H ha st R' _ => ⟨_, SqT.later h2 n m st, itemss_later ha st rs⟩⟩
  | tupK h2 rs =>
    cases e
    obtain rfl : u = Value.ref _ := rv
    obtain ⟨o, its, n, k1, k2, _, k4, k5, k6⟩ := h2
    exact ⟨_, _, _, src_tup _, fun av' ρ h H ha st R' _ => ⟨_, .inr ⟨o, its, n, k1, k2, k4, k5, k6⟩, itemss_later ha st rs⟩⟩
  | fz h2 n m rs =>
    cases e
    obtain rfl : u = Value.ref _ := rv
    refine ⟨_, _, _, src_lst _, fun av' ρ h H ha st R' _ => ⟨_, ?_, itemss_later ha st rs⟩⟩
    rcases h2 with h2 | ⟨u, h2⟩
    · exact .inl (.inl (st.frm _ _ h2 n m).1)
    · exact .inl (.inr ⟨u, (st.frm _ _ h2 n m).1⟩)
  | fzK h2 rs =>
    cases e
    obtain rfl : u = Value.ref _ := rv
    exact ⟨_, _, _, src_lst _, fun av' ρ h H ha st R' _ => ⟨_, .inr h2, itemss_later ha st rs⟩⟩
  | @ref l a h2 =>
    simp only [walkD] at e
    split at e
    · rename_i ys hl
      cases e
      obtain rfl : u = Value.ref _ := rv
      refine ⟨_, _, _, src_lst _, fun av' ρ h H ha st R' w => ?_⟩
      have hw := w l (by simp)
      rw [hl] at hw
      obtain ⟨a', e', ro⟩ := R'.obj l _ hw
      rw [st.pre l _ h2] at e'
      cases e'
      obtain ⟨vs, q, rs⟩ := ro
      exact ⟨vs, .inl (.inl q), rs⟩
    · cases e
  | _ => cases e
theorem walkD_keep (h : Hh) (d : D) : walkD h d.keep = walkD h d := by cases d <;> rfl
theorem enuD_get : ∀ {xs : List D} {k i : Nat} {d : D}, (enuD k xs)[i]? = some d → ∃ x, xs[i]? = some x ∧ d = .tup [.int ((k + i : Nat) : Int), x]
  | [], _, _, _, h => by simp [enuD] at h
  | x :: xs, k, 0, d, h => by simp [enuD] at h; exact ⟨x, rfl, by rw [← h]; simp⟩
  | x :: xs, k, i + 1, d, h => by
    simp only [enuD, List.getElem?_cons_succ] at h
    obtain ⟨y, h1, rfl⟩ := enuD_get h
    exact ⟨y, by simpa using h1, by rw [show k + 1 + i = k + (i + 1) by omega]⟩
theorem enuD_len : ∀ {xs : List D} {k : Nat}, (enuD k xs).length = xs.length
  | [], _ => rfl
  | x :: xs, k => by simp only [enuD, List.length_cons, enuD_len]
theorem pair_ri {av' : List Addr} {p : Addr} {x y : D} {v z : V} (R : RelH (G.at av') ρ h H) (n : H p = none) (rx : RD (G.at av') ρ H x v) (ry : RD (G.at av') ρ H y z) :
    Stp ρ ρ H (upd H p (.tup [v, z])) ∧ RelH (G.at av') ρ h (upd H p (.tup [v, z])) ∧ RI (G.at av') true ρ (upd H p (.tup [v, z])) (.tup [x, y]) (.ref p) := by
  have nw : ∀ {d : D} {v' : V}, RD (G.at av') ρ H d v' → RD (G.at av') ρ (upd H p (.tup [v, z])) d v' := fun r => (RD.new (G := G.at av') n r).show
  exact ⟨Stp.new n, R.new n, .inr ⟨rfl, p, _, _, rfl, rfl, .inl (.inl upd_same), .cons (nw rx) (.cons (nw ry) .nil)⟩⟩
theorem WalkJ.enuG {is : Hp → List V → Prop} (A : AtJ G ρ0 h0 H0 ws xs is) : WalkJ G true ρ0 h0 H0 ws (enuD 0 xs) (IteG is) := by
  refine ⟨fun i d hd av' ρ h H ha s R w => ?_, fun av' ρ h H ha s R w => ?_⟩
  · obtain ⟨vs, q, rs⟩ := A av' ρ h H ha s R w
    obtain ⟨x, hx, rfl⟩ := enuD_get hd
    obtain ⟨v, hv, rx⟩ := rs.get hx
    refine ⟨⟨vs, q, (List.getElem?_eq_some_iff.mp hv).1⟩, fun y H' yl => ?_⟩
    obtain ⟨T, x', rfl, n, rfl, e⟩ := yl
    have e' := e vs q
    rw [hv] at e'; cases e'
    rw [show ((0 + i : Nat) : Int) = (i : Int) by simp]
    exact pair_ri R n (RD.int _) rx
  · obtain ⟨vs, q, rs⟩ := A av' ρ h H ha s R w
    exact ⟨vs, q, by rw [enuD_len]; exact rs.length⟩
end
end Sd

/-! PyG3: enumerate as it begins. -/
namespace Sd
open PySem PySem.Spec PyProof.Rows L2

theorem enum_new1 {v : Value} {o : Obj} {H : Heap → Prop} (B : Begins v o H) :
    Meets (Builtin.«enumerate.__new__» ⟨[.type "enumerate", v], []⟩) (fun _ R s => H s.heap ∧ R (.ok (.ret (.ref (s.heap.push o).objs.size)))
      { s with heap := (s.heap.push o).push { cls := .type "enumerate", data := .fields #[.none, .bool false, .ref s.heap.objs.size, rawInt 0, .none, .none] } }) :=
  .of_wp fun prog w A R s hh => by
    obtain ⟨hp, g, d, tk, os⟩ := s
    obtain ⟨hb, h⟩ := hh
    have hsub := sub_enumerate
    have it1 : ∀ {A' : Around} {E : Value → Shared → Prop} {Q : Value → Shared → Prop}, Q (.ref hp.objs.size) ⟨hp.push o, g, d, tk, os⟩ → wpAny (model prog w) A' (pyIter v) Q E ⟨hp, g, d, tk, os⟩ := fun q => B.iter prog w _ _ _ _ hb q
    wp_walk using it1
    refine wpAny_stack_any fun st => wpAny_pure ?_
    split
    · rename_i c _ _ _ _ _
      cases (c == Value.type "enumerate") <;> (wp_walk using it1; exact ⟨_, rfl, h⟩)
    · wp_walk using it1
      exact ⟨_, rfl, h⟩
theorem enum_begins1 {prog : Program} {w : World} {A : Around} {E : Value → Shared → Prop} {s : Shared} {v : Value} {o : Obj} {H : Heap → Prop} {Q : Value → Shared → Prop} (B : Begins v o H) (hb : H s.heap)
    (h : ∀ h', IsEnum h' (s.heap.objs.size + 1) s.heap.objs.size ((0 : Nat) : Int) .none → h'.get? s.heap.objs.size = some o → (∀ b o, s.heap.get? b = some o → h'.get? b = some o) → Q (.ref (s.heap.objs.size + 1)) { s with heap := h' }) :
    wpAny (model prog w) A (call (.type "enumerate") [v]) Q E s := by
  refine callType_new F.called_enumerate (by decide) (F.typeCall_enumerate_1 _) (F.newCall_enumerate_1 _) (fun obj => F.args_object_init_2 obj _) F.entry_enumerate_new (enum_new1 B) ⟨hb, ?_⟩
  have hz : (s.heap.push o).objs.size = s.heap.objs.size + 1 := Heap.size_push ..
  show _ ∧ _
  rw [hz]
  have g1 := Heap.get?_push_size (s.heap.push o) (o := { cls := .type "enumerate", data := .fields #[.none, .bool false, .ref s.heap.objs.size, rawInt 0, .none, .none] }) rfl
  rw [hz] at g1
  exact ⟨⟨_, g1, rfl⟩, h _ g1 (Heap.get?_push_of_some _ (Heap.get?_push_size _ B.free)) fun b ob q => Heap.get?_push_of_some _ (Heap.get?_push_of_some _ q)⟩

section
variable {G : Gx} {C : Calls} {X : Cx} {e : Expr} {a : E}
theorem pi_enuF (hK : X.K = G.K) {p pos tpos : Pos} {elts : List Expr} {kk : Nat} (hg : Gl X "enumerate") (hm : X.mg "enumerate" = none) (ha : PE X e (tD G (evE C a))) (hs : starEach [e] X.env = [(false, eval e X.env)]) :
    PI X (.Tuple elts kk tpos) (.Call (.Name "enumerate" p) [e] [] pos) (tI G true (evI C (.enu a))) := by
  refine ⟨fun pins s σ H R I q => ?_⟩
  obtain ⟨av, ρ, h, σD, xs, ws, h', Rh, RE, ev, q⟩ := q
  simp only [evI] at ev
  obtain ⟨d, h1, e1, e2⟩ := Out.thn_eq_ok ev
  split at e2
  · rename_i ys ws' hw
    cases e2
    have hK' : X.K = (G.at av).K := hK
    refine Call_ (ld_blt I hg hm boot_enumerate (PyProof.Rows.callWith_type1 (thn ((pa_cons ha pa_nil hs).run pos pins s σ H (fun vs H1 => ∃ v ρ1, vs = [v] ∧ Stp ρ ρ1 H H1 ∧ RelH (G.at av) ρ1 h' H1 ∧ RD (G.at av) ρ1 H1 d.keep v) I
      ⟨av, ρ, h, σD, d, _, Rh, RE, e1, fun ρ1 H1 v S1 R1 r1 => ⟨v, ρ1, rfl, S1, R1, r1.keep⟩⟩) fun us s1 ⟨vs, H1, I1, r1, v, ρ1, ev1, S1, R1, rd⟩ => ?_) hs rfl))
    subst ev1
    cases r1 with
    | cons r rr =>
      cases rr
      obtain ⟨is, o0, tn, S, A⟩ := src_of (P := X.prog) (w := X.w) R1 rd (by rw [walkD_keep]; exact hw) r
      obtain ⟨vs, hvs, _⟩ := A av ρ1 h' H1 (fun b hb => .inl hb) ⟨fun _ _ z => z, fun b o z n _ => ⟨z, n⟩⟩ R1 (fun _ _ => rfl)
      obtain ⟨Hb, B, hb⟩ := S.begins X pins s1 σ H1 vs rfl rfl hK' I1 hvs
      refine enum_begins1 B hb fun h'' he hit hk => wpAny_pyIter_enum he ?_
      have I2 : Inv X pins σ H1 { s1 with heap := h'' } := I1.kept (t' := s1.toks) hk
      rw [← hK'] at S
      refine ⟨s1.heap.objs.size + 1, [s1.heap.objs.size + 1, s1.heap.objs.size], _, _, H1, rfl, I2, turn_enuG S (s1.heap.objs.size + 1) s1.heap.objs.size, ⟨⟨.none, he⟩, S.zero _ _ hit⟩, fun b hb => ?_, q ρ1 H1 _ S1 R1 (WalkJ.enuG A)⟩
      have hle : s1.heap.objs.size ≤ b := by
        rcases List.mem_cons.mp hb with z | hb
        · rw [z]; exact Nat.le_add_right _ _
        · rw [List.mem_singleton.mp hb]; exact Nat.le_refl _
      exact I1.fpOk hle (I1.hok.fresh hle)
  · cases e2
end
end Sd

/-! PyG4: a list of ours is written; pop. -/
namespace Sd
open PySem PySem.Spec PyProof.Rows L2

section
variable {G : Gx} {C : Calls} {X : Cx} {D : Ends} {σ : L2.St} {H : Hp}
theorem RelH.lst {ρ : List Addr} {h : Hh} {l : Nat} {v : V} {xs : List Sd.D} (R : RelH G ρ h H) (r : RD G ρ H (.ref l) v) (hl : h[l]? = some (.lst xs)) : ∃ p vs, v = .ref p ∧ ρ[l]? = some p ∧ H p = some (.lst vs) ∧ RDs G ρ H xs vs := by
  cases r with
  | @ref _ p hp =>
    obtain ⟨ob, eo, ro⟩ := R.lt hp
    rw [hl] at eo; cases eo
    obtain ⟨vs, ev, rs⟩ := ro
    exact ⟨p, vs, rfl, hp, ev, rs⟩
/-- a list of ours is written -/
theorem lst_put {ρ : List Addr} {h : Hh} {l : Nat} {p : Addr} {xs : List Sd.D} {vs : List V} (R : RelH G ρ h H) (hp : ρ[l]? = some p) (rs : RDs G ρ H xs vs) : Stp ρ ρ H (upd H p (.lst vs)) ∧ RelH G ρ (h.set l (.lst xs)) (upd H p (.lst vs)) := by
  have S4 : Stp ρ ρ H (upd H p (.lst vs)) := Stp.write (List.mem_of_getElem? hp)
  exact ⟨S4, R.write hp ⟨_, upd_same, rs.step S4⟩⟩
theorem tD_pop {a : E} {Q : VK} (hK : X.K = G.K) (q : tD G (evE C (.pop a)) σ H Q) : tBM0 X.K "list" rPop (tD G (evE C a)) σ H Q := by
  obtain ⟨av, ρ, h, σD, d, h', R, RE, e, q⟩ := q
  simp only [evE] at e
  obtain ⟨y, h1, e1, e2⟩ := Out.thn_eq_ok e
  split at e2
  · rename_i l
    split at e2
    · rename_i xs hl
      split at e2
      · rename_i z hz
        cases e2
        refine ⟨av, ρ, h, σD, _, h1, R, RE, e1, fun ρ1 H1 v S1 R1 r1 => ?_⟩
        have r1' : RD (G.at av) ρ1 H1 (.ref l) v := r1
        obtain ⟨p, vs, rfl, hp, ev, rs⟩ := R1.lst r1' hl
        rw [List.getLast?_eq_getElem?] at hz
        obtain ⟨w, hw, rw'⟩ := rs.get hz
        have rd : RDs (G.at av) ρ1 H1 xs.dropLast vs.dropLast := by
          rw [List.dropLast_eq_take, List.dropLast_eq_take, rs.length]; exact rs.take _
        obtain ⟨S3, R3⟩ := lst_put R1 hp rd
        refine ⟨.inl ⟨rfl, vs, .inl (.inl ev)⟩, p, vs, w, rfl, rfl, ev, by rw [← rs.length]; exact hw, q _ _ _ (S1.trans S3) R3 (rw'.step S3).rv⟩
      · cases e2
    · cases e2
  · cases e2
end
end Sd

/-! PyI: from the program's text to ours: expressions. -/
namespace Sd
open PySem PySem.Spec PyProof.Rows L2

/-- what a text is turned with -/
structure Cc where
  N : List Str
  sc : Scope
  blk : Option Scope
  fns : List (Str × String)
  cons : List (Str × D)
  alc : List Nat

def visB (sc : Scope) (x : Str) : Bool := match sc.names.lookup x with
  | some .local => true
  | some .cell => true
  | some .free => true
  | _ => false
def glB (sc : Scope) (x : Str) : Bool := match sc.names.lookup x with
  | some .globalImplicit => true
  | _ => false
def ixOf (N : List Str) (x : Str) : Option Nat := (List.range N.length).find? fun i => decide (N[i]? = some x)
def fnB (c : Cc) (x : Str) : Bool := match c.blk with
  | none => true
  | some s => s.names.lookup x == some .cell
def storB (c : Cc) (x : Str) : Bool := match c.sc.names.lookup x with
  | some .local => true
  | some .cell => fnB c x
  | _ => false
def nameIx (c : Cc) : Expr → Option Nat
  | .Name x _ => if storB c x then ixOf c.N x else none
  | _ => none
def cPat (c : Cc) : Expr → Option Pat
  | .Tuple es _ _ => (mapO (nameIx c) es).map .t
  | e => (nameIx c e).map .n
def opOf : Operator → Option O2
  | .Add => some .add | .Sub => some .sub | .FloorDiv => some .div | .Mod => some .mod | .Mult => some .mul
  | _ => none
def cmpOf : CmpOp → Option O2
  | .Eq => some .eq | .NotEq => some .ne | .Lt => some .lt | .LtE => some .le | .Gt => some .gt | .GtE => some .ge | .In => some .isin | .NotIn => some .notin
  | _ => none
def cK : Const → Option D
  | .none => some .non
  | .bool b => some (.bl b)
  | .int i => some (.int i)
  | .str s => some (.str s.cps.toList)
  | _ => none
def isNoneK : Expr → Bool
  | .Constant .none _ _ => true
  | _ => false
def foldB (op : BoolOp) : List E → Option E
  | [] => none
  | [e] => some e
  | e :: es => (foldB op es).map fun r => match op with | .And => .and e r | .Or => .or e r
def bi1 (x : Str) : Option O1 :=
  if x = "len" then some .len else if x = "int" then some .int else if x = "str" then some .str else if x = "tuple" then some .tuple else if x = "list" then some .list
  else if x = "all" then some .all else if x = "any" then some .any else if x = "dict" then some .dict else if x = "sum" then some .sum else none
def bi2 (x : Str) : Option O2 := if x = "min" then some .min else if x = "max" then some .max else none
def tyOf (y : Str) : Option Ty :=
  if y = "str" then some .str else if y = "tuple" then some .tup else if y = "list" then some .lst else if y = "int" then some .int else if y = "bool" then some .bool else if y = "dict" then some .dict else none
def baseOk : Expr → Bool
  | .Call (.Name _ _) [] [] _ => false
  | _ => true
def isSet : Expr → Bool
  | .Set _ _ _ => true
  | _ => false
def ownOf (N : List Str) (scope : Scope) : List (Str × Nat) := scope.names.filterMap fun y => match y.2 with
  | .local => (ixOf N y.1).map fun i => (y.1, i)
  | .cell => (ixOf N y.1).map fun i => (y.1, i)
  | _ => none
def Cc.inner (c : Cc) (scope : Scope) : Cc := { c with sc := relS scope c.sc, blk := some scope }
def cI (ce : Expr → Option E) (c : Cc) (pt : Bool) : Expr → Option It
  | .Call (.Name f p) args kws pos =>
    if f = "range" then (if glB c.sc f && (c.fns.lookup f).isNone && kws.isEmpty then match args with
      | [a] => (ce a).map .rng
      | [a, b] => match ce a, ce b with
        | some a', some b' => some (.rng2 a' b')
        | _, _ => none
      | _ => none else none)
    else if f = "enumerate" then (if pt && glB c.sc f && (c.fns.lookup f).isNone && kws.isEmpty then match args with
      | [a] => (ce a).map .enu
      | _ => none else none)
    else if f = "zip" then none
    else (ce (.Call (.Name f p) args kws pos)).map .val
  | e => (ce e).map .val
def optE (ce : Expr → Option E) : Option Expr → Option E
  | none => some (.cst .non)
  | some e => (ce e).map (.o1 .ofI)
def cE : Nat → Cc → Expr → Option E
  | 0, _, _ => none
  | n + 1, c, e => match e with
    | .Constant k _ _ => (cK k).map .cst
    | .Name x _ => if x = "__debug__" ∨ x = "__classdict__" then none else if visB c.sc x then (ixOf c.N x).map .var else if glB c.sc x then (c.cons.lookup x).map .cst else none
    | .Tuple es _ _ => if es.length ≤ 1000 then (mapO (cE n c) es).map .tup else none
    | .List es _ => if es.length ≤ 1000 then (mapO (cE n c) es).map .lst else none
    | .BinOp a op b _ => match opOf op, cE n c a, cE n c b with
      | some o, some a', some b' => some (.o2 o a' b')
      | _, _, _ => none
    | .UnaryOp op a _ => match op, cE n c a with
      | .USub, some a' => some (.o1 .neg a')
      | .Not, some a' => some (.o1 .not a')
      | _, _ => none
    | .BoolOp op vs _ => match mapO (cE n c) vs with
      | some es => foldB op es
      | none => none
    | .Compare a ops bs _ => match ops, bs with
      | [op], [b] => match cE n c a with
        | some a' => if op = .Is ∧ isNoneK b = true then some (.o1 .isN a') else if op = .IsNot ∧ isNoneK b = true then some (.o1 .notN a')
          else if behindInMarks op b then none else match cmpOf op, cE n c b with
            | some o, some b' => some (.o2 o a' b')
            | _, _ => none
        | none => none
      | [op, op2], [b, d] => if lastMarks [op, op2] [b, d] then none else match cmpOf op, cmpOf op2, cE n c a, cE n c b, cE n c d with
        | some o, some o2, some a', some b', some d' => some (.chn o o2 a' b' d')
        | _, _, _, _, _ => none
      | _, _ => none
    | .IfExp t a b _ => match cE n c t, cE n c a, cE n c b with
      | some t', some a', some b' => some (.ife t' a' b')
      | _, _, _ => none
    | .Call f args kws pos => if kws.isEmpty then match f with
        | .Name x _ => if x = "__debug__" ∨ x = "__name__" then none else if glB c.sc x then match c.fns.lookup x with
            | some m => (mapO (cE n c) args).map (.call "" m)
            | none => match args with
              | [a] => match bi1 x, cE n c a with
                | some o, some a' => some (.o1 o a')
                | _, _ => none
              | [a, b] => if x = "isinstance" then match b with
                  | .Name y _ => if glB c.sc y && (c.fns.lookup y).isNone then match tyOf y, cE n c a with
                    | some t, some a' => some (.o1 (.isi t) a')
                    | _, _ => none else none
                  | _ => none
                else match bi2 x, cE n c a, cE n c b with
                  | some o, some a', some b' => some (.o2 o a' b')
                  | _, _, _ => none
              | _ => none
          else none
        | .Attribute o m apos => if m = "join" ∧ baseOk o = true ∧ (apos.endLine == pos.line) = true then match args with
            | [a] => match cE n c o, cE n c a with
              | some o', some a' => some (.o2 .join o' a')
              | _, _ => none
            | _ => none
          else if m = "pop" ∧ baseOk o = true ∧ (apos.endLine == pos.line) = true ∧ args.isEmpty = true then (cE n c o).map .pop
          else none
        | _ => none
      else none
    | .Subscript a i _ => match cE n c a with
      | some a' => match i with
        | .Slice lo hi st _ => match st with
          | none => match optE (cE n c) lo, optE (cE n c) hi with
            | some l, some h => some (.o3 .slice a' l h)
            | _, _ => none
          | some _ => none
        | i => match cE n c i with
          | some i' => some (.o2 .idx a' i')
          | none => none
      | none => none
    | .ListComp elt gens scope _ => if blkC c.N c.sc scope (ownOf c.N scope) then match gens with
        | [⟨tg, iter, ifs, as⟩] => if as = 0 ∧ isSet iter = false ∧ ifs.length ≤ 1 then match cPat (c.inner scope) tg with
            | some p => match cI (cE n c) c p.isT iter, mapO (cE n (c.inner scope)) ifs, cE n (c.inner scope) elt with
              | some it, some ifs', some elt' => if p.ix.all (fun i => (ownOf c.N scope).any fun q => q.2 == i) then some (.comp ((ownOf c.N scope).map (·.2)) elt' p it ifs') else none
              | _, _, _ => none
            | none => none
          else none
        | [⟨tg, iter, ifs, as⟩, ⟨tg1, iter1, ifs1, as1⟩] => if as = 0 ∧ as1 = 0 ∧ isSet iter = false ∧ isSet iter1 = false ∧ ifs.length ≤ 1 ∧ ifs1.length ≤ 1 then match cPat (c.inner scope) tg, cPat (c.inner scope) tg1 with
            | some p, some p1 => match cI (cE n c) c p.isT iter, mapO (cE n (c.inner scope)) ifs, cI (cE n (c.inner scope)) (c.inner scope) p1.isT iter1, mapO (cE n (c.inner scope)) ifs1, cE n (c.inner scope) elt with
              | some it, some ifs', some it1, some ifs1', some elt' => if p.ix.all (fun i => (ownOf c.N scope).any fun q => q.2 == i) && p1.ix.all (fun i => (ownOf c.N scope).any fun q => q.2 == i) then
                  some (.comp2 ((ownOf c.N scope).map (·.2)) elt' p it ifs' p1 it1 ifs1') else none
              | _, _, _, _, _ => none
            | _, _ => none
          else none
        | _ => none
      else none
    | _ => none

/-- the constant's value wherever it is read -/
def KD (G : Gx) (d : D) (v : V) : Prop := ∀ av ρ H, RD (G.at av) ρ H d v
def bnames : List Str := ["len", "int", "str", "tuple", "list", "all", "any", "dict", "sum", "min", "max", "isinstance", "range", "enumerate", "zip", "sorted", "set", "repr", "bool"]
structure Fits (G : Gx) (C : Calls) (c : Cc) (X : Cx) : Prop where
  N : X.N = c.N
  nd : c.N.Nodup
  sc : X.env.scope = c.sc
  calm : X.calm = true
  K : X.K = G.K
  kf : ∀ x, fnB c x = true → X.fn x = true
  units : X.A.units + 200 < cLine
  free : ∀ x ∈ bnames, c.fns.lookup x = none → X.mg x = none
  con : ∀ x d, c.cons.lookup x = some d → ∃ u v, X.mg x = some u ∧ RelV v u ∧ KD G d v
  fn : ∀ x m, c.fns.lookup x = some m → FnFit G X x (C "" m)
  xe : X.xe = fun _ _ => False

theorem ixOf_ok {N : List Str} {x : Str} {i : Nat} (h : ixOf N x = some i) : N[i]? = some x := by
  have := List.find?_some h
  exact of_decide_eq_true this
theorem visB_ok {sc : Scope} {x : Str} (h : visB sc x = true) : Vis sc x := by
  unfold visB at h
  split at h
  · exact .inl (by assumption)
  · exact .inr (.inl (by assumption))
  · exact .inr (.inr (by assumption))
  · cases h
theorem glB_ok {sc : Scope} {x : Str} (h : glB sc x = true) : sc.names.lookup x = some .globalImplicit := by
  unfold glB at h
  split at h
  · assumption
  · cases h
section
variable {G : Gx} {C : Calls} {c : Cc} {X : Cx}
theorem Fits.gl (F : Fits G C c X) {x : Str} (h : glB c.sc x = true) : Gl X x := by
  show X.env.kindOf x = _
  unfold Env.kindOf
  rw [F.sc]
  exact glB_ok h
theorem Fits.name (F : Fits G C c X) {e : Expr} {i : Nat} (h : nameIx c e = some i) : NameOk X e i := by
  unfold nameIx at h
  split at h
  · rename_i x pos
    split at h
    · rename_i hs
      refine ⟨x, pos, rfl, by rw [F.N]; exact ixOf_ok h, ?_, ?_⟩
      · unfold storB at hs
        unfold L2.Loc
        rw [F.sc]
        split at hs
        · exact .inl (by assumption)
        · exact .inr (by assumption)
        · cases hs
      · unfold storB at hs
        rw [F.sc]
        split at hs
        · exact .inr (by assumption)
        · exact .inl (F.kf x hs)
        · cases hs
    · cases h
  · cases h
theorem Fits.names (F : Fits G C c X) : ∀ {es : List Expr} {is : List Nat}, mapO (nameIx c) es = some is → NamesOk X es is
  | [], _, h => by cases h; exact .nil
  | e :: es, _, h => by
    cases h1 : nameIx c e with
    | none => simp [mapO, h1] at h
    | some i =>
      cases h2 : mapO (nameIx c) es with
      | none => simp [mapO, h1, h2] at h
      | some js =>
        simp only [mapO, h1, h2] at h
        cases h
        exact .cons (F.name h1) (F.names h2)
theorem Fits.pat (F : Fits G C c X) {e : Expr} {p : Pat} (h : cPat c e = some p) : PG X e (tP G p) := by
  have hN : X.N.Nodup := by rw [F.N]; exact F.nd
  cases e with
  | Tuple es k pos =>
    simp only [cPat, Option.map_eq_some_iff] at h
    obtain ⟨is, h, rfl⟩ := h
    exact pg_tupF F.K F.calm hN (F.names h)
  | _ =>
    simp only [cPat, Option.map_eq_some_iff] at h
    obtain ⟨i, h, rfl⟩ := h
    obtain ⟨x, pos, e, h1, h2, h3⟩ := (F.name h).ex
    rw [e]
    exact pg_nameF hN h1 h2 h3
theorem lookup_rel {scope sc : Scope} {x : Str} (h : (relS scope sc).names.lookup x = some .globalImplicit) : scope.names.lookup x = some .globalImplicit := by
  obtain ⟨k', h1, h2⟩ := lookup_relS (sc := sc) h
  rcases h2 with h2 | ⟨_, h2⟩
  · rw [← h2] at h1; exact h1
  · cases h2
theorem Fits.inner (F : Fits G C c X) (scope : Scope) (s : Shared) (H : Hp) (Ca : Addr) (cl : List (Str × Addr)) (fp : List Addr) : Fits G C (c.inner scope) (X.blk s H scope (compEnvC scope cl Ca X.env) fp) :=
  ⟨F.N, F.nd, by
    show relabel scope X.env = relS scope c.sc
    rw [← F.sc]; rfl, F.calm, F.K, fun x h => h, F.units, F.free, F.con, fun x m h => ⟨(F.fn x m h).ex⟩, rfl⟩
theorem Fits.room (F : Fits G C c X) : X.A.units + 1 < cLine := by have := F.units; omega
end
end Sd

/-! PyI2: a text that is turned means what the program's text means. -/
namespace Sd
open PySem PySem.Spec PyProof.Rows L2

section
variable {G : Gx} {C : Calls} {X : Cx}
theorem op_mulF : OpR X (binaryOp .Mult) (U2 G (o2F .mul)) := by
  intro pins s σ H v w v' w' Q I rv rw' q
  obtain ⟨av, ρ, h, x, y, z, R, rx, ry, e, q⟩ := q
  unfold o2F at e
  split at e
  all_goals (try contradiction)
  split at e
  · rename_i hj
    cases e
    cases rx; cases ry
    exact op_mul pins s σ H _ _ v' w' Q I rv rw' ⟨_, _, rfl, rfl, hj, fin_at R (RD.int _) q⟩
  · cases e
theorem un_negF : UnR X (unaryOp .USub) (U1 G (o1F .neg)) := by
  intro pins s σ H v v' Q I rv q
  obtain ⟨av, ρ, h, x, z, R, rx, e, q⟩ := q
  cases rx <;> simp only [o1F] at e <;> try contradiction
  cases e
  exact un_neg pins s σ H _ v' Q I rv ⟨_, rfl, fin_at R (RD.int _) q⟩

theorem star_of : ∀ {n : Nat} {c : Cc} {e : Expr} {e' : E}, cE n c e = some e' → ∀ (rest : List Expr) (env : PySem.Env), starEach (e :: rest) env = (false, eval e env) :: starEach rest env := by
  intro n c e e' h rest env
  cases n with
  | zero => cases h
  | succ n => cases e <;> first | rfl | (simp [cE] at h)
theorem stars_of {n : Nat} {c : Cc} : ∀ {es : List Expr} {es' : List E}, mapO (cE n c) es = some es' → ∀ (pos : Pos) (env : PySem.Env), (backTo pos (starEach es env)).any (·.1) = false
  | [], _, _, pos, env => by rfl
  | e :: es, _, h, pos, env => by
    cases h1 : cE n c e with
    | none => simp [mapO, h1] at h
    | some i =>
      cases h2 : mapO (cE n c) es with
      | none => simp [mapO, h1, h2] at h
      | some js =>
        rw [star_of h1]
        have := stars_of h2 pos env
        simp only [backTo, List.map_cons, List.any_cons, List.map_map, Bool.or_eq_false_iff] at this ⊢
        exact ⟨trivial, this⟩
theorem mapO_cons {α β : Type} {f : α → Option β} {x : α} {xs : List α} {ys : List β} (h : mapO f (x :: xs) = some ys) : ∃ y zs, f x = some y ∧ mapO f xs = some zs ∧ ys = y :: zs := by
  cases h1 : f x with
  | none => simp [mapO, h1] at h
  | some i =>
    cases h2 : mapO f xs with
    | none => simp [mapO, h1, h2] at h
    | some js => simp only [mapO, h1, h2] at h; cases h; exact ⟨_, _, rfl, rfl, rfl⟩
theorem mapO_len {α β : Type} {f : α → Option β} : ∀ {xs : List α} {ys : List β}, mapO f xs = some ys → ys.length = xs.length
  | [], _, h => by cases h; rfl
  | x :: xs, _, h => by
    obtain ⟨y, zs, _, h2, rfl⟩ := mapO_cons h
    rw [List.length_cons, List.length_cons, mapO_len h2]

/-- what is shown of a text that is turned -/
def Snd (G : Gx) (C : Calls) (n : Nat) : Prop := ∀ (c : Cc) (e : Expr) (e' : E), cE n c e = some e' → ∀ X, Fits G C c X → PE X e (tD G (evE C e')) ∧ PT X e (tDt G (evE C e'))
theorem plainT {e : Expr} {e' : E} (h : PE X e (tD G (evE C e'))) (he : ∀ whole, isTrue e X.env whole = (do let v ← whole; standAt e.pos; holding [v] (truthy v))) : PE X e (tD G (evE C e')) ∧ PT X e (tDt G (evE C e')) :=
  ⟨h, PT.imp (pt_val h he) fun _ _ _ q => tDt_tB q⟩

theorem args_of {n : Nat} {c : Cc} (S : Snd G C n) (F : Fits G C c X) : ∀ {es : List Expr} {es' : List E}, mapO (cE n c) es = some es' → PA X es (tDs G (evEs C es'))
  | [], _, h => by
    cases h
    exact PA.imp pa_nil fun _ _ _ q => tDs_nil q
  | e :: es, _, h => by
    obtain ⟨y, zs, h1, h2, rfl⟩ := mapO_cons h
    exact PA.imp (pa_cons (S c e _ h1 X F).1 (args_of S F h2) (star_of h1 _ _)) fun _ _ _ q => tDs_cons q

theorem fold_of {n : Nat} {c : Cc} (S : Snd G C n) (F : Fits G C c X) (op : BoolOp) (pos : Pos) : ∀ {es : List Expr} {es' : List E} {r : E}, mapO (cE n c) es = some es' → foldB op es' = some r → PE X (.BoolOp op es pos) (tD G (evE C r)) ∧ PW X (.BoolOp op es pos) (tDt G (evE C r))
  | [], _, r, h, hf => by cases h; cases hf
  | [e], _, r, h, hf => by
    obtain ⟨y, zs, h1, h2, rfl⟩ := mapO_cons h
    cases h2
    simp only [foldB] at hf
    cases hf
    have := S c e _ h1 X F
    refine ⟨pe_one this.1, ?_⟩
    cases op with
    | And => exact pw_and1 this.2
    | Or => exact pw_or1 this.2
  | e :: e2 :: es, _, r, h, hf => by
    obtain ⟨y, zs, h1, h2, rfl⟩ := mapO_cons h
    obtain ⟨y2, zs2, h3, h4, e0⟩ := mapO_cons h2
    subst e0
    simp only [foldB, Option.map_eq_some_iff] at hf
    obtain ⟨r2, hf, rfl⟩ := hf
    have a := S c e _ h1 X F
    have b := fold_of S F op pos h2 hf
    cases op with
    | And => exact ⟨PE.imp (pe_and a.1 b.1) fun _ _ _ q => tD_and q, PW.imp (pw_and a.2 b.2) fun _ _ _ q => tDt_and q⟩
    | Or => exact ⟨PE.imp (pe_or a.1 b.1) fun _ _ _ q => tD_or q, PW.imp (pw_or a.2 b.2) fun _ _ _ q => tDt_or q⟩

theorem op_of (F : ∃ c, Fits G C c X) {op : Operator} {o : O2} (h : opOf op = some o) : OpR X (binaryOp op) (U2 G (o2F o)) := by
  obtain ⟨c, F⟩ := F
  cases op <;> simp only [opOf] at h <;> first | contradiction | (cases h)
  · exact op_addF F.K
  · exact op_subF
  · exact op_mulF
  · exact op_modF
  · exact op_divF
theorem cmp_of (F : ∃ c, Fits G C c X) {op : CmpOp} {o : O2} (h : cmpOf op = some o) : OpR X (compareOp op) (U2 G (o2F o)) := by
  obtain ⟨c, F⟩ := F
  cases op <;> simp only [cmpOf] at h <;> first | contradiction | (cases h)
  · exact op_eqF F.K F.units
  · exact op_neF F.K F.units
  · exact op_ltF
  · exact op_leF
  · exact op_gtF
  · exact op_geF
  · exact op_inF F.K F.units
  · exact op_notinF F.K F.units
theorem pt_ifExpF {c a b : Expr} {pos : Pos} {tA tB tC : TT} (hc : PT X c tA) (ha : PT X a tB) (hb : PT X b tC) : PT X (.IfExp c a b pos) (fun σ H Q => tA σ H fun k H1 => if k = true then tB σ H1 Q else tC σ H1 Q) := by
  refine ⟨fun pins s σ H Q I h => ?_⟩
  refine isTrue_IfExp (thn (hc.run pins s σ H _ I h) fun d s1 ⟨H1, I1, q1⟩ => ?_)
  cases d with
  | true => exact ha.run pins s1 σ H1 Q I1 q1
  | false => exact hb.run pins s1 σ H1 Q I1 q1
theorem tDt_ife {a b c : E} {σ : L2.St} {H : Hp} {Q : Bool → Hp → Prop} (q : tDt G (evE C (.ife c a b)) σ H Q) : tDt G (evE C c) σ H fun k H1 => if k = true then tDt G (evE C a) σ H1 Q else tDt G (evE C b) σ H1 Q := by
  obtain ⟨av, ρ, h, σD, d, h', R, RE, e, q⟩ := q
  simp only [evE] at e
  obtain ⟨x, h1, e1, e2⟩ := Out.thn_eq_ok e
  split at e2
  · exact ⟨av, ρ, h, σD, true, h1, R, RE, e1, fun ρ1 H1 S1 R1 => by
      show (if true = true then tDt G (evE C a) σ H1 Q else tDt G (evE C b) σ H1 Q)
      rw [if_pos rfl]
      exact ⟨av, ρ1, h1, σD, d, h', R1, RE.step S1, e2, fun ρ2 H2 S2 R2 => q _ _ (S1.trans S2) R2⟩⟩
  · exact ⟨av, ρ, h, σD, false, h1, R, RE, e1, fun ρ1 H1 S1 R1 => by
      show (if false = true then tDt G (evE C a) σ H1 Q else tDt G (evE C b) σ H1 Q)
      rw [if_neg (by decide)]
      exact ⟨av, ρ1, h1, σD, d, h', R1, RE.step S1, e2, fun ρ2 H2 S2 R2 => q _ _ (S1.trans S2) R2⟩⟩
  · cases e2
theorem non_iff {ρ : List Addr} {H : Hp} {x : D} {v : V} (r : RD G ρ H x v) : decide (v = V.non) = isNon x := by
  cases r <;> first | rfl | simp [isNon]
theorem isNon_keep (x : D) : isNon x.keep = isNon x := by cases x <;> rfl
theorem tD_isN {a : E} {σ : L2.St} {H : Hp} {Q : VK} (q : tD G (evE C (.o1 .isN a)) σ H Q) : tIsN (tD G (evE C a)) σ H Q := by
  obtain ⟨av, ρ, h, σD, d, h', R, RE, e, q⟩ := q
  simp only [evE] at e
  obtain ⟨x, h1, e1, e2⟩ := Out.thn_eq_ok e
  simp only [o1F] at e2
  cases e2
  refine ⟨av, ρ, h, σD, x, _, R, RE, e1, fun ρ1 H1 v S1 R1 r1 => ?_⟩
  show Q (V.bl (decide (v = V.non))) H1
  rw [non_iff r1.keep, isNon_keep]
  exact q _ _ _ S1 R1 (RD.bl _)
theorem tD_notN {a : E} {σ : L2.St} {H : Hp} {Q : VK} (q : tD G (evE C (.o1 .notN a)) σ H Q) : tNotN (tD G (evE C a)) σ H Q := by
  obtain ⟨av, ρ, h, σD, d, h', R, RE, e, q⟩ := q
  simp only [evE] at e
  obtain ⟨x, h1, e1, e2⟩ := Out.thn_eq_ok e
  simp only [o1F] at e2
  cases e2
  refine ⟨av, ρ, h, σD, x, _, R, RE, e1, fun ρ1 H1 v S1 R1 r1 => ?_⟩
  show Q (V.bl (!decide (v = V.non))) H1
  rw [non_iff r1.keep, isNon_keep]
  exact q _ _ _ S1 R1 (RD.bl _)
theorem tD_var {i : Nat} {σ : L2.St} {H : Hp} {Q : VK} (q : tD G (evE C (.var i)) σ H Q) : tVar i σ H Q := by
  obtain ⟨av, ρ, h, σD, d, h', R, RE, e, q⟩ := q
  simp only [evE] at e
  split at e
  · rename_i d' hd
    cases e
    obtain ⟨v, e1, r⟩ := RE.2 i _ hd
    exact ⟨v, e1, q _ _ _ (Stp.refl _ _) R r.rv⟩
  · cases e
theorem tD_cst {d : D} {v : V} {σ : L2.St} {H : Hp} {Q : VK} (k : KD G d v) (q : tD G (evE C (.cst d)) σ H Q) : tC v σ H Q := by
  obtain ⟨av, ρ, h, σD, d, h', R, RE, e, q⟩ := q
  simp only [evE] at e
  cases e
  exact q _ _ _ (Stp.refl _ _) R (k _ _ _).rv
theorem KD.non : KD G .non .non := fun _ _ _ => .non
theorem KD.bl (b : Bool) : KD G (.bl b) (.bl b) := fun _ _ _ => .bl b
theorem KD.int (b : Int) : KD G (.int b) (.int b) := fun _ _ _ => .int b
theorem KD.str (x : Str) : KD G (.str x.cps.toList) (.str x) := fun _ _ _ => by
  have h : (⟨x.cps.toList.toArray⟩ : Str) = x := by cases x; simp
  have := h ▸ RD.str (G := G) (ρ := []) (H := fun _ => none) x.cps.toList
  cases x
  exact .str _
theorem isNoneK_ok {e : Expr} (h : isNoneK e = true) : ∃ j pos, e = .Constant .none j pos := by
  unfold isNoneK at h
  split at h
  · exact ⟨_, _, rfl⟩
  · cases h
theorem base_ok {o : Expr} (h : baseOk o = true) (m : Str) (env : PySem.Env) (w : Sem Value) : attributeBase o m env w = w := by
  unfold baseOk at h
  split at h
  · cases h
  · rename_i hn
    unfold attributeBase
    split
    · rename_i id p pos _ _
      exact absurd rfl (hn _ _ _)
    · rfl
theorem set_ok {e : Expr} (h : isSet e = false) (env : PySem.Env) (x : Value) : foldedSetIterable e env x = pure x := by
  cases e <;> first | rfl | (simp [isSet] at h)
theorem pt_of_pw {op : BoolOp} {es : List Expr} {pos : Pos} {t : TT} (h : PW X (.BoolOp op es pos) t) : PT X (.BoolOp op es pos) t :=
  ⟨fun pins s σ H Q I q => h.run (eval (.BoolOp op es pos) X.env) pins s σ H Q I q⟩
theorem boolTest {t : TE} {a : E} (h : ∀ σ H Q, tD G (evE C a) σ H Q → t σ H Q) {σ : L2.St} {H : Hp} {Q : Bool → Hp → Prop} (q : tDt G (evE C a) σ H Q) : tTest t σ H Q := h σ H _ (tDt_test q)

def tO (G : Gx) (C : Calls) (l : E) : TO := fun σ H Q => tD G (evE C l) σ H fun v H1 => ∃ o, (v = .non ∧ o = none ∨ ∃ i, v = .int i ∧ o = some i) ∧ Q o H1
theorem PO.imp {e : Option Expr} {t t' : TO} (p : PO X e t) (h : ∀ σ H Q, t' σ H Q → t σ H Q) : PO X e t' := ⟨fun pins s σ H Q I q => p.run pins s σ H Q I (h σ H Q q)⟩
theorem opt_of {n : Nat} {c : Cc} (S : Snd G C n) (F : Fits G C c X) {o : Option Expr} {l : E} (h : optE (cE n c) o = some l) : PO X o (tO G C l) := by
  cases o with
  | none =>
    cases h
    refine PO.imp po_none fun σ H Q q => ?_
    obtain ⟨o, h1, h2⟩ := tD_cst KD.non q
    rcases h1 with ⟨_, rfl⟩ | ⟨i, h1, _⟩
    · exact h2
    · cases h1
  | some e =>
    simp only [optE, Option.map_eq_some_iff] at h
    obtain ⟨e', h, rfl⟩ := h
    refine PO.imp (po_some (S c e e' h X F).1) fun σ H Q q => ?_
    obtain ⟨av, ρ, h, σD, d, h', R, RE, e, r⟩ := q
    simp only [evE] at e
    obtain ⟨x, h1, e1, e2⟩ := Out.thn_eq_ok e
    obtain ⟨e2, rfl⟩ := Out.of_eq_ok e2
    cases x <;> simp only [o1F] at e2 <;> try contradiction
    cases e2
    refine ⟨av, ρ, h, σD, _, _, R, RE, e1, fun ρ' H' v S R r' => ?_⟩
    obtain ⟨o, h1, h2⟩ := r ρ' H' v S R r'
    cases r'
    rcases h1 with ⟨h1, _⟩ | ⟨i, h1, rfl⟩
    · cases h1
    · cases h1; exact ⟨_, rfl, h2⟩
theorem tD_slice {a l u : E} {σ : L2.St} {H : Hp} {Q : VK} (q : tD G (evE C (.o3 .slice a l u)) σ H Q) : tSl (U3 G) (tD G (evE C a)) (tO G C l) (tO G C u) σ H Q := by
  obtain ⟨av, ρ, h, σD, d, h', R, RE, e, q⟩ := q
  simp only [evE] at e
  obtain ⟨x, h1, e1, e2⟩ := Out.thn_eq_ok e
  obtain ⟨y, h2, e3, e4⟩ := Out.thn_eq_ok e2
  obtain ⟨z, h3, e5, e6⟩ := Out.thn_eq_ok e4
  obtain ⟨e6, rfl⟩ := Out.of_eq_ok e6
  simp only [o3F] at e6
  split at e6
  · rename_i lo hi hlo hhi
    have part : ∀ {x : D} {lo : Option Int} {ρ : List Addr} {H : Hp} {v : V} {av : List Addr}, partOf x = some lo → RD (G.at av) ρ H x.keep v → (v = .non ∧ lo = none ∨ ∃ i, v = .int i ∧ lo = some i) := by
      intro x lo ρ H v av hp r
      cases x <;> simp only [partOf] at hp <;> try contradiction
      · cases hp; cases r; exact .inl ⟨rfl, rfl⟩
      · cases hp; cases r; exact .inr ⟨_, rfl, rfl⟩
    refine ⟨av, ρ, h, σD, x, h1, R, RE, e1, fun ρ1 H1 v S1 R1 r1 => ?_⟩
    refine ⟨av, ρ1, h1, σD, y, h2, R1, RE.step S1, e3, fun ρ2 H2 v2 S2 R2 r2 => ⟨lo, part hlo r2.keep, ?_⟩⟩
    refine ⟨av, ρ2, h2, σD, z, _, R2, (RE.step S1).step S2, e5, fun ρ3 H3 v3 S3 R3 r3 => ⟨hi, part hhi r3.keep, ?_⟩⟩
    refine ⟨av, ρ3, _, x.keep, d, R3, (r1.keep.step S2).step S3, by rw [slice_keep]; exact e6, fun H4 v4 S4 R4 r4 => q _ _ _ (((S1.trans S2).trans S3).trans S4) R4 (r4.back ((S1.trans S2).trans S3) S4)⟩
  · cases e6
end
end Sd

/-! PyI3: every text that is turned. -/
namespace Sd
open PySem PySem.Spec PyProof.Rows L2

section
variable {G : Gx} {C : Calls} {X : Cx} {c : Cc}
inductive Bi (X : Cx) (x : Str) (r : List V → Hp → VK → Prop) : Prop
  | b (id : String) : bootBuiltins x = some (.builtin id) → CallR X (.builtin id) r → Bi X x r
  | t (T : String) : bootBuiltins x = some (.type T) → CallR X (.type T) r → Bi X x r
theorem bi1_ok (F : Fits G C c X) {x : Str} {o : O1} (h : bi1 x = some o) : Bi X x (C1 G (o1F o)) ∧ x ∈ bnames := by
  unfold bi1 at h
  split at h
  · cases h; subst_vars; exact ⟨.b "len" (by decide +kernel) (call_lenF F.K), by decide⟩
  split at h
  · cases h; subst_vars; exact ⟨.t "int" (by decide +kernel) call_intF, by decide⟩
  split at h
  · cases h; subst_vars; exact ⟨.t "str" (by decide +kernel) call_strF, by decide⟩
  split at h
  · cases h; subst_vars; exact ⟨.t "tuple" (by decide +kernel) (call_tupleF F.K), by decide⟩
  split at h
  · cases h; subst_vars; exact ⟨.t "list" (by decide +kernel) (call_listF F.K F.calm), by decide⟩
  split at h
  · cases h; subst_vars; exact ⟨.b "all" (by decide +kernel) (call_allF F.K F.calm), by decide⟩
  split at h
  · cases h; subst_vars; exact ⟨.b "any" (by decide +kernel) (call_anyF F.K F.calm), by decide⟩
  split at h
  · cases h; subst_vars; exact ⟨.t "dict" (by decide +kernel) (call_dictF F.K F.calm), by decide⟩
  split at h
  · cases h; subst_vars; exact ⟨.b "sum" (by decide +kernel) (call_sumF F.K F.calm), by decide⟩
  cases h
theorem bi2_ok (F : Fits G C c X) {x : Str} {o : O2} (h : bi2 x = some o) : (∃ id, bootBuiltins x = some (.builtin id) ∧ CallR X (.builtin id) (C2 G (o2F o))) ∧ x ∈ bnames := by
  unfold bi2 at h
  split at h
  · cases h; subst_vars; exact ⟨⟨"min", by decide +kernel, call_minF F.calm⟩, by decide⟩
  split at h
  · cases h; subst_vars; exact ⟨⟨"max", by decide +kernel, call_maxF F.calm⟩, by decide⟩
  cases h
theorem tyOf_ok {x : Str} {t : Ty} (h : tyOf x = some t) : bootBuiltins x = some (.type (tyName t)) ∧ x ∈ bnames := by
  unfold tyOf at h
  split at h
  · cases h; subst_vars; exact ⟨by decide +kernel, by decide⟩
  split at h
  · cases h; subst_vars; exact ⟨by decide +kernel, by decide⟩
  split at h
  · cases h; subst_vars; exact ⟨by decide +kernel, by decide⟩
  split at h
  · cases h; subst_vars; exact ⟨by decide +kernel, by decide⟩
  split at h
  · cases h; subst_vars; exact ⟨by decide +kernel, by decide⟩
  split at h
  · cases h; subst_vars; exact ⟨by decide +kernel, by decide⟩
  cases h
theorem nodebug {x : Str} (h : ¬(x = "__debug__" ∨ x = "__name__")) : x ≠ "__name__" ∧ (x == ("__debug__" : Str)) = false := ⟨fun e => h (.inr e), by simpa using fun e => h (.inl e)⟩
theorem call_of {n : Nat} (S : Snd G C n) (F : Fits G C c X) {x : Str} {p pos : Pos} {args : List Expr} {e' : E} (h : cE (n + 1) c (.Call (.Name x p) args [] pos) = some e') : PE X (.Call (.Name x p) args [] pos) (tD G (evE C e')) := by
  simp only [cE, List.isEmpty_nil, ↓reduceIte] at h
  split at h
  · cases h
  rename_i hx
  obtain ⟨hn, hd⟩ := nodebug hx
  split at h
  · rename_i hg
    split at h
    · rename_i m hm
      simp only [Option.map_eq_some_iff] at h
      obtain ⟨es, h, rfl⟩ := h
      cases args with
      | nil =>
        cases h
        exact pe_callF0 (F.fn x m hm) (F.gl hg) hd
      | cons a args =>
        obtain ⟨y, zs, h1, h2, e0⟩ := mapO_cons h
        exact pe_callF (F.fn x m hm) (F.gl hg) (args_of S F h) hd (star_of h1 _ _) (stars_of h2 _ _)
    · rename_i hm
      split at h
      · rename_i a
        split at h
        · rename_i o a' ho ha
          cases h
          obtain ⟨hb, hbn⟩ := bi1_ok F ho
          have fm := F.free x hbn hm
          cases hb with
          | b id h1 h2 => exact pe_b1 h2 (F.gl hg) fm h1 (S c a a' ha X F).1 hn hd (star_of ha _ _)
          | t T h1 h2 => exact pe_t1 h2 (F.gl hg) fm h1 (S c a a' ha X F).1 hn hd (star_of ha _ _)
        · cases h
      · rename_i a b
        split at h
        · rename_i hi
          split at h
          · rename_i y p2
            split at h
            · rename_i hy
              rw [Bool.and_eq_true, Option.isNone_iff_eq_none] at hy
              split at h
              · rename_i t a' ht ha
                cases h
                obtain ⟨h1, h2⟩ := tyOf_ok ht
                subst hi
                refine pe_isiF F.K (F.gl hg) (F.free _ (by decide) hm) (F.gl hy.1) (F.free _ h2 hy.2) h1 ?_ ?_ (S c a a' ha X F).1 (star_of ha _ _)
                · rintro rfl; exact absurd h2 (by decide)
                · rw [beq_eq_false_iff_ne]; rintro rfl; exact absurd h2 (by decide)
              · cases h
            · cases h
          · cases h
        · split at h
          · rename_i o a' b' ho ha hb
            cases h
            obtain ⟨⟨id, h1, h2⟩, hbn⟩ := bi2_ok F ho
            exact pe_b2 h2 (F.gl hg) (F.free x hbn hm) h1 (S c a a' ha X F).1 (S c b b' hb X F).1 hn hd (star_of ha _ _) (star_of hb _ _)
          · cases h
      · cases h
  · cases h

theorem iter_of {n : Nat} (S : Snd G C n) (F : Fits G C c X) {pt : Bool} {e tg : Expr} {it : Sd.It} (ht : pt = true → ∃ es k p, tg = .Tuple es k p) (h : cI (cE n c) c pt e = some it) : PI X tg e (tI G pt (evI C it)) := by
  have val : ∀ {e : Expr} {it : Sd.It}, (cE n c e).map Sd.It.val = some it → PI X tg e (tI G pt (evI C it)) := by
    intro e it h
    simp only [Option.map_eq_some_iff] at h
    obtain ⟨a, h, rfl⟩ := h
    exact pi_valF F.K (S c e a h X F).1
  unfold cI at h
  split at h
  · split at h
    · rename_i hf
      subst hf
      split at h
      · rename_i hc
        simp only [Bool.and_eq_true, Option.isNone_iff_eq_none, List.isEmpty_iff] at hc
        obtain ⟨⟨hg, hl⟩, rfl⟩ := hc
        have fm := F.free _ (by decide) hl
        split at h
        · simp only [Option.map_eq_some_iff] at h
          obtain ⟨a', ha, rfl⟩ := h
          exact pi_rngF (F.gl hg) fm (S c _ _ ha X F).1 (star_of ha _ _)
        · split at h
          · rename_i a' b' ha hb
            cases h
            exact pi_rng2F (F.gl hg) fm (S c _ _ ha X F).1 (S c _ _ hb X F).1 (by rw [star_of ha, star_of hb]; rfl) (star_of hb _ _)
          · cases h
        · cases h
      · cases h
    · split at h
      · rename_i hf
        subst hf
        split at h
        · rename_i hc
          simp only [Bool.and_eq_true, Option.isNone_iff_eq_none, List.isEmpty_iff] at hc
          obtain ⟨⟨⟨rfl, hg⟩, hl⟩, rfl⟩ := hc
          obtain ⟨es, k, tp, rfl⟩ := ht rfl
          split at h
          · simp only [Option.map_eq_some_iff] at h
            obtain ⟨a', ha, rfl⟩ := h
            exact pi_enuF F.K (F.gl hg) (F.free _ (by decide) hl) (S c _ _ ha X F).1 (star_of ha _ _)
          · cases h
        · cases h
      · split at h
        · cases h
        · exact val h
  · exact val h
theorem isT_ok {e : Expr} {p : Pat} (h : cPat c e = some p) : p.isT = true → ∃ es k q, e = .Tuple es k q := by
  intro hp
  cases e with
  | Tuple es k pos => exact ⟨_, _, _, rfl⟩
  | _ =>
    simp only [cPat, Option.map_eq_some_iff] at h
    obtain ⟨i, h, rfl⟩ := h
    cases hp

theorem ifs_of {n : Nat} (S : Snd G C n) (F : Fits G C c X) : ∀ {es : List Expr} {es' : List E}, es.length ≤ 1 → mapO (cE n c) es = some es' → PTs X es (tTs G (evTs C es'))
  | [], _, _, h => by cases h; exact pts_nilF
  | [e], _, _, h => by
    obtain ⟨y, zs, h1, h2, rfl⟩ := mapO_cons h
    cases h2
    exact pts_oneF (S c e _ h1 X F).2
  | _ :: _ :: _, _, hl, _ => by simp at hl
end
end Sd

/-! PyI4: every expression that is turned. -/
namespace Sd
open PySem PySem.Spec PyProof.Rows L2

section
variable {G : Gx} {C : Calls} {X : Cx} {c : Cc}
theorem name_of (F : Fits G C c X) {n : Nat} {x : Str} {pos : Pos} {e' : E} (h : cE (n + 1) c (.Name x pos) = some e') : PE X (.Name x pos) (tD G (evE C e')) := by
  simp only [cE] at h
  split at h
  · cases h
  rename_i hx
  have hd : (x == ("__debug__" : Str)) = false := by rw [beq_eq_false_iff_ne]; exact fun e => hx (.inl e)
  have hcd : (x == ("__classdict__" : Str)) = false := by rw [beq_eq_false_iff_ne]; exact fun e => hx (.inr e)
  split at h
  · rename_i hv
    simp only [Option.map_eq_some_iff] at h
    obtain ⟨i, h, rfl⟩ := h
    exact PE.imp (pe_var (i := i) (by rw [F.N]; exact ixOf_ok h) (by rw [F.sc]; exact visB_ok hv) hd hcd) fun _ _ _ q => tD_var q
  · split at h
    · rename_i hg
      simp only [Option.map_eq_some_iff] at h
      obtain ⟨d, h, rfl⟩ := h
      obtain ⟨u, v, hm, r, k⟩ := F.con x d h
      exact PE.imp (pe_glob (F.gl hg) hm r hd) fun _ _ _ q => tD_cst k q
    · cases h
theorem const_of {k : Const} {j : Nat} {pos : Pos} {d : D} (h : cK k = some d) : PE X (.Constant k j pos) (tD G (evE C (.cst d))) := by
  cases k <;> simp only [cK] at h <;> first | contradiction | cases h
  · exact PE.imp pe_non fun _ _ _ q => tD_cst KD.non q
  · exact PE.imp pe_bl fun _ _ _ q => tD_cst (KD.bl _) q
  · exact PE.imp pe_int fun _ _ _ q => tD_cst (KD.int _) q
  · exact PE.imp pe_str fun _ _ _ q => tD_cst (KD.str _) q
theorem cmp1_of {n : Nat} (S : Snd G C n) (F : Fits G C c X) {a b : Expr} {op : CmpOp} {pos : Pos} {e' : E} (h : cE (n + 1) c (.Compare a [op] [b] pos) = some e') : PE X (.Compare a [op] [b] pos) (tD G (evE C e')) ∧ PT X (.Compare a [op] [b] pos) (tDt G (evE C e')) := by
  simp only [cE] at h
  split at h
  · rename_i a' ha
    split at h
    · rename_i hh
      cases h
      obtain ⟨rfl, hb⟩ := hh
      obtain ⟨j, p, rfl⟩ := isNoneK_ok hb
      exact ⟨PE.imp (pe_cmp (pc_isN (S c a a' ha X F).1) (by rfl)) fun _ _ _ q => tD_isN q, PT.imp (pt_cmp (pc_isN (S c a a' ha X F).1) (by rfl)) fun _ _ _ q => tD_isN (tDt_test q)⟩
    split at h
    · rename_i hh
      cases h
      obtain ⟨rfl, hb⟩ := hh
      obtain ⟨j, p, rfl⟩ := isNoneK_ok hb
      exact ⟨PE.imp (pe_cmp (pc_notN (S c a a' ha X F).1) (by rfl)) fun _ _ _ q => tD_notN q, PT.imp (pt_cmp (pc_notN (S c a a' ha X F).1) (by rfl)) fun _ _ _ q => tD_notN (tDt_test q)⟩
    split at h
    · cases h
    rename_i hm
    rw [Bool.not_eq_true] at hm
    split at h
    · rename_i o b' ho hb
      cases h
      exact ⟨PE.imp (pe_cmpR (cmp_of ⟨c, F⟩ ho) (S c a a' ha X F).1 (S c b b' hb X F).1 hm) fun _ _ _ q => tD_o2 o q, PT.imp (pt_cmpR (cmp_of ⟨c, F⟩ ho) (S c a a' ha X F).1 (S c b b' hb X F).1 hm) fun _ _ _ q => boolTest (fun _ _ _ q => tD_o2 o q) q⟩
    · cases h
  · cases h
theorem cmp2_of {n : Nat} (S : Snd G C n) (F : Fits G C c X) {a b d : Expr} {op op2 : CmpOp} {pos : Pos} {e' : E} (h : cE (n + 1) c (.Compare a [op, op2] [b, d] pos) = some e') : PE X (.Compare a [op, op2] [b, d] pos) (tD G (evE C e')) ∧ PT X (.Compare a [op, op2] [b, d] pos) (tDt G (evE C e')) := by
  simp only [cE] at h
  split at h
  · cases h
  rename_i hm
  rw [Bool.not_eq_true] at hm
  split at h
  · rename_i o o2 a' b' d' ho ho2 ha hb hd
    cases h
    exact ⟨PE.imp (pe_chain (cmp_of ⟨c, F⟩ ho) (cmp_of ⟨c, F⟩ ho2) (S c a a' ha X F).1 (S c b b' hb X F).1 (S c d d' hd X F).1 hm) fun _ _ _ q => tD_chn q,
      PT.imp (pt_chain (cmp_of ⟨c, F⟩ ho) (cmp_of ⟨c, F⟩ ho2) (S c a a' ha X F).1 (S c b b' hb X F).1 (S c d d' hd X F).1 hm) fun _ _ _ q => boolTest (fun _ _ _ q => tD_chn q) q⟩
  · cases h
theorem own_ok {N : List Str} {scope : Scope} {ps : List Nat} (h : ps.all (fun i => (ownOf N scope).any fun q => q.2 == i) = true) : ∀ i ∈ ps, i ∈ (ownOf N scope).map (·.2) := by
  intro i hi
  have := List.all_eq_true.mp h i hi
  obtain ⟨q, hq, e⟩ := List.any_eq_true.mp this
  exact List.mem_map.mpr ⟨q, hq, by simpa using e⟩
theorem comp_of {n : Nat} (S : Snd G C n) (F : Fits G C c X) {elt : Expr} {gens : List Comprehension} {scope : Scope} {pos : Pos} {e' : E} (h : cE (n + 1) c (.ListComp elt gens scope pos) = some e') : PE X (.ListComp elt gens scope pos) (tD G (evE C e')) := by
  have hN : X.N.Nodup := by rw [F.N]; exact F.nd
  simp only [cE] at h
  split at h
  · rename_i hb
    have ok : BlkOk X.N X.env.scope scope (ownOf c.N scope) := by rw [F.N, F.sc]; exact blkOk_by hb
    split at h
    · split at h
      · rename_i tg iter ifs as hh
        obtain ⟨rfl, hs, hl⟩ := hh
        split at h
        · rename_i p hp
          split at h
          · rename_i it ifs' elt' h1 h2 h3
            split at h
            · rename_i hown
              cases h
              exact pe_compF F.calm hN (own_ok hown) (iter_of S F (isT_ok hp) h1) ok (fun s H Ca cl fp => (F.inner scope s H Ca cl fp).pat hp) (fun s H Ca cl fp => ifs_of S (F.inner scope s H Ca cl fp) hl h2)
                (fun s H Ca cl fp => (S _ _ _ h3 _ (F.inner scope s H Ca cl fp)).1) (fun x => set_ok hs _ x)
            · cases h
          · cases h
        · cases h
      · cases h
    · split at h
      · rename_i tg iter ifs as tg1 iter1 ifs1 as1 hh
        obtain ⟨rfl, rfl, hs, hs1, hl, hl1⟩ := hh
        split at h
        · rename_i p p1 hp hp1
          split at h
          · rename_i it ifs' it1 ifs1' elt' h1 h2 h4 h5 h3
            split at h
            · rename_i hown
              cases h
              rw [Bool.and_eq_true] at hown
              exact pe_comp2F F.calm hN (own_ok hown.1) (own_ok hown.2) (iter_of S F (isT_ok hp) h1) ok (fun s H Ca cl fp => (F.inner scope s H Ca cl fp).pat hp) (fun s H Ca cl fp => ifs_of S (F.inner scope s H Ca cl fp) hl h2)
                (fun s H Ca cl fp => iter_of S (F.inner scope s H Ca cl fp) (isT_ok hp1) h4) (fun s H Ca cl fp => (F.inner scope s H Ca cl fp).pat hp1) (fun s H Ca cl fp => ifs_of S (F.inner scope s H Ca cl fp) hl1 h5)
                (fun s H Ca cl fp => (S _ _ _ h3 _ (F.inner scope s H Ca cl fp)).1) (fun x => set_ok hs _ x) (fun env x => set_ok hs1 env x)
            · cases h
          · cases h
        · cases h
      · cases h
    · cases h
  · cases h
theorem pe_joinF (FF : Fits G C c X) {o a : Expr} {o' a' : E} {apos pos : Pos} (ho : PE X o (tD G (evE C o'))) (ha : PE X a (tD G (evE C a'))) (hs : starEach [a] X.env = [(false, eval a X.env)]) (hb : attributeBase o "join" X.env (eval o X.env) = eval o X.env) (hl : (apos.endLine == pos.line) = true) : PE X (.Call (.Attribute o "join" apos) [a] [] pos) (tD G (evE C (.o2 .join o' a'))) := by
  refine PE.imp (pe_m1 F.slot_str_join F.type_str_join (mt_joinF FF.K) ho ha hs hb hl) fun σ H Q q => ?_
  obtain ⟨av, ρ, h, σD, d, h', R, RE, e, q⟩ := q
  simp only [evE] at e
  obtain ⟨x, h1, e1, e2⟩ := Out.thn_eq_ok e
  obtain ⟨y, h2, e3, e4⟩ := Out.thn_eq_ok e2
  obtain ⟨e4, rfl⟩ := Out.of_eq_ok e4
  have hx : ∃ s, x = .str s := by
    cases x <;> simp only [o2F] at e4 <;> first | contradiction | exact ⟨_, rfl⟩
  obtain ⟨s, rfl⟩ := hx
  refine ⟨av, ρ, h, σD, _, h1, R, RE, e1, fun ρ1 H1 v S1 R1 r1 => ⟨⟨_, RD.str_inv r1⟩, ?_⟩⟩
  refine ⟨av, ρ1, h1, σD, y, _, R1, RE.step S1, e3, fun ρ2 H2 w S2 R2 r2 => ⟨w, rfl, ?_⟩⟩
  have r1' : RD (G.at av) ρ1 H1 (.str s) v := r1
  exact ⟨av, ρ2, _, .str s, y.keep, d, R2, r1'.step S2, r2.keep, by rw [show D.str s = (D.str s).keep from rfl, o2_keep]; exact e4, fun H' u S3 R3 r3 => q _ _ _ ((S1.trans S2).trans S3) R3 (r3.back (S1.trans S2) S3)⟩
theorem snd (G : Gx) (C : Calls) : ∀ n, Snd G C n := by
  intro n
  induction n with
  | zero => intro c e e' h; cases h
  | succ n S =>
    intro c e e' h X F
    cases e with
    | Constant k j pos =>
      simp only [cE, Option.map_eq_some_iff] at h
      obtain ⟨d, h, rfl⟩ := h
      exact plainT (const_of h) fun _ => rfl
    | Name x pos => exact plainT (name_of F h) fun _ => rfl
    | Tuple es k pos =>
      simp only [cE] at h
      split at h
      · rename_i hl
        simp only [Option.map_eq_some_iff] at h
        obtain ⟨es', h, rfl⟩ := h
        exact plainT (pe_tupF (args_of S F h) (by rw [mapO_len h]; exact hl)) fun _ => rfl
      · cases h
    | List es pos =>
      simp only [cE] at h
      split at h
      · rename_i hl
        simp only [Option.map_eq_some_iff] at h
        obtain ⟨es', h, rfl⟩ := h
        exact plainT (pe_lstF (args_of S F h) (by rw [mapO_len h]; exact hl)) fun _ => rfl
      · cases h
    | BinOp a op b pos =>
      simp only [cE] at h
      split at h
      · rename_i o a' b' ho ha hb
        cases h
        exact plainT (PE.imp (pe_op (op_of ⟨c, F⟩ ho) (S c a a' ha X F).1 (S c b b' hb X F).1) fun _ _ _ q => tD_o2 o q) fun _ => rfl
      · cases h
    | UnaryOp op a pos =>
      simp only [cE] at h
      split at h
      · rename_i a' ha
        cases h
        exact plainT (PE.imp (pe_un un_negF (S c a a' ha X F).1) fun _ _ _ q => tD_o1 .neg q) fun _ => rfl
      · rename_i a' ha
        cases h
        exact ⟨PE.imp (pe_not (S c a a' ha X F).1) fun _ _ _ q => tD_not q, PT.imp (pt_not (S c a a' ha X F).2) fun _ _ _ q => tDt_not q⟩
      · cases h
    | BoolOp op vs pos =>
      simp only [cE] at h
      split at h
      · rename_i es hes
        have := fold_of S F op pos hes h
        exact ⟨this.1, pt_of_pw this.2⟩
      · cases h
    | Compare a ops bs pos =>
      cases ops with
      | nil => simp [cE] at h
      | cons op ops =>
        cases ops with
        | nil =>
          cases bs with
          | nil => simp [cE] at h
          | cons b bs =>
            cases bs with
            | nil => exact cmp1_of S F h
            | cons _ _ => simp [cE] at h
        | cons op2 ops =>
          cases ops with
          | nil =>
            cases bs with
            | nil => simp [cE] at h
            | cons b bs =>
              cases bs with
              | nil => simp [cE] at h
              | cons d bs =>
                cases bs with
                | nil => exact cmp2_of S F h
                | cons _ _ => simp [cE] at h
          | cons _ _ => simp [cE] at h
    | IfExp t a b pos =>
      simp only [cE] at h
      split at h
      · rename_i t' a' b' ht ha hb
        cases h
        have st := S c t t' ht X F
        have sa := S c a a' ha X F
        have sb := S c b b' hb X F
        exact ⟨PE.imp (pe_ifExp st.2 sa.1 sb.1) fun _ _ _ q => tD_ife q, PT.imp (pt_ifExpF st.2 sa.2 sb.2) fun _ _ _ q => tDt_ife q⟩
      · cases h
    | Call f args kws pos =>
      refine plainT ?_ fun _ => rfl
      have hk : kws = [] := by
        cases kws with
        | nil => rfl
        | cons k ks => simp [cE] at h
      subst hk
      cases f with
      | Name x p => exact call_of S F h
      | Attribute o m apos =>
        simp only [cE, List.isEmpty_nil, ↓reduceIte] at h
        split at h
        · rename_i hm
          obtain ⟨rfl, hb, hl⟩ := hm
          split at h
          · split at h
            · rename_i o' a' ho ha
              cases h
              exact pe_joinF F (S c _ _ ho X F).1 (S c _ _ ha X F).1 (star_of ha _ _) (base_ok hb _ _ _) hl
            · cases h
          · cases h
        · split at h
          · rename_i hm
            obtain ⟨rfl, hb, hl, hn⟩ := hm
            cases args with
            | cons _ _ => simp at hn
            | nil =>
              simp only [Option.map_eq_some_iff] at h
              obtain ⟨o', ho, rfl⟩ := h
              exact PE.imp (pe_bm0 PySem.F.plainAttrs_list PySem.F.slot_list_pop PySem.F.type_list_pop mt_pop (S c _ _ ho X F).1 (base_ok hb _ _ _) hl) fun _ _ _ q => tD_pop F.K q
          · cases h
      | _ => simp [cE] at h
    | Subscript a i pos =>
      refine plainT ?_ fun _ => rfl
      simp only [cE] at h
      split at h
      · rename_i a' ha
        have sa := (S c a a' ha X F).1
        split at h
        · rename_i lo hi st p2
          cases st with
          | some st => cases h
          | none =>
            simp only at h
            split at h
            · rename_i l u hl hu
              cases h
              exact PE.imp (pe_slice (sl_F F.K) sa (opt_of S F hl) (opt_of S F hu)) fun _ _ _ q => tD_slice q
            · cases h
        · rename_i hns
          split at h
          · rename_i i' hi
            cases h
            refine PE.imp (pe_ix (ix_F F.K F.units) sa (S c i i' hi X F).1 ?_) fun _ _ _ q => tD_o2 .idx q
            intro o v
            cases i <;> first | rfl | (exact absurd rfl (hns _ _ _ _))
          · cases h
      · cases h
    | ListComp elt gens scope pos => exact plainT (comp_of S F h) fun _ => rfl
    | _ => simp [cE] at h
end
end Sd

/-! PyJ: statements. -/
namespace Sd
open PySem PySem.Spec PyProof.Rows L2

/-- what is reached behind a statement -/
def EndF (G : Gx) (ρ : List Addr) (h : Hh) (H0 H : Hp) (D : Ends) : Fl → Prop
  | .nx σ' => ∀ σ1, RelE G ρ H σ' σ1 → D.nx σ1 H
  | .br σ' => ∀ σ1, RelE G ρ H σ' σ1 → D.bk σ1 H
  | .ct σ' => ∀ σ1, RelE G ρ H σ' σ1 → D.ct σ1 H
  | .rt d => ∀ v, RV G ρ h H0 H d v → D.rt v H
def tS (G : Gx) (m : Env → Hh → Out Fl) : TS := fun D σ H => ∃ av ρ h σD f h', RelH (G.at av) ρ h H ∧ RelE (G.at av) ρ H σD σ ∧ m σD h = .ok f h' ∧
  ∀ ρ' H', Stp ρ ρ' H H' → RelH (G.at av) ρ' h' H' → EndF (G.at av) ρ' h' H H' D f
theorem EndF.back {G : Gx} {ρ0 ρ ρ' : List Addr} {h : Hh} {H0 H1 H : Hp} {D : Ends} {f : Fl} (s : Stp ρ0 ρ H0 H1) (s2 : Stp ρ ρ' H1 H) (q : EndF G ρ' h H0 H D f) : EndF G ρ' h H1 H D f := by
  cases f with
  | rt d => exact fun v r => q v (r.back s s2)
  | _ => exact q

section
variable {G : Gx} {C : Calls} {D : Ends} {σ : L2.St} {H : Hp}
theorem tS_nil (q : tS G (evSs C []) D σ H) : tNext D σ H := by
  obtain ⟨av, ρ, h, σD, f, h', R, RE, e, q⟩ := q
  simp only [evSs] at e
  cases e
  exact q _ _ (Stp.refl _ _) R σ RE
theorem tS_cons {s : S} {ss : List S} (q : tS G (evSs C (s :: ss)) D σ H) : tSeq (tS G (evS C s)) (tS G (evSs C ss)) D σ H := by
  obtain ⟨av, ρ, h, σD, f, h', R, RE, e, q⟩ := q
  simp only [evSs] at e
  obtain ⟨f1, h1, e1, e2⟩ := Out.thn_eq_ok e
  refine ⟨av, ρ, h, σD, f1, h1, R, RE, e1, fun ρ1 H1 S1 R1 => ?_⟩
  cases f1 with
  | nx σ1 =>
    intro σ2 R2
    exact ⟨av, ρ1, h1, σ1, f, h', R1, R2, e2, fun ρ2 H2 S2 R3 => (q _ _ (S1.trans S2) R3).back S1 S2⟩
  | br σ1 => cases e2; exact q _ _ S1 R1
  | ct σ1 => cases e2; exact q _ _ S1 R1
  | rt d => cases e2; exact q _ _ S1 R1
theorem tS_set {p : Pat} {e : E} (q : tS G (evS C (.set p e)) D σ H) : tAsg (tD G (evE C e)) (tP G p) D σ H := by
  obtain ⟨av, ρ, h, σD, f, h', R, RE, e, q⟩ := q
  simp only [evS] at e
  obtain ⟨x, h1, e1, e2⟩ := Out.thn_eq_ok e
  split at e2
  · rename_i σ1 hs
    cases e2
    exact ⟨av, ρ, h, σD, x, _, R, RE, e1, fun ρ1 H1 v S1 R1 r1 => ⟨av, ρ1, σD, x.keep, σ1, RE.step S1, .inl r1.keep, hs, fun σ2 R2 _ => q _ _ S1 R1 σ2 R2⟩⟩
  · cases e2
theorem tP_name {i : Nat} {v : V} {Q : L2.St → Hp → Prop} (q : tP G (.n i) v σ H Q) : gName i v σ H Q := by
  obtain ⟨av, ρ, σD, d, σ', RE, ri, e, q⟩ := q
  simp only [setP] at e
  split at e
  · cases e
    rcases ri with ri | ⟨z, _⟩
    · exact q _ (RE.set ri) fun vs hv => wipe_set (hv i (by simp [Pat.ix]))
    · cases z
  · cases e
theorem tS_par {i j : Nat} {a b : E} (q : tS G (evS C (.par i j a b)) D σ H) : tPar i j (tCons (tD G (evE C a)) (tCons (tD G (evE C b)) tNil)) D σ H := by
  obtain ⟨av, ρ, h, σD, f, h', R, RE, e, q⟩ := q
  simp only [evS] at e
  obtain ⟨x, h1, e1, e2⟩ := Out.thn_eq_ok e
  obtain ⟨y, h2, e3, e4⟩ := Out.thn_eq_ok e2
  split at e4
  · cases e4
    refine ⟨av, ρ, h, σD, x, h1, R, RE, e1, fun ρ1 H1 v S1 R1 r1 => ⟨av, ρ1, h1, σD, y, _, R1, RE.step S1, e3, fun ρ2 H2 w S2 R2 r2 => ⟨v, w, rfl, ?_⟩⟩⟩
    exact q _ _ (S1.trans S2) R2 _ ((((RE.step S1).step S2).set (r1.keep.step S2)).set r2.keep)
  · cases e4
theorem tS_exp {e : E} (q : tS G (evS C (.exp e)) D σ H) : tDrop (tD G (evE C e)) D σ H := by
  obtain ⟨av, ρ, h, σD, f, h', R, RE, e, q⟩ := q
  simp only [evS] at e
  obtain ⟨x, h1, e1, e2⟩ := Out.thn_eq_ok e
  cases e2
  exact ⟨av, ρ, h, σD, x, _, R, RE, e1, fun ρ1 H1 v S1 R1 r1 => q _ _ S1 R1 σ (RE.step S1)⟩
theorem tS_ret {e : E} (q : tS G (evS C (.ret e)) D σ H) : tRet (tD G (evE C e)) D σ H := by
  obtain ⟨av, ρ, h, σD, f, h', R, RE, e, q⟩ := q
  simp only [evS] at e
  obtain ⟨x, h1, e1, e2⟩ := Out.thn_eq_ok e
  cases e2
  exact ⟨av, ρ, h, σD, x, _, R, RE, e1, fun ρ1 H1 v S1 R1 r1 => q _ _ S1 R1 v r1⟩
theorem tS_retn (q : tS G (evS C .retn) D σ H) : tRetN D σ H := by
  obtain ⟨av, ρ, h, σD, f, h', R, RE, e, q⟩ := q
  simp only [evS] at e
  cases e
  exact q _ _ (Stp.refl _ _) R .non RD.non.rv
theorem tS_pass (q : tS G (evS C .pass) D σ H) : tNext D σ H := by
  obtain ⟨av, ρ, h, σD, f, h', R, RE, e, q⟩ := q
  simp only [evS] at e
  cases e
  exact q _ _ (Stp.refl _ _) R σ RE
theorem tS_cond {c : E} {a b : List S} (q : tS G (evS C (.cond c a b)) D σ H) : tIfS (tDt G (evE C c)) (tS G (evSs C a)) (tS G (evSs C b)) D σ H := by
  obtain ⟨av, ρ, h, σD, f, h', R, RE, e, q⟩ := q
  simp only [evS] at e
  obtain ⟨x, h1, e1, e2⟩ := Out.thn_eq_ok e
  split at e2
  · exact ⟨av, ρ, h, σD, true, h1, R, RE, e1, fun ρ1 H1 S1 R1 => iteT ⟨av, ρ1, h1, σD, f, h', R1, RE.step S1, e2, fun ρ2 H2 S2 R2 => (q _ _ (S1.trans S2) R2).back S1 S2⟩⟩
  · exact ⟨av, ρ, h, σD, false, h1, R, RE, e1, fun ρ1 H1 S1 R1 => iteF ⟨av, ρ1, h1, σD, f, h', R1, RE.step S1, e2, fun ρ2 H2 S2 R2 => (q _ _ (S1.trans S2) R2).back S1 S2⟩⟩
  · cases e2
theorem tS_whl {c : E} {a : List S} (q : tS G (evS C (.whl c a)) D σ H) : tWhile (tDt G (evE C c)) (tS G (evSs C a)) D σ H := by
  obtain ⟨av, ρ, h, σD, f, h', R, RE, e, q⟩ := q
  simp only [evS, whileF] at e
  split at e
  · rename_i hn
    generalize Classical.choose hn = n at e
    refine ⟨fun m σ1 H1 => ∃ ρ1 h1 σD1, Stp ρ ρ1 H H1 ∧ RelH (G.at av) ρ1 h1 H1 ∧ RelE (G.at av) ρ1 H1 σD1 σ1 ∧ whileN (fun σ h => evE C c σ h) (fun σ h => evSs C a σ h) m σD1 h1 = .ok f h', ⟨n, ρ, h, σD, Stp.refl _ _, R, RE, e⟩, ?_⟩
    rintro m σ1 H1 ⟨ρ1, h1, σD1, S1, R1, E1, e1⟩
    cases m with
    | zero => simp [whileN] at e1
    | succ m =>
      simp only [whileN] at e1
      obtain ⟨t, h2, e2, e3⟩ := Out.thn_eq_ok e1
      split at e3
      · obtain ⟨g, h3, e4, e5⟩ := Out.thn_eq_ok e3
        refine ⟨av, ρ1, h1, σD1, true, h2, R1, E1, e2, fun ρ2 H2 S2 R2 => iteT ⟨fun σ3 H3 => ∃ ρ3 h4 σD3, Stp ρ ρ3 H H3 ∧ RelH (G.at av) ρ3 h4 H3 ∧ RelE (G.at av) ρ3 H3 σD3 σ3 ∧ whileN (fun σ h => evE C c σ h) (fun σ h => evSs C a σ h) m σD3 h4 = .ok f h',
          fun σ3 H3 w => ⟨m, Nat.lt_succ_self m, w⟩, ?_⟩⟩
        refine ⟨av, ρ2, h2, σD1, g, h3, R2, E1.step S2, e4, fun ρ3 H3 S3 R3 => ?_⟩
        cases g with
        | nx σ4 => exact fun σ5 R5 => ⟨ρ3, h3, σ4, (S1.trans S2).trans S3, R3, R5, e5⟩
        | ct σ4 => exact fun σ5 R5 => ⟨ρ3, h3, σ4, (S1.trans S2).trans S3, R3, R5, e5⟩
        | br σ4 => cases e5; exact q _ _ ((S1.trans S2).trans S3) R3
        | rt d => cases e5; exact fun v r => q _ _ ((S1.trans S2).trans S3) R3 v (r.back (S1.trans S2) S3)
      · cases e3
        exact ⟨av, ρ1, h1, σD1, false, _, R1, E1, e2, fun ρ2 H2 S2 R2 => iteF (q _ _ (S1.trans S2) R2 σ1 (E1.step S2))⟩
      · cases e3
  · cases e
theorem forL_nil {body : Sd.D → Env → Hh → Out Fl} {okh : Hh → Prop} {σ : Env} {h h' : Hh} {f : Fl} (e : forL body okh [] σ h = .ok f h') : okh h ∧ f = .nx σ ∧ h' = h := by
  unfold forL at e
  split at e
  · cases e; exact ⟨by assumption, rfl, rfl⟩
  · cases e
theorem forL_cons {body : Sd.D → Env → Hh → Out Fl} {okh : Hh → Prop} {x : Sd.D} {xs : List Sd.D} {σ : Env} {h h' : Hh} {f : Fl} (e : forL body okh (x :: xs) σ h = .ok f h') :
    okh h ∧ ∃ g h1, body x σ h = .ok g h1 ∧ (match g with
      | .nx σ1 => forL body okh xs σ1 h1
      | .ct σ1 => forL body okh xs σ1 h1
      | .br σ1 => .ok (.nx σ1) h1
      | .rt v => .ok (.rt v) h1) = .ok f h' := by
  unfold forL at e
  split at e
  · obtain ⟨g, h1, e1, e2⟩ := Out.thn_eq_ok e
    refine ⟨by assumption, g, h1, e1, ?_⟩
    cases g <;> exact e2
  · cases e
theorem tS_for {p : Pat} {it : Sd.It} {a : List S} (q : tS G (evS C (.forr p it a)) D σ H) : tFor (tI G p.isT (evI C it)) (tP G p) (tS G (evSs C a)) D σ H := by
  obtain ⟨av, ρ, h, σD, f, h', R, RE, e, q⟩ := q
  simp only [evS] at e
  obtain ⟨⟨xs, ws⟩, h1, e1, e2⟩ := Out.thn_eq_ok e
  refine ⟨av, ρ, h, σD, xs, ws, h1, R, RE, e1, fun ρ1 H1 J S1 R1 WJ => ?_⟩
  generalize hb : (fun d σ h => match setP p d σ with
      | some σ1 => evSs C a σ1 h
      | none => Out.bad) = body at e2
  refine ⟨fun i m σ2 H2 => m = xs.length - i ∧ i ≤ xs.length ∧ ∃ ρ2 h2 σD2, Stp ρ1 ρ2 H1 H2 ∧ RelH (G.at av) ρ2 h2 H2 ∧ RelE (G.at av) ρ2 H2 σD2 σ2 ∧ forL body (Wat ws h1) (xs.drop i) σD2 h2 = .ok f h',
    ⟨xs.length, rfl, Nat.zero_le _, ρ1, h1, σD, Stp.refl _ _, R1, RE.step S1, e2⟩, ?_⟩
  rintro i m σ2 H2 ⟨hm, hi, ρ2, h2, σD2, S2, R2, E2, e3⟩
  by_cases hlt : i < xs.length
  · rw [List.drop_eq_getElem_cons hlt] at e3
    obtain ⟨hw, g, h3, e4, e5⟩ := forL_cons e3
    obtain ⟨jg, jy⟩ := WJ.go i xs[i] (List.getElem?_eq_getElem hlt) av ρ2 h2 H2 (fun b hb => .inl hb) S2.a R2 hw
    refine .inr ⟨jg, fun σ3 H3 => ∃ ρ3 h4 σD3, Stp ρ1 ρ3 H1 H3 ∧ RelH (G.at av) ρ3 h4 H3 ∧ RelE (G.at av) ρ3 H3 σD3 σ3 ∧ forL body (Wat ws h1) (xs.drop (i + 1)) σD3 h4 = .ok f h',
      fun σ3 H3 w => ⟨xs.length - (i + 1), by omega, rfl, hlt, w⟩, fun x H3 y => ?_⟩
    obtain ⟨S3, R3, ri⟩ := jy x H3 y
    rw [← hb] at e4
    simp only at e4
    split at e4
    · rename_i σ4 hs
      refine ⟨av, ρ2, σD2, xs[i], σ4, E2.step S3, ri, hs, fun σ5 R5 _ => ⟨av, ρ2, h2, σ4, g, h3, R3, R5, e4, fun ρ6 H6 S6 R6 => ?_⟩⟩
      have S := (S2.trans S3).trans S6
      cases g with
      | nx σ7 => exact fun σ8 R8 => ⟨ρ6, h3, σ7, S, R6, R8, e5⟩
      | ct σ7 => exact fun σ8 R8 => ⟨ρ6, h3, σ7, S, R6, R8, e5⟩
      | br σ7 => cases e5; exact q _ _ (S1.trans S) R6
      | rt d => cases e5; exact fun v r => q _ _ (S1.trans S) R6 v (r.back (S1.trans (S2.trans S3)) S6)
    · cases e4
  · have hi' : i = xs.length := by omega
    subst hi'
    rw [List.drop_length] at e3
    obtain ⟨hw, rfl, rfl⟩ := forL_nil e3
    exact .inl ⟨WJ.stop av ρ2 _ H2 (fun b hb => .inl hb) S2.a R2 hw, q _ _ (S1.trans S2) R2 σ2 E2⟩
theorem tS_seti {o i e : E} (q : tS G (evS C (.seti o i e)) D σ H) : tAsg (tD G (evE C e)) (gSub (tD G (evE C o)) (tD G (evE C i)) rSetL) D σ H := by
  obtain ⟨av, ρ, h, σD, f, h', R, RE, e, q⟩ := q
  simp only [evS] at e
  obtain ⟨x, h1, e1, e2⟩ := Out.thn_eq_ok e
  obtain ⟨y, h2, e3, e4⟩ := Out.thn_eq_ok e2
  obtain ⟨z, h3, e5, e6⟩ := Out.thn_eq_ok e4
  split at e6
  · rename_i l k
    split at e6
    · rename_i xs hl
      split at e6
      · rename_i j hj
        cases e6
        refine ⟨av, ρ, h, σD, x, h1, R, RE, e1, fun ρ1 H1 v S1 R1 r1 => ⟨av, ρ1, h1, σD, _, h2, R1, RE.step S1, e3, fun ρ2 H2 w S2 R2 r2 => ⟨av, ρ2, h2, σD, _, h3, R2, (RE.step S1).step S2, e5, fun ρ3 H3 u S3 R3 r3 => ?_⟩⟩⟩
        have r2' : RD (G.at av) ρ2 H2 (.ref l) w := r2
        have r3' : RD (G.at av) ρ3 H3 (.int k) u := r3
        have r2'' := r2'.step S3
        cases r3'
        cases r2'' with
        | @ref _ p hp =>
          obtain ⟨ob, eo, ro⟩ := R3.lt hp
          rw [hl] at eo; cases eo
          obtain ⟨vs, ev, rs⟩ := ro
          have hm : p ∈ ρ3 := List.mem_of_getElem? hp
          have S4 : Stp ρ3 ρ3 H3 (upd H3 p (.lst (vs.set j v))) := Stp.write hm
          have rx := ((r1.keep.step S2).step S3).step S4
          have R4 : RelH (G.at av) ρ3 (h3.set l (.lst (xs.set j x.keep))) (upd H3 p (.lst (vs.set j v))) := R3.write hp ⟨_, upd_same, RDs.set j (rs.step S4) rx⟩
          have S := ((S1.trans S2).trans S3).trans S4
          refine ⟨p, vs, k, j, rfl, rfl, ev, ?_, q _ _ S R4 σ (RE.step S)⟩
          rw [← rs.length]
          exact hj
      · cases e6
    · cases e6
  · cases e6
end
end Sd

/-! PyJ2: append, extend, pop. -/
namespace Sd
open PySem PySem.Spec PyProof.Rows L2

theorem extend_any (l : Addr) (items : Array Value) (n : Nat) (b : Addr) (items2 : Array Value) (n2 : Nat) (dd2 : Option Addr) (sl2 : Array (Option Value)) (hc0 : ¬(!items.isEmpty && Builtin.List.listTooLong (items.size + items2.size)) = true) (hc1 : items.size ≤ sizeLine)
    (hz' : (items ++ items2).size ≤ sizeLine + 1) :
    Meets (Builtin.«list.extend» ⟨[.ref l, .ref b], []⟩) (fun _ R s => s.heap.get? l = some { cls := .type "list", data := .seq items n } ∧ s.heap.get? b = some { cls := .type "list", dict := dd2, data := .seq items2 n2, slots := sl2 } ∧
      R (.ok (.ret Value.none)) { s with heap := s.heap.update l (Obj.mapSeq fun x => x ++ items2) }) :=
  .of_wp fun prog w A R s hh => by
    obtain ⟨hp, g, d, tk, os⟩ := s
    obtain ⟨hl, hb, h⟩ := hh
    have k1 := AutoSeq1.idx_int
    have k2 := AutoSeq1.sub_tuple_tuple
    have k3 := AutoSeq1.sub_list_list
    have k4 := AutoSeq1.sub_tuple_list
    have k5 := AutoSeq1.sub_list_tuple
    wp_walk using (wpAny_updateSeq hl rfl (hz := hc1) (_hz' := hz')), AutoSeq1.wpAny_loadPart' hl, AutoSeq1.wpAny_loadPart' hb
    exact ⟨_, rfl, h⟩
def rExtF (K : PySem.W.Frag) : V → List V → Hp → VK → Prop := fun x vs H Q => ∃ l b xs zs, x = .ref l ∧ vs = [.ref b] ∧ H l = some (.lst xs) ∧ SqL K H b zs ∧ xs.length + zs.length ≤ sizeLine ∧ Q .non (upd H l (.lst (xs ++ zs)))
theorem mt_extF {X : Cx} : MtR X "list.extend" (rExtF X.K) := by
  intro pins s σ H x vs v us Q I rx rv h
  obtain ⟨l, b, xs, zs, rfl, rfl, hH, hB, hz, q⟩ := h
  cases rx
  obtain ⟨u, rfl, ru⟩ := rv.one
  cases ru
  obtain ⟨z, its, n, r, hl, e⟩ := I.lstM hH
  obtain ⟨its2, r2, p2, z2⟩ := I.list hB
  obtain ⟨⟨cls2, dd2, data2, sl2⟩, e2, hc2, n2, hd2⟩ := id p2.isList
  simp only at hc2 hd2
  subst hc2 hd2
  have l2 := r2.length
  have hsz : its.toArray.size + its2.toArray.size ≤ sizeLine := by rw [List.size_toArray, List.size_toArray]; omega
  have hlong : ¬ (!its.toArray.isEmpty && Builtin.List.listTooLong (its.toArray.size + its2.toArray.size)) = true := by
    rw [notLongL hsz, Bool.and_false]
    exact Bool.false_ne_true
  refine call_meets F.slot_list_extend ⟨_, e, rfl⟩ F.entry_list_extend (F.args_list_extend_2 _ _) (extend_any l its.toArray n b its2.toArray n2 dd2 sl2 hlong (by omega) (by rw [Array.size_append]; omega)) ⟨e, e2, ?_⟩
  refine ⟨.non, _, I.lset (its' := its ++ its2) hH e (by simp) (r.append r2) ?_, rfl, q⟩
  rw [List.length_append]
  omega

section
variable {G : Gx} {C : Calls} {X : Cx} {D : Ends} {σ : L2.St} {H : Hp}
theorem tS_app {o e : E} (hK : X.K = G.K) (q : tS G (evS C (.app o e)) D σ H) : tDrop (tBM X.K "list" rAppend (tD G (evE C o)) (tCons (tD G (evE C e)) tNil)) D σ H := by
  obtain ⟨av, ρ, h, σD, f, h', R, RE, e, q⟩ := q
  simp only [evS] at e
  obtain ⟨y, h1, e1, e2⟩ := Out.thn_eq_ok e
  split at e2
  · rename_i l
    split at e2
    · rename_i ys hl1
      obtain ⟨x, h2, e3, e4⟩ := Out.thn_eq_ok e2
      split at e4
      · rename_i xs hl
        split at e4
        · rename_i hlt
          cases e4
          refine ⟨av, ρ, h, σD, _, h1, R, RE, e1, fun ρ1 H1 v S1 R1 r1 => ?_⟩
          have r1' : RD (G.at av) ρ1 H1 (.ref l) v := r1
          obtain ⟨p, vs, rfl, hp, ev, rs⟩ := R1.lst r1' hl1
          refine ⟨.inl ⟨rfl, vs, .inl (.inl ev)⟩, av, ρ1, h1, σD, x, h2, R1, RE.step S1, e3, fun ρ2 H2 w S2 R2 r2 => ?_⟩
          obtain ⟨p2, ws, e5, hp2, ev2, rs2⟩ := R2.lst (r1'.step S2) hl
          cases e5
          obtain ⟨S3, R3⟩ := lst_put R2 hp2 (rs2.append (.cons r2.keep .nil))
          have S := (S1.trans S2).trans S3
          exact ⟨p, ws, w, rfl, rfl, ev2, by rw [← rs2.length, line_eq]; exact hlt, q _ _ S R3 σ (RE.step S)⟩
        · cases e4
      · cases e4
    · cases e2
  · cases e2
theorem tS_ext {o e : E} (hK : X.K = G.K) (q : tS G (evS C (.ext o e)) D σ H) : tDrop (tBM X.K "list" (rExtF X.K) (tD G (evE C o)) (tCons (tD G (evE C e)) tNil)) D σ H := by
  obtain ⟨av, ρ, h, σD, f, h', R, RE, e, q⟩ := q
  simp only [evS] at e
  obtain ⟨y, h1, e1, e2⟩ := Out.thn_eq_ok e
  split at e2
  · rename_i l
    split at e2
    · rename_i ys hl1
      obtain ⟨x, h2, e3, e4⟩ := Out.thn_eq_ok e2
      split at e4
      · rename_i xs zs hl hz
        split at e4
        · rename_i hlt
          cases e4
          refine ⟨av, ρ, h, σD, _, h1, R, RE, e1, fun ρ1 H1 v S1 R1 r1 => ?_⟩
          have r1' : RD (G.at av) ρ1 H1 (.ref l) v := r1
          obtain ⟨p, vs, rfl, hp, ev, rs⟩ := R1.lst r1' hl1
          refine ⟨.inl ⟨rfl, vs, .inl (.inl ev)⟩, av, ρ1, h1, σD, x, h2, R1, RE.step S1, e3, fun ρ2 H2 w S2 R2 r2 => ?_⟩
          obtain ⟨p2, ws, e5, hp2, ev2, rs2⟩ := R2.lst (r1'.step S2) hl
          cases e5
          obtain ⟨b, us, rfl, sq, rs3⟩ := r2.keep.items_inv R2 (by rw [items_keep]; exact hz)
          obtain ⟨S3, R3⟩ := lst_put R2 hp2 (rs2.append rs3)
          have S := (S1.trans S2).trans S3
          exact ⟨p, b, ws, us, rfl, rfl, ev2, by rw [hK]; exact sq, by rw [← rs2.length, ← rs3.length, line_eq]; exact hlt, q _ _ S R3 σ (RE.step S)⟩
        · cases e4
      · cases e4
    · cases e2
  · cases e2
end
end Sd

/-! PyJ3: from the program's text to ours: statements. -/
namespace Sd
open PySem PySem.Spec PyProof.Rows L2

def wrapA (c : Cc) (p : Pat) (e : E) : E := match p with
  | .n i => if c.alc.contains i then .alc e else e
  | _ => e
def swB (c : Cc) (y : Str) (py : Pos) : Expr → Bool
  | .ListComp _ _ scope pos => (c.sc.names.lookup y == some .local) && (py.line == pos.line) && !(scope.names.any fun (n, k) => n == y && (k == .local || k == .cell))
  | _ => false
def isComp : Expr → Bool
  | .ListComp _ _ _ _ => true
  | _ => false
def locB (c : Cc) (x : Str) : Bool := c.sc.names.lookup x == some .local
def cA (ce : Expr → Option E) (c : Cc) (tg e : Expr) : Option S := match tg with
  | .Tuple ts _ _ => match e with
    | .Tuple vs _ _ => if vs.all (foldedForSure 8) then (match cPat c tg, ce e with
        | some p, some e' => some (.set p e')
        | _, _ => none)
      else if vs.all (constantsAlone 8) then none else match ts, vs with
        | [.Name x px, .Name y py], [a, b] => if locB c x && locB c y && (py.line == px.line) && !(x == y) then match ixOf c.N x, ixOf c.N y, ce a, ce b with
            | some i, some j, some a', some b' => if i = j then none else some (.par i j (wrapA c (.n i) a') (wrapA c (.n j) b'))
            | _, _, _, _ => none
          else none
        | _, _ => none
    | _ => match cPat c tg, ce e with
      | some p, some e' => some (.set p e')
      | _, _ => none
  | .Name _ _ => match cPat c tg, ce e with
    | some p, some e' => some (.set p (wrapA c p e'))
    | _, _ => none
  | .Subscript o i _ => match ce o, ce i, ce e with
    | some o', some i', some e' => some (.seti o' i' e')
    | _, _, _ => none
  | _ => none
def cX (ce : Expr → Option E) : Expr → Option S
  | .Call f args kws cpos => match f with
    | .Attribute o m apos => if m = "append" ∨ m = "extend" then (if baseOk o && (apos.endLine == cpos.line) && kws.isEmpty then match args with
        | [a] => match ce o, ce a with
          | some o', some a' => if m = "append" then some (.app o' a') else some (.ext o' a')
          | _, _ => none
        | _ => none
        else none)
      else (ce (.Call f args kws cpos)).map .exp
    | f => (ce (.Call f args kws cpos)).map .exp
  | e => if isComp e then none else (ce e).map .exp
def cS : Nat → Cc → Stmt → Option S
  | 0, _, _ => none
  | n + 1, c, st => match st with
    | .Pass _ => some .pass
    | .Return none _ => some .retn
    | .Return (some e) _ => (cE n c e).map .ret
    | .Assign [tg] e _ => cA (cE n c) c tg e
    | .Expr e _ => cX (cE n c) e
    | .If t a b _ => match cE n c t, mapO (cS n c) a, mapO (cS n c) b with
      | some t', some a', some b' => some (.cond t' a' b')
      | _, _, _ => none
    | .While t a [] _ => match cE n c t, mapO (cS n c) a with
      | some t', some a' => some (.whl t' a')
      | _, _ => none
    | .For tg iter a [] _ => if isSet iter then none else match cPat c tg with
      | some p => match cI (cE n c) c p.isT iter, mapO (cS n c) a with
        | some it, some a' => some (.forr p it a')
        | _, _ => none
      | none => none
    | _ => none

structure FitsS (G : Gx) (C : Calls) (c : Cc) (X : Cx) : Prop where
  fit : Fits G C c X
  kind : X.env.scope.kind = .function
  blk : c.blk = none
def SndS (G : Gx) (C : Calls) (n : Nat) : Prop := ∀ (c : Cc) (st : Stmt) (s : S), cS n c st = some s → ∀ X, FitsS G C c X → PS X st (tS G (evS C s))
section
variable {G : Gx} {C : Calls} {X : Cx} {c : Cc}
theorem stmts_of {n : Nat} (T : SndS G C n) (F : FitsS G C c X) : ∀ {ss : List Stmt} {ss' : List S}, mapO (cS n c) ss = some ss' → PSs X ss (tS G (evSs C ss'))
  | [], _, h => by cases h; exact PSs.imp pss_nil fun _ _ _ q => tS_nil q
  | s :: ss, _, h => by
    obtain ⟨y, zs, h1, h2, rfl⟩ := mapO_cons h
    exact PSs.imp (pss_cons (T c s _ h1 X F) (stmts_of T F h2)) fun _ _ _ q => tS_cons q
theorem tD_mono {m : Env → Hh → Out D} {σ : L2.St} {H : Hp} {Q Q' : VK} (q : tD G m σ H Q) (h : ∀ v H, Q v H → Q' v H) : tD G m σ H Q' := by
  obtain ⟨av, ρ, h', σD, d, h'', R, RE, e, q⟩ := q
  exact ⟨av, ρ, h', σD, d, h'', R, RE, e, fun ρ1 H1 v S1 R1 r1 => h _ _ (q ρ1 H1 v S1 R1 r1)⟩
theorem tD_wrap {p : Pat} {e : E} {σ : L2.St} {H : Hp} {Q : VK} (q : tD G (evE C (wrapA c p e)) σ H Q) : tD G (evE C e) σ H Q := by
  unfold wrapA at q
  split at q
  · split at q
    · exact tD_alc q
    · exact q
  · exact q
theorem swaps_eq {n : Nat} {e : Expr} {e' : E} (F : FitsS G C c X) (h : cE n c e = some e') (y : Str) (py : Pos) (l : Nat) : swapsWith e (some (.Name y py)) l X.env = pure (swB c y py e) := by
  cases n with
  | zero => cases h
  | succ n =>
    have hb : X.env.blockKind = .function := by unfold PySem.Env.blockKind; rw [F.kind]; rfl
    cases e with
    | ListComp elt gens scope pos =>
      have hk : X.env.kindOf y = c.sc.names.lookup y := by unfold PySem.Env.kindOf; rw [F.fit.sc]
      unfold swapsWith swB
      simp only [hb, hk, Expr.pos]
      rfl
    | SetComp => simp [cE] at h
    | DictComp => simp [cE] at h
    | _ => rfl
theorem swaps_not {n : Nat} {e tg : Expr} {e' : E} (h : cE n c e = some e') (ht : ∀ y py, tg ≠ .Name y py) (l : Nat) : swapsWith e (some tg) l X.env = pure false := by
  cases n with
  | zero => cases h
  | succ n =>
    cases e with
    | ListComp elt gens scope pos =>
      cases tg with
      | Name y py => exact absurd rfl (ht y py)
      | _ => rfl
    | SetComp => simp [cE] at h
    | DictComp => simp [cE] at h
    | _ => rfl
theorem set_of {tg e : Expr} {pos : Pos} {p : Pat} {e' : E} (F : FitsS G C c X) (hp : cPat c tg = some p) (he : PE X e (tD G (evE C e'))) (hs : swapsWithSole [tg] e pos.line X.env = pure false) (hw : swappedStores [tg] e X.env = pure none) (h1 : (assignEach [tg] X.env).map (·.2) = [assign tg X.env]) :
    PS X (.Assign [tg] e pos) (tS G (evS C (.set p e'))) := PS.imp (ps_asg he (F.fit.pat hp) hs hw h1) fun _ _ _ q => tS_set q
end
end Sd

/-! PyJ4: every statement that is turned. -/
namespace Sd
open PySem PySem.Spec PyProof.Rows L2

section
variable {G : Gx} {C : Calls} {X : Cx} {c : Cc}
theorem lookup_of_sw {y : Str} {py : Pos} {e : Expr} (h : swB c y py e = true) : c.sc.names.lookup y = some .local := by
  unfold swB at h
  split at h
  · simp only [Bool.and_eq_true] at h
    simpa using h.1.1
  · cases h
theorem setLc_of {n : Nat} (S : Snd G C n) (FS : FitsS G C c X) {y : Str} {py spos : Pos} {i : Nat} {elt : Expr} {gens : List Comprehension} {scope : Scope} {pos : Pos} {e' : E} (hy : c.N[i]? = some y) (hsw : swB c y py (.ListComp elt gens scope pos) = true)
    (h : cE (n + 1) c (.ListComp elt gens scope pos) = some e') : PS X (.Assign [.Name y py] (.ListComp elt gens scope pos) spos) (tAsg (tD G (evE C e')) (gName i)) := by
  have F := FS.fit
  have hN : X.N.Nodup := by rw [F.N]; exact F.nd
  have hyN : X.N[i]? = some y := by rw [F.N]; exact hy
  have hyl : X.env.scope.names.lookup y = some .local := by rw [F.sc]; exact lookup_of_sw hsw
  have hs := swaps_eq FS h y py spos.line
  rw [hsw] at hs
  simp only [cE] at h
  split at h
  · rename_i hb
    have ok : BlkOk X.N X.env.scope scope (ownOf c.N scope) := by rw [F.N, F.sc]; exact blkOk_by hb
    split at h
    · split at h
      · rename_i tg iter ifs as hh
        obtain ⟨rfl, hset, hl⟩ := hh
        split at h
        · rename_i p hp
          split at h
          · rename_i it ifs' elt' h1 h2 h3
            split at h
            · rename_i hown
              cases h
              exact PS.imp (ps_setLc F.calm hN hyN hyl hs (iter_of S F (isT_ok hp) h1) ok (fun s H Ca cl fp => (F.inner scope s H Ca cl fp).pat hp) (fun s H Ca cl fp => ifs_of S (F.inner scope s H Ca cl fp) hl h2)
                (fun s H Ca cl fp => (S _ _ _ h3 _ (F.inner scope s H Ca cl fp)).1) (fun x => set_ok hset _ x)) fun _ _ _ q => tD_comp (own_ok hown) q
            · cases h
          · cases h
        · cases h
      · cases h
    · split at h
      · rename_i tg iter ifs as tg1 iter1 ifs1 as1 hh
        obtain ⟨rfl, rfl, hset, hset1, hl, hl1⟩ := hh
        split at h
        · rename_i p p1 hp hp1
          split at h
          · rename_i it ifs' it1 ifs1' elt' h1 h2 h4 h5 h3
            split at h
            · rename_i hown
              cases h
              rw [Bool.and_eq_true] at hown
              exact PS.imp (ps_setLc2 F.calm hN hyN hyl hs (iter_of S F (isT_ok hp) h1) ok (own_ok hown.2) (fun s H Ca cl fp => (F.inner scope s H Ca cl fp).pat hp) (fun s H Ca cl fp => ifs_of S (F.inner scope s H Ca cl fp) hl h2)
                (fun s H Ca cl fp => iter_of S (F.inner scope s H Ca cl fp) (isT_ok hp1) h4) (fun s H Ca cl fp => (F.inner scope s H Ca cl fp).pat hp1) (fun s H Ca cl fp => ifs_of S (F.inner scope s H Ca cl fp) hl1 h5)
                (fun s H Ca cl fp => (S _ _ _ h3 _ (F.inner scope s H Ca cl fp)).1) (fun x => set_ok hset _ x) (fun env x => set_ok hset1 env x)) fun _ _ _ q => tD_comp2 (own_ok hown.1) q
            · cases h
          · cases h
        · cases h
      · cases h
    · cases h
  · cases h
theorem nameIx_inv {x : Str} {p : Pos} {i : Nat} (h : nameIx c (.Name x p) = some i) : c.N[i]? = some x := by
  have h' : (if storB c x = true then ixOf c.N x else none) = some i := h
  split at h'
  · exact ixOf_ok h'
  · cases h'
theorem name_asg {n : Nat} (S : ∀ n, Snd G C n) (FS : FitsS G C c X) {y : Str} {py spos : Pos} {p : Pat} {e : Expr} {e' : E} (hp : cPat c (.Name y py) = some p) (h : cE n c e = some e') : PS X (.Assign [.Name y py] e spos) (tS G (evS C (.set p (wrapA c p e')))) := by
  have hs := swaps_eq FS h y py spos.line
  cases hb : swB c y py e with
  | false =>
    rw [hb] at hs
    exact set_of FS hp (PE.imp (S n c e e' h X FS.fit).1 fun _ _ _ q => tD_wrap q) hs (by rfl) (by rfl)
  | true =>
    cases n with
    | zero => cases h
    | succ n =>
      cases e with
      | ListComp elt gens scope pos =>
        simp only [cPat, Option.map_eq_some_iff] at hp
        obtain ⟨i, hi, rfl⟩ := hp
        refine PS.imp (setLc_of (S n) FS (nameIx_inv hi) hb h) fun D σ H q => ?_
        exact tD_mono (tD_wrap (tS_set q)) fun v H q => tP_name q
      | _ => cases hb
theorem swap2 {env : PySem.Env} {x y : Str} {px py pt pt2 : Pos} {kt k2 : Nat} {a b : Expr} (hk : env.scope.kind = .function) (hx : env.scope.names.lookup x = some .local) (hy : env.scope.names.lookup y = some .local) (hl : (py.line == px.line) = true) (hne : (x == y) = false)
    (hf : ([a, b].all (foldedForSure 8)) = false) (hc : ([a, b].all (constantsAlone 8)) = false) (ha : ∀ e p, a ≠ .Starred e p) (hb : ∀ e p, b ≠ .Starred e p) : swappedStores [.Tuple [.Name x px, .Name y py] kt pt] (.Tuple [a, b] k2 pt2) env = pure (some [x, y]) := by
  have hblk : env.blockKind = .function := by unfold PySem.Env.blockKind; rw [hk]; rfl
  have kx : env.kindOf x = some .local := hx
  have ky : env.kindOf y = some .local := hy
  have hne' : ¬ x = y := by simpa using hne
  have hyx : (y == x) = false := by rw [beq_eq_false_iff_ne]; exact fun e => hne' e.symm
  have hl' : py.line = px.line := by simpa using hl
  have hsa : (match a with | .Starred .. => true | _ => false) = false := by cases a <;> first | rfl | exact absurd rfl (ha _ _)
  have hsb : (match b with | .Starred .. => true | _ => false) = false := by cases b <;> first | rfl | exact absurd rfl (hb _ _)
  unfold swappedStores
  simp only [List.any_cons, List.any_nil, hsa, hsb, hblk, List.filterMap_cons, List.filterMap_nil, kx, ky, hl', List.head?_cons, Option.map_some, Option.getD_some, Expr.pos, hf, hc, List.length_cons, List.length_nil, beq_self_eq_true, Bool.and_self, if_true, List.eraseDups_cons, hyx]
  simp [List.eraseDups_cons, hyx]
theorem swapNone {env : PySem.Env} {ts vs : List Expr} {pt pt2 : Pos} {kt k2 : Nat} (hf : vs.all (foldedForSure 8) = true) : swappedStores [.Tuple ts kt pt] (.Tuple vs k2 pt2) env = pure none := by
  unfold swappedStores
  simp only [hf]
  split
  · rfl
  · split
    · rfl
    · split
      · rfl
      · rfl
theorem noStar {n : Nat} {e : Expr} {e' : E} (h : cE n c e = some e') : ∀ x p, e ≠ .Starred x p := by
  rintro x p rfl
  cases n with
  | zero => cases h
  | succ n => simp [cE] at h
end
end Sd

/-! PyJ5: every statement that is turned, joined. -/
namespace Sd
open PySem PySem.Spec PyProof.Rows L2

section
variable {G : Gx} {C : Calls} {X : Cx} {c : Cc}
theorem single_each {tg : Expr} {env : PySem.Env} (h : ∀ x p, tg ≠ .Starred x p) : (assignEach [tg] env).map (·.2) = [assign tg env] := by
  cases tg <;> first | rfl | exact absurd rfl (h _ _)
theorem sole_not {n : Nat} {e : Expr} {e' : E} (h : cE n c e = some e') (tg : Expr) (ht : ∀ y py, tg ≠ .Name y py) (l : Nat) : swapsWithSole [tg] e l X.env = pure false := by
  show swapsWith e (some tg) l X.env = pure false
  exact swaps_not h ht l
theorem sub_assign {n : Nat} {o i : Expr} {i' : E} {pos : Pos} {env : PySem.Env} (h : cE n c i = some i') (v : Value) : assign (.Subscript o i pos) env v = (do
      let ov ← holding [v] (eval o env)
      let iv ← holding [v, ov] (eval i env)
      standAt pos
      holding [v, ov, iv] (setItem ov iv v)
      release [v, ov, iv] []) := by
  cases n with
  | zero => cases h
  | succ n => cases i <;> first | rfl | simp [cE] at h
theorem tup_asg {n : Nat} (FS : FitsS G C c X) {ts : List Expr} {kt : Nat} {pt spos : Pos} {p : Pat} {e : Expr} {e' : E} (hp : cPat c (.Tuple ts kt pt) = some p) (h : cE n c e = some e') (hw : swappedStores [.Tuple ts kt pt] e X.env = pure none) : PS X (.Assign [.Tuple ts kt pt] e spos) (tS G (evS C (.set p e'))) :=
  set_of FS hp (snd G C n c e e' h X FS.fit).1 (sole_not h (.Tuple ts kt pt) (fun _ _ q => nomatch q) _) hw (by rfl)
theorem par_of {n : Nat} (FS : FitsS G C c X) {x y : Str} {px py pt pt2 spos : Pos} {kt k2 i j : Nat} {a b : Expr} {a' b' : E} (hx : locB c x = true) (hy : locB c y = true) (hl : (py.line == px.line) = true) (hne : (x == y) = false)
    (hf : ([a, b].all (foldedForSure 8)) = false) (hc : ([a, b].all (constantsAlone 8)) = false) (hi : ixOf c.N x = some i) (hj : ixOf c.N y = some j) (hij : i ≠ j) (ha : cE n c a = some a') (hb : cE n c b = some b') :
    PS X (.Assign [.Tuple [.Name x px, .Name y py] kt pt] (.Tuple [a, b] k2 pt2) spos) (tS G (evS C (.par i j (wrapA c (.n i) a') (wrapA c (.n j) b')))) := by
  have F := FS.fit
  have hN : X.N.Nodup := by rw [F.N]; exact F.nd
  have hx' : X.env.scope.names.lookup x = some .local := by rw [F.sc]; simpa [locB] using hx
  have hy' : X.env.scope.names.lookup y = some .local := by rw [F.sc]; simpa [locB] using hy
  have sa := (snd G C n c a a' ha X F).1
  have sb := (snd G C n c b b' hb X F).1
  refine PS.imp (ps_par F.calm hN (by rw [F.N]; exact ixOf_ok hi) (by rw [F.N]; exact ixOf_ok hj) hij hx' hy' (pa_cons sa (pa_cons sb pa_nil (star_of hb _ _)) (star_of ha _ _)) (swap2 FS.kind hx' hy' hl hne hf hc (noStar ha) (noStar hb)) (by rfl)) fun D σ H q => ?_
  obtain ⟨av, ρ, h, σD, d, h', R, RE, e, q⟩ := tS_par q
  refine tD_wrap (c := c) (p := .n i) ⟨av, ρ, h, σD, d, h', R, RE, e, fun ρ1 H1 v S1 R1 r1 => ?_⟩
  have q1 := q ρ1 H1 v S1 R1 r1
  exact tD_wrap (c := c) (p := .n j) q1
theorem asg_of {n : Nat} (FS : FitsS G C c X) {tg e : Expr} {spos : Pos} {s : S} (h : cA (cE n c) c tg e = some s) : PS X (.Assign [tg] e spos) (tS G (evS C s)) := by
  cases tg with
  | Tuple ts kt pt =>
    cases e with
    | Tuple vs k2 pt2 =>
      simp only [cA] at h
      split at h
      · rename_i hf
        split at h
        · rename_i p e' hp he
          cases h
          exact tup_asg FS hp he (swapNone hf)
        · cases h
      · rename_i hf
        split at h
        · cases h
        · rename_i hc
          rw [Bool.not_eq_true] at hf hc
          split at h
          · split at h
            · rename_i hh
              simp only [Bool.and_eq_true, Bool.not_eq_true'] at hh
              obtain ⟨⟨⟨hx, hy⟩, hl⟩, hne⟩ := hh
              split at h
              · rename_i i j a' b' hi hj ha hb
                split at h
                · cases h
                · rename_i hij
                  cases h
                  exact par_of FS hx hy hl hne hf hc hi hj hij ha hb
              · cases h
            · cases h
          · cases h
    | _ =>
      simp only [cA] at h
      split at h
      · rename_i p e' hp he
        cases h
        exact tup_asg FS hp he (by rfl)
      · cases h
  | Name y py =>
    simp only [cA] at h
    split at h
    · rename_i p e' hp he
      cases h
      exact name_asg (snd G C) FS hp he
    · cases h
  | Subscript o i pos =>
    simp only [cA] at h
    split at h
    · rename_i o' i' e' ho hi he
      cases h
      have F := FS.fit
      exact PS.imp (ps_asg (snd G C n c e e' he X F).1 (pg_sub (snd G C n c o o' ho X F).1 (snd G C n c i i' hi X F).1 set_list (sub_assign hi)) (sole_not he (.Subscript o i pos) (fun _ _ q => nomatch q) _) (by rfl) (by rfl)) fun _ _ _ q => tS_seti q
    · cases h
  | _ => simp [cA] at h
theorem few_of {n : Nat} {a : Expr} {a' : E} (ha : cE n c a = some a') {cpos : Pos} {env : PySem.Env} : ((backTo cpos (starEach [a] env)).all (fun x => !x.1) && (backToKw cpos (keywordEach [] env)).all (fun x => x.1.isSome)
      && decide ([a].length + ([] : List Keyword).length + (if ([] : List Keyword).isEmpty then 0 else 1) < 30)) = true := by
  rw [star_of ha]
  rfl
theorem swapsN {n : Nat} {e : Expr} {e' : E} (h : cE n c e = some e') (hc : isComp e = false) (l : Nat) : swapsWith e none l X.env = pure false := by
  cases n with
  | zero => cases h
  | succ n =>
    cases e with
    | ListComp => cases hc
    | SetComp => simp [cE] at h
    | DictComp => simp [cE] at h
    | _ => rfl
theorem exp_of {n : Nat} (FS : FitsS G C c X) {e : Expr} {pos : Pos} {s : S} (hc : isComp e = false) (h : (cE n c e).map S.exp = some s) : PS X (.Expr e pos) (tS G (evS C s)) := by
  simp only [Option.map_eq_some_iff] at h
  obtain ⟨e', h, rfl⟩ := h
  exact PS.imp (ps_expr (snd G C n c e e' h X FS.fit).1 (swapsN h hc _)) fun _ _ _ q => tS_exp q
theorem expr_of {n : Nat} (FS : FitsS G C c X) {e : Expr} {pos : Pos} {s : S} (h : cX (cE n c) e = some s) : PS X (.Expr e pos) (tS G (evS C s)) := by
  cases e with
  | Call f args kws cpos =>
    cases f with
    | Attribute o m apos =>
      simp only [cX] at h
      split at h
      · rename_i hm
        split at h
        · rename_i hb
          simp only [Bool.and_eq_true, List.isEmpty_iff] at hb
          obtain ⟨⟨hb, hl⟩, rfl⟩ := hb
          split at h
          · split at h
            · rename_i o' a' ho ha
              have F := FS.fit
              have so := (snd G C n c _ o' ho X F).1
              have sa := (snd G C n c _ a' ha X F).1
              split at h
              · rename_i hm
                cases h
                subst hm
                exact PS.imp (ps_expr (pe_bm PySem.F.plainAttrs_list PySem.F.slot_list_append PySem.F.type_list_append mt_append so (pa_cons sa pa_nil (star_of ha _ _)) (base_ok hb _ _ _) (few_of ha) hl (star_of ha _ _) (by rfl)) (by rfl)) fun _ _ _ q => tS_app F.K q
              · rename_i hm2
                cases h
                rcases hm with hm | hm
                · exact absurd hm hm2
                · subst hm
                  exact PS.imp (ps_expr (pe_bm PySem.F.plainAttrs_list PySem.F.slot_list_extend PySem.F.type_list_extend mt_extF so (pa_cons sa pa_nil (star_of ha _ _)) (base_ok hb _ _ _) (few_of ha) hl (star_of ha _ _) (by rfl)) (by rfl)) fun _ _ _ q => tS_ext F.K q
            · cases h
          · cases h
        · cases h
      · exact exp_of FS (by rfl) h
    | _ => exact exp_of FS (by rfl) h
  | ListComp => simp [cX, isComp] at h
  | _ => exact exp_of FS (by rfl) (by simpa [cX, isComp] using h)
theorem sndS (G : Gx) (C : Calls) : ∀ n, SndS G C n := by
  intro n
  induction n with
  | zero => intro c e e' h; cases h
  | succ n T =>
    intro c st s h X FS
    have F := FS.fit
    have hp : PassesOwn (model X.prog X.w) X.A X.env X.xe := by rw [F.xe]; exact PassesOwn.never
    cases st with
    | Pass pos =>
      simp only [cS] at h
      cases h
      exact PS.imp ps_pass fun _ _ _ q => tS_pass q
    | Return v pos =>
      cases v with
      | none =>
        simp only [cS] at h
        cases h
        exact PS.imp ps_retN fun _ _ _ q => tS_retn q
      | some e =>
        simp only [cS, Option.map_eq_some_iff] at h
        obtain ⟨e', h, rfl⟩ := h
        exact PS.imp (ps_ret (snd G C n c e e' h X F).1) fun _ _ _ q => tS_ret q
    | Assign tgs e pos =>
      cases tgs with
      | nil => simp [cS] at h
      | cons tg tgs =>
        cases tgs with
        | nil => exact asg_of FS (by simpa only [cS] using h)
        | cons _ _ => simp [cS] at h
    | Expr e pos => exact expr_of FS (by simpa only [cS] using h)
    | If t a b pos =>
      simp only [cS] at h
      split at h
      · rename_i t' a' b' ht ha hb
        cases h
        exact PS.imp (ps_if (snd G C n c t t' ht X F).2 (stmts_of T FS ha) (stmts_of T FS hb)) fun _ _ _ q => tS_cond q
      · cases h
    | While t a o pos =>
      cases o with
      | cons _ _ => simp [cS] at h
      | nil =>
        simp only [cS] at h
        split at h
        · rename_i t' a' ht ha
          cases h
          exact PS.imp (ps_while hp (snd G C n c t t' ht X F).2 (stmts_of T FS ha)) fun _ _ _ q => tS_whl q
        · cases h
    | For tg iter a o pos =>
      cases o with
      | cons _ _ => simp [cS] at h
      | nil =>
        simp only [cS] at h
        split at h
        · cases h
        · rename_i hset
          rw [Bool.not_eq_true] at hset
          split at h
          · rename_i p hpat
            split at h
            · rename_i it a' hi ha
              cases h
              exact PS.imp (ps_for hp F.calm (iter_of (snd G C n) F (isT_ok hpat) hi) (F.pat hpat) (stmts_of T FS ha) (fun x => set_ok hset _ x)) fun _ _ _ q => tS_for q
            · cases h
          · cases h
    | _ => simp [cS] at h
end
end Sd

/-! PyK: calls: what is the callee's own goes with it. -/
namespace Sd
open PySem PySem.Spec PyProof.Rows L2

structure Df where
  ps : Nat
  n : Nat
  body : List S
abbrev Tb := String → String → Option Df
def startD (n : Nat) (args : List D) : Env := args.map some ++ List.replicate (n - args.length) none
/-- what is handed back: the callee's own list as a new one -/
def freeze (h1 : Hh) (n0 : Nat) : D → D
  | .ref l => if l < n0 then .ref l else match h1[l]? with
    | some (.lst xs) => .lv xs
    | some (.dic ks vs) => .dv ks vs
    | _ => .ref l
  | v => v
def undV (n : Nat) : D → Bool
  | .lv xs => D.undAll n xs
  | .dv ks vs => D.undAll n ks && D.undAll n vs
  | d => d.und n
def okOld (h h1 : Hh) : Prop := ∀ (l : Nat) (o : Ob), l < h.length → h1[l]? = some o → h[l]? = some o ∨ o.und h.length = true
section
open Classical
noncomputable def fin (h h1 : Hh) (v : D) : Out D :=
  if h1.length = h.length then .ok v h1 else
  if undV h.length (freeze h1 h.length v) = true ∧ okOld h h1 then .ok (freeze h1 h.length v) (h1.take h.length) else .ok v h1
noncomputable def endF (h h1 : Hh) : Fl → Out D
  | .nx _ => fin h h1 .non
  | .rt v => fin h h1 v
  | _ => .bad
noncomputable def callF (T : Tb) : Nat → Calls
  | 0 => fun _ _ _ _ => .bad
  | d + 1 => fun c m args h => match T c m with
    | none => .bad
    | some f => if args.length = f.ps then (evSs (callF T d) f.body (startD f.n args) h).thn fun r h1 => endF h h1 r else .bad
end

section
variable {G : Gx} {ρ ρ1 : List Addr} {H H1 : Hp} {h h1 : Hh}
mutual
theorem RD.und : ∀ {d : D} {v : V}, RD G ρ H d v → d.und ρ.length = true
  | _, _, .non => by simp only [D.und]
  | _, _, .bl b => by simp only [D.und]
  | _, _, .int i => by simp only [D.und]
  | _, _, .str x => by simp only [D.und]
  | _, _, .tup h d n m r => by simp only [D.und]; exact RDs.und r
  | _, _, .tupK h r => by simp only [D.und]; exact RDs.und r
  | _, _, .fz h n m r => by simp only [D.und]; exact RDs.und r
  | _, _, .fzK h r => by simp only [D.und]; exact RDs.und r
  | _, _, .fd (kvs := kvs) h n m r => by
    simp only [D.und, Bool.and_eq_true]
    refine ⟨?_, RDs.und r⟩
    generalize kvs = l
    induction l with
    | nil => simp only [List.map_nil, D.undAll]
    | cons p l ih =>
      simp only [List.map_cons, D.undAll, Bool.and_eq_true]
      refine ⟨?_, ih⟩
      cases hp : p.1 <;> simp only [keyD, D.und]
  | _, _, .ref h => by
    simp only [D.und, decide_eq_true_eq]
    exact (List.getElem?_eq_some_iff.mp h).1
theorem RDs.und : ∀ {ds : List D} {vs : List V}, RDs G ρ H ds vs → D.undAll ρ.length ds = true
  | _, _, .nil => by simp only [D.undAll]
  | _, _, .cons r rs => by
    simp only [D.undAll, Bool.and_eq_true]
    exact ⟨RD.und r, RDs.und rs⟩
end
theorem keys_und (n : Nat) (kvs : List (Key × V)) : D.undAll n (kvs.map fun p => keyD p.1) = true := by
  induction kvs with
  | nil => simp only [List.map_nil, D.undAll]
  | cons p l ih =>
    simp only [List.map_cons, D.undAll, Bool.and_eq_true]
    refine ⟨?_, ih⟩
    cases hp : p.1 <;> simp only [keyD, D.und]
theorem RO.und {a : Addr} {o : Ob} (r : RO G ρ H a o) : o.und ρ.length = true := by
  cases o with
  | lst xs => obtain ⟨vs, e, rs⟩ := r; exact rs.und
  | dic ks vs => obtain ⟨kvs, e, q, rs⟩ := r; subst q; simp only [Ob.und, Bool.and_eq_true]; exact ⟨keys_und _ _, rs.und⟩
  | ins c fs => obtain ⟨C, dx, vfs, e1, e, q, rs⟩ := r; exact rs.und
mutual
theorem RD.trunc {av av2 : List Addr} {n : Nat} (hsub : ∀ b ∈ ρ, b ∈ ρ1) (hpre : ∀ (l : Nat) (a : Addr), l < n → ρ1[l]? = some a → ρ[l]? = some a) (hav : ∀ b ∈ av2, b ∈ av ∨ b ∈ ρ1) :
    ∀ {d : D} {v : V}, RD (G.at av) ρ1 H d v → d.und n = true → RD (G.at av2) ρ H d v
  | _, _, .non, _ => .non
  | _, _, .bl b, _ => .bl b
  | _, _, .int i, _ => .int i
  | _, _, .str x, _ => .str x
  | _, _, .tup h d n m r, u => .tup h d (fun z => n (hsub _ z)) (fun z => (hav _ z).elim m n) (RDs.trunc hsub hpre hav r (by simpa only [D.und] using u))
  | _, _, .tupK h r, u => .tupK h (RDs.trunc hsub hpre hav r (by simpa only [D.und] using u))
  | _, _, .fz h n m r, u => .fz h (fun z => n (hsub _ z)) (fun z => (hav _ z).elim m n) (RDs.trunc hsub hpre hav r (by simpa only [D.und] using u))
  | _, _, .fzK h r, u => .fzK h (RDs.trunc hsub hpre hav r (by simpa only [D.und] using u))
  | _, _, .fd h n m r, u => .fd h (fun z => n (hsub _ z)) (fun z => (hav _ z).elim m n) (RDs.trunc hsub hpre hav r (by simp only [D.und, Bool.and_eq_true] at u; exact u.2))
  | _, _, .ref h, u => .ref (hpre _ _ (by simpa only [D.und, decide_eq_true_eq] using u) h)
theorem RDs.trunc {av av2 : List Addr} {n : Nat} (hsub : ∀ b ∈ ρ, b ∈ ρ1) (hpre : ∀ (l : Nat) (a : Addr), l < n → ρ1[l]? = some a → ρ[l]? = some a) (hav : ∀ b ∈ av2, b ∈ av ∨ b ∈ ρ1) :
    ∀ {d : List D} {v : List V}, RDs (G.at av) ρ1 H d v → D.undAll n d = true → RDs (G.at av2) ρ H d v
  | _, _, .nil, _ => .nil
  | _, _, .cons r rs, u => by
    simp only [D.undAll, Bool.and_eq_true] at u
    exact .cons (RD.trunc hsub hpre hav r u.1) (RDs.trunc hsub hpre hav rs u.2)
end
theorem RO.trunc {av av2 : List Addr} {n : Nat} {a : Addr} {o : Ob} (hsub : ∀ b ∈ ρ, b ∈ ρ1) (hpre : ∀ (l : Nat) (a : Addr), l < n → ρ1[l]? = some a → ρ[l]? = some a) (hav : ∀ b ∈ av2, b ∈ av ∨ b ∈ ρ1)
    (r : RO (G.at av) ρ1 H a o) (u : o.und n = true) : RO (G.at av2) ρ H a o := by
  cases o with
  | lst xs => obtain ⟨vs, e, rs⟩ := r; exact ⟨vs, e, rs.trunc hsub hpre hav u⟩
  | dic ks vs =>
    obtain ⟨kvs, e, q, rs⟩ := r
    simp only [Ob.und, Bool.and_eq_true] at u
    exact ⟨kvs, e, q, rs.trunc hsub hpre hav u.2⟩
  | ins c fs => obtain ⟨C, dx, vfs, e1, e, q, rs⟩ := r; exact ⟨C, dx, vfs, e1, e, q, rs.trunc hsub hpre hav u⟩
theorem RelH.trunc {av0 av av2 : List Addr} (R : RelH (G.at av0) ρ h H) (S : Stp ρ ρ1 H H1) (R1 : RelH (G.at av) ρ1 h1 H1) (old : okOld h h1) (hav : ∀ b ∈ av2, b ∈ av ∨ b ∈ ρ1) (hd : ∀ b ∈ av2, b ∉ ρ) : RelH (G.at av2) ρ (h1.take h.length) H1 := by
  have hsub := S.mem
  have hpre : ∀ (l : Nat) (a : Addr), l < h.length → ρ1[l]? = some a → ρ[l]? = some a := fun l a hl e => by
    rw [← R.len] at hl
    have e2 := S.pre l _ (List.getElem?_eq_getElem hl)
    rw [e] at e2; cases e2
    exact List.getElem?_eq_getElem hl
  have hle : h.length ≤ h1.length := by
    rw [← R.len, ← R1.len]
    rcases Nat.lt_or_ge ρ1.length ρ.length with hlt | hge
    · have e2 := S.pre ρ1.length _ (List.getElem?_eq_getElem hlt)
      rw [List.getElem?_eq_none (Nat.le_refl _)] at e2; cases e2
    · exact hge
  refine ⟨by rw [List.length_take, R.len]; omega, R.nd, fun l o e => ?_, fun b hb => ?_, hd⟩
  · rw [List.getElem?_take] at e
    split at e
    · rename_i hl
      obtain ⟨a, e1, ro⟩ := R1.obj l o e
      refine ⟨a, hpre l a hl e1, ro.trunc hsub hpre hav ?_⟩
      rcases old l o hl e with e0 | u
      · obtain ⟨a0, _, ro0⟩ := R.obj l o e0
        rw [← R.len]
        exact ro0.und
      · exact u
    · cases e
  · rcases hav b hb with hb | hb
    · exact R1.avd b hb
    · exact R1.mem hb
/-- behind a call -/
theorem fin_ok {av : List Addr} {v d : D} {h2 : Hh} (R : RelH (G.at av) ρ h H) (S : Stp ρ ρ1 H H1) (R1 : RelH (G.at av) ρ1 h1 H1) (e : fin h h1 v = .ok d h2) :
    ∃ ρ2, Stp ρ ρ2 H H1 ∧ RelH (G.at av) ρ2 h2 H1 ∧ ∀ u, RV (G.at av) ρ1 h1 H H1 v u → RV (G.at av) ρ2 h2 H H1 d u := by
  unfold fin at e
  split at e
  · cases e
    exact ⟨ρ1, S, R1, fun u r => r⟩
  · split at e
    · rename_i hh
      obtain ⟨hu, old⟩ := hh
      cases e
      have hsub := S.mem
      have hpre : ∀ (l : Nat) (a : Addr), l < h.length → ρ1[l]? = some a → ρ[l]? = some a := fun l a hl e => by
        rw [← R.len] at hl
        have e2 := S.pre l _ (List.getElem?_eq_getElem hl)
        rw [e] at e2; cases e2
        exact List.getElem?_eq_getElem hl
      have S0 : Stp ρ ρ H H1 := ⟨fun _ _ z => z, fun b o e n => ⟨(S.frm b o e n).1, n⟩⟩
      have RT : RelH (G.at av) ρ (h1.take h.length) H1 := RelH.trunc R S R1 old (fun b hb => .inl hb) R.avn
      refine ⟨ρ, S0, RT, fun u r => ?_⟩
      have plain : ∀ {d : D}, d.und h.length = true → RD (G.at av) ρ1 H1 d u → RD (G.at av) ρ H1 d u := fun hu r => r.trunc hsub hpre (fun b hb => .inl hb) hu
      cases v with
      | lv xs =>
        obtain ⟨a, vs, rfl, n0, na, ea, rs, Rh⟩ := r
        have na1 : a ∉ ρ1 := Rh.avn a List.mem_cons_self
        have na0 : a ∉ ρ := fun z => na1 (hsub _ z)
        refine ⟨a, vs, rfl, n0, na, ea, ?_, ?_⟩
        · exact RDs.trunc (G := G) (av := a :: av) (av2 := a :: av) hsub hpre (fun b hb => .inl hb) rs hu
        · refine RelH.trunc (av := a :: av) (av2 := a :: av) R S Rh old (fun b hb => .inl hb) fun b hb => ?_
          rcases List.mem_cons.mp hb with rfl | hb
          · exact na0
          · exact R.avn b hb
      | dv ks vs =>
        obtain ⟨a, kvs, rfl, n0, na, ea, ek, rs, Rh⟩ := r
        have na1 : a ∉ ρ1 := Rh.avn a List.mem_cons_self
        have na0 : a ∉ ρ := fun z => na1 (hsub _ z)
        simp only [freeze, undV, Bool.and_eq_true] at hu
        refine ⟨a, kvs, rfl, n0, na, ea, ek, ?_, ?_⟩
        · exact RDs.trunc (G := G) (av := a :: av) (av2 := a :: av) hsub hpre (fun b hb => .inl hb) rs hu.2
        · refine RelH.trunc (av := a :: av) (av2 := a :: av) R S Rh old (fun b hb => .inl hb) fun b hb => ?_
          rcases List.mem_cons.mp hb with rfl | hb
          · exact na0
          · exact R.avn b hb
      | ref l =>
        have r' : RD (G.at av) ρ1 H1 (.ref l) u := r
        by_cases hl : l < h.length
        · have ef : freeze h1 h.length (.ref l) = .ref l := by simp only [freeze, if_pos hl]
          rw [ef] at hu ⊢
          exact (plain (d := .ref l) (by simpa only [D.und, decide_eq_true_eq] using hl) r').rv
        · cases r' with
          | @ref _ a ha =>
            have ha1 : a ∈ ρ1 := List.mem_of_getElem? ha
            have na0 : a ∉ ρ := fun z => by
              obtain ⟨i, hi, ei⟩ := List.mem_iff_getElem.mp z
              have e2 := S.pre i a (by rw [← ei]; exact List.getElem?_eq_getElem hi)
              have := ixInj R1.nd ha e2
              rw [← R.len] at hl
              omega
            have n0 : H a = none := by
              cases q : H a with
              | none => rfl
              | some o => exact absurd ha1 (S.frm a o q na0).2
            have na : a ∉ av := fun z => R1.avn a z ha1
            obtain ⟨o, eo, ro⟩ := R1.lt ha
            have hav : ∀ b ∈ a :: av, b ∈ av ∨ b ∈ ρ1 := fun b hb => by
              rcases List.mem_cons.mp hb with rfl | hb
              · exact .inr ha1
              · exact .inl hb
            have hd : ∀ b ∈ a :: av, b ∉ ρ := fun b hb => by
              rcases List.mem_cons.mp hb with rfl | hb
              · exact na0
              · exact R.avn b hb
            have RT2 := RelH.trunc (av2 := a :: av) R S R1 old hav hd
            cases o with
            | lst xs =>
              have ef : freeze h1 h.length (.ref l) = .lv xs := by simp only [freeze, if_neg hl, eo]
              rw [ef] at hu ⊢
              obtain ⟨vs, ev, rs⟩ := ro
              exact ⟨a, vs, rfl, n0, na, ev, RDs.trunc (G := G) (av := av) (av2 := a :: av) hsub hpre hav rs hu, RT2⟩
            | dic ks vs =>
              have ef : freeze h1 h.length (.ref l) = .dv ks vs := by simp only [freeze, if_neg hl, eo]
              rw [ef] at hu ⊢
              simp only [undV, Bool.and_eq_true] at hu
              obtain ⟨kvs, ev, ek, rs⟩ := ro
              exact ⟨a, kvs, rfl, n0, na, ev, ek, RDs.trunc (G := G) (av := av) (av2 := a :: av) hsub hpre hav rs hu.2, RT2⟩
            | ins c fs =>
              have ef : freeze h1 h.length (.ref l) = .ref l := by simp only [freeze, if_neg hl, eo]
              rw [ef] at hu
              simp only [undV, D.und, decide_eq_true_eq] at hu
              exact absurd hu hl
      | _ =>
        first
        | exact (plain (by simpa only [undV, freeze] using hu) r).rv
    · cases e
      exact ⟨ρ1, S, R1, fun u r => r⟩
end
end Sd

/-! PyK2: the defs of a text, each as the evaluator has it. -/
namespace Sd
open PySem PySem.Spec PyProof.Rows L2

theorem evEs_bad_call {T : Tb} {c m : String} {ds : List D} {h : Hh} {d : D} {h' : Hh} {n : Nat} (e : callF T n c m ds h = .ok d h') : ∃ f k, n = k + 1 ∧ T c m = some f ∧ ds.length = f.ps ∧ ∃ r h1, evSs (callF T k) f.body (startD f.n ds) h = .ok r h1 ∧ endF h h1 r = .ok d h' := by
  cases n with
  | zero => cases e
  | succ k =>
    unfold callF at e
    split at e
    · cases e
    · rename_i f hf
      split at e
      · rename_i hl
        obtain ⟨r, h1, e1, e2⟩ := Out.thn_eq_ok e
        exact ⟨f, k, rfl, hf, hl, r, h1, e1, e2⟩
      · cases e
/-- a def as it stands in the text and as it is turned -/
structure DefI where
  x : Str
  m : String
  st : Stmt
  ps : List Str
  N : List Str
  alc : List Nat
  body : List S
def DefI.cc (i : DefI) (fns : List (Str × String)) (cons : List (Str × D)) : Cc := ⟨i.N, (defScope i.st), none, fns, cons, i.alc⟩
abbrev DefI.fn (K : PySem.W.Frag) (i : DefI) (f : Addr) (fd : FuncData) : Prop := FunD K i.x i.x (defArgs i.st) (defBody i.st) (defScope i.st) [] [] f fd
/-- what is looked at in the text -/
structure DefI.Ok (i : DefI) (T : Tb) (fns : List (Str × String)) (cons : List (Str × D)) (n : Nat) : Prop where
  sc : FnScope i.N i.ps (defScope i.st)
  cmp : mapO (cS n (i.cc fns cons)) (defBody i.st) = some i.body
  tab : T "" i.m = some ⟨i.ps.length, i.N.length, i.body⟩
  bd : ∀ (kV doc pm : Value) (an : Option Addr) (cdv ct : Value) (us : List Value), us.length = i.ps.length → bindArgs (PySem.W.fnOf i.x i.x (defArgs i.st) (defBody i.st) (defScope i.st) .none kV doc pm an cdv ct) ⟨us, []⟩ = pure (i.ps.zip us)

section
variable {G : Gx} {P : Program} {w : World} {mg : Str → Option Value} {base : Heap}
theorem start_rel {ρ : List Addr} {H : Hp} {N : List Str} {ds : List D} {vs : List V} (r : RDs G ρ H ds vs) : RelE G ρ H (startD N.length ds) (L2.start N vs) := by
  have hl := r.length
  refine ⟨?_, fun i d e => ?_⟩
  · unfold startD L2.start
    simp [hl]
  · unfold startD at e
    unfold L2.start
    by_cases hi : i < ds.length
    · rw [List.getElem?_append_left (by simpa using hi), List.getElem?_map] at e
      obtain ⟨x, hx, ex⟩ := Option.map_eq_some_iff.mp e
      cases ex
      obtain ⟨v, hv, rv⟩ := r.get hx
      refine ⟨v, ?_, rv⟩
      rw [List.getElem?_append_left (by rw [List.length_map, ← hl]; exact hi), List.getElem?_map, hv]
      rfl
    · rw [List.getElem?_append_right (by simpa using hi)] at e
      rw [List.getElem?_replicate] at e
      split at e
      · cases e
      · cases e
/-- the module's names as they stand, the defs at a level -/
structure Wf (G : Gx) (P : Program) (w : World) (mg : Str → Option Value) (base : Heap) (T : Tb) (fns : List (Str × String)) (cons : List (Str × D)) (d : Nat) : Prop where
  free : ∀ x ∈ bnames, fns.lookup x = none → mg x = none
  con : ∀ x d, cons.lookup x = some d → ∃ u v, mg x = some u ∧ RelV v u ∧ KD G d v
  fn : ∀ x m, fns.lookup x = some m → ∃ f fd ps, mg x = some (.ref f) ∧ PySem.W.keepIn G.K (.ref f) = true ∧ Binds G.K fd ps [] ∧ FnOk P w G.K mg base CX0 d f fd ps (spC G ps.length (callF T d "" m)) ∧ ∀ ds h d' h', callF T d "" m ds h = .ok d' h' → ds.length = ps.length
theorem fn_step {T : Tb} {fns : List (Str × String)} {cons : List (Str × D)} {d n : Nat} {i : DefI} {f : Addr} {fd : FuncData} (W : Wf G P w mg base T fns cons d) (ok : i.Ok T fns cons n) (F : i.fn G.K f fd) :
    FnOk P w G.K mg base CX0 (d + 1) f fd i.ps (spC G i.ps.length (callF T (d + 1) "" i.m)) := by
  refine F.ok ok.sc (fun vs H Q E h => h.1) fun cdv A outer s H vs Q E hr h => ⟨tS G (evSs (callF T d) i.body), PSs.nox ?_, ?_⟩
  · refine stmts_of (sndS G (callF T d) n) ⟨⟨rfl, ok.sc.nd, rfl, rfl, rfl, fun _ _ => rfl, ?_, W.free, W.con, fun x m hx => ?_, rfl⟩, ok.sc.kind, rfl⟩ ok.cmp
    · have := hr.un
      show (A.deeper _).units + 200 < cLine
      omega
    · obtain ⟨f', fd', ps', h1, h2, h3, h4, h5⟩ := W.fn x m hx
      exact ⟨d, f', fd', ps', h1, h2, h3, hr, h4, h5⟩
  · obtain ⟨hl, av, ρ, h0, ds, d', h', R, rs, e, q⟩ := h
    obtain ⟨f', k, ek, ht, hlen, r, h1, e1, e2⟩ := evEs_bad_call e
    cases ek
    rw [ok.tab] at ht
    cases ht
    refine ⟨av, ρ, h0, startD i.N.length ds, r, h1, R, start_rel rs, e1, fun ρ1 H1 S1 R1 => ?_⟩
    cases r with
    | nx σ' =>
      intro σ1 _
      obtain ⟨ρ2, S2, R2, rv⟩ := fin_ok R S1 R1 e2
      exact q _ _ _ S2 R2 (rv _ RD.non.rv)
    | rt v =>
      intro u ru
      obtain ⟨ρ2, S2, R2, rv⟩ := fin_ok R S1 R1 e2
      exact q _ _ _ S2 R2 (rv _ ru)
    | br σ' => cases e2
    | ct σ' => cases e2
/-- all defs at each level -/
theorem wf_all {T : Tb} {L : List DefI} {cons : List (Str × D)} {n : Nat} (hfree : ∀ x ∈ bnames, (L.map fun i => (i.x, i.m)).lookup x = none → mg x = none) (hcon : ∀ x d, cons.lookup x = some d → ∃ u v, mg x = some u ∧ RelV v u ∧ KD G d v)
    (hok : ∀ i ∈ L, i.Ok T (L.map fun i => (i.x, i.m)) cons n) (hf : ∀ i ∈ L, ∃ f fd, mg i.x = some (.ref f) ∧ i.fn G.K f fd) : ∀ d, Wf G P w mg base T (L.map fun i => (i.x, i.m)) cons d := by
  have mem : ∀ {L : List DefI} {x : Str} {m : String}, (L.map fun i => (i.x, i.m)).lookup x = some m → ∃ i ∈ L, i.x = x ∧ i.m = m := by
    intro L x m h
    induction L with
    | nil => cases h
    | cons i L ih =>
      rw [List.map_cons, List.lookup_cons] at h
      split at h
      · rename_i hx
        cases h
        exact ⟨i, List.mem_cons_self, by simpa using (beq_iff_eq.mp hx).symm, rfl⟩
      · obtain ⟨j, hj, e⟩ := ih h
        exact ⟨j, List.mem_cons_of_mem _ hj, e⟩
  have lens : ∀ i ∈ L, ∀ d ds h d' h', callF T d "" i.m ds h = .ok d' h' → ds.length = i.ps.length := fun i hi d ds h d' h' e => by
    obtain ⟨f', k, ek, ht, hlen, _⟩ := evEs_bad_call e
    rw [(hok i hi).tab] at ht
    cases ht
    exact hlen
  intro d
  induction d with
  | zero =>
    refine ⟨hfree, hcon, fun x m hx => ?_⟩
    obtain ⟨i, hi, rfl, rfl⟩ := mem hx
    obtain ⟨f, fd, hm, F⟩ := hf i hi
    exact ⟨f, fd, i.ps, hm, F.kp, F.bindsN (hok i hi).bd, ⟨fun vs H Q E h => h.1, fun A outer s H args us vs Q E _ _ _ _ h => by
      obtain ⟨_, av, ρ, h0, ds, d', h', R, rs, e, q⟩ := h
      cases e⟩, lens i hi 0⟩
  | succ d ih =>
    refine ⟨hfree, hcon, fun x m hx => ?_⟩
    obtain ⟨i, hi, rfl, rfl⟩ := mem hx
    obtain ⟨f, fd, hm, F⟩ := hf i hi
    exact ⟨f, fd, i.ps, hm, F.kp, F.bindsN (hok i hi).bd, fn_step ih (hok i hi) F, lens i hi (d + 1)⟩
end
end Sd
namespace Sd
open PySem PySem.Spec PyProof.Rows L2
theorem KD.strE {G : Gx} {s : List Nat} {x : Str} (h : x.cps.toList = s) : KD G (.str s) (.str x) := h ▸ KD.str x
/-- the law's promise -/
def spEnd (K : PySem.W.Frag) : Sp := fun vs H Q _ => ∃ (a : Addr) (ns : List Int), vs = [.ref a] ∧ ns.length ≤ 63 ∧ SqL K H a (ns.map V.int) ∧ ∀ H', Q (.bl true) H'
theorem ints_rds {G : Gx} {H : Hp} (ns : List Int) : RDs G [] H (ns.map D.int) (ns.map V.int) := by
  induction ns with
  | nil => exact .nil
  | cons n ns ih => exact .cons (.int n) ih
theorem sp_end {K : PySem.W.Frag} {T : Tb} {d : Nat} {vs : List V} {H : Hp} {Q : VK} {E : XK} (hlaw : ∀ ns : List Int, ns.length ≤ 63 → ∃ h', callF T d "" "law" [.fz (ns.map .int)] [] = .ok (.bl true) h') (hs : spEnd K vs H Q E) :
    spC ⟨K, fun _ => none, []⟩ 1 (callF T d "" "law") vs H Q E := by
  obtain ⟨a, ns, rfl, hl, hS, hQ⟩ := hs
  obtain ⟨h', e⟩ := hlaw ns hl
  refine ⟨rfl, [], [], [], [.fz (ns.map .int)], _, h', ⟨rfl, List.nodup_nil, fun l o e => by simp at e, fun b hb => by simp at hb, fun b hb => by simp at hb⟩, .cons ?_ .nil, e, fun ρ' H' v S R r => ?_⟩
  · rcases hS with h | h
    · exact .fz h (by simp) (by simp) (ints_rds ns)
    · exact .fzK h (ints_rds ns)
  · have r' : RD _ ρ' H' (.bl true) v := r
    cases r'
    exact hQ H'
end Sd

/-! PyP: reasoning about the evaluator: what is wanted behind it. -/
namespace Sd

/-- it gives a value, for which Q holds -/
def Ok {α : Type} (o : Out α) (Q : α → Hh → Prop) : Prop := ∃ a h, o = .ok a h ∧ Q a h
section
variable {α β : Type}
theorem Ok.ok {a : α} {h : Hh} {Q : α → Hh → Prop} (q : Q a h) : Ok (.ok a h) Q := ⟨a, h, rfl, q⟩
theorem Ok.thn {o : Out α} {f : α → Hh → Out β} {Q : β → Hh → Prop} (h : Ok o fun a h => Ok (f a h) Q) : Ok (o.thn f) Q := by
  obtain ⟨a, h, rfl, q⟩ := h
  exact q
theorem Ok.mono {o : Out α} {Q R : α → Hh → Prop} (h : Ok o Q) (k : ∀ a h, Q a h → R a h) : Ok o R := by
  obtain ⟨a, h, e, q⟩ := h
  exact ⟨a, h, e, k a h q⟩
theorem Ok.bind {o : Out α} {f : α → Hh → Out β} {Q : α → Hh → Prop} {R : β → Hh → Prop} (h : Ok o Q) (k : ∀ a h, Q a h → Ok (f a h) R) : Ok (o.thn f) R := Ok.thn (h.mono k)
theorem Ok.eq {o o' : Out α} {Q : α → Hh → Prop} (e : o = o') (h : Ok o' Q) : Ok o Q := e ▸ h
theorem Ok.ofEq {o : Out α} {a : α} {h : Hh} {Q : α → Hh → Prop} (e : o = .ok a h) (q : Q a h) : Ok o Q := ⟨a, h, e, q⟩
end
/-! ### loops -/
theorem forL_ok {body : D → Env → Hh → Out Fl} {okh : Hh → Prop} {Q : Fl → Hh → Prop} (I : Nat → Env → Hh → Prop) : ∀ {xs : List D} {k : Nat} {σ : Env} {h : Hh}, I k σ h → (∀ i σ h, I i σ h → okh h) →
    (∀ i x σ h, xs[i]? = some x → I (k + i) σ h → Ok (body x σ h) fun f h1 => match f with
      | .nx σ1 => I (k + i + 1) σ1 h1
      | .ct σ1 => I (k + i + 1) σ1 h1
      | .br σ1 => Q (.nx σ1) h1
      | .rt v => Q (.rt v) h1) → (∀ σ h, I (k + xs.length) σ h → Q (.nx σ) h) → Ok (forL body okh xs σ h) Q
  | [], k, σ, h, h0, hk, _, hd => by
    unfold forL
    rw [if_pos (hk _ _ _ h0)]
    exact .ok (hd σ h (by simpa using h0))
  | x :: xs, k, σ, h, h0, hk, hs, hd => by
    unfold forL
    rw [if_pos (hk _ _ _ h0)]
    have rest : ∀ σ1 h1, I (k + 0 + 1) σ1 h1 → Ok (forL body okh xs σ1 h1) Q := fun σ1 h1 i1 => by
      refine forL_ok I (k := k + 1) i1 hk (fun i y σ h hy hi => ?_) fun σ h hi => hd σ h ?_
      · have := hs (i + 1) y σ h (by simpa using hy) (by rw [show k + (i + 1) = k + 1 + i by omega]; exact hi)
        rw [show k + (i + 1) + 1 = k + 1 + i + 1 by omega] at this
        exact this
      · rw [show k + (x :: xs).length = k + 1 + xs.length by simp; omega]; exact hi
    refine Ok.bind (hs 0 x σ h rfl h0) fun f h1 q => ?_
    cases f with
    | nx σ1 => exact rest σ1 h1 q
    | ct σ1 => exact rest σ1 h1 q
    | br σ1 => exact .ok q
    | rt v => exact .ok q
theorem compL_ok {turn : D → Hh → Out (List D)} {okh : Hh → Prop} {Q : List D → Hh → Prop} (I : Nat → List D → Hh → Prop) : ∀ {xs : List D} {k : Nat} {acc : List D} {h : Hh}, I k acc h → (∀ i acc h, I i acc h → okh h) →
    (∀ i x acc h, xs[i]? = some x → I (k + i) acc h → Ok (turn x h) fun ys h1 => I (k + i + 1) (acc ++ ys) h1) → (∀ ys h, I (k + xs.length) (acc ++ ys) h → Q ys h) → Ok (compL turn okh xs h) Q
  | [], k, acc, h, h0, hk, _, hd => by
    unfold compL
    rw [if_pos (hk _ _ _ h0)]
    exact .ok (hd [] h (by simpa using h0))
  | x :: xs, k, acc, h, h0, hk, hs, hd => by
    unfold compL
    rw [if_pos (hk _ _ _ h0)]
    refine Ok.bind (hs 0 x acc h rfl h0) fun ys h1 q => ?_
    have rest : Ok (compL turn okh xs h1) fun zs h2 => Q (ys ++ zs) h2 := by
      refine compL_ok I (k := k + 1) (acc := acc ++ ys) q hk (fun i y acc h hy hi => ?_) fun zs h hi => hd _ h ?_
      · have := hs (i + 1) y acc h (by simpa using hy) (by rw [show k + (i + 1) = k + 1 + i by omega]; exact hi)
        rw [show k + (i + 1) + 1 = k + 1 + i + 1 by omega] at this
        exact this
      · rw [show k + (x :: xs).length = k + 1 + xs.length by simp; omega, ← List.append_assoc]; exact hi
    exact Ok.bind rest fun zs h2 q2 => .ok q2
/-- where the heap stays -/
theorem compL_map {turn : D → Hh → Out (List D)} {okh : Hh → Prop} {f : D → List D} {h : Hh} (ho : okh h) : ∀ {xs : List D}, (∀ x ∈ xs, turn x h = .ok (f x) h) → compL turn okh xs h = .ok (xs.flatMap f) h
  | [], _ => by unfold compL; rw [if_pos ho]; rfl
  | x :: xs, hs => by
    unfold compL
    rw [if_pos ho, hs x List.mem_cons_self, Out.thn_ok, compL_map ho fun y hy => hs y (List.mem_cons_of_mem _ hy), Out.thn_ok, List.flatMap_cons]
theorem wat_nil (h0 h : Hh) : Wat [] h0 h := fun _ hl => by simp at hl
theorem wat_refl (ws : List Nat) (h : Hh) : Wat ws h h := fun _ _ => rfl
/-! ### calls -/
theorem call_eq {T : Tb} {c m : String} {f : Df} {d : Nat} {args : List D} {h : Hh} (hT : T c m = some f) (hl : args.length = f.ps) : callF T (d + 1) c m args h = (evSs (callF T d) f.body (startD f.n args) h).thn fun r h1 => endF h h1 r := by
  show (match T c m with
    | none => Out.bad
    | some f => if args.length = f.ps then (evSs (callF T d) f.body (startD f.n args) h).thn fun r h1 => endF h h1 r else .bad) = _
  rw [hT]
  simp only [if_pos hl]
theorem fin_same {h h1 : Hh} {v : D} (e : h1.length = h.length) : fin h h1 v = .ok v h1 := by
  unfold fin
  rw [if_pos e]
theorem fin_self {h : Hh} {v : D} : fin h h v = .ok v h := fin_same rfl
theorem fin_drop {h h1 : Hh} {v : D} (hn : h1.length ≠ h.length) (hu : undV h.length (freeze h1 h.length v) = true) (ho : okOld h h1) : fin h h1 v = .ok (freeze h1 h.length v) (h1.take h.length) := by
  unfold fin
  rw [if_neg hn, if_pos ⟨hu, ho⟩]
@[simp] theorem endF_rt {h h1 : Hh} {v : D} : endF h h1 (.rt v) = fin h h1 v := rfl
@[simp] theorem endF_nx {h h1 : Hh} {σ : Env} : endF h h1 (.nx σ) = fin h h1 .non := rfl
/-! ### data -/
theorem pd_str {h : Hh} {s : List Nat} : pd h deep (.str s) = some (.str ⟨s.toArray⟩) := rfl
theorem pd_int {h : Hh} {i : Int} : pd h deep (.int i) = some (.int i) := rfl
theorem pd_bl {h : Hh} {b : Bool} : pd h deep (.bl b) = some (.bool b) := rfl
end Sd

/-! PyP2: the evaluator, step by step. -/
namespace Sd
namespace W
variable {C : Calls} {σ : Env} {h : Hh} {Q : D → Hh → Prop} {R : Fl → Hh → Prop}
/-- behind a statement -/
def Nx (C : Calls) (ss : List S) (R : Fl → Hh → Prop) : Fl → Hh → Prop
  | .nx σ, h => Ok (evSs C ss σ h) R
  | f, h => R f h
theorem nx {ss : List S} (q : Ok (evSs C ss σ h) R) : Nx C ss R (.nx σ) h := q
theorem rt {ss : List S} {v : D} (q : R (.rt v) h) : Nx C ss R (.rt v) h := q
theorem nil (q : R (.nx σ) h) : Ok (evSs C [] σ h) R := by
  simp only [evSs]
  exact .ok q
theorem cons {s : S} {ss : List S} (q : Ok (evS C s σ h) (Nx C ss R)) : Ok (evSs C (s :: ss) σ h) R := by
  simp only [evSs]
  refine Ok.bind q fun f h1 n => ?_
  cases f with
  | nx σ1 => exact n
  | _ => exact .ok n
/-- behind a call -/
def En (h : Hh) (Q : D → Hh → Prop) : Fl → Hh → Prop := fun f h1 => Ok (endF h h1 f) Q
theorem en {h1 : Hh} {v : D} (q : Ok (fin h h1 v) Q) : En h Q (.rt v) h1 := q
theorem enN {h1 : Hh} (q : Ok (fin h h1 .non) Q) : En h Q (.nx σ) h1 := q
theorem fn {T : Tb} {c m : String} {ps n d : Nat} {body : List S} {args : List D} (hT : T c m = some ⟨ps, n, body⟩) (hl : args.length = ps) (q : Ok (evSs (callF T d) body (startD n args) h) (En h Q)) : Ok (callF T (d + 1) c m args h) Q := by
  rw [call_eq hT hl]
  exact Ok.bind q fun _ _ z => z
theorem set {i : Nat} {e : E} (q : Ok (evE C e σ h) fun x h1 => i < σ.length ∧ R (.nx (σ.set i (some x.keep))) h1) : Ok (evS C (.set (.n i) e) σ h) R := by
  simp only [evS]
  refine Ok.bind q fun x h1 z => ?_
  simp only [setP, if_pos z.1]
  exact .ok z.2
theorem setT {p : Pat} {e : E} (q : Ok (evE C e σ h) fun x h1 => ∃ σ1, setP p x.keep σ = some σ1 ∧ R (.nx σ1) h1) : Ok (evS C (.set p e) σ h) R := by
  simp only [evS]
  refine Ok.bind q fun x h1 z => ?_
  obtain ⟨σ1, e, z⟩ := z
  simp only [e]
  exact .ok z
theorem par {i j : Nat} {a b : E} (q : Ok (evE C a σ h) fun x h1 => Ok (evE C b σ h1) fun y h2 => (i < σ.length ∧ j < σ.length ∧ i ≠ j) ∧ R (.nx ((σ.set i (some x.keep)).set j (some y.keep))) h2) : Ok (evS C (.par i j a b) σ h) R := by
  simp only [evS]
  refine Ok.bind q fun x h1 z => Ok.bind z fun y h2 w => ?_
  rw [if_pos w.1]
  exact .ok w.2
theorem seti {o i e : E} (q : Ok (evE C e σ h) fun x h1 => Ok (evE C o σ h1) fun y h2 => Ok (evE C i σ h2) fun z h3 => ∃ l k xs j, y = .ref l ∧ z = .int k ∧ h3[l]? = some (.lst xs) ∧ ixN xs.length k = some j ∧ R (.nx σ) (h3.set l (.lst (xs.set j x.keep)))) :
    Ok (evS C (.seti o i e) σ h) R := by
  simp only [evS]
  refine Ok.bind q fun x h1 z => Ok.bind z fun y h2 w => Ok.bind w fun u h3 v => ?_
  obtain ⟨l, k, xs, j, rfl, rfl, e1, e2, r⟩ := v
  simp only [e1, e2]
  exact .ok r
theorem app {o e : E} (q : Ok (evE C o σ h) fun y h1 => ∃ l zs, y = .ref l ∧ h1[l]? = some (.lst zs) ∧ Ok (evE C e σ h1) fun x h2 => ∃ xs, h2[l]? = some (.lst xs) ∧ xs.length < line ∧ R (.nx σ) (h2.set l (.lst (xs ++ [x.keep])))) : Ok (evS C (.app o e) σ h) R := by
  simp only [evS]
  refine Ok.bind q fun y h1 z => ?_
  obtain ⟨l, zs, rfl, e1, z⟩ := z
  simp only [e1]
  refine Ok.bind z fun x h2 w => ?_
  obtain ⟨xs, e2, hl, r⟩ := w
  simp only [e2, if_pos hl]
  exact .ok r
theorem ext {o e : E} (q : Ok (evE C o σ h) fun y h1 => ∃ l zs, y = .ref l ∧ h1[l]? = some (.lst zs) ∧ Ok (evE C e σ h1) fun x h2 => ∃ xs ys, h2[l]? = some (.lst xs) ∧ items h2 x = some ys ∧ xs.length + ys.length ≤ line ∧ R (.nx σ) (h2.set l (.lst (xs ++ ys)))) : Ok (evS C (.ext o e) σ h) R := by
  simp only [evS]
  refine Ok.bind q fun y h1 z => ?_
  obtain ⟨l, zs, rfl, e1, z⟩ := z
  simp only [e1]
  refine Ok.bind z fun x h2 w => ?_
  obtain ⟨xs, ys, e2, e3, hl, r⟩ := w
  simp only [e2, e3, if_pos hl]
  exact .ok r
theorem exp {e : E} (q : Ok (evE C e σ h) fun _ h1 => R (.nx σ) h1) : Ok (evS C (.exp e) σ h) R := by
  simp only [evS]
  exact Ok.bind q fun x h1 z => .ok z
theorem ret {e : E} (q : Ok (evE C e σ h) fun x h1 => R (.rt x) h1) : Ok (evS C (.ret e) σ h) R := by
  simp only [evS]
  exact Ok.bind q fun x h1 z => .ok z
theorem cond {c : E} {a b : List S} (q : Ok (evE C c σ h) fun x h1 => ∃ k, x = .bl k ∧ (k = true → Ok (evSs C a σ h1) R) ∧ (k = false → Ok (evSs C b σ h1) R)) : Ok (evS C (.cond c a b) σ h) R := by
  simp only [evS]
  refine Ok.bind q fun x h1 z => ?_
  obtain ⟨k, rfl, z1, z2⟩ := z
  cases k with
  | true => exact z1 rfl
  | false => exact z2 rfl
theorem pass (q : R (.nx σ) h) : Ok (evS C .pass σ h) R := by
  simp only [evS]
  exact .ok q
/-- a body of a loop, the item taken first -/
def Bd (C : Calls) (p : Pat) (a : List S) (x : D) (σ : Env) (h : Hh) (R : Fl → Hh → Prop) : Prop := ∃ σ1, setP p x σ = some σ1 ∧ Ok (evSs C a σ1 h) R
theorem forr {p : Pat} {it : It} {a : List S} (q : Ok (evI C it σ h) fun r h1 => ∃ I : Nat → Env → Hh → Prop, I 0 σ h1 ∧ (∀ i σ h, I i σ h → Wat r.2 h1 h) ∧ (∀ i x σ h, r.1[i]? = some x → I i σ h → Bd C p a x σ h fun f h2 => match f with
      | .nx σ1 => I (i + 1) σ1 h2
      | .ct σ1 => I (i + 1) σ1 h2
      | .br σ1 => R (.nx σ1) h2
      | .rt v => R (.rt v) h2) ∧ (∀ σ h, I r.1.length σ h → R (.nx σ) h)) : Ok (evS C (.forr p it a) σ h) R := by
  simp only [evS]
  refine Ok.bind q fun r h1 z => ?_
  obtain ⟨I, i0, iw, is, ie⟩ := z
  refine forL_ok I (k := 0) i0 iw (fun i x σ h hx hi => ?_) (fun σ h hi => ie σ h (by simpa using hi))
  rw [Nat.zero_add] at hi ⊢
  obtain ⟨σ1, e, ok⟩ := is i x σ h hx hi
  simp only [e]
  exact ok.mono fun f h2 q => by cases f <;> exact q
/-! ### expressions -/
theorem cst {d : D} (q : Q d h) : Ok (evE C (.cst d) σ h) Q := by
  simp only [evE]
  exact .ok q
theorem var {i : Nat} {d : D} (e : σ[i]? = some (some d)) (q : Q d h) : Ok (evE C (.var i) σ h) Q := by
  simp only [evE, e]
  exact .ok q
theorem tup {es : List E} (q : Ok (evEs C es σ h) fun xs h1 => Q (.tup xs) h1) : Ok (evE C (.tup es) σ h) Q := by
  simp only [evE]
  exact Ok.bind q fun x h1 z => .ok z
theorem lst {es : List E} (q : Ok (evEs C es σ h) fun xs h1 => Q (.lv xs) h1) : Ok (evE C (.lst es) σ h) Q := by
  simp only [evE]
  exact Ok.bind q fun x h1 z => .ok z
theorem es0 {P : List D → Hh → Prop} (q : P [] h) : Ok (evEs C [] σ h) P := by
  simp only [evEs]
  exact .ok q
theorem es {e : E} {es : List E} {P : List D → Hh → Prop} (q : Ok (evE C e σ h) fun x h1 => Ok (evEs C es σ h1) fun xs h2 => P (x.keep :: xs) h2) : Ok (evEs C (e :: es) σ h) P := by
  simp only [evEs]
  exact Ok.bind q fun x h1 z => Ok.bind z fun y h2 w => .ok w
theorem o1 {o : O1} {a : E} (q : Ok (evE C a σ h) fun x h1 => ∃ z, o1F o h1 x = some z ∧ Q z h1) : Ok (evE C (.o1 o a) σ h) Q := by
  simp only [evE]
  refine Ok.bind q fun x h1 z => ?_
  obtain ⟨y, e, r⟩ := z
  rw [e]
  exact .ok r
theorem o2 {o : O2} {a b : E} (q : Ok (evE C a σ h) fun x h1 => Ok (evE C b σ h1) fun y h2 => ∃ z, o2F o h2 x y = some z ∧ Q z h2) : Ok (evE C (.o2 o a b) σ h) Q := by
  simp only [evE]
  refine Ok.bind q fun x h1 z => Ok.bind z fun y h2 w => ?_
  obtain ⟨y, e, r⟩ := w
  rw [e]
  exact .ok r
theorem slice {a b c : E} (q : Ok (evE C a σ h) fun x h1 => Ok (evE C b σ h1) fun y h2 => Ok (evE C c σ h2) fun z h3 => ∃ w, o3F .slice h3 x y z = some w ∧ Q w h3) : Ok (evE C (.o3 .slice a b c) σ h) Q := by
  simp only [evE]
  refine Ok.bind q fun x h1 z => Ok.bind z fun y h2 w => Ok.bind w fun u h3 v => ?_
  obtain ⟨y, e, r⟩ := v
  rw [e]
  exact .ok r
theorem chn {o p : O2} {a b c : E} (q : Ok (evE C a σ h) fun x h1 => Ok (evE C b σ h1) fun y h2 => ∃ k, o2F o h2 x y = some (.bl k) ∧ (k = true → Ok (evE C c σ h2) fun z h4 => ∃ w, o2F p h4 y z = some w ∧ Q w h4) ∧ (k = false → Q (.bl false) h2)) : Ok (evE C (.chn o p a b c) σ h) Q := by
  simp only [evE]
  refine Ok.bind q fun x h1 z => Ok.bind z fun y h2 w => ?_
  obtain ⟨k, e, r1, r2⟩ := w
  rw [e, Out.of_some, Out.thn_ok]
  cases k with
  | true =>
    refine Ok.bind (r1 rfl) fun u h4 v => ?_
    obtain ⟨y, e, r⟩ := v
    rw [e]
    exact .ok r
  | false => exact .ok (r2 rfl)
theorem and {a b : E} (q : Ok (evE C a σ h) fun x h1 => ∃ k, x = .bl k ∧ (k = true → Ok (evE C b σ h1) Q) ∧ (k = false → Q (.bl false) h1)) : Ok (evE C (.and a b) σ h) Q := by
  simp only [evE]
  refine Ok.bind q fun x h1 z => ?_
  obtain ⟨k, rfl, r1, r2⟩ := z
  cases k with
  | true => exact r1 rfl
  | false => exact .ok (r2 rfl)
theorem or {a b : E} (q : Ok (evE C a σ h) fun x h1 => ∃ k, x = .bl k ∧ (k = false → Ok (evE C b σ h1) Q) ∧ (k = true → Q (.bl true) h1)) : Ok (evE C (.or a b) σ h) Q := by
  simp only [evE]
  refine Ok.bind q fun x h1 z => ?_
  obtain ⟨k, rfl, r1, r2⟩ := z
  cases k with
  | false => exact r1 rfl
  | true => exact .ok (r2 rfl)
theorem ife {c a b : E} (q : Ok (evE C c σ h) fun x h1 => ∃ k, x = .bl k ∧ (k = true → Ok (evE C a σ h1) Q) ∧ (k = false → Ok (evE C b σ h1) Q)) : Ok (evE C (.ife c a b) σ h) Q := by
  simp only [evE]
  refine Ok.bind q fun x h1 z => ?_
  obtain ⟨k, rfl, r1, r2⟩ := z
  cases k with
  | true => exact r1 rfl
  | false => exact r2 rfl
theorem call {c m : String} {es : List E} (q : Ok (evEs C es σ h) fun xs h1 => Ok (C c m xs h1) Q) : Ok (evE C (.call c m es) σ h) Q := by
  simp only [evE]
  exact Ok.bind q fun x h1 z => z
theorem alcL {a : E} (q : Ok (evE C a σ h) fun x h1 => ∃ xs, x = .lv xs ∧ Q (.ref h1.length) (h1 ++ [.lst xs])) : Ok (evE C (.alc a) σ h) Q := by
  simp only [evE]
  refine Ok.bind q fun x h1 z => ?_
  obtain ⟨xs, rfl, r⟩ := z
  exact .ok r
/-- a value that is no list just made -/
theorem alcR {a : E} (q : Ok (evE C a σ h) fun x h1 => ∃ l, x = .ref l ∧ Q (.ref l) h1) : Ok (evE C (.alc a) σ h) Q := by
  simp only [evE]
  refine Ok.bind q fun x h1 z => ?_
  obtain ⟨xs, rfl, r⟩ := z
  exact .ok r
theorem pop {a : E} (q : Ok (evE C a σ h) fun x h1 => ∃ l xs y, x = .ref l ∧ h1[l]? = some (.lst xs) ∧ xs.getLast? = some y ∧ Q y (h1.set l (.lst xs.dropLast))) : Ok (evE C (.pop a) σ h) Q := by
  simp only [evE]
  refine Ok.bind q fun x h1 z => ?_
  obtain ⟨l, xs, y, rfl, e1, e2, r⟩ := z
  simp only [e1, e2]
  exact .ok r
/-- the tests of a clause -/
theorem ts0 {P : Bool → Hh → Prop} (q : P true h) : Ok (evTs C [] σ h) P := by
  simp only [evTs]
  exact .ok q
theorem ts1 {e : E} {P : Bool → Hh → Prop} (q : Ok (evE C e σ h) fun x h1 => ∃ k, x = .bl k ∧ P k h1) : Ok (evTs C [e] σ h) P := by
  simp only [evTs]
  refine Ok.bind q fun x h1 z => ?_
  obtain ⟨k, rfl, r⟩ := z
  cases k with
  | true => exact .ok r
  | false => exact .ok r
/-- an item of a comprehension -/
def It1 (C : Calls) (own : List Nat) (elt : E) (p : Pat) (ifs : List E) (σ : Env) (x : D) (h : Hh) (P : List D → Hh → Prop) : Prop :=
  ∃ σ1, setP p x (Sd.wipe σ own) = some σ1 ∧ Ok (evTs C ifs σ1 h) fun t h1 => (t = true → Ok (evE C elt σ1 h1) fun y h2 => P [y.keep] h2) ∧ (t = false → P [] h1)
theorem it1_ok {own : List Nat} {elt : E} {p : Pat} {ifs : List E} {x : D} {P : List D → Hh → Prop} (q : It1 C own elt p ifs σ x h P) : Ok (match setP p x (Sd.wipe σ own) with
        | some σ2 => (evTs C ifs σ2 h).thn fun t h3 => if t then (evE C elt σ2 h3).thn fun y h4 => .ok [y.keep] h4 else .ok [] h3
        | none => .bad) P := by
  obtain ⟨σ1, e, q⟩ := q
  simp only [e]
  refine Ok.bind q fun t h1 z => ?_
  cases t with
  | true => exact Ok.bind (z.1 rfl) fun y h2 w => .ok w
  | false => exact .ok (z.2 rfl)
theorem comp {own : List Nat} {elt : E} {p : Pat} {it : It} {ifs : List E} (q : Ok (evI C it σ h) fun r h1 => ∃ I : Nat → List D → Hh → Prop, I 0 [] h1 ∧ (∀ i ys h, I i ys h → Wat r.2 h1 h) ∧ (∀ i x ys h, r.1[i]? = some x → I i ys h → It1 C own elt p ifs σ x h fun zs h2 => I (i + 1) (ys ++ zs) h2) ∧
    (∀ ys h, I r.1.length ys h → ys.length ≤ line ∧ Q (.lv ys) h)) : Ok (evE C (.comp own elt p it ifs) σ h) Q := by
  simp only [evE]
  refine Ok.bind q fun r h1 z => ?_
  obtain ⟨I, i0, iw, is, ie⟩ := z
  refine Ok.bind (Q := fun ys h2 => ys.length ≤ line ∧ Q (.lv ys) h2) ?_ fun ys h2 w => ?_
  · refine compL_ok I (k := 0) (acc := []) i0 iw (fun i x acc h hx hi => ?_) (fun ys h hi => ie ys h (by simpa using hi))
    rw [Nat.zero_add] at hi ⊢
    exact it1_ok (is i x acc h hx hi)
  · rw [if_pos w.1]
    exact .ok w.2
/-- where the heap stays and each item gives what f tells -/
theorem compM {own : List Nat} {elt : E} {p : Pat} {it : It} {ifs : List E} (f : D → List D) (q : Ok (evI C it σ h) fun r h1 => (∀ x ∈ r.1, It1 C own elt p ifs σ x h1 fun zs h2 => zs = f x ∧ h2 = h1) ∧ (r.1.flatMap f).length ≤ line ∧ Q (.lv (r.1.flatMap f)) h1) : Ok (evE C (.comp own elt p it ifs) σ h) Q := by
  refine comp (q.mono fun r h1 z => ?_)
  obtain ⟨zs, hl, zq⟩ := z
  refine ⟨fun i ys h => ys = (r.1.take i).flatMap f ∧ h = h1, ⟨by simp, rfl⟩, fun i ys h z => z.2 ▸ wat_refl _ _, fun i x ys h hx z => ?_, fun ys h z => ?_⟩
  · obtain ⟨rfl, rfl⟩ := z
    obtain ⟨σ1, e, ok⟩ := zs x (List.mem_of_getElem? hx)
    refine ⟨σ1, e, ok.mono fun t h2 w => ⟨fun ht => (w.1 ht).mono fun y h3 u => ⟨?_, u.2⟩, fun ht => ⟨?_, (w.2 ht).2⟩⟩⟩
    · rw [u.1, List.take_succ, hx, List.flatMap_append]; simp
    · rw [(w.2 ht).1, List.take_succ, hx, List.flatMap_append]; simp
  · obtain ⟨rfl, rfl⟩ := z
    rw [List.take_length]
    exact ⟨hl, zq⟩
/-- two clauses, where the heap stays -/
theorem comp2M {own : List Nat} {elt : E} {p p2 : Pat} {it it2 : It} {ifs ifs2 : List E} (f : D → List D) (q : Ok (evI C it σ h) fun r h1 => (∀ x ∈ r.1, ∃ σ1, setP p x (Sd.wipe σ own) = some σ1 ∧ Ok (evTs C ifs σ1 h1) fun t h2 => h2 = h1 ∧ (t = true → Ok (evI C it2 σ1 h1) fun r2 h3 => h3 = h1 ∧
      ∃ g : D → List D, (∀ y ∈ r2.1, It1 C p2.ix elt p2 ifs2 σ1 y h1 fun zs h4 => zs = g y ∧ h4 = h1) ∧ r2.1.flatMap g = f x) ∧ (t = false → f x = [])) ∧ (r.1.flatMap f).length ≤ line ∧ Q (.lv (r.1.flatMap f)) h1) : Ok (evE C (.comp2 own elt p it ifs p2 it2 ifs2) σ h) Q := by
  simp only [evE]
  refine Ok.bind q fun r h1 z => ?_
  obtain ⟨zs, hl, zq⟩ := z
  have e : compL (fun d h2 => match setP p d (Sd.wipe σ own) with
        | some σ2 => (evTs C ifs σ2 h2).thn fun t h3 => if t then (evI C it2 σ2 h3).thn fun r2 h4 =>
            compL (fun d2 h5 => match setP p2 d2 (Sd.wipe σ2 p2.ix) with
              | some σ3 => (evTs C ifs2 σ3 h5).thn fun t2 h6 => if t2 then (evE C elt σ3 h6).thn fun y h7 => .ok [y.keep] h7 else .ok [] h6
              | none => .bad) (Wat r2.2 h4) r2.1 h4
          else .ok [] h3
        | none => .bad) (Wat r.2 h1) r.1 h1 = .ok (r.1.flatMap f) h1 := by
    refine compL_map (wat_refl _ _) fun x hx => ?_
    obtain ⟨σ1, e1, t, h2, e2, rfl, z1, z2⟩ := zs x hx
    simp only [e1, e2, Out.thn_ok]
    cases t with
    | true =>
      obtain ⟨r2, h3, e3, rfl, g, hg, hf⟩ := z1 rfl
      simp only [if_true, e3, Out.thn_ok]
      rw [compL_map (f := g) (wat_refl _ _) fun y hy => ?_, hf]
      obtain ⟨zs, h4, e4, rfl, rfl⟩ := it1_ok (hg y hy)
      exact e4
    | false =>
      simp only [Bool.false_eq_true, if_false, z2 rfl]
  refine Ok.bind (Q := fun ys h2 => ys = r.1.flatMap f ∧ h2 = h1) ⟨_, _, e, rfl, rfl⟩ fun ys h2 w => ?_
  obtain ⟨rfl, rfl⟩ := w
  rw [if_pos hl]
  exact .ok zq
theorem val {e : E} {P : List D × List Nat → Hh → Prop} (q : Ok (evE C e σ h) fun x h1 => ∃ r, walkD h1 x = some r ∧ P r h1) : Ok (evI C (.val e) σ h) P := by
  simp only [evI]
  refine Ok.bind q fun x h1 z => ?_
  obtain ⟨r, e, w⟩ := z
  rw [e]
  exact .ok w
theorem rng {e : E} {P : List D × List Nat → Hh → Prop} (q : Ok (evE C e σ h) fun x h1 => ∃ i, x = .int i ∧ small i = true ∧ P (rngD 0 i, []) h1) : Ok (evI C (.rng e) σ h) P := by
  simp only [evI]
  refine Ok.bind q fun x h1 z => ?_
  obtain ⟨i, rfl, e, w⟩ := z
  simp only [e, if_true]
  exact .ok w
theorem rng2 {a b : E} {P : List D × List Nat → Hh → Prop} (q : Ok (evE C a σ h) fun x h1 => Ok (evE C b σ h1) fun y h2 => ∃ i j, x = .int i ∧ y = .int j ∧ small i = true ∧ small j = true ∧ P (rngD i j, []) h2) : Ok (evI C (.rng2 a b) σ h) P := by
  simp only [evI]
  refine Ok.bind q fun x h1 z => Ok.bind z fun y h2 w => ?_
  obtain ⟨i, j, rfl, rfl, e, e2, w⟩ := w
  simp only [e, e2, Bool.and_self, if_true]
  exact .ok w
theorem enu {a : E} {P : List D × List Nat → Hh → Prop} (q : Ok (evE C a σ h) fun x h1 => ∃ r, walkD h1 x = some r ∧ P (enuD 0 r.1, r.2) h1) : Ok (evI C (.enu a) σ h) P := by
  simp only [evI]
  refine Ok.bind q fun x h1 z => ?_
  obtain ⟨r, e, w⟩ := z
  rw [e]
  exact .ok w
/-! ### lists of ours -/
theorem get_set {l : Nat} {o ob : Ob} (hl : h[l]? = some o) : (h.set l ob)[l]? = some ob := List.getElem?_set_self (List.getElem?_eq_some_iff.mp hl).1
theorem getR {v l : Nat} {k : Int} {xs : List D} {x : D} (hσ : σ[v]? = some (some (.ref l))) (hl : h[l]? = some (.lst xs)) (hx : atI xs k = some x) (q : Q x h) : Ok (evE C (.o2 .idx (.var v) (.cst (.int k))) σ h) Q := by
  refine o2 (var hσ (cst ⟨x, ?_, q⟩))
  simp only [o2F, seqs, items, hl]
  exact hx
theorem lenR {v l : Nat} {xs : List D} (hσ : σ[v]? = some (some (.ref l))) (hl : h[l]? = some (.lst xs)) (q : Q (.int xs.length) h) : Ok (evE C (.o1 .len (.var v)) σ h) Q := by
  refine o1 (var hσ ⟨.int xs.length, ?_, q⟩)
  simp only [o1F, seqs, items, hl]
theorem setR {v l : Nat} {k : Int} {e : E} (hσ : σ[v]? = some (some (.ref l))) (q : Ok (evE C e σ h) fun x h1 => ∃ xs j, h1[l]? = some (.lst xs) ∧ ixN xs.length k = some j ∧ ((h1.set l (.lst (xs.set j x.keep)))[l]? = some (.lst (xs.set j x.keep)) → R (.nx σ) (h1.set l (.lst (xs.set j x.keep))))) :
    Ok (evS C (.seti (.var v) (.cst (.int k)) e) σ h) R := by
  refine seti (q.mono fun x h1 z => ?_)
  obtain ⟨xs, j, e1, e2, z⟩ := z
  exact var hσ (cst ⟨l, k, xs, j, rfl, rfl, e1, e2, z (get_set e1)⟩)
theorem atI_some {α : Type} {xs : List α} {i : Int} (h0 : 0 ≤ i) (h1 : i < xs.length) : ∃ x, atI xs i = some x ∧ xs[i.toNat]? = some x := by
  have hl : i.toNat < xs.length := by omega
  refine ⟨xs[i.toNat], ?_, List.getElem?_eq_getElem hl⟩
  simp only [atI, ixN, if_pos h0, if_pos h1, Option.bind_some]
  exact List.getElem?_eq_getElem hl
/-! ### leaves -/
theorem mulK {i j : Int} (hj : -(2 ^ 64) < j ∧ j < 2 ^ 64) : o2F .mul h (.int i) (.int j) = some (.int (i * j)) := by
  simp only [o2F]
  rw [if_pos (.inr hj)]
theorem modK {i j : Int} (hj : 0 < j) : o2F .mod h (.int i) (.int j) = some (.int (i % j)) := by
  simp only [o2F]
  rw [if_pos hj]
theorem divK {i j : Int} (hj : 0 < j) (hj2 : j < 1073741824) : o2F .div h (.int i) (.int j) = some (.int (i / j)) := by
  simp only [o2F]
  rw [if_pos ⟨hj, hj2⟩]
/-! ### looks at a goal -/
theorem isVar {i : Nat} (q : Ok (evE C (.var i) σ h) Q) : Ok (evE C (.var i) σ h) Q := q
theorem isGetR {v : Nat} {k : Int} (q : Ok (evE C (.o2 .idx (.var v) (.cst (.int k))) σ h) Q) : Ok (evE C (.o2 .idx (.var v) (.cst (.int k))) σ h) Q := q
theorem isLenR {v : Nat} (q : Ok (evE C (.o1 .len (.var v)) σ h) Q) : Ok (evE C (.o1 .len (.var v)) σ h) Q := q
theorem isSetR {v : Nat} {k : Int} {e : E} (q : Ok (evS C (.seti (.var v) (.cst (.int k)) e) σ h) R) : Ok (evS C (.seti (.var v) (.cst (.int k)) e) σ h) R := q
theorem isLf {o : Option D} {P : D → Prop} (q : ∃ z, o = some z ∧ P z) : ∃ z, o = some z ∧ P z := q
theorem isLt {i : Nat} {P : Prop} (q : i < σ.length ∧ P) : i < σ.length ∧ P := q
theorem isMul {x y : D} {P : D → Prop} (q : ∃ z, o2F .mul h x y = some z ∧ P z) : ∃ z, o2F .mul h x y = some z ∧ P z := q
theorem isLfS {l : Nat} {k : Int} {P : List D → Nat → Prop} (q : ∃ xs j, h[l]? = some (.lst xs) ∧ ixN xs.length k = some j ∧ P xs j) : ∃ xs j, h[l]? = some (.lst xs) ∧ ixN xs.length k = some j ∧ P xs j := q
theorem isEq {x y : D} {P : D → Prop} (q : ∃ z, o2F .eq h x y = some z ∧ P z) : ∃ z, o2F .eq h x y = some z ∧ P z := q
theorem isNe {x y : D} {P : D → Prop} (q : ∃ z, o2F .ne h x y = some z ∧ P z) : ∃ z, o2F .ne h x y = some z ∧ P z := q
theorem strEq (a b : List Nat) : PySem.PyData.eqv (.str ⟨a.toArray⟩) (.str ⟨b.toArray⟩) = decide (a = b) := by
  show ((⟨a.toArray⟩ : PySem.Str) == ⟨b.toArray⟩) = _
  by_cases hab : a = b
  · subst hab; simp
  · rw [decide_eq_false hab, beq_eq_false_iff_ne]
    intro e
    apply hab
    have := congrArg (fun x : PySem.Str => x.cps.toList) e
    simpa using this
theorem eqS {a b : List Nat} : o2F .eq h (.str a) (.str b) = some (.bl (decide (a = b))) := by
  show some (D.bl (PySem.PyData.eqv (.str ⟨a.toArray⟩) (.str ⟨b.toArray⟩))) = _
  rw [strEq]
theorem neS {a b : List Nat} : o2F .ne h (.str a) (.str b) = some (.bl (!decide (a = b))) := by
  show some (D.bl (!PySem.PyData.eqv (.str ⟨a.toArray⟩) (.str ⟨b.toArray⟩))) = _
  rw [strEq]
theorem eqI {i j : Int} : o2F .eq h (.int i) (.int j) = some (.bl (decide (i = j))) := by
  show some (D.bl (PySem.PyData.eqv (.int i) (.int j))) = _
  simp only [PySem.PyData.eqv]
  rw [Bool.beq_eq_decide_eq]
theorem neI {i j : Int} : o2F .ne h (.int i) (.int j) = some (.bl (!decide (i = j))) := by
  show some (D.bl (!PySem.PyData.eqv (.int i) (.int j))) = _
  simp only [PySem.PyData.eqv]
  rw [Bool.beq_eq_decide_eq]
theorem isBr {x : D} {A B : Prop} (q : ∃ k, x = .bl k ∧ (k = true → A) ∧ (k = false → B)) : ∃ k, x = .bl k ∧ (k = true → A) ∧ (k = false → B) := q
theorem isBr2 {x : D} {A B : Prop} (q : ∃ k, x = .bl k ∧ (k = false → A) ∧ (k = true → B)) : ∃ k, x = .bl k ∧ (k = false → A) ∧ (k = true → B) := q
end W
end Sd

/-! GenA: the functions by which the laws draw their inputs. -/
namespace Sd
namespace Gen
/-- _law_same: 0 actual, 1 due, 2 k -/
def b_law_same : List S := [
  (.cond (.or (.o1 (.isi .tup) (.var 1)) (.o1 (.isi .lst) (.var 1))) [(.cond (.or (.o2 .ne (.o1 (.isi .tup) (.var 1)) (.o1 (.isi .tup) (.var 0))) (.o2 .ne (.o1 (.isi .lst) (.var 1)) (.o1 (.isi .lst) (.var 0)))) [(.ret (.cst (.bl false)))] []), (.cond (.o2 .ne (.o1 .len (.var 0)) (.o1 .len (.var 1))) [(.ret (.cst (.bl false)))] []), (.ret (.o2 .eq (.o1 .len (.comp [2] (.var 2) (.n 2) (.rng (.o1 .len (.var 1))) [(.o1 .not (.call "" "_law_same" [(.o2 .idx (.var 0) (.var 2)), (.o2 .idx (.var 1) (.var 2))]))])) (.cst (.int 0))))] []),
  (.cond (.o1 .isN (.var 1)) [(.ret (.o1 .isN (.var 0)))] []),
  (.cond (.or (.o1 (.isi .bool) (.var 1)) (.o1 (.isi .bool) (.var 0))) [(.ret (.and (.o1 (.isi .bool) (.var 1)) (.and (.o1 (.isi .bool) (.var 0)) (.o2 .eq (.var 0) (.var 1)))))] []),
  (.cond (.o1 (.isi .int) (.var 1)) [(.ret (.and (.o1 (.isi .int) (.var 0)) (.o2 .eq (.var 0) (.var 1))))] []),
  (.ret (.and (.o1 (.isi .str) (.var 0)) (.o2 .eq (.var 0) (.var 1))))]
/-- _law_pool: 0 script, 1 salt, 2 cell -/
def b_law_pool : List S := [
  (.set (.n 1) (.cst (.int 7))),
  (.forr (.n 2) (.val (.o3 .slice (.var 0) (.cst .non) (.o1 .ofI (.cst (.int 63))))) [(.set (.n 1) (.o2 .mod (.o1 .int (.o2 .add (.o2 .mul (.var 1) (.cst (.int 31))) (.var 2))) (.cst (.int 1000003))))]),
  (.ret (.lst [(.o1 .list (.var 0)), (.cst (.int 0)), (.cst (.int 0)), (.cst (.int 0)), (.var 1)]))]
/-- _law_spread: 0 cell, 1 blended, 2 whole_sum, 3 k -/
def b_law_spread : List S := [
  (.set (.n 1) (.o2 .mod (.o1 .int (.var 0)) (.cst (.int 2147483647)))),
  (.set (.n 2) (.cst (.int 1))),
  (.forr (.n 3) (.rng (.cst (.int 4))) [(.set (.n 1) (.o2 .mod (.o1 .int (.o2 .add (.o2 .add (.o2 .mul (.var 1) (.cst (.int 48271))) (.cst (.int 12345))) (.var 3))) (.cst (.int 2147483647)))), (.set (.n 2) (.o2 .add (.o2 .mul (.var 2) (.cst (.int 2147483647))) (.var 1)))]),
  (.ret (.var 2))]
/-- _law_draw: 0 pool, 1 many, 2 cell, 3 blended, 4 value -/
def b_law_draw : List S := [
  (.cond (.and (.o2 .le (.o2 .idx (.var 0) (.cst (.int 2))) (.cst (.int 0))) (.o2 .lt (.o2 .idx (.var 0) (.cst (.int 1))) (.o1 .len (.o2 .idx (.var 0) (.cst (.int 0)))))) [(.set (.n 2) (.o2 .idx (.o2 .idx (.var 0) (.cst (.int 0))) (.o2 .idx (.var 0) (.cst (.int 1))))), (.seti (.var 0) (.cst (.int 1)) (.o2 .add (.o2 .idx (.var 0) (.cst (.int 1))) (.cst (.int 1)))), (.seti (.var 0) (.cst (.int 2)) (.var 2)), (.cond (.o2 .lt (.var 2) (.cst (.int 1000000000000000000))) [(.seti (.var 0) (.cst (.int 2)) (.call "" "_law_spread" [(.var 2)]))] [])] []),
  (.seti (.var 0) (.cst (.int 3)) (.o2 .add (.o2 .idx (.var 0) (.cst (.int 3))) (.cst (.int 1)))),
  (.cond (.o2 .le (.o2 .idx (.var 0) (.cst (.int 2))) (.cst (.int 0))) [(.set (.n 3) (.o2 .mod (.o1 .int (.o2 .add (.o2 .add (.o2 .mul (.o2 .idx (.var 0) (.cst (.int 4))) (.cst (.int 48271))) (.o2 .mul (.o2 .idx (.var 0) (.cst (.int 3))) (.cst (.int 69621)))) (.cst (.int 1)))) (.cst (.int 2147483647)))), (.set (.n 3) (.o2 .mod (.o1 .int (.o2 .add (.o2 .mul (.var 3) (.cst (.int 16807))) (.o2 .idx (.var 0) (.cst (.int 3))))) (.cst (.int 2147483629)))), (.ret (.o2 .mod (.o2 .div (.var 3) (.cst (.int 5))) (.var 1)))] []),
  (.set (.n 4) (.o2 .mod (.o1 .int (.o2 .idx (.var 0) (.cst (.int 2)))) (.var 1))),
  (.seti (.var 0) (.cst (.int 2)) (.o2 .div (.o2 .idx (.var 0) (.cst (.int 2))) (.var 1))),
  (.ret (.var 4))]
/-- _law_sounds: 0 pool -/
def b_law_sounds : List S := [
  (.ret (.o2 .idx (.tup [(.cst (.str [97, 98])), (.cst (.str [97, 98, 99])), (.cst (.str [97])), (.cst (.str [97, 98]))]) (.call "" "_law_draw" [(.var 0), (.cst (.int 4))])))]
/-- _law_lot: 0 pool, 1 sounds, 2 found, 3 one -/
def b_law_lot : List S := [
  (.set (.n 2) (.o2 .join (.cst (.str [])) (.comp [3] (.var 3) (.n 3) (.val (.var 1)) [(.o2 .eq (.call "" "_law_draw" [(.var 0), (.cst (.int 2))]) (.cst (.int 0)))]))),
  (.ret (.ife (.o2 .ne (.var 2) (.cst (.str []))) (.var 2) (.o2 .idx (.var 1) (.call "" "_law_draw" [(.var 0), (.o1 .len (.var 1))]))))]
/-- _law_word: 0 pool, 1 sounds, 2 most, 3 k -/
def b_law_word : List S := [
  (.ret (.o2 .join (.cst (.str [])) (.comp [3] (.o2 .idx (.var 1) (.call "" "_law_draw" [(.var 0), (.o1 .len (.var 1))])) (.n 3) (.rng (.call "" "_law_draw" [(.var 0), (.o2 .add (.var 2) (.cst (.int 1)))])) [])))]
/-- _law_slots: 0 pool, 1 sounds, 2 edge, 3 found, 4 k -/
def b_law_slots : List S := [
  (.set (.n 3) (.alc (.comp [4] (.call "" "_law_lot" [(.var 0), (.var 1)]) (.n 4) (.rng (.o2 .idx (.tup [(.cst (.int 0)), (.cst (.int 0)), (.cst (.int 1)), (.cst (.int 1)), (.cst (.int 2))]) (.call "" "_law_draw" [(.var 0), (.cst (.int 5))]))) []))),
  (.cond (.and (.o2 .gt (.o1 .len (.var 3)) (.cst (.int 0))) (.o2 .eq (.call "" "_law_draw" [(.var 0), (.cst (.int 4))]) (.cst (.int 0)))) [(.seti (.var 3) (.ife (.o2 .eq (.var 2) (.cst (.int 0))) (.cst (.int 0)) (.o2 .sub (.o1 .len (.var 3)) (.cst (.int 1)))) (.cst (.str [35])))] []),
  (.ret (.o1 .tuple (.var 3)))]
/-- _law_law: 0 pool, 1 sounds, 2 changes, 3 one -/
def b_law_law : List S := [
  (.set (.n 2) (.o1 .tuple (.comp [3] (.tup [(.var 3), (.call "" "_law_word" [(.var 0), (.var 1), (.cst (.int 2))])]) (.n 3) (.val (.var 1)) [(.o2 .eq (.call "" "_law_draw" [(.var 0), (.cst (.int 2))]) (.cst (.int 0)))]))),
  (.cond (.o2 .eq (.o1 .len (.var 2)) (.cst (.int 0))) [(.set (.n 2) (.tup [(.tup [(.o2 .idx (.var 1) (.cst (.int 0))), (.call "" "_law_word" [(.var 0), (.var 1), (.cst (.int 2))])])]))] []),
  (.ret (.tup [(.var 2), (.call "" "_law_slots" [(.var 0), (.var 1), (.cst (.int 0))]), (.call "" "_law_slots" [(.var 0), (.var 1), (.cst (.int 1))])]))]
/-- _law_history: 0 pool, 1 sounds, 2 most, 3 found, 4 slots, 5 k, 6 law -/
def b_law_history : List S := [
  (.set (.t [3, 4]) (.tup [(.tup []), (.cst (.int 0))])),
  (.forr (.n 5) (.rng (.call "" "_law_draw" [(.var 0), (.o2 .add (.var 2) (.cst (.int 1)))])) [(.set (.n 6) (.call "" "_law_law" [(.var 0), (.var 1)])), (.set (.n 4) (.o2 .add (.o2 .add (.var 4) (.o1 .len (.o2 .idx (.var 6) (.cst (.int 1))))) (.o1 .len (.o2 .idx (.var 6) (.cst (.int 2)))))), (.set (.n 3) (.o2 .add (.var 3) (.ife (.o2 .lt (.var 4) (.cst (.int 5))) (.tup [(.var 6)]) (.tup [(.tup [(.o2 .idx (.var 6) (.cst (.int 0))), (.tup []), (.tup [])])]))))]),
  (.ret (.var 3))]

structure GT (T : Tb) : Prop where
  same : T "" "_law_same" = some ⟨2, 3, b_law_same⟩
  pool : T "" "_law_pool" = some ⟨1, 3, b_law_pool⟩
  spread : T "" "_law_spread" = some ⟨1, 4, b_law_spread⟩
  draw : T "" "_law_draw" = some ⟨2, 5, b_law_draw⟩
  sounds : T "" "_law_sounds" = some ⟨1, 1, b_law_sounds⟩
  lot : T "" "_law_lot" = some ⟨2, 4, b_law_lot⟩
  word : T "" "_law_word" = some ⟨3, 4, b_law_word⟩
  slots : T "" "_law_slots" = some ⟨3, 5, b_law_slots⟩
  law : T "" "_law_law" = some ⟨2, 4, b_law_law⟩
  history : T "" "_law_history" = some ⟨3, 7, b_law_history⟩
/-- a pool: the script, the place, the cell, the number of draws, the salt -/
def PoolOb (o : Ob) : Prop := ∃ (ns : List Int) (i c k s : Int), o = .lst [.fz (ns.map .int), .int i, .int c, .int k, .int s] ∧ 0 ≤ i
theorem rng_get {a b : Int} {i : Nat} {x : D} (h : (rngD a b)[i]? = some x) : x = .int (a + (i : Nat)) ∧ (i : Int) < b - a := by
  unfold rngD at h
  rw [List.getElem?_map] at h
  obtain ⟨y, hy, rfl⟩ := Option.map_eq_some_iff.mp h
  obtain ⟨hl, e⟩ := List.getElem?_eq_some_iff.mp hy
  simp only [List.length_range] at hl
  rw [List.getElem_range] at e
  subst e
  exact ⟨rfl, by omega⟩
section
variable {T : Tb} {d : Nat} {h : Hh}
theorem spread_ok (hT : T "" "_law_spread" = some ⟨1, 4, b_law_spread⟩) (c : Int) : Ok (callF T (d + 1) "" "_law_spread" [.int c] h) fun v h1 => h1 = h ∧ ∃ i : Int, v = .int i := by
  refine W.fn hT rfl ?_
  unfold b_law_spread
  simp only [startD, List.map_cons, List.map_nil, List.cons_append, List.nil_append, List.length_cons, List.length_nil, List.replicate, Nat.reduceAdd, Nat.reduceSub]
  repeat (first
    | with_reducible refine W.cons ?_ | with_reducible refine W.set ?_ | with_reducible refine W.ret ?_ | with_reducible refine W.cst ?_ | (with_reducible refine W.isVar ?_; refine W.var rfl ?_)
    | (with_reducible refine W.isGetR ?_; refine W.getR rfl (by assumption) rfl ?_) | (with_reducible refine W.isLenR ?_; refine W.lenR rfl (by assumption) ?_) | (with_reducible refine W.isSetR ?_; refine W.setR rfl ?_)
    | with_reducible refine W.o2 ?_ | with_reducible refine W.o1 ?_ | with_reducible refine W.call ?_ | with_reducible refine W.es ?_ | with_reducible refine W.es0 ?_ | with_reducible refine W.nx ?_ | with_reducible refine W.rt ?_ | with_reducible refine W.tup ?_ | with_reducible refine W.lst ?_
    | with_reducible refine W.slice ?_ | with_reducible refine W.val ?_ | with_reducible refine W.rng ?_ | with_reducible refine W.enu ?_ | with_reducible refine W.seti ?_ | with_reducible refine W.ts0 ?_ | with_reducible refine W.ts1 ?_ | with_reducible refine W.cond ?_ | with_reducible refine W.and ?_
    | with_reducible refine W.or ?_ | with_reducible refine W.ife ?_ | with_reducible refine W.nil ?_ | with_reducible refine W.par ?_ | with_reducible refine W.app ?_ | with_reducible refine W.ext ?_
    | (with_reducible refine W.isLt ?_; refine ⟨by simp, ?_⟩) | (with_reducible refine W.isMul ?_; refine ⟨_, W.mulK (by decide), ?_⟩) | (with_reducible refine W.isEq ?_; first | refine ⟨_, W.eqI, ?_⟩ | refine ⟨_, W.eqS, ?_⟩) | (with_reducible refine W.isNe ?_; first | refine ⟨_, W.neI, ?_⟩ | refine ⟨_, W.neS, ?_⟩)
    | (with_reducible refine W.isLf ?_; refine ⟨_, rfl, ?_⟩)
    | (with_reducible refine W.isBr ?_; first | refine ⟨_, rfl, fun _ => ?_, fun hf => Bool.noConfusion hf⟩ | refine ⟨_, rfl, fun hf => Bool.noConfusion hf, fun _ => ?_⟩)
    | (with_reducible refine W.isBr2 ?_; first | refine ⟨_, rfl, fun _ => ?_, fun hf => Bool.noConfusion hf⟩ | refine ⟨_, rfl, fun hf => Bool.noConfusion hf, fun _ => ?_⟩)
    | (with_reducible refine W.isLfS ?_; refine ⟨_, _, (by assumption), rfl, fun hl => ?_⟩))
  refine W.forr ?_
  repeat (first
    | with_reducible refine W.cons ?_ | with_reducible refine W.set ?_ | with_reducible refine W.ret ?_ | with_reducible refine W.cst ?_ | (with_reducible refine W.isVar ?_; refine W.var rfl ?_)
    | (with_reducible refine W.isGetR ?_; refine W.getR rfl (by assumption) rfl ?_) | (with_reducible refine W.isLenR ?_; refine W.lenR rfl (by assumption) ?_) | (with_reducible refine W.isSetR ?_; refine W.setR rfl ?_)
    | with_reducible refine W.o2 ?_ | with_reducible refine W.o1 ?_ | with_reducible refine W.call ?_ | with_reducible refine W.es ?_ | with_reducible refine W.es0 ?_ | with_reducible refine W.nx ?_ | with_reducible refine W.rt ?_ | with_reducible refine W.tup ?_ | with_reducible refine W.lst ?_
    | with_reducible refine W.slice ?_ | with_reducible refine W.val ?_ | with_reducible refine W.rng ?_ | with_reducible refine W.enu ?_ | with_reducible refine W.seti ?_ | with_reducible refine W.ts0 ?_ | with_reducible refine W.ts1 ?_ | with_reducible refine W.cond ?_ | with_reducible refine W.and ?_
    | with_reducible refine W.or ?_ | with_reducible refine W.ife ?_ | with_reducible refine W.nil ?_ | with_reducible refine W.par ?_ | with_reducible refine W.app ?_ | with_reducible refine W.ext ?_
    | (with_reducible refine W.isLt ?_; refine ⟨by simp, ?_⟩) | (with_reducible refine W.isMul ?_; refine ⟨_, W.mulK (by decide), ?_⟩) | (with_reducible refine W.isEq ?_; first | refine ⟨_, W.eqI, ?_⟩ | refine ⟨_, W.eqS, ?_⟩) | (with_reducible refine W.isNe ?_; first | refine ⟨_, W.neI, ?_⟩ | refine ⟨_, W.neS, ?_⟩)
    | (with_reducible refine W.isLf ?_; refine ⟨_, rfl, ?_⟩)
    | (with_reducible refine W.isBr ?_; first | refine ⟨_, rfl, fun _ => ?_, fun hf => Bool.noConfusion hf⟩ | refine ⟨_, rfl, fun hf => Bool.noConfusion hf, fun _ => ?_⟩)
    | (with_reducible refine W.isBr2 ?_; first | refine ⟨_, rfl, fun _ => ?_, fun hf => Bool.noConfusion hf⟩ | refine ⟨_, rfl, fun hf => Bool.noConfusion hf, fun _ => ?_⟩)
    | (with_reducible refine W.isLfS ?_; refine ⟨_, _, (by assumption), rfl, fun hl => ?_⟩))
  refine ⟨_, rfl, by decide, fun i σ h' => ∃ a b o, σ = [some (.int c), some (.int a), some (.int b), o] ∧ h' = h, ⟨_, _, _, rfl, rfl⟩, fun _ _ _ _ => wat_nil _ _, ?_, ?_⟩
  · rintro i x σ h' hx ⟨a, b, o, rfl, rfl⟩
    obtain ⟨rfl, _⟩ := rng_get hx
    refine ⟨_, rfl, ?_⟩
    repeat (first
    | with_reducible refine W.cons ?_ | with_reducible refine W.set ?_ | with_reducible refine W.ret ?_ | with_reducible refine W.cst ?_ | (with_reducible refine W.isVar ?_; refine W.var rfl ?_)
    | (with_reducible refine W.isGetR ?_; refine W.getR rfl (by assumption) rfl ?_) | (with_reducible refine W.isLenR ?_; refine W.lenR rfl (by assumption) ?_) | (with_reducible refine W.isSetR ?_; refine W.setR rfl ?_)
    | with_reducible refine W.o2 ?_ | with_reducible refine W.o1 ?_ | with_reducible refine W.call ?_ | with_reducible refine W.es ?_ | with_reducible refine W.es0 ?_ | with_reducible refine W.nx ?_ | with_reducible refine W.rt ?_ | with_reducible refine W.tup ?_ | with_reducible refine W.lst ?_
    | with_reducible refine W.slice ?_ | with_reducible refine W.val ?_ | with_reducible refine W.rng ?_ | with_reducible refine W.enu ?_ | with_reducible refine W.seti ?_ | with_reducible refine W.ts0 ?_ | with_reducible refine W.ts1 ?_ | with_reducible refine W.cond ?_ | with_reducible refine W.and ?_
    | with_reducible refine W.or ?_ | with_reducible refine W.ife ?_ | with_reducible refine W.nil ?_ | with_reducible refine W.par ?_ | with_reducible refine W.app ?_ | with_reducible refine W.ext ?_
    | (with_reducible refine W.isLt ?_; refine ⟨by simp, ?_⟩) | (with_reducible refine W.isMul ?_; refine ⟨_, W.mulK (by decide), ?_⟩) | (with_reducible refine W.isEq ?_; first | refine ⟨_, W.eqI, ?_⟩ | refine ⟨_, W.eqS, ?_⟩) | (with_reducible refine W.isNe ?_; first | refine ⟨_, W.neI, ?_⟩ | refine ⟨_, W.neS, ?_⟩)
    | (with_reducible refine W.isLf ?_; refine ⟨_, rfl, ?_⟩)
    | (with_reducible refine W.isBr ?_; first | refine ⟨_, rfl, fun _ => ?_, fun hf => Bool.noConfusion hf⟩ | refine ⟨_, rfl, fun hf => Bool.noConfusion hf, fun _ => ?_⟩)
    | (with_reducible refine W.isBr2 ?_; first | refine ⟨_, rfl, fun _ => ?_, fun hf => Bool.noConfusion hf⟩ | refine ⟨_, rfl, fun hf => Bool.noConfusion hf, fun _ => ?_⟩)
    | (with_reducible refine W.isLfS ?_; refine ⟨_, _, (by assumption), rfl, fun hl => ?_⟩))
    exact ⟨_, _, _, rfl, rfl⟩
  · rintro σ h' ⟨a, b, o, rfl, rfl⟩
    repeat (first
    | with_reducible refine W.cons ?_ | with_reducible refine W.set ?_ | with_reducible refine W.ret ?_ | with_reducible refine W.cst ?_ | (with_reducible refine W.isVar ?_; refine W.var rfl ?_)
    | (with_reducible refine W.isGetR ?_; refine W.getR rfl (by assumption) rfl ?_) | (with_reducible refine W.isLenR ?_; refine W.lenR rfl (by assumption) ?_) | (with_reducible refine W.isSetR ?_; refine W.setR rfl ?_)
    | with_reducible refine W.o2 ?_ | with_reducible refine W.o1 ?_ | with_reducible refine W.call ?_ | with_reducible refine W.es ?_ | with_reducible refine W.es0 ?_ | with_reducible refine W.nx ?_ | with_reducible refine W.rt ?_ | with_reducible refine W.tup ?_ | with_reducible refine W.lst ?_
    | with_reducible refine W.slice ?_ | with_reducible refine W.val ?_ | with_reducible refine W.rng ?_ | with_reducible refine W.enu ?_ | with_reducible refine W.seti ?_ | with_reducible refine W.ts0 ?_ | with_reducible refine W.ts1 ?_ | with_reducible refine W.cond ?_ | with_reducible refine W.and ?_
    | with_reducible refine W.or ?_ | with_reducible refine W.ife ?_ | with_reducible refine W.nil ?_ | with_reducible refine W.par ?_ | with_reducible refine W.app ?_ | with_reducible refine W.ext ?_
    | (with_reducible refine W.isLt ?_; refine ⟨by simp, ?_⟩) | (with_reducible refine W.isMul ?_; refine ⟨_, W.mulK (by decide), ?_⟩) | (with_reducible refine W.isEq ?_; first | refine ⟨_, W.eqI, ?_⟩ | refine ⟨_, W.eqS, ?_⟩) | (with_reducible refine W.isNe ?_; first | refine ⟨_, W.neI, ?_⟩ | refine ⟨_, W.neS, ?_⟩)
    | (with_reducible refine W.isLf ?_; refine ⟨_, rfl, ?_⟩)
    | (with_reducible refine W.isBr ?_; first | refine ⟨_, rfl, fun _ => ?_, fun hf => Bool.noConfusion hf⟩ | refine ⟨_, rfl, fun hf => Bool.noConfusion hf, fun _ => ?_⟩)
    | (with_reducible refine W.isBr2 ?_; first | refine ⟨_, rfl, fun _ => ?_, fun hf => Bool.noConfusion hf⟩ | refine ⟨_, rfl, fun hf => Bool.noConfusion hf, fun _ => ?_⟩)
    | (with_reducible refine W.isLfS ?_; refine ⟨_, _, (by assumption), rfl, fun hl => ?_⟩))
    refine W.en ?_
    rw [fin_self]
    refine Ok.ok ?_
    exact ⟨rfl, _, rfl⟩
/-- what a draw tells: a number below many, and the pool goes on -/
def Drawn (l : Nat) (h : Hh) (P : D → Prop) (v : D) (h1 : Hh) : Prop := P v ∧ ∃ ob, h1 = h.set l ob ∧ PoolOb ob
theorem draw_ok (G : GT T) {l : Nat} {o : Ob} {many : Int} (hl : h[l]? = some o) (hp : PoolOb o) (h0 : 0 < many) (h1 : many < 1073741824) :
    Ok (callF T (d + 2) "" "_law_draw" [.ref l, .int many] h) (Drawn l h fun v => ∃ i : Int, v = .int i ∧ 0 ≤ i ∧ i < many) := by
  obtain ⟨ns, i, c, k, s, rfl, hi⟩ := hp
  refine W.fn G.draw rfl ?_
  unfold b_law_draw
  simp only [startD, List.map_cons, List.map_nil, List.cons_append, List.nil_append, List.length_cons, List.length_nil, List.replicate, Nat.reduceAdd, Nat.reduceSub]
  refine W.cons ?_
  refine Ok.mono (Q := fun f h1 => ∃ i c σ2, f = .nx [some (.ref l), some (.int many), σ2, none, none] ∧ h1 = h.set l (.lst [.fz (ns.map .int), .int i, .int c, .int k, .int s]) ∧ 0 ≤ i) ?_ ?_
  · have same : h = h.set l (.lst [.fz (ns.map .int), .int i, .int c, .int k, .int s]) := by
      obtain ⟨hlt, e⟩ := List.getElem?_eq_some_iff.mp hl
      rw [← e, List.set_getElem_self]
    repeat (first
    | with_reducible refine W.cons ?_ | with_reducible refine W.set ?_ | with_reducible refine W.ret ?_ | with_reducible refine W.cst ?_ | (with_reducible refine W.isVar ?_; refine W.var rfl ?_)
    | (with_reducible refine W.isGetR ?_; refine W.getR rfl (by assumption) rfl ?_) | (with_reducible refine W.isLenR ?_; refine W.lenR rfl (by assumption) ?_) | (with_reducible refine W.isSetR ?_; refine W.setR rfl ?_)
    | with_reducible refine W.o2 ?_ | with_reducible refine W.o1 ?_ | with_reducible refine W.call ?_ | with_reducible refine W.es ?_ | with_reducible refine W.es0 ?_ | with_reducible refine W.nx ?_ | with_reducible refine W.rt ?_ | with_reducible refine W.tup ?_ | with_reducible refine W.lst ?_
    | with_reducible refine W.slice ?_ | with_reducible refine W.val ?_ | with_reducible refine W.rng ?_ | with_reducible refine W.enu ?_ | with_reducible refine W.seti ?_ | with_reducible refine W.ts0 ?_ | with_reducible refine W.ts1 ?_ | with_reducible refine W.cond ?_ | with_reducible refine W.and ?_
    | with_reducible refine W.or ?_ | with_reducible refine W.ife ?_ | with_reducible refine W.nil ?_ | with_reducible refine W.par ?_ | with_reducible refine W.app ?_ | with_reducible refine W.ext ?_
    | (with_reducible refine W.isLt ?_; refine ⟨by simp, ?_⟩) | (with_reducible refine W.isMul ?_; refine ⟨_, W.mulK (by decide), ?_⟩) | (with_reducible refine W.isEq ?_; first | refine ⟨_, W.eqI, ?_⟩ | refine ⟨_, W.eqS, ?_⟩) | (with_reducible refine W.isNe ?_; first | refine ⟨_, W.neI, ?_⟩ | refine ⟨_, W.neS, ?_⟩)
    | (with_reducible refine W.isLf ?_; refine ⟨_, rfl, ?_⟩)
    | (with_reducible refine W.isBr ?_; first | refine ⟨_, rfl, fun _ => ?_, fun hf => Bool.noConfusion hf⟩ | refine ⟨_, rfl, fun hf => Bool.noConfusion hf, fun _ => ?_⟩)
    | (with_reducible refine W.isBr2 ?_; first | refine ⟨_, rfl, fun _ => ?_, fun hf => Bool.noConfusion hf⟩ | refine ⟨_, rfl, fun hf => Bool.noConfusion hf, fun _ => ?_⟩)
    | (with_reducible refine W.isLfS ?_; refine ⟨_, _, (by assumption), rfl, fun hl => ?_⟩))
    refine ⟨_, rfl, fun _ => ?_, fun _ => ⟨_, rfl, fun hc => (nomatch hc), fun _ => W.nil ⟨i, c, none, rfl, same, hi⟩⟩⟩
    repeat (first
    | with_reducible refine W.cons ?_ | with_reducible refine W.set ?_ | with_reducible refine W.ret ?_ | with_reducible refine W.cst ?_ | (with_reducible refine W.isVar ?_; refine W.var rfl ?_)
    | (with_reducible refine W.isGetR ?_; refine W.getR rfl (by assumption) rfl ?_) | (with_reducible refine W.isLenR ?_; refine W.lenR rfl (by assumption) ?_) | (with_reducible refine W.isSetR ?_; refine W.setR rfl ?_)
    | with_reducible refine W.o2 ?_ | with_reducible refine W.o1 ?_ | with_reducible refine W.call ?_ | with_reducible refine W.es ?_ | with_reducible refine W.es0 ?_ | with_reducible refine W.nx ?_ | with_reducible refine W.rt ?_ | with_reducible refine W.tup ?_ | with_reducible refine W.lst ?_
    | with_reducible refine W.slice ?_ | with_reducible refine W.val ?_ | with_reducible refine W.rng ?_ | with_reducible refine W.enu ?_ | with_reducible refine W.seti ?_ | with_reducible refine W.ts0 ?_ | with_reducible refine W.ts1 ?_ | with_reducible refine W.cond ?_ | with_reducible refine W.and ?_
    | with_reducible refine W.or ?_ | with_reducible refine W.ife ?_ | with_reducible refine W.nil ?_ | with_reducible refine W.par ?_ | with_reducible refine W.app ?_ | with_reducible refine W.ext ?_
    | (with_reducible refine W.isLt ?_; refine ⟨by simp, ?_⟩) | (with_reducible refine W.isMul ?_; refine ⟨_, W.mulK (by decide), ?_⟩) | (with_reducible refine W.isEq ?_; first | refine ⟨_, W.eqI, ?_⟩ | refine ⟨_, W.eqS, ?_⟩) | (with_reducible refine W.isNe ?_; first | refine ⟨_, W.neI, ?_⟩ | refine ⟨_, W.neS, ?_⟩)
    | (with_reducible refine W.isLf ?_; refine ⟨_, rfl, ?_⟩)
    | (with_reducible refine W.isBr ?_; first | refine ⟨_, rfl, fun _ => ?_, fun hf => Bool.noConfusion hf⟩ | refine ⟨_, rfl, fun hf => Bool.noConfusion hf, fun _ => ?_⟩)
    | (with_reducible refine W.isBr2 ?_; first | refine ⟨_, rfl, fun _ => ?_, fun hf => Bool.noConfusion hf⟩ | refine ⟨_, rfl, fun hf => Bool.noConfusion hf, fun _ => ?_⟩)
    | (with_reducible refine W.isLfS ?_; refine ⟨_, _, (by assumption), rfl, fun hl => ?_⟩))
    refine ⟨_, rfl, fun hc => ?_, fun _ => W.nil ⟨i, c, none, rfl, same, hi⟩⟩
    simp only [decide_eq_true_eq] at hc
    obtain ⟨x, ex, ex2⟩ := W.atI_some hi hc
    obtain ⟨n, hn⟩ : ∃ n : Int, x = .int n := by
      have := List.mem_of_getElem? ex2
      obtain ⟨n, _, e⟩ := List.mem_map.mp this
      exact ⟨n, e.symm⟩
    subst hn
    repeat (first
    | with_reducible refine W.cons ?_ | with_reducible refine W.set ?_ | with_reducible refine W.ret ?_ | with_reducible refine W.cst ?_ | (with_reducible refine W.isVar ?_; refine W.var rfl ?_)
    | (with_reducible refine W.isGetR ?_; refine W.getR rfl (by assumption) rfl ?_) | (with_reducible refine W.isLenR ?_; refine W.lenR rfl (by assumption) ?_) | (with_reducible refine W.isSetR ?_; refine W.setR rfl ?_)
    | with_reducible refine W.o2 ?_ | with_reducible refine W.o1 ?_ | with_reducible refine W.call ?_ | with_reducible refine W.es ?_ | with_reducible refine W.es0 ?_ | with_reducible refine W.nx ?_ | with_reducible refine W.rt ?_ | with_reducible refine W.tup ?_ | with_reducible refine W.lst ?_
    | with_reducible refine W.slice ?_ | with_reducible refine W.val ?_ | with_reducible refine W.rng ?_ | with_reducible refine W.enu ?_ | with_reducible refine W.seti ?_ | with_reducible refine W.ts0 ?_ | with_reducible refine W.ts1 ?_ | with_reducible refine W.cond ?_ | with_reducible refine W.and ?_
    | with_reducible refine W.or ?_ | with_reducible refine W.ife ?_ | with_reducible refine W.nil ?_ | with_reducible refine W.par ?_ | with_reducible refine W.app ?_ | with_reducible refine W.ext ?_
    | (with_reducible refine W.isLt ?_; refine ⟨by simp, ?_⟩) | (with_reducible refine W.isMul ?_; refine ⟨_, W.mulK (by decide), ?_⟩) | (with_reducible refine W.isEq ?_; first | refine ⟨_, W.eqI, ?_⟩ | refine ⟨_, W.eqS, ?_⟩) | (with_reducible refine W.isNe ?_; first | refine ⟨_, W.neI, ?_⟩ | refine ⟨_, W.neS, ?_⟩)
    | (with_reducible refine W.isLf ?_; refine ⟨_, rfl, ?_⟩)
    | (with_reducible refine W.isBr ?_; first | refine ⟨_, rfl, fun _ => ?_, fun hf => Bool.noConfusion hf⟩ | refine ⟨_, rfl, fun hf => Bool.noConfusion hf, fun _ => ?_⟩)
    | (with_reducible refine W.isBr2 ?_; first | refine ⟨_, rfl, fun _ => ?_, fun hf => Bool.noConfusion hf⟩ | refine ⟨_, rfl, fun hf => Bool.noConfusion hf, fun _ => ?_⟩)
    | (with_reducible refine W.isLfS ?_; refine ⟨_, _, (by assumption), rfl, fun hl => ?_⟩))
    refine ⟨.int n, ex, ?_⟩
    repeat (first
    | with_reducible refine W.cons ?_ | with_reducible refine W.set ?_ | with_reducible refine W.ret ?_ | with_reducible refine W.cst ?_ | (with_reducible refine W.isVar ?_; refine W.var rfl ?_)
    | (with_reducible refine W.isGetR ?_; refine W.getR rfl (by assumption) rfl ?_) | (with_reducible refine W.isLenR ?_; refine W.lenR rfl (by assumption) ?_) | (with_reducible refine W.isSetR ?_; refine W.setR rfl ?_)
    | with_reducible refine W.o2 ?_ | with_reducible refine W.o1 ?_ | with_reducible refine W.call ?_ | with_reducible refine W.es ?_ | with_reducible refine W.es0 ?_ | with_reducible refine W.nx ?_ | with_reducible refine W.rt ?_ | with_reducible refine W.tup ?_ | with_reducible refine W.lst ?_
    | with_reducible refine W.slice ?_ | with_reducible refine W.val ?_ | with_reducible refine W.rng ?_ | with_reducible refine W.enu ?_ | with_reducible refine W.seti ?_ | with_reducible refine W.ts0 ?_ | with_reducible refine W.ts1 ?_ | with_reducible refine W.cond ?_ | with_reducible refine W.and ?_
    | with_reducible refine W.or ?_ | with_reducible refine W.ife ?_ | with_reducible refine W.nil ?_ | with_reducible refine W.par ?_ | with_reducible refine W.app ?_ | with_reducible refine W.ext ?_
    | (with_reducible refine W.isLt ?_; refine ⟨by simp, ?_⟩) | (with_reducible refine W.isMul ?_; refine ⟨_, W.mulK (by decide), ?_⟩) | (with_reducible refine W.isEq ?_; first | refine ⟨_, W.eqI, ?_⟩ | refine ⟨_, W.eqS, ?_⟩) | (with_reducible refine W.isNe ?_; first | refine ⟨_, W.neI, ?_⟩ | refine ⟨_, W.neS, ?_⟩)
    | (with_reducible refine W.isLf ?_; refine ⟨_, rfl, ?_⟩)
    | (with_reducible refine W.isBr ?_; first | refine ⟨_, rfl, fun _ => ?_, fun hf => Bool.noConfusion hf⟩ | refine ⟨_, rfl, fun hf => Bool.noConfusion hf, fun _ => ?_⟩)
    | (with_reducible refine W.isBr2 ?_; first | refine ⟨_, rfl, fun _ => ?_, fun hf => Bool.noConfusion hf⟩ | refine ⟨_, rfl, fun hf => Bool.noConfusion hf, fun _ => ?_⟩)
    | (with_reducible refine W.isLfS ?_; refine ⟨_, _, (by assumption), rfl, fun hl => ?_⟩))
    refine ⟨_, rfl, fun _ => ?_, fun _ => ?_⟩
    · repeat (first
    | with_reducible refine W.cons ?_ | with_reducible refine W.set ?_ | with_reducible refine W.ret ?_ | with_reducible refine W.cst ?_ | (with_reducible refine W.isVar ?_; refine W.var rfl ?_)
    | (with_reducible refine W.isGetR ?_; refine W.getR rfl (by assumption) rfl ?_) | (with_reducible refine W.isLenR ?_; refine W.lenR rfl (by assumption) ?_) | (with_reducible refine W.isSetR ?_; refine W.setR rfl ?_)
    | with_reducible refine W.o2 ?_ | with_reducible refine W.o1 ?_ | with_reducible refine W.call ?_ | with_reducible refine W.es ?_ | with_reducible refine W.es0 ?_ | with_reducible refine W.nx ?_ | with_reducible refine W.rt ?_ | with_reducible refine W.tup ?_ | with_reducible refine W.lst ?_
    | with_reducible refine W.slice ?_ | with_reducible refine W.val ?_ | with_reducible refine W.rng ?_ | with_reducible refine W.enu ?_ | with_reducible refine W.seti ?_ | with_reducible refine W.ts0 ?_ | with_reducible refine W.ts1 ?_ | with_reducible refine W.cond ?_ | with_reducible refine W.and ?_
    | with_reducible refine W.or ?_ | with_reducible refine W.ife ?_ | with_reducible refine W.nil ?_ | with_reducible refine W.par ?_ | with_reducible refine W.app ?_ | with_reducible refine W.ext ?_
    | (with_reducible refine W.isLt ?_; refine ⟨by simp, ?_⟩) | (with_reducible refine W.isMul ?_; refine ⟨_, W.mulK (by decide), ?_⟩) | (with_reducible refine W.isEq ?_; first | refine ⟨_, W.eqI, ?_⟩ | refine ⟨_, W.eqS, ?_⟩) | (with_reducible refine W.isNe ?_; first | refine ⟨_, W.neI, ?_⟩ | refine ⟨_, W.neS, ?_⟩)
    | (with_reducible refine W.isLf ?_; refine ⟨_, rfl, ?_⟩)
    | (with_reducible refine W.isBr ?_; first | refine ⟨_, rfl, fun _ => ?_, fun hf => Bool.noConfusion hf⟩ | refine ⟨_, rfl, fun hf => Bool.noConfusion hf, fun _ => ?_⟩)
    | (with_reducible refine W.isBr2 ?_; first | refine ⟨_, rfl, fun _ => ?_, fun hf => Bool.noConfusion hf⟩ | refine ⟨_, rfl, fun hf => Bool.noConfusion hf, fun _ => ?_⟩)
    | (with_reducible refine W.isLfS ?_; refine ⟨_, _, (by assumption), rfl, fun hl => ?_⟩))
      refine (spread_ok G.spread n).mono fun v h2 z => ?_
      obtain ⟨rfl, b, rfl⟩ := z
      repeat (first
    | with_reducible refine W.cons ?_ | with_reducible refine W.set ?_ | with_reducible refine W.ret ?_ | with_reducible refine W.cst ?_ | (with_reducible refine W.isVar ?_; refine W.var rfl ?_)
    | (with_reducible refine W.isGetR ?_; refine W.getR rfl (by assumption) rfl ?_) | (with_reducible refine W.isLenR ?_; refine W.lenR rfl (by assumption) ?_) | (with_reducible refine W.isSetR ?_; refine W.setR rfl ?_)
    | with_reducible refine W.o2 ?_ | with_reducible refine W.o1 ?_ | with_reducible refine W.call ?_ | with_reducible refine W.es ?_ | with_reducible refine W.es0 ?_ | with_reducible refine W.nx ?_ | with_reducible refine W.rt ?_ | with_reducible refine W.tup ?_ | with_reducible refine W.lst ?_
    | with_reducible refine W.slice ?_ | with_reducible refine W.val ?_ | with_reducible refine W.rng ?_ | with_reducible refine W.enu ?_ | with_reducible refine W.seti ?_ | with_reducible refine W.ts0 ?_ | with_reducible refine W.ts1 ?_ | with_reducible refine W.cond ?_ | with_reducible refine W.and ?_
    | with_reducible refine W.or ?_ | with_reducible refine W.ife ?_ | with_reducible refine W.nil ?_ | with_reducible refine W.par ?_ | with_reducible refine W.app ?_ | with_reducible refine W.ext ?_
    | (with_reducible refine W.isLt ?_; refine ⟨by simp, ?_⟩) | (with_reducible refine W.isMul ?_; refine ⟨_, W.mulK (by decide), ?_⟩) | (with_reducible refine W.isEq ?_; first | refine ⟨_, W.eqI, ?_⟩ | refine ⟨_, W.eqS, ?_⟩) | (with_reducible refine W.isNe ?_; first | refine ⟨_, W.neI, ?_⟩ | refine ⟨_, W.neS, ?_⟩)
    | (with_reducible refine W.isLf ?_; refine ⟨_, rfl, ?_⟩)
    | (with_reducible refine W.isBr ?_; first | refine ⟨_, rfl, fun _ => ?_, fun hf => Bool.noConfusion hf⟩ | refine ⟨_, rfl, fun hf => Bool.noConfusion hf, fun _ => ?_⟩)
    | (with_reducible refine W.isBr2 ?_; first | refine ⟨_, rfl, fun _ => ?_, fun hf => Bool.noConfusion hf⟩ | refine ⟨_, rfl, fun hf => Bool.noConfusion hf, fun _ => ?_⟩)
    | (with_reducible refine W.isLfS ?_; refine ⟨_, _, (by assumption), rfl, fun hl => ?_⟩))
      refine ⟨i + 1, b, _, rfl, ?_, by omega⟩
      simp only [List.set_set, List.set_cons_zero, List.set_cons_succ]
      rfl
    · repeat (first
    | with_reducible refine W.cons ?_ | with_reducible refine W.set ?_ | with_reducible refine W.ret ?_ | with_reducible refine W.cst ?_ | (with_reducible refine W.isVar ?_; refine W.var rfl ?_)
    | (with_reducible refine W.isGetR ?_; refine W.getR rfl (by assumption) rfl ?_) | (with_reducible refine W.isLenR ?_; refine W.lenR rfl (by assumption) ?_) | (with_reducible refine W.isSetR ?_; refine W.setR rfl ?_)
    | with_reducible refine W.o2 ?_ | with_reducible refine W.o1 ?_ | with_reducible refine W.call ?_ | with_reducible refine W.es ?_ | with_reducible refine W.es0 ?_ | with_reducible refine W.nx ?_ | with_reducible refine W.rt ?_ | with_reducible refine W.tup ?_ | with_reducible refine W.lst ?_
    | with_reducible refine W.slice ?_ | with_reducible refine W.val ?_ | with_reducible refine W.rng ?_ | with_reducible refine W.enu ?_ | with_reducible refine W.seti ?_ | with_reducible refine W.ts0 ?_ | with_reducible refine W.ts1 ?_ | with_reducible refine W.cond ?_ | with_reducible refine W.and ?_
    | with_reducible refine W.or ?_ | with_reducible refine W.ife ?_ | with_reducible refine W.nil ?_ | with_reducible refine W.par ?_ | with_reducible refine W.app ?_ | with_reducible refine W.ext ?_
    | (with_reducible refine W.isLt ?_; refine ⟨by simp, ?_⟩) | (with_reducible refine W.isMul ?_; refine ⟨_, W.mulK (by decide), ?_⟩) | (with_reducible refine W.isEq ?_; first | refine ⟨_, W.eqI, ?_⟩ | refine ⟨_, W.eqS, ?_⟩) | (with_reducible refine W.isNe ?_; first | refine ⟨_, W.neI, ?_⟩ | refine ⟨_, W.neS, ?_⟩)
    | (with_reducible refine W.isLf ?_; refine ⟨_, rfl, ?_⟩)
    | (with_reducible refine W.isBr ?_; first | refine ⟨_, rfl, fun _ => ?_, fun hf => Bool.noConfusion hf⟩ | refine ⟨_, rfl, fun hf => Bool.noConfusion hf, fun _ => ?_⟩)
    | (with_reducible refine W.isBr2 ?_; first | refine ⟨_, rfl, fun _ => ?_, fun hf => Bool.noConfusion hf⟩ | refine ⟨_, rfl, fun hf => Bool.noConfusion hf, fun _ => ?_⟩)
    | (with_reducible refine W.isLfS ?_; refine ⟨_, _, (by assumption), rfl, fun hl => ?_⟩))
      refine ⟨i + 1, n, _, rfl, ?_, by omega⟩
      simp only [List.set_set, List.set_cons_zero, List.set_cons_succ]
      rfl
  rintro f h2 ⟨i, c, σ2, rfl, rfl, hi⟩
  have hl := W.get_set (ob := .lst [.fz (ns.map .int), .int i, .int c, .int k, .int s]) hl
  repeat (first
    | with_reducible refine W.cons ?_ | with_reducible refine W.set ?_ | with_reducible refine W.ret ?_ | with_reducible refine W.cst ?_ | (with_reducible refine W.isVar ?_; refine W.var rfl ?_)
    | (with_reducible refine W.isGetR ?_; refine W.getR rfl (by assumption) rfl ?_) | (with_reducible refine W.isLenR ?_; refine W.lenR rfl (by assumption) ?_) | (with_reducible refine W.isSetR ?_; refine W.setR rfl ?_)
    | with_reducible refine W.o2 ?_ | with_reducible refine W.o1 ?_ | with_reducible refine W.call ?_ | with_reducible refine W.es ?_ | with_reducible refine W.es0 ?_ | with_reducible refine W.nx ?_ | with_reducible refine W.rt ?_ | with_reducible refine W.tup ?_ | with_reducible refine W.lst ?_
    | with_reducible refine W.slice ?_ | with_reducible refine W.val ?_ | with_reducible refine W.rng ?_ | with_reducible refine W.enu ?_ | with_reducible refine W.seti ?_ | with_reducible refine W.ts0 ?_ | with_reducible refine W.ts1 ?_ | with_reducible refine W.cond ?_ | with_reducible refine W.and ?_
    | with_reducible refine W.or ?_ | with_reducible refine W.ife ?_ | with_reducible refine W.nil ?_ | with_reducible refine W.par ?_ | with_reducible refine W.app ?_ | with_reducible refine W.ext ?_
    | (with_reducible refine W.isLt ?_; refine ⟨by simp, ?_⟩) | (with_reducible refine W.isMul ?_; refine ⟨_, W.mulK (by decide), ?_⟩) | (with_reducible refine W.isEq ?_; first | refine ⟨_, W.eqI, ?_⟩ | refine ⟨_, W.eqS, ?_⟩) | (with_reducible refine W.isNe ?_; first | refine ⟨_, W.neI, ?_⟩ | refine ⟨_, W.neS, ?_⟩)
    | (with_reducible refine W.isLf ?_; refine ⟨_, rfl, ?_⟩)
    | (with_reducible refine W.isBr ?_; first | refine ⟨_, rfl, fun _ => ?_, fun hf => Bool.noConfusion hf⟩ | refine ⟨_, rfl, fun hf => Bool.noConfusion hf, fun _ => ?_⟩)
    | (with_reducible refine W.isBr2 ?_; first | refine ⟨_, rfl, fun _ => ?_, fun hf => Bool.noConfusion hf⟩ | refine ⟨_, rfl, fun hf => Bool.noConfusion hf, fun _ => ?_⟩)
    | (with_reducible refine W.isLfS ?_; refine ⟨_, _, (by assumption), rfl, fun hl => ?_⟩))
  refine ⟨_, rfl, fun _ => ?_, fun hc => ?_⟩
  · repeat (first
    | with_reducible refine W.cons ?_ | with_reducible refine W.set ?_ | with_reducible refine W.ret ?_ | with_reducible refine W.cst ?_ | (with_reducible refine W.isVar ?_; refine W.var rfl ?_)
    | (with_reducible refine W.isGetR ?_; refine W.getR rfl (by assumption) rfl ?_) | (with_reducible refine W.isLenR ?_; refine W.lenR rfl (by assumption) ?_) | (with_reducible refine W.isSetR ?_; refine W.setR rfl ?_)
    | with_reducible refine W.o2 ?_ | with_reducible refine W.o1 ?_ | with_reducible refine W.call ?_ | with_reducible refine W.es ?_ | with_reducible refine W.es0 ?_ | with_reducible refine W.nx ?_ | with_reducible refine W.rt ?_ | with_reducible refine W.tup ?_ | with_reducible refine W.lst ?_
    | with_reducible refine W.slice ?_ | with_reducible refine W.val ?_ | with_reducible refine W.rng ?_ | with_reducible refine W.enu ?_ | with_reducible refine W.seti ?_ | with_reducible refine W.ts0 ?_ | with_reducible refine W.ts1 ?_ | with_reducible refine W.cond ?_ | with_reducible refine W.and ?_
    | with_reducible refine W.or ?_ | with_reducible refine W.ife ?_ | with_reducible refine W.nil ?_ | with_reducible refine W.par ?_ | with_reducible refine W.app ?_ | with_reducible refine W.ext ?_
    | (with_reducible refine W.isLt ?_; refine ⟨by simp, ?_⟩) | (with_reducible refine W.isMul ?_; refine ⟨_, W.mulK (by decide), ?_⟩) | (with_reducible refine W.isEq ?_; first | refine ⟨_, W.eqI, ?_⟩ | refine ⟨_, W.eqS, ?_⟩) | (with_reducible refine W.isNe ?_; first | refine ⟨_, W.neI, ?_⟩ | refine ⟨_, W.neS, ?_⟩)
    | (with_reducible refine W.isLf ?_; refine ⟨_, rfl, ?_⟩)
    | (with_reducible refine W.isBr ?_; first | refine ⟨_, rfl, fun _ => ?_, fun hf => Bool.noConfusion hf⟩ | refine ⟨_, rfl, fun hf => Bool.noConfusion hf, fun _ => ?_⟩)
    | (with_reducible refine W.isBr2 ?_; first | refine ⟨_, rfl, fun _ => ?_, fun hf => Bool.noConfusion hf⟩ | refine ⟨_, rfl, fun hf => Bool.noConfusion hf, fun _ => ?_⟩)
    | (with_reducible refine W.isLfS ?_; refine ⟨_, _, (by assumption), rfl, fun hl => ?_⟩))
    refine ⟨_, W.modK h0, ?_⟩
    repeat (first
    | with_reducible refine W.cons ?_ | with_reducible refine W.set ?_ | with_reducible refine W.ret ?_ | with_reducible refine W.cst ?_ | (with_reducible refine W.isVar ?_; refine W.var rfl ?_)
    | (with_reducible refine W.isGetR ?_; refine W.getR rfl (by assumption) rfl ?_) | (with_reducible refine W.isLenR ?_; refine W.lenR rfl (by assumption) ?_) | (with_reducible refine W.isSetR ?_; refine W.setR rfl ?_)
    | with_reducible refine W.o2 ?_ | with_reducible refine W.o1 ?_ | with_reducible refine W.call ?_ | with_reducible refine W.es ?_ | with_reducible refine W.es0 ?_ | with_reducible refine W.nx ?_ | with_reducible refine W.rt ?_ | with_reducible refine W.tup ?_ | with_reducible refine W.lst ?_
    | with_reducible refine W.slice ?_ | with_reducible refine W.val ?_ | with_reducible refine W.rng ?_ | with_reducible refine W.enu ?_ | with_reducible refine W.seti ?_ | with_reducible refine W.ts0 ?_ | with_reducible refine W.ts1 ?_ | with_reducible refine W.cond ?_ | with_reducible refine W.and ?_
    | with_reducible refine W.or ?_ | with_reducible refine W.ife ?_ | with_reducible refine W.nil ?_ | with_reducible refine W.par ?_ | with_reducible refine W.app ?_ | with_reducible refine W.ext ?_
    | (with_reducible refine W.isLt ?_; refine ⟨by simp, ?_⟩) | (with_reducible refine W.isMul ?_; refine ⟨_, W.mulK (by decide), ?_⟩) | (with_reducible refine W.isEq ?_; first | refine ⟨_, W.eqI, ?_⟩ | refine ⟨_, W.eqS, ?_⟩) | (with_reducible refine W.isNe ?_; first | refine ⟨_, W.neI, ?_⟩ | refine ⟨_, W.neS, ?_⟩)
    | (with_reducible refine W.isLf ?_; refine ⟨_, rfl, ?_⟩)
    | (with_reducible refine W.isBr ?_; first | refine ⟨_, rfl, fun _ => ?_, fun hf => Bool.noConfusion hf⟩ | refine ⟨_, rfl, fun hf => Bool.noConfusion hf, fun _ => ?_⟩)
    | (with_reducible refine W.isBr2 ?_; first | refine ⟨_, rfl, fun _ => ?_, fun hf => Bool.noConfusion hf⟩ | refine ⟨_, rfl, fun hf => Bool.noConfusion hf, fun _ => ?_⟩)
    | (with_reducible refine W.isLfS ?_; refine ⟨_, _, (by assumption), rfl, fun hl => ?_⟩))
    refine W.en ?_
    rw [fin_same (by simp)]
    refine Ok.ok ⟨⟨_, rfl, Int.emod_nonneg _ (by omega), Int.emod_lt_of_pos _ h0⟩, .lst [.fz (ns.map .int), .int i, .int c, .int (k + 1), .int s], ?_, ?_⟩
    · simp only [List.set_set]
      rfl
    · exact ⟨ns, i, c, _, s, rfl, hi⟩
  · repeat (first
    | with_reducible refine W.cons ?_ | with_reducible refine W.set ?_ | with_reducible refine W.ret ?_ | with_reducible refine W.cst ?_ | (with_reducible refine W.isVar ?_; refine W.var rfl ?_)
    | (with_reducible refine W.isGetR ?_; refine W.getR rfl (by assumption) rfl ?_) | (with_reducible refine W.isLenR ?_; refine W.lenR rfl (by assumption) ?_) | (with_reducible refine W.isSetR ?_; refine W.setR rfl ?_)
    | with_reducible refine W.o2 ?_ | with_reducible refine W.o1 ?_ | with_reducible refine W.call ?_ | with_reducible refine W.es ?_ | with_reducible refine W.es0 ?_ | with_reducible refine W.nx ?_ | with_reducible refine W.rt ?_ | with_reducible refine W.tup ?_ | with_reducible refine W.lst ?_
    | with_reducible refine W.slice ?_ | with_reducible refine W.val ?_ | with_reducible refine W.rng ?_ | with_reducible refine W.enu ?_ | with_reducible refine W.seti ?_ | with_reducible refine W.ts0 ?_ | with_reducible refine W.ts1 ?_ | with_reducible refine W.cond ?_ | with_reducible refine W.and ?_
    | with_reducible refine W.or ?_ | with_reducible refine W.ife ?_ | with_reducible refine W.nil ?_ | with_reducible refine W.par ?_ | with_reducible refine W.app ?_ | with_reducible refine W.ext ?_
    | (with_reducible refine W.isLt ?_; refine ⟨by simp, ?_⟩) | (with_reducible refine W.isMul ?_; refine ⟨_, W.mulK (by decide), ?_⟩) | (with_reducible refine W.isEq ?_; first | refine ⟨_, W.eqI, ?_⟩ | refine ⟨_, W.eqS, ?_⟩) | (with_reducible refine W.isNe ?_; first | refine ⟨_, W.neI, ?_⟩ | refine ⟨_, W.neS, ?_⟩)
    | (with_reducible refine W.isLf ?_; refine ⟨_, rfl, ?_⟩)
    | (with_reducible refine W.isBr ?_; first | refine ⟨_, rfl, fun _ => ?_, fun hf => Bool.noConfusion hf⟩ | refine ⟨_, rfl, fun hf => Bool.noConfusion hf, fun _ => ?_⟩)
    | (with_reducible refine W.isBr2 ?_; first | refine ⟨_, rfl, fun _ => ?_, fun hf => Bool.noConfusion hf⟩ | refine ⟨_, rfl, fun hf => Bool.noConfusion hf, fun _ => ?_⟩)
    | (with_reducible refine W.isLfS ?_; refine ⟨_, _, (by assumption), rfl, fun hl => ?_⟩))
    refine ⟨_, W.modK h0, ?_⟩
    repeat (first
    | with_reducible refine W.cons ?_ | with_reducible refine W.set ?_ | with_reducible refine W.ret ?_ | with_reducible refine W.cst ?_ | (with_reducible refine W.isVar ?_; refine W.var rfl ?_)
    | (with_reducible refine W.isGetR ?_; refine W.getR rfl (by assumption) rfl ?_) | (with_reducible refine W.isLenR ?_; refine W.lenR rfl (by assumption) ?_) | (with_reducible refine W.isSetR ?_; refine W.setR rfl ?_)
    | with_reducible refine W.o2 ?_ | with_reducible refine W.o1 ?_ | with_reducible refine W.call ?_ | with_reducible refine W.es ?_ | with_reducible refine W.es0 ?_ | with_reducible refine W.nx ?_ | with_reducible refine W.rt ?_ | with_reducible refine W.tup ?_ | with_reducible refine W.lst ?_
    | with_reducible refine W.slice ?_ | with_reducible refine W.val ?_ | with_reducible refine W.rng ?_ | with_reducible refine W.enu ?_ | with_reducible refine W.seti ?_ | with_reducible refine W.ts0 ?_ | with_reducible refine W.ts1 ?_ | with_reducible refine W.cond ?_ | with_reducible refine W.and ?_
    | with_reducible refine W.or ?_ | with_reducible refine W.ife ?_ | with_reducible refine W.nil ?_ | with_reducible refine W.par ?_ | with_reducible refine W.app ?_ | with_reducible refine W.ext ?_
    | (with_reducible refine W.isLt ?_; refine ⟨by simp, ?_⟩) | (with_reducible refine W.isMul ?_; refine ⟨_, W.mulK (by decide), ?_⟩) | (with_reducible refine W.isEq ?_; first | refine ⟨_, W.eqI, ?_⟩ | refine ⟨_, W.eqS, ?_⟩) | (with_reducible refine W.isNe ?_; first | refine ⟨_, W.neI, ?_⟩ | refine ⟨_, W.neS, ?_⟩)
    | (with_reducible refine W.isLf ?_; refine ⟨_, rfl, ?_⟩)
    | (with_reducible refine W.isBr ?_; first | refine ⟨_, rfl, fun _ => ?_, fun hf => Bool.noConfusion hf⟩ | refine ⟨_, rfl, fun hf => Bool.noConfusion hf, fun _ => ?_⟩)
    | (with_reducible refine W.isBr2 ?_; first | refine ⟨_, rfl, fun _ => ?_, fun hf => Bool.noConfusion hf⟩ | refine ⟨_, rfl, fun hf => Bool.noConfusion hf, fun _ => ?_⟩)
    | (with_reducible refine W.isLfS ?_; refine ⟨_, _, (by assumption), rfl, fun hl => ?_⟩))
    refine ⟨_, W.divK h0 h1, ?_⟩
    repeat (first
    | with_reducible refine W.cons ?_ | with_reducible refine W.set ?_ | with_reducible refine W.ret ?_ | with_reducible refine W.cst ?_ | (with_reducible refine W.isVar ?_; refine W.var rfl ?_)
    | (with_reducible refine W.isGetR ?_; refine W.getR rfl (by assumption) rfl ?_) | (with_reducible refine W.isLenR ?_; refine W.lenR rfl (by assumption) ?_) | (with_reducible refine W.isSetR ?_; refine W.setR rfl ?_)
    | with_reducible refine W.o2 ?_ | with_reducible refine W.o1 ?_ | with_reducible refine W.call ?_ | with_reducible refine W.es ?_ | with_reducible refine W.es0 ?_ | with_reducible refine W.nx ?_ | with_reducible refine W.rt ?_ | with_reducible refine W.tup ?_ | with_reducible refine W.lst ?_
    | with_reducible refine W.slice ?_ | with_reducible refine W.val ?_ | with_reducible refine W.rng ?_ | with_reducible refine W.enu ?_ | with_reducible refine W.seti ?_ | with_reducible refine W.ts0 ?_ | with_reducible refine W.ts1 ?_ | with_reducible refine W.cond ?_ | with_reducible refine W.and ?_
    | with_reducible refine W.or ?_ | with_reducible refine W.ife ?_ | with_reducible refine W.nil ?_ | with_reducible refine W.par ?_ | with_reducible refine W.app ?_ | with_reducible refine W.ext ?_
    | (with_reducible refine W.isLt ?_; refine ⟨by simp, ?_⟩) | (with_reducible refine W.isMul ?_; refine ⟨_, W.mulK (by decide), ?_⟩) | (with_reducible refine W.isEq ?_; first | refine ⟨_, W.eqI, ?_⟩ | refine ⟨_, W.eqS, ?_⟩) | (with_reducible refine W.isNe ?_; first | refine ⟨_, W.neI, ?_⟩ | refine ⟨_, W.neS, ?_⟩)
    | (with_reducible refine W.isLf ?_; refine ⟨_, rfl, ?_⟩)
    | (with_reducible refine W.isBr ?_; first | refine ⟨_, rfl, fun _ => ?_, fun hf => Bool.noConfusion hf⟩ | refine ⟨_, rfl, fun hf => Bool.noConfusion hf, fun _ => ?_⟩)
    | (with_reducible refine W.isBr2 ?_; first | refine ⟨_, rfl, fun _ => ?_, fun hf => Bool.noConfusion hf⟩ | refine ⟨_, rfl, fun hf => Bool.noConfusion hf, fun _ => ?_⟩)
    | (with_reducible refine W.isLfS ?_; refine ⟨_, _, (by assumption), rfl, fun hl => ?_⟩))
    refine W.en ?_
    rw [fin_same (by simp)]
    refine Ok.ok ⟨⟨_, rfl, Int.emod_nonneg _ (by omega), Int.emod_lt_of_pos _ h0⟩, .lst [.fz (ns.map .int), .int i, .int (c / many), .int (k + 1), .int s], ?_, ?_⟩
    · simp only [List.set_set]
      rfl
    · exact ⟨ns, i, _, _, s, rfl, hi⟩
/-- the pool at l as it goes on from h -/
def At (l : Nat) (h h' : Hh) : Prop := ∃ ob, h' = h.set l ob ∧ PoolOb ob ∧ h'[l]? = some ob
theorem At.start {l : Nat} {o : Ob} (hl : h[l]? = some o) (hp : PoolOb o) : At l h h := by
  refine ⟨o, ?_, hp, hl⟩
  obtain ⟨hlt, e⟩ := List.getElem?_eq_some_iff.mp hl
  rw [← e, List.set_getElem_self]
theorem At.trans {l : Nat} {h1 h2 : Hh} (a : At l h h1) (b : At l h1 h2) : At l h h2 := by
  obtain ⟨o, rfl, p, e⟩ := a
  obtain ⟨o2, rfl, p2, e2⟩ := b
  exact ⟨o2, by rw [List.set_set], p2, e2⟩
theorem At.len {l : Nat} {h1 : Hh} (a : At l h h1) : h1.length = h.length := by
  obtain ⟨o, rfl, p, e⟩ := a
  rw [List.length_set]
theorem At.at {l : Nat} {h1 : Hh} (a : At l h h1) : At l h1 h1 := by
  obtain ⟨o, _, p, e⟩ := a
  exact At.start e p
theorem At.other {l j : Nat} {h1 : Hh} (a : At l h h1) (hj : j ≠ l) : h1[j]? = h[j]? := by
  obtain ⟨o, rfl, p, e⟩ := a
  rw [List.getElem?_set_ne (Ne.symm hj)]
theorem draw_at (G : GT T) {l : Nat} {h0 : Hh} {many : Int} (a : At l h0 h) (h1 : 0 < many) (h2 : many < 1073741824) :
    Ok (callF T (d + 2) "" "_law_draw" [.ref l, .int many] h) fun v h' => (∃ i : Int, v = .int i ∧ 0 ≤ i ∧ i < many) ∧ At l h0 h' := by
  obtain ⟨o, e, p, hl⟩ := a
  refine (draw_ok G hl p h1 h2).mono fun v h' q => ⟨q.1, ?_⟩
  obtain ⟨ob, rfl, pb⟩ := q.2
  refine At.trans ⟨o, e, p, hl⟩ ⟨ob, rfl, pb, W.get_set hl⟩
theorem strs_map {α : Type} (f : α → List Nat) : ∀ xs : List α, strsOf (xs.map fun x => .str (f x)) = some (xs.map f)
  | [] => rfl
  | x :: xs => by simp only [List.map_cons, strsOf, strs_map f xs, Option.map_some]
theorem joined_nil : ∀ ss : List (List Nat), joined [] ss = ss.flatten
  | [] => rfl
  | [x] => by simp [joined]
  | x :: y :: r => by rw [joined, joined_nil]; simp
theorem join_map {α : Type} (f : α → List Nat) {xs : List α} (hl : ((xs.map f).map List.length).sum ≤ line) : o2F .join h (.str []) (.lv (xs.map fun x => .str (f x))) = some (.str (xs.map f).flatten) := by
  simp only [o2F, items, strs_map f xs, List.length_nil, Nat.mul_zero, Nat.add_zero, if_pos hl, joined_nil]
theorem flatten_ones (cs : List Nat) : (cs.map fun c => [c]).flatten = cs := by
  induction cs with
  | nil => rfl
  | cons c cs ih => simp [ih]
theorem sum_ones (cs : List Nat) : ((cs.map fun c => [c]).map List.length).sum = cs.length := by
  induction cs with
  | nil => rfl
  | cons c cs ih => simp only [List.map_cons, List.sum_cons, ih, List.length_cons, List.length_nil]; omega
theorem join_ones {cs : List Nat} (hl : cs.length ≤ line) : o2F .join h (.str []) (.lv (cs.map fun c => .str [c])) = some (.str cs) := by
  have := join_map (h := h) (fun c => [c]) (xs := cs) (by rw [sum_ones]; exact hl)
  rw [flatten_ones] at this
  exact this
theorem idx_str {s : List Nat} {i : Int} (hs : s.length ≤ line) (h0 : 0 ≤ i) (h1 : i < s.length) : ∃ c, o2F .idx h (.str s) (.int i) = some (.str [c]) ∧ s[i.toNat]? = some c := by
  obtain ⟨c, e, e2⟩ := W.atI_some h0 h1
  refine ⟨c, ?_, e2⟩
  simp only [o2F, if_pos hs, e, Option.map_some]
theorem len_str {s : List Nat} (hs : s.length ≤ line) : o1F .len h (.str s) = some (.int s.length) := by
  simp only [o1F, if_pos hs]
theorem small_of {i : Int} (h0 : 0 ≤ i) (h1 : i < 1073741824) : small i = true := by
  simp only [small, Bool.and_eq_true, decide_eq_true_eq]
  omega
/-- a word of up to most sounds -/
theorem word_ok (G : GT T) {l : Nat} {h0 : Hh} {s : List Nat} {most : Int} (a : At l h0 h) (hs : s ≠ []) (hs2 : s.length < 1000) (hm : 0 ≤ most) (hm2 : most < 1000) :
    Ok (callF T (d + 3) "" "_law_word" [.ref l, .str s, .int most] h) fun v h' => (∃ w, v = .str w ∧ (∀ c ∈ w, c ∈ s) ∧ (w.length : Int) ≤ most) ∧ At l h0 h' := by
  have hsl : s.length ≤ line := by unfold line; omega
  have hpos : 0 < s.length := List.length_pos_iff.mpr hs
  refine W.fn G.word rfl ?_
  unfold b_law_word
  simp only [startD, List.map_cons, List.map_nil, List.cons_append, List.nil_append, List.length_cons, List.length_nil, List.replicate, Nat.reduceAdd, Nat.reduceSub]
  repeat (first
    | with_reducible refine W.cons ?_ | with_reducible refine W.set ?_ | with_reducible refine W.ret ?_ | with_reducible refine W.cst ?_ | (with_reducible refine W.isVar ?_; refine W.var rfl ?_)
    | (with_reducible refine W.isGetR ?_; refine W.getR rfl (by assumption) rfl ?_) | (with_reducible refine W.isLenR ?_; refine W.lenR rfl (by assumption) ?_) | (with_reducible refine W.isSetR ?_; refine W.setR rfl ?_)
    | with_reducible refine W.o2 ?_ | with_reducible refine W.o1 ?_ | with_reducible refine W.call ?_ | with_reducible refine W.es ?_ | with_reducible refine W.es0 ?_ | with_reducible refine W.nx ?_ | with_reducible refine W.rt ?_ | with_reducible refine W.tup ?_ | with_reducible refine W.lst ?_
    | with_reducible refine W.slice ?_ | with_reducible refine W.val ?_ | with_reducible refine W.rng ?_ | with_reducible refine W.enu ?_ | with_reducible refine W.seti ?_ | with_reducible refine W.ts0 ?_ | with_reducible refine W.ts1 ?_ | with_reducible refine W.cond ?_ | with_reducible refine W.and ?_
    | with_reducible refine W.or ?_ | with_reducible refine W.ife ?_ | with_reducible refine W.nil ?_ | with_reducible refine W.par ?_ | with_reducible refine W.app ?_ | with_reducible refine W.ext ?_
    | (with_reducible refine W.isLt ?_; refine ⟨by simp, ?_⟩) | (with_reducible refine W.isMul ?_; refine ⟨_, W.mulK (by decide), ?_⟩) | (with_reducible refine W.isEq ?_; first | refine ⟨_, W.eqI, ?_⟩ | refine ⟨_, W.eqS, ?_⟩) | (with_reducible refine W.isNe ?_; first | refine ⟨_, W.neI, ?_⟩ | refine ⟨_, W.neS, ?_⟩)
    | (with_reducible refine W.isLf ?_; refine ⟨_, rfl, ?_⟩)
    | (with_reducible refine W.isBr ?_; first | refine ⟨_, rfl, fun _ => ?_, fun hf => Bool.noConfusion hf⟩ | refine ⟨_, rfl, fun hf => Bool.noConfusion hf, fun _ => ?_⟩)
    | (with_reducible refine W.isBr2 ?_; first | refine ⟨_, rfl, fun _ => ?_, fun hf => Bool.noConfusion hf⟩ | refine ⟨_, rfl, fun hf => Bool.noConfusion hf, fun _ => ?_⟩)
    | (with_reducible refine W.isLfS ?_; refine ⟨_, _, (by assumption), rfl, fun hl => ?_⟩))
  refine W.comp ?_
  repeat (first
    | with_reducible refine W.cons ?_ | with_reducible refine W.set ?_ | with_reducible refine W.ret ?_ | with_reducible refine W.cst ?_ | (with_reducible refine W.isVar ?_; refine W.var rfl ?_)
    | (with_reducible refine W.isGetR ?_; refine W.getR rfl (by assumption) rfl ?_) | (with_reducible refine W.isLenR ?_; refine W.lenR rfl (by assumption) ?_) | (with_reducible refine W.isSetR ?_; refine W.setR rfl ?_)
    | with_reducible refine W.o2 ?_ | with_reducible refine W.o1 ?_ | with_reducible refine W.call ?_ | with_reducible refine W.es ?_ | with_reducible refine W.es0 ?_ | with_reducible refine W.nx ?_ | with_reducible refine W.rt ?_ | with_reducible refine W.tup ?_ | with_reducible refine W.lst ?_
    | with_reducible refine W.slice ?_ | with_reducible refine W.val ?_ | with_reducible refine W.rng ?_ | with_reducible refine W.enu ?_ | with_reducible refine W.seti ?_ | with_reducible refine W.ts0 ?_ | with_reducible refine W.ts1 ?_ | with_reducible refine W.cond ?_ | with_reducible refine W.and ?_
    | with_reducible refine W.or ?_ | with_reducible refine W.ife ?_ | with_reducible refine W.nil ?_ | with_reducible refine W.par ?_ | with_reducible refine W.app ?_ | with_reducible refine W.ext ?_
    | (with_reducible refine W.isLt ?_; refine ⟨by simp, ?_⟩) | (with_reducible refine W.isMul ?_; refine ⟨_, W.mulK (by decide), ?_⟩) | (with_reducible refine W.isEq ?_; first | refine ⟨_, W.eqI, ?_⟩ | refine ⟨_, W.eqS, ?_⟩) | (with_reducible refine W.isNe ?_; first | refine ⟨_, W.neI, ?_⟩ | refine ⟨_, W.neS, ?_⟩)
    | (with_reducible refine W.isLf ?_; refine ⟨_, rfl, ?_⟩)
    | (with_reducible refine W.isBr ?_; first | refine ⟨_, rfl, fun _ => ?_, fun hf => Bool.noConfusion hf⟩ | refine ⟨_, rfl, fun hf => Bool.noConfusion hf, fun _ => ?_⟩)
    | (with_reducible refine W.isBr2 ?_; first | refine ⟨_, rfl, fun _ => ?_, fun hf => Bool.noConfusion hf⟩ | refine ⟨_, rfl, fun hf => Bool.noConfusion hf, fun _ => ?_⟩)
    | (with_reducible refine W.isLfS ?_; refine ⟨_, _, (by assumption), rfl, fun hl => ?_⟩))
  refine (draw_at G a (by omega) (by omega)).mono fun v h1 q => ?_
  obtain ⟨⟨k, rfl, k0, k1⟩, a1⟩ := q
  refine ⟨k, rfl, small_of k0 (by omega), fun i ys h' => ∃ cs : List Nat, ys = cs.map (fun c => D.str [c]) ∧ cs.length = i ∧ (∀ c ∈ cs, c ∈ s) ∧ At l h0 h', ⟨[], rfl, rfl, by simp, a1⟩, fun _ _ _ _ => wat_nil _ _, ?_, ?_⟩
  · rintro i x ys h' hx ⟨cs, rfl, hc, hin, a2⟩
    obtain ⟨rfl, _⟩ := rng_get hx
    refine ⟨_, rfl, ?_⟩
    repeat (first
    | with_reducible refine W.cons ?_ | with_reducible refine W.set ?_ | with_reducible refine W.ret ?_ | with_reducible refine W.cst ?_ | (with_reducible refine W.isVar ?_; refine W.var rfl ?_)
    | (with_reducible refine W.isGetR ?_; refine W.getR rfl (by assumption) rfl ?_) | (with_reducible refine W.isLenR ?_; refine W.lenR rfl (by assumption) ?_) | (with_reducible refine W.isSetR ?_; refine W.setR rfl ?_)
    | with_reducible refine W.o2 ?_ | with_reducible refine W.o1 ?_ | with_reducible refine W.call ?_ | with_reducible refine W.es ?_ | with_reducible refine W.es0 ?_ | with_reducible refine W.nx ?_ | with_reducible refine W.rt ?_ | with_reducible refine W.tup ?_ | with_reducible refine W.lst ?_
    | with_reducible refine W.slice ?_ | with_reducible refine W.val ?_ | with_reducible refine W.rng ?_ | with_reducible refine W.enu ?_ | with_reducible refine W.seti ?_ | with_reducible refine W.ts0 ?_ | with_reducible refine W.ts1 ?_ | with_reducible refine W.cond ?_ | with_reducible refine W.and ?_
    | with_reducible refine W.or ?_ | with_reducible refine W.ife ?_ | with_reducible refine W.nil ?_ | with_reducible refine W.par ?_ | with_reducible refine W.app ?_ | with_reducible refine W.ext ?_
    | (with_reducible refine W.isLt ?_; refine ⟨by simp, ?_⟩) | (with_reducible refine W.isMul ?_; refine ⟨_, W.mulK (by decide), ?_⟩) | (with_reducible refine W.isEq ?_; first | refine ⟨_, W.eqI, ?_⟩ | refine ⟨_, W.eqS, ?_⟩) | (with_reducible refine W.isNe ?_; first | refine ⟨_, W.neI, ?_⟩ | refine ⟨_, W.neS, ?_⟩)
    | (with_reducible refine W.isLf ?_; refine ⟨_, rfl, ?_⟩)
    | (with_reducible refine W.isBr ?_; first | refine ⟨_, rfl, fun _ => ?_, fun hf => Bool.noConfusion hf⟩ | refine ⟨_, rfl, fun hf => Bool.noConfusion hf, fun _ => ?_⟩)
    | (with_reducible refine W.isBr2 ?_; first | refine ⟨_, rfl, fun _ => ?_, fun hf => Bool.noConfusion hf⟩ | refine ⟨_, rfl, fun hf => Bool.noConfusion hf, fun _ => ?_⟩)
    | (with_reducible refine W.isLfS ?_; refine ⟨_, _, (by assumption), rfl, fun hl => ?_⟩))
    refine ⟨fun _ => ?_, fun hf => (nomatch hf)⟩
    repeat (first
    | with_reducible refine W.cons ?_ | with_reducible refine W.set ?_ | with_reducible refine W.ret ?_ | with_reducible refine W.cst ?_ | (with_reducible refine W.isVar ?_; refine W.var rfl ?_)
    | (with_reducible refine W.isGetR ?_; refine W.getR rfl (by assumption) rfl ?_) | (with_reducible refine W.isLenR ?_; refine W.lenR rfl (by assumption) ?_) | (with_reducible refine W.isSetR ?_; refine W.setR rfl ?_)
    | with_reducible refine W.o2 ?_ | with_reducible refine W.o1 ?_ | with_reducible refine W.call ?_ | with_reducible refine W.es ?_ | with_reducible refine W.es0 ?_ | with_reducible refine W.nx ?_ | with_reducible refine W.rt ?_ | with_reducible refine W.tup ?_ | with_reducible refine W.lst ?_
    | with_reducible refine W.slice ?_ | with_reducible refine W.val ?_ | with_reducible refine W.rng ?_ | with_reducible refine W.enu ?_ | with_reducible refine W.seti ?_ | with_reducible refine W.ts0 ?_ | with_reducible refine W.ts1 ?_ | with_reducible refine W.cond ?_ | with_reducible refine W.and ?_
    | with_reducible refine W.or ?_ | with_reducible refine W.ife ?_ | with_reducible refine W.nil ?_ | with_reducible refine W.par ?_ | with_reducible refine W.app ?_ | with_reducible refine W.ext ?_
    | (with_reducible refine W.isLt ?_; refine ⟨by simp, ?_⟩) | (with_reducible refine W.isMul ?_; refine ⟨_, W.mulK (by decide), ?_⟩) | (with_reducible refine W.isEq ?_; first | refine ⟨_, W.eqI, ?_⟩ | refine ⟨_, W.eqS, ?_⟩) | (with_reducible refine W.isNe ?_; first | refine ⟨_, W.neI, ?_⟩ | refine ⟨_, W.neS, ?_⟩)
    | (with_reducible refine W.isLf ?_; refine ⟨_, rfl, ?_⟩)
    | (with_reducible refine W.isBr ?_; first | refine ⟨_, rfl, fun _ => ?_, fun hf => Bool.noConfusion hf⟩ | refine ⟨_, rfl, fun hf => Bool.noConfusion hf, fun _ => ?_⟩)
    | (with_reducible refine W.isBr2 ?_; first | refine ⟨_, rfl, fun _ => ?_, fun hf => Bool.noConfusion hf⟩ | refine ⟨_, rfl, fun hf => Bool.noConfusion hf, fun _ => ?_⟩)
    | (with_reducible refine W.isLfS ?_; refine ⟨_, _, (by assumption), rfl, fun hl => ?_⟩))
    refine ⟨_, len_str hsl, ?_⟩
    repeat (first
    | with_reducible refine W.cons ?_ | with_reducible refine W.set ?_ | with_reducible refine W.ret ?_ | with_reducible refine W.cst ?_ | (with_reducible refine W.isVar ?_; refine W.var rfl ?_)
    | (with_reducible refine W.isGetR ?_; refine W.getR rfl (by assumption) rfl ?_) | (with_reducible refine W.isLenR ?_; refine W.lenR rfl (by assumption) ?_) | (with_reducible refine W.isSetR ?_; refine W.setR rfl ?_)
    | with_reducible refine W.o2 ?_ | with_reducible refine W.o1 ?_ | with_reducible refine W.call ?_ | with_reducible refine W.es ?_ | with_reducible refine W.es0 ?_ | with_reducible refine W.nx ?_ | with_reducible refine W.rt ?_ | with_reducible refine W.tup ?_ | with_reducible refine W.lst ?_
    | with_reducible refine W.slice ?_ | with_reducible refine W.val ?_ | with_reducible refine W.rng ?_ | with_reducible refine W.enu ?_ | with_reducible refine W.seti ?_ | with_reducible refine W.ts0 ?_ | with_reducible refine W.ts1 ?_ | with_reducible refine W.cond ?_ | with_reducible refine W.and ?_
    | with_reducible refine W.or ?_ | with_reducible refine W.ife ?_ | with_reducible refine W.nil ?_ | with_reducible refine W.par ?_ | with_reducible refine W.app ?_ | with_reducible refine W.ext ?_
    | (with_reducible refine W.isLt ?_; refine ⟨by simp, ?_⟩) | (with_reducible refine W.isMul ?_; refine ⟨_, W.mulK (by decide), ?_⟩) | (with_reducible refine W.isEq ?_; first | refine ⟨_, W.eqI, ?_⟩ | refine ⟨_, W.eqS, ?_⟩) | (with_reducible refine W.isNe ?_; first | refine ⟨_, W.neI, ?_⟩ | refine ⟨_, W.neS, ?_⟩)
    | (with_reducible refine W.isLf ?_; refine ⟨_, rfl, ?_⟩)
    | (with_reducible refine W.isBr ?_; first | refine ⟨_, rfl, fun _ => ?_, fun hf => Bool.noConfusion hf⟩ | refine ⟨_, rfl, fun hf => Bool.noConfusion hf, fun _ => ?_⟩)
    | (with_reducible refine W.isBr2 ?_; first | refine ⟨_, rfl, fun _ => ?_, fun hf => Bool.noConfusion hf⟩ | refine ⟨_, rfl, fun hf => Bool.noConfusion hf, fun _ => ?_⟩)
    | (with_reducible refine W.isLfS ?_; refine ⟨_, _, (by assumption), rfl, fun hl => ?_⟩))
    refine (draw_at G a2 (by omega) (by omega)).mono fun v h3 q => ?_
    obtain ⟨⟨j, rfl, j0, j1⟩, a3⟩ := q
    obtain ⟨c, e, e2⟩ := idx_str (h := h3) hsl j0 j1
    refine ⟨_, e, cs ++ [c], by simp [D.keep], by simp [hc], fun b hb => ?_, a3⟩
    rcases List.mem_append.mp hb with hb | hb
    · exact hin b hb
    · rw [List.mem_singleton.mp hb]; exact List.mem_of_getElem? e2
  · rintro ys h' ⟨cs, rfl, hc, hin, a2⟩
    simp only [rngD, List.length_map, List.length_range] at hc
    have hl : cs.length ≤ line := by unfold line; omega
    refine ⟨by simpa using hl, ?_⟩
    refine ⟨_, join_ones hl, ?_⟩
    repeat (first
    | with_reducible refine W.cons ?_ | with_reducible refine W.set ?_ | with_reducible refine W.ret ?_ | with_reducible refine W.cst ?_ | (with_reducible refine W.isVar ?_; refine W.var rfl ?_)
    | (with_reducible refine W.isGetR ?_; refine W.getR rfl (by assumption) rfl ?_) | (with_reducible refine W.isLenR ?_; refine W.lenR rfl (by assumption) ?_) | (with_reducible refine W.isSetR ?_; refine W.setR rfl ?_)
    | with_reducible refine W.o2 ?_ | with_reducible refine W.o1 ?_ | with_reducible refine W.call ?_ | with_reducible refine W.es ?_ | with_reducible refine W.es0 ?_ | with_reducible refine W.nx ?_ | with_reducible refine W.rt ?_ | with_reducible refine W.tup ?_ | with_reducible refine W.lst ?_
    | with_reducible refine W.slice ?_ | with_reducible refine W.val ?_ | with_reducible refine W.rng ?_ | with_reducible refine W.enu ?_ | with_reducible refine W.seti ?_ | with_reducible refine W.ts0 ?_ | with_reducible refine W.ts1 ?_ | with_reducible refine W.cond ?_ | with_reducible refine W.and ?_
    | with_reducible refine W.or ?_ | with_reducible refine W.ife ?_ | with_reducible refine W.nil ?_ | with_reducible refine W.par ?_ | with_reducible refine W.app ?_ | with_reducible refine W.ext ?_
    | (with_reducible refine W.isLt ?_; refine ⟨by simp, ?_⟩) | (with_reducible refine W.isMul ?_; refine ⟨_, W.mulK (by decide), ?_⟩) | (with_reducible refine W.isEq ?_; first | refine ⟨_, W.eqI, ?_⟩ | refine ⟨_, W.eqS, ?_⟩) | (with_reducible refine W.isNe ?_; first | refine ⟨_, W.neI, ?_⟩ | refine ⟨_, W.neS, ?_⟩)
    | (with_reducible refine W.isLf ?_; refine ⟨_, rfl, ?_⟩)
    | (with_reducible refine W.isBr ?_; first | refine ⟨_, rfl, fun _ => ?_, fun hf => Bool.noConfusion hf⟩ | refine ⟨_, rfl, fun hf => Bool.noConfusion hf, fun _ => ?_⟩)
    | (with_reducible refine W.isBr2 ?_; first | refine ⟨_, rfl, fun _ => ?_, fun hf => Bool.noConfusion hf⟩ | refine ⟨_, rfl, fun hf => Bool.noConfusion hf, fun _ => ?_⟩)
    | (with_reducible refine W.isLfS ?_; refine ⟨_, _, (by assumption), rfl, fun hl => ?_⟩))
    refine W.en ?_
    rw [fin_same (by rw [a2.len, a.len])]
    exact Ok.ok ⟨⟨cs, rfl, hin, by omega⟩, a2⟩
/-- a lot: some of the sounds, as they are ordered -/
theorem lot_ok (G : GT T) {l : Nat} {h0 : Hh} {s : List Nat} (a : At l h0 h) (hs : s ≠ []) (hs2 : s.length < 1000) :
    Ok (callF T (d + 3) "" "_law_lot" [.ref l, .str s] h) fun v h' => (∃ w, v = .str w ∧ w ≠ [] ∧ w.Sublist s) ∧ At l h0 h' := by
  have hsl : s.length ≤ line := by unfold line; omega
  have hpos : 0 < s.length := List.length_pos_iff.mpr hs
  refine W.fn G.lot rfl ?_
  unfold b_law_lot
  simp only [startD, List.map_cons, List.map_nil, List.cons_append, List.nil_append, List.length_cons, List.length_nil, List.replicate, Nat.reduceAdd, Nat.reduceSub]
  repeat (first
    | with_reducible refine W.cons ?_ | with_reducible refine W.set ?_ | with_reducible refine W.ret ?_ | with_reducible refine W.cst ?_ | (with_reducible refine W.isVar ?_; refine W.var rfl ?_)
    | (with_reducible refine W.isGetR ?_; refine W.getR rfl (by assumption) rfl ?_) | (with_reducible refine W.isLenR ?_; refine W.lenR rfl (by assumption) ?_) | (with_reducible refine W.isSetR ?_; refine W.setR rfl ?_)
    | with_reducible refine W.o2 ?_ | with_reducible refine W.o1 ?_ | with_reducible refine W.call ?_ | with_reducible refine W.es ?_ | with_reducible refine W.es0 ?_ | with_reducible refine W.nx ?_ | with_reducible refine W.rt ?_ | with_reducible refine W.tup ?_ | with_reducible refine W.lst ?_
    | with_reducible refine W.slice ?_ | with_reducible refine W.val ?_ | with_reducible refine W.rng ?_ | with_reducible refine W.enu ?_ | with_reducible refine W.seti ?_ | with_reducible refine W.ts0 ?_ | with_reducible refine W.ts1 ?_ | with_reducible refine W.cond ?_ | with_reducible refine W.and ?_
    | with_reducible refine W.or ?_ | with_reducible refine W.ife ?_ | with_reducible refine W.nil ?_ | with_reducible refine W.par ?_ | with_reducible refine W.app ?_ | with_reducible refine W.ext ?_
    | (with_reducible refine W.isLt ?_; refine ⟨by simp, ?_⟩) | (with_reducible refine W.isMul ?_; refine ⟨_, W.mulK (by decide), ?_⟩) | (with_reducible refine W.isEq ?_; first | refine ⟨_, W.eqI, ?_⟩ | refine ⟨_, W.eqS, ?_⟩) | (with_reducible refine W.isNe ?_; first | refine ⟨_, W.neI, ?_⟩ | refine ⟨_, W.neS, ?_⟩)
    | (with_reducible refine W.isLf ?_; refine ⟨_, rfl, ?_⟩)
    | (with_reducible refine W.isBr ?_; first | refine ⟨_, rfl, fun _ => ?_, fun hf => Bool.noConfusion hf⟩ | refine ⟨_, rfl, fun hf => Bool.noConfusion hf, fun _ => ?_⟩)
    | (with_reducible refine W.isBr2 ?_; first | refine ⟨_, rfl, fun _ => ?_, fun hf => Bool.noConfusion hf⟩ | refine ⟨_, rfl, fun hf => Bool.noConfusion hf, fun _ => ?_⟩)
    | (with_reducible refine W.isLfS ?_; refine ⟨_, _, (by assumption), rfl, fun hl => ?_⟩))
  refine W.comp ?_
  refine W.val ?_
  repeat (first
    | with_reducible refine W.cons ?_ | with_reducible refine W.set ?_ | with_reducible refine W.ret ?_ | with_reducible refine W.cst ?_ | (with_reducible refine W.isVar ?_; refine W.var rfl ?_)
    | (with_reducible refine W.isGetR ?_; refine W.getR rfl (by assumption) rfl ?_) | (with_reducible refine W.isLenR ?_; refine W.lenR rfl (by assumption) ?_) | (with_reducible refine W.isSetR ?_; refine W.setR rfl ?_)
    | with_reducible refine W.o2 ?_ | with_reducible refine W.o1 ?_ | with_reducible refine W.call ?_ | with_reducible refine W.es ?_ | with_reducible refine W.es0 ?_ | with_reducible refine W.nx ?_ | with_reducible refine W.rt ?_ | with_reducible refine W.tup ?_ | with_reducible refine W.lst ?_
    | with_reducible refine W.slice ?_ | with_reducible refine W.val ?_ | with_reducible refine W.rng ?_ | with_reducible refine W.enu ?_ | with_reducible refine W.seti ?_ | with_reducible refine W.ts0 ?_ | with_reducible refine W.ts1 ?_ | with_reducible refine W.cond ?_ | with_reducible refine W.and ?_
    | with_reducible refine W.or ?_ | with_reducible refine W.ife ?_ | with_reducible refine W.nil ?_ | with_reducible refine W.par ?_ | with_reducible refine W.app ?_ | with_reducible refine W.ext ?_
    | (with_reducible refine W.isLt ?_; refine ⟨by simp, ?_⟩) | (with_reducible refine W.isMul ?_; refine ⟨_, W.mulK (by decide), ?_⟩) | (with_reducible refine W.isEq ?_; first | refine ⟨_, W.eqI, ?_⟩ | refine ⟨_, W.eqS, ?_⟩) | (with_reducible refine W.isNe ?_; first | refine ⟨_, W.neI, ?_⟩ | refine ⟨_, W.neS, ?_⟩)
    | (with_reducible refine W.isLf ?_; refine ⟨_, rfl, ?_⟩)
    | (with_reducible refine W.isBr ?_; first | refine ⟨_, rfl, fun _ => ?_, fun hf => Bool.noConfusion hf⟩ | refine ⟨_, rfl, fun hf => Bool.noConfusion hf, fun _ => ?_⟩)
    | (with_reducible refine W.isBr2 ?_; first | refine ⟨_, rfl, fun _ => ?_, fun hf => Bool.noConfusion hf⟩ | refine ⟨_, rfl, fun hf => Bool.noConfusion hf, fun _ => ?_⟩)
    | (with_reducible refine W.isLfS ?_; refine ⟨_, _, (by assumption), rfl, fun hl => ?_⟩))
  refine ⟨_, rfl, fun i ys h' => ∃ cs : List Nat, ys = cs.map (fun c => D.str [c]) ∧ cs.Sublist (s.take i) ∧ At l h0 h', ⟨[], rfl, by simp, a⟩, fun _ _ _ _ => wat_nil _ _, ?_, ?_⟩
  · rintro i x ys h' hx ⟨cs, rfl, hc, a2⟩
    rw [List.getElem?_map] at hx
    obtain ⟨c, hc2, rfl⟩ := Option.map_eq_some_iff.mp hx
    refine ⟨_, rfl, ?_⟩
    repeat (first
    | with_reducible refine W.cons ?_ | with_reducible refine W.set ?_ | with_reducible refine W.ret ?_ | with_reducible refine W.cst ?_ | (with_reducible refine W.isVar ?_; refine W.var rfl ?_)
    | (with_reducible refine W.isGetR ?_; refine W.getR rfl (by assumption) rfl ?_) | (with_reducible refine W.isLenR ?_; refine W.lenR rfl (by assumption) ?_) | (with_reducible refine W.isSetR ?_; refine W.setR rfl ?_)
    | with_reducible refine W.o2 ?_ | with_reducible refine W.o1 ?_ | with_reducible refine W.call ?_ | with_reducible refine W.es ?_ | with_reducible refine W.es0 ?_ | with_reducible refine W.nx ?_ | with_reducible refine W.rt ?_ | with_reducible refine W.tup ?_ | with_reducible refine W.lst ?_
    | with_reducible refine W.slice ?_ | with_reducible refine W.val ?_ | with_reducible refine W.rng ?_ | with_reducible refine W.enu ?_ | with_reducible refine W.seti ?_ | with_reducible refine W.ts0 ?_ | with_reducible refine W.ts1 ?_ | with_reducible refine W.cond ?_ | with_reducible refine W.and ?_
    | with_reducible refine W.or ?_ | with_reducible refine W.ife ?_ | with_reducible refine W.nil ?_ | with_reducible refine W.par ?_ | with_reducible refine W.app ?_ | with_reducible refine W.ext ?_
    | (with_reducible refine W.isLt ?_; refine ⟨by simp, ?_⟩) | (with_reducible refine W.isMul ?_; refine ⟨_, W.mulK (by decide), ?_⟩) | (with_reducible refine W.isEq ?_; first | refine ⟨_, W.eqI, ?_⟩ | refine ⟨_, W.eqS, ?_⟩) | (with_reducible refine W.isNe ?_; first | refine ⟨_, W.neI, ?_⟩ | refine ⟨_, W.neS, ?_⟩)
    | (with_reducible refine W.isLf ?_; refine ⟨_, rfl, ?_⟩)
    | (with_reducible refine W.isBr ?_; first | refine ⟨_, rfl, fun _ => ?_, fun hf => Bool.noConfusion hf⟩ | refine ⟨_, rfl, fun hf => Bool.noConfusion hf, fun _ => ?_⟩)
    | (with_reducible refine W.isBr2 ?_; first | refine ⟨_, rfl, fun _ => ?_, fun hf => Bool.noConfusion hf⟩ | refine ⟨_, rfl, fun hf => Bool.noConfusion hf, fun _ => ?_⟩)
    | (with_reducible refine W.isLfS ?_; refine ⟨_, _, (by assumption), rfl, fun hl => ?_⟩))
    refine (draw_at G a2 (by decide) (by decide)).mono fun v h3 q => ?_
    obtain ⟨⟨j, rfl, j0, j1⟩, a3⟩ := q
    repeat (first
    | with_reducible refine W.cons ?_ | with_reducible refine W.set ?_ | with_reducible refine W.ret ?_ | with_reducible refine W.cst ?_ | (with_reducible refine W.isVar ?_; refine W.var rfl ?_)
    | (with_reducible refine W.isGetR ?_; refine W.getR rfl (by assumption) rfl ?_) | (with_reducible refine W.isLenR ?_; refine W.lenR rfl (by assumption) ?_) | (with_reducible refine W.isSetR ?_; refine W.setR rfl ?_)
    | with_reducible refine W.o2 ?_ | with_reducible refine W.o1 ?_ | with_reducible refine W.call ?_ | with_reducible refine W.es ?_ | with_reducible refine W.es0 ?_ | with_reducible refine W.nx ?_ | with_reducible refine W.rt ?_ | with_reducible refine W.tup ?_ | with_reducible refine W.lst ?_
    | with_reducible refine W.slice ?_ | with_reducible refine W.val ?_ | with_reducible refine W.rng ?_ | with_reducible refine W.enu ?_ | with_reducible refine W.seti ?_ | with_reducible refine W.ts0 ?_ | with_reducible refine W.ts1 ?_ | with_reducible refine W.cond ?_ | with_reducible refine W.and ?_
    | with_reducible refine W.or ?_ | with_reducible refine W.ife ?_ | with_reducible refine W.nil ?_ | with_reducible refine W.par ?_ | with_reducible refine W.app ?_ | with_reducible refine W.ext ?_
    | (with_reducible refine W.isLt ?_; refine ⟨by simp, ?_⟩) | (with_reducible refine W.isMul ?_; refine ⟨_, W.mulK (by decide), ?_⟩) | (with_reducible refine W.isEq ?_; first | refine ⟨_, W.eqI, ?_⟩ | refine ⟨_, W.eqS, ?_⟩) | (with_reducible refine W.isNe ?_; first | refine ⟨_, W.neI, ?_⟩ | refine ⟨_, W.neS, ?_⟩)
    | (with_reducible refine W.isLf ?_; refine ⟨_, rfl, ?_⟩)
    | (with_reducible refine W.isBr ?_; first | refine ⟨_, rfl, fun _ => ?_, fun hf => Bool.noConfusion hf⟩ | refine ⟨_, rfl, fun hf => Bool.noConfusion hf, fun _ => ?_⟩)
    | (with_reducible refine W.isBr2 ?_; first | refine ⟨_, rfl, fun _ => ?_, fun hf => Bool.noConfusion hf⟩ | refine ⟨_, rfl, fun hf => Bool.noConfusion hf, fun _ => ?_⟩)
    | (with_reducible refine W.isLfS ?_; refine ⟨_, _, (by assumption), rfl, fun hl => ?_⟩))
    refine ⟨_, rfl, fun _ => ?_, fun _ => ?_⟩
    · repeat (first
    | with_reducible refine W.cons ?_ | with_reducible refine W.set ?_ | with_reducible refine W.ret ?_ | with_reducible refine W.cst ?_ | (with_reducible refine W.isVar ?_; refine W.var rfl ?_)
    | (with_reducible refine W.isGetR ?_; refine W.getR rfl (by assumption) rfl ?_) | (with_reducible refine W.isLenR ?_; refine W.lenR rfl (by assumption) ?_) | (with_reducible refine W.isSetR ?_; refine W.setR rfl ?_)
    | with_reducible refine W.o2 ?_ | with_reducible refine W.o1 ?_ | with_reducible refine W.call ?_ | with_reducible refine W.es ?_ | with_reducible refine W.es0 ?_ | with_reducible refine W.nx ?_ | with_reducible refine W.rt ?_ | with_reducible refine W.tup ?_ | with_reducible refine W.lst ?_
    | with_reducible refine W.slice ?_ | with_reducible refine W.val ?_ | with_reducible refine W.rng ?_ | with_reducible refine W.enu ?_ | with_reducible refine W.seti ?_ | with_reducible refine W.ts0 ?_ | with_reducible refine W.ts1 ?_ | with_reducible refine W.cond ?_ | with_reducible refine W.and ?_
    | with_reducible refine W.or ?_ | with_reducible refine W.ife ?_ | with_reducible refine W.nil ?_ | with_reducible refine W.par ?_ | with_reducible refine W.app ?_ | with_reducible refine W.ext ?_
    | (with_reducible refine W.isLt ?_; refine ⟨by simp, ?_⟩) | (with_reducible refine W.isMul ?_; refine ⟨_, W.mulK (by decide), ?_⟩) | (with_reducible refine W.isEq ?_; first | refine ⟨_, W.eqI, ?_⟩ | refine ⟨_, W.eqS, ?_⟩) | (with_reducible refine W.isNe ?_; first | refine ⟨_, W.neI, ?_⟩ | refine ⟨_, W.neS, ?_⟩)
    | (with_reducible refine W.isLf ?_; refine ⟨_, rfl, ?_⟩)
    | (with_reducible refine W.isBr ?_; first | refine ⟨_, rfl, fun _ => ?_, fun hf => Bool.noConfusion hf⟩ | refine ⟨_, rfl, fun hf => Bool.noConfusion hf, fun _ => ?_⟩)
    | (with_reducible refine W.isBr2 ?_; first | refine ⟨_, rfl, fun _ => ?_, fun hf => Bool.noConfusion hf⟩ | refine ⟨_, rfl, fun hf => Bool.noConfusion hf, fun _ => ?_⟩)
    | (with_reducible refine W.isLfS ?_; refine ⟨_, _, (by assumption), rfl, fun hl => ?_⟩))
      refine ⟨cs ++ [c], by simp [D.keep], ?_, a3⟩
      rw [List.take_succ, hc2]
      exact List.Sublist.append hc (List.Sublist.refl _)
    · refine ⟨cs, by simp, ?_, a3⟩
      rw [List.take_succ, hc2]
      exact hc.trans (List.sublist_append_left _ _)
  · rintro ys h' ⟨cs, rfl, hc, a2⟩
    rw [List.length_map, List.take_length] at hc
    have hl : cs.length ≤ line := Nat.le_trans hc.length_le hsl
    refine ⟨by simpa using hl, ?_⟩
    refine ⟨_, join_ones hl, ?_⟩
    repeat (first
    | with_reducible refine W.cons ?_ | with_reducible refine W.set ?_ | with_reducible refine W.ret ?_ | with_reducible refine W.cst ?_ | (with_reducible refine W.isVar ?_; refine W.var rfl ?_)
    | (with_reducible refine W.isGetR ?_; refine W.getR rfl (by assumption) rfl ?_) | (with_reducible refine W.isLenR ?_; refine W.lenR rfl (by assumption) ?_) | (with_reducible refine W.isSetR ?_; refine W.setR rfl ?_)
    | with_reducible refine W.o2 ?_ | with_reducible refine W.o1 ?_ | with_reducible refine W.call ?_ | with_reducible refine W.es ?_ | with_reducible refine W.es0 ?_ | with_reducible refine W.nx ?_ | with_reducible refine W.rt ?_ | with_reducible refine W.tup ?_ | with_reducible refine W.lst ?_
    | with_reducible refine W.slice ?_ | with_reducible refine W.val ?_ | with_reducible refine W.rng ?_ | with_reducible refine W.enu ?_ | with_reducible refine W.seti ?_ | with_reducible refine W.ts0 ?_ | with_reducible refine W.ts1 ?_ | with_reducible refine W.cond ?_ | with_reducible refine W.and ?_
    | with_reducible refine W.or ?_ | with_reducible refine W.ife ?_ | with_reducible refine W.nil ?_ | with_reducible refine W.par ?_ | with_reducible refine W.app ?_ | with_reducible refine W.ext ?_
    | (with_reducible refine W.isLt ?_; refine ⟨by simp, ?_⟩) | (with_reducible refine W.isMul ?_; refine ⟨_, W.mulK (by decide), ?_⟩) | (with_reducible refine W.isEq ?_; first | refine ⟨_, W.eqI, ?_⟩ | refine ⟨_, W.eqS, ?_⟩) | (with_reducible refine W.isNe ?_; first | refine ⟨_, W.neI, ?_⟩ | refine ⟨_, W.neS, ?_⟩)
    | (with_reducible refine W.isLf ?_; refine ⟨_, rfl, ?_⟩)
    | (with_reducible refine W.isBr ?_; first | refine ⟨_, rfl, fun _ => ?_, fun hf => Bool.noConfusion hf⟩ | refine ⟨_, rfl, fun hf => Bool.noConfusion hf, fun _ => ?_⟩)
    | (with_reducible refine W.isBr2 ?_; first | refine ⟨_, rfl, fun _ => ?_, fun hf => Bool.noConfusion hf⟩ | refine ⟨_, rfl, fun hf => Bool.noConfusion hf, fun _ => ?_⟩)
    | (with_reducible refine W.isLfS ?_; refine ⟨_, _, (by assumption), rfl, fun hl => ?_⟩))
    refine ⟨_, rfl, fun hk => ?_, fun _ => ?_⟩
    · repeat (first
    | with_reducible refine W.cons ?_ | with_reducible refine W.set ?_ | with_reducible refine W.ret ?_ | with_reducible refine W.cst ?_ | (with_reducible refine W.isVar ?_; refine W.var rfl ?_)
    | (with_reducible refine W.isGetR ?_; refine W.getR rfl (by assumption) rfl ?_) | (with_reducible refine W.isLenR ?_; refine W.lenR rfl (by assumption) ?_) | (with_reducible refine W.isSetR ?_; refine W.setR rfl ?_)
    | with_reducible refine W.o2 ?_ | with_reducible refine W.o1 ?_ | with_reducible refine W.call ?_ | with_reducible refine W.es ?_ | with_reducible refine W.es0 ?_ | with_reducible refine W.nx ?_ | with_reducible refine W.rt ?_ | with_reducible refine W.tup ?_ | with_reducible refine W.lst ?_
    | with_reducible refine W.slice ?_ | with_reducible refine W.val ?_ | with_reducible refine W.rng ?_ | with_reducible refine W.enu ?_ | with_reducible refine W.seti ?_ | with_reducible refine W.ts0 ?_ | with_reducible refine W.ts1 ?_ | with_reducible refine W.cond ?_ | with_reducible refine W.and ?_
    | with_reducible refine W.or ?_ | with_reducible refine W.ife ?_ | with_reducible refine W.nil ?_ | with_reducible refine W.par ?_ | with_reducible refine W.app ?_ | with_reducible refine W.ext ?_
    | (with_reducible refine W.isLt ?_; refine ⟨by simp, ?_⟩) | (with_reducible refine W.isMul ?_; refine ⟨_, W.mulK (by decide), ?_⟩) | (with_reducible refine W.isEq ?_; first | refine ⟨_, W.eqI, ?_⟩ | refine ⟨_, W.eqS, ?_⟩) | (with_reducible refine W.isNe ?_; first | refine ⟨_, W.neI, ?_⟩ | refine ⟨_, W.neS, ?_⟩)
    | (with_reducible refine W.isLf ?_; refine ⟨_, rfl, ?_⟩)
    | (with_reducible refine W.isBr ?_; first | refine ⟨_, rfl, fun _ => ?_, fun hf => Bool.noConfusion hf⟩ | refine ⟨_, rfl, fun hf => Bool.noConfusion hf, fun _ => ?_⟩)
    | (with_reducible refine W.isBr2 ?_; first | refine ⟨_, rfl, fun _ => ?_, fun hf => Bool.noConfusion hf⟩ | refine ⟨_, rfl, fun hf => Bool.noConfusion hf, fun _ => ?_⟩)
    | (with_reducible refine W.isLfS ?_; refine ⟨_, _, (by assumption), rfl, fun hl => ?_⟩))
      refine W.en ?_
      rw [fin_same (by rw [a2.len, a.len])]
      exact Ok.ok ⟨⟨cs, rfl, by simpa using hk, hc⟩, a2⟩
    · repeat (first
    | with_reducible refine W.cons ?_ | with_reducible refine W.set ?_ | with_reducible refine W.ret ?_ | with_reducible refine W.cst ?_ | (with_reducible refine W.isVar ?_; refine W.var rfl ?_)
    | (with_reducible refine W.isGetR ?_; refine W.getR rfl (by assumption) rfl ?_) | (with_reducible refine W.isLenR ?_; refine W.lenR rfl (by assumption) ?_) | (with_reducible refine W.isSetR ?_; refine W.setR rfl ?_)
    | with_reducible refine W.o2 ?_ | with_reducible refine W.o1 ?_ | with_reducible refine W.call ?_ | with_reducible refine W.es ?_ | with_reducible refine W.es0 ?_ | with_reducible refine W.nx ?_ | with_reducible refine W.rt ?_ | with_reducible refine W.tup ?_ | with_reducible refine W.lst ?_
    | with_reducible refine W.slice ?_ | with_reducible refine W.val ?_ | with_reducible refine W.rng ?_ | with_reducible refine W.enu ?_ | with_reducible refine W.seti ?_ | with_reducible refine W.ts0 ?_ | with_reducible refine W.ts1 ?_ | with_reducible refine W.cond ?_ | with_reducible refine W.and ?_
    | with_reducible refine W.or ?_ | with_reducible refine W.ife ?_ | with_reducible refine W.nil ?_ | with_reducible refine W.par ?_ | with_reducible refine W.app ?_ | with_reducible refine W.ext ?_
    | (with_reducible refine W.isLt ?_; refine ⟨by simp, ?_⟩) | (with_reducible refine W.isMul ?_; refine ⟨_, W.mulK (by decide), ?_⟩) | (with_reducible refine W.isEq ?_; first | refine ⟨_, W.eqI, ?_⟩ | refine ⟨_, W.eqS, ?_⟩) | (with_reducible refine W.isNe ?_; first | refine ⟨_, W.neI, ?_⟩ | refine ⟨_, W.neS, ?_⟩)
    | (with_reducible refine W.isLf ?_; refine ⟨_, rfl, ?_⟩)
    | (with_reducible refine W.isBr ?_; first | refine ⟨_, rfl, fun _ => ?_, fun hf => Bool.noConfusion hf⟩ | refine ⟨_, rfl, fun hf => Bool.noConfusion hf, fun _ => ?_⟩)
    | (with_reducible refine W.isBr2 ?_; first | refine ⟨_, rfl, fun _ => ?_, fun hf => Bool.noConfusion hf⟩ | refine ⟨_, rfl, fun hf => Bool.noConfusion hf, fun _ => ?_⟩)
    | (with_reducible refine W.isLfS ?_; refine ⟨_, _, (by assumption), rfl, fun hl => ?_⟩))
      refine ⟨_, len_str hsl, ?_⟩
      repeat (first
    | with_reducible refine W.cons ?_ | with_reducible refine W.set ?_ | with_reducible refine W.ret ?_ | with_reducible refine W.cst ?_ | (with_reducible refine W.isVar ?_; refine W.var rfl ?_)
    | (with_reducible refine W.isGetR ?_; refine W.getR rfl (by assumption) rfl ?_) | (with_reducible refine W.isLenR ?_; refine W.lenR rfl (by assumption) ?_) | (with_reducible refine W.isSetR ?_; refine W.setR rfl ?_)
    | with_reducible refine W.o2 ?_ | with_reducible refine W.o1 ?_ | with_reducible refine W.call ?_ | with_reducible refine W.es ?_ | with_reducible refine W.es0 ?_ | with_reducible refine W.nx ?_ | with_reducible refine W.rt ?_ | with_reducible refine W.tup ?_ | with_reducible refine W.lst ?_
    | with_reducible refine W.slice ?_ | with_reducible refine W.val ?_ | with_reducible refine W.rng ?_ | with_reducible refine W.enu ?_ | with_reducible refine W.seti ?_ | with_reducible refine W.ts0 ?_ | with_reducible refine W.ts1 ?_ | with_reducible refine W.cond ?_ | with_reducible refine W.and ?_
    | with_reducible refine W.or ?_ | with_reducible refine W.ife ?_ | with_reducible refine W.nil ?_ | with_reducible refine W.par ?_ | with_reducible refine W.app ?_ | with_reducible refine W.ext ?_
    | (with_reducible refine W.isLt ?_; refine ⟨by simp, ?_⟩) | (with_reducible refine W.isMul ?_; refine ⟨_, W.mulK (by decide), ?_⟩) | (with_reducible refine W.isEq ?_; first | refine ⟨_, W.eqI, ?_⟩ | refine ⟨_, W.eqS, ?_⟩) | (with_reducible refine W.isNe ?_; first | refine ⟨_, W.neI, ?_⟩ | refine ⟨_, W.neS, ?_⟩)
    | (with_reducible refine W.isLf ?_; refine ⟨_, rfl, ?_⟩)
    | (with_reducible refine W.isBr ?_; first | refine ⟨_, rfl, fun _ => ?_, fun hf => Bool.noConfusion hf⟩ | refine ⟨_, rfl, fun hf => Bool.noConfusion hf, fun _ => ?_⟩)
    | (with_reducible refine W.isBr2 ?_; first | refine ⟨_, rfl, fun _ => ?_, fun hf => Bool.noConfusion hf⟩ | refine ⟨_, rfl, fun hf => Bool.noConfusion hf, fun _ => ?_⟩)
    | (with_reducible refine W.isLfS ?_; refine ⟨_, _, (by assumption), rfl, fun hl => ?_⟩))
      refine (draw_at G a2 (by omega) (by omega)).mono fun v h3 q => ?_
      obtain ⟨⟨j, rfl, j0, j1⟩, a3⟩ := q
      obtain ⟨c, e, e2⟩ := idx_str (h := h3) hsl j0 j1
      refine ⟨_, e, ?_⟩
      repeat (first
    | with_reducible refine W.cons ?_ | with_reducible refine W.set ?_ | with_reducible refine W.ret ?_ | with_reducible refine W.cst ?_ | (with_reducible refine W.isVar ?_; refine W.var rfl ?_)
    | (with_reducible refine W.isGetR ?_; refine W.getR rfl (by assumption) rfl ?_) | (with_reducible refine W.isLenR ?_; refine W.lenR rfl (by assumption) ?_) | (with_reducible refine W.isSetR ?_; refine W.setR rfl ?_)
    | with_reducible refine W.o2 ?_ | with_reducible refine W.o1 ?_ | with_reducible refine W.call ?_ | with_reducible refine W.es ?_ | with_reducible refine W.es0 ?_ | with_reducible refine W.nx ?_ | with_reducible refine W.rt ?_ | with_reducible refine W.tup ?_ | with_reducible refine W.lst ?_
    | with_reducible refine W.slice ?_ | with_reducible refine W.val ?_ | with_reducible refine W.rng ?_ | with_reducible refine W.enu ?_ | with_reducible refine W.seti ?_ | with_reducible refine W.ts0 ?_ | with_reducible refine W.ts1 ?_ | with_reducible refine W.cond ?_ | with_reducible refine W.and ?_
    | with_reducible refine W.or ?_ | with_reducible refine W.ife ?_ | with_reducible refine W.nil ?_ | with_reducible refine W.par ?_ | with_reducible refine W.app ?_ | with_reducible refine W.ext ?_
    | (with_reducible refine W.isLt ?_; refine ⟨by simp, ?_⟩) | (with_reducible refine W.isMul ?_; refine ⟨_, W.mulK (by decide), ?_⟩) | (with_reducible refine W.isEq ?_; first | refine ⟨_, W.eqI, ?_⟩ | refine ⟨_, W.eqS, ?_⟩) | (with_reducible refine W.isNe ?_; first | refine ⟨_, W.neI, ?_⟩ | refine ⟨_, W.neS, ?_⟩)
    | (with_reducible refine W.isLf ?_; refine ⟨_, rfl, ?_⟩)
    | (with_reducible refine W.isBr ?_; first | refine ⟨_, rfl, fun _ => ?_, fun hf => Bool.noConfusion hf⟩ | refine ⟨_, rfl, fun hf => Bool.noConfusion hf, fun _ => ?_⟩)
    | (with_reducible refine W.isBr2 ?_; first | refine ⟨_, rfl, fun _ => ?_, fun hf => Bool.noConfusion hf⟩ | refine ⟨_, rfl, fun hf => Bool.noConfusion hf, fun _ => ?_⟩)
    | (with_reducible refine W.isLfS ?_; refine ⟨_, _, (by assumption), rfl, fun hl => ?_⟩))
      refine W.en ?_
      rw [fin_same (by rw [a3.len, a.len])]
      exact Ok.ok ⟨⟨[c], rfl, by simp, List.singleton_sublist.mpr (List.mem_of_getElem? e2)⟩, a3⟩
theorem ints_und (n : Nat) : ∀ xs : List Int, D.undAll n (xs.map D.int) = true
  | [] => by simp only [List.map_nil, D.undAll]
  | x :: xs => by simp only [List.map_cons, D.undAll, D.und, ints_und n xs, Bool.and_self]
/-- what was made meanwhile is dropped -/
theorem fin_at {l : Nat} {h1 ex : Hh} {v : D} (a : At l h h1) (hv : v.und h.length = true) (hf : ∀ l, v ≠ .ref l) (hx : ex ≠ []) : fin h (h1 ++ ex) v = .ok v h1 := by
  have hl := a.len
  have hfz : freeze (h1 ++ ex) h.length v = v := by
    cases v <;> first | rfl | exact absurd rfl (hf _)
  have hu : undV h.length v = true := by
    cases v <;> first | exact hv | (simp only [D.und] at hv; cases hv)
  rw [fin_drop (by rw [List.length_append, hl]; have := List.length_pos_iff.mpr hx; omega) (by rw [hfz]; exact hu) ?_, hfz, ← hl, List.take_left']
  · rfl
  · intro j o hj e
    rw [List.getElem?_append_left (by rw [hl]; exact hj)] at e
    by_cases hjl : j = l
    · subst hjl
      obtain ⟨ob, rfl, p, e2⟩ := a
      rw [e2] at e
      cases e
      obtain ⟨ns, i, c, k, s, rfl, _⟩ := p
      refine .inr ?_
      simp only [Ob.und, D.undAll, D.und, Bool.and_true, ints_und]
    · exact .inl (by rw [← a.other hjl]; exact e)
theorem strs_und {α : Type} (f : α → List Nat) (n : Nat) : ∀ xs : List α, D.undAll n (xs.map fun x => .str (f x)) = true
  | [] => by simp only [List.map_nil, D.undAll]
  | x :: xs => by simp only [List.map_cons, D.undAll, D.und, strs_und f n xs, Bool.and_self]
theorem At.lt {l : Nat} {h1 : Hh} (a : At l h h1) : l < h1.length := by
  obtain ⟨o, _, _, e⟩ := a
  exact (List.getElem?_eq_some_iff.mp e).1
theorem At.app {l : Nat} {h1 : Hh} (a : At l h h1) (ex : Hh) : At l (h1 ++ ex) (h1 ++ ex) := by
  have hl := a.lt
  obtain ⟨o, _, p, e⟩ := a
  exact At.start (o := o) (by rw [List.getElem?_append_left hl]; exact e) p
theorem At.unapp {l : Nat} {h1 h2 ex : Hh} (a : At l h h1) (b : At l (h1 ++ ex) h2) : ∃ h3, h2 = h3 ++ ex ∧ At l h h3 := by
  have hl := a.lt
  obtain ⟨o, rfl, p, e⟩ := b
  have e2 : (h1 ++ ex).set l o = h1.set l o ++ ex := by rw [List.set_append_left _ _ hl]
  refine ⟨h1.set l o, e2, a.trans ⟨o, rfl, p, ?_⟩⟩
  rw [e2, List.getElem?_append_left (by rw [List.length_set]; exact hl)] at e
  exact e
theorem last_get {h1 : Hh} {o : Ob} : (h1 ++ [o])[h1.length]? = some o := by
  rw [List.getElem?_append_right (Nat.le_refl _), Nat.sub_self]; rfl
theorem last_set {h1 : Hh} {o o2 : Ob} : (h1 ++ [o]).set h1.length o2 = h1 ++ [o2] := by
  rw [List.set_append_right _ _ (Nat.le_refl _), Nat.sub_self]; rfl
/-- a lot of sounds -/
def Lot (s x : List Nat) : Prop := x ≠ [] ∧ x.Sublist s
/-- slots: lots, perhaps one of them the edge -/
def Slots (edge : Int) (s : List Nat) (ss : List (List Nat)) : Prop := ss.length ≤ 2 ∧ ((∀ x ∈ ss, Lot s x) ∨ ∃ (ts : List (List Nat)) (j : Nat), (∀ x ∈ ts, Lot s x) ∧ j < ts.length ∧ (j = if edge = 0 then 0 else ts.length - 1) ∧ ss = ts.set j [35])
theorem pick5 {j : Int} (h0 : 0 ≤ j) (h1 : j < 5) : ∃ n : Int, o2F .idx h (.tup [.int 0, .int 0, .int 1, .int 1, .int 2]) (.int j) = some (.int n) ∧ 0 ≤ n ∧ n ≤ 2 := by
  have : j = 0 ∨ j = 1 ∨ j = 2 ∨ j = 3 ∨ j = 4 := by omega
  rcases this with rfl | rfl | rfl | rfl | rfl <;> exact ⟨_, rfl, by decide, by decide⟩
theorem slots_ok (G : GT T) {l : Nat} {h0 : Hh} {s : List Nat} {edge : Int} (a : At l h0 h) (hs : s ≠ []) (hs2 : s.length < 1000) :
    Ok (callF T (d + 4) "" "_law_slots" [.ref l, .str s, .int edge] h) fun v h' => (∃ ss, v = .tup (ss.map D.str) ∧ Slots edge s ss) ∧ At l h0 h' := by
  refine W.fn G.slots rfl ?_
  unfold b_law_slots
  simp only [startD, List.map_cons, List.map_nil, List.cons_append, List.nil_append, List.length_cons, List.length_nil, List.replicate, Nat.reduceAdd, Nat.reduceSub]
  refine W.cons ?_
  refine W.set ?_
  refine W.alcL ?_
  refine W.comp ?_
  repeat (first
    | with_reducible refine W.cons ?_ | with_reducible refine W.set ?_ | with_reducible refine W.ret ?_ | with_reducible refine W.cst ?_ | (with_reducible refine W.isVar ?_; refine W.var rfl ?_)
    | (with_reducible refine W.isGetR ?_; refine W.getR rfl (by assumption) rfl ?_) | (with_reducible refine W.isLenR ?_; refine W.lenR rfl (by assumption) ?_) | (with_reducible refine W.isSetR ?_; refine W.setR rfl ?_)
    | with_reducible refine W.o2 ?_ | with_reducible refine W.o1 ?_ | with_reducible refine W.call ?_ | with_reducible refine W.es ?_ | with_reducible refine W.es0 ?_ | with_reducible refine W.nx ?_ | with_reducible refine W.rt ?_ | with_reducible refine W.tup ?_ | with_reducible refine W.lst ?_
    | with_reducible refine W.slice ?_ | with_reducible refine W.val ?_ | with_reducible refine W.rng ?_ | with_reducible refine W.enu ?_ | with_reducible refine W.seti ?_ | with_reducible refine W.ts0 ?_ | with_reducible refine W.ts1 ?_ | with_reducible refine W.cond ?_ | with_reducible refine W.and ?_
    | with_reducible refine W.or ?_ | with_reducible refine W.ife ?_ | with_reducible refine W.nil ?_ | with_reducible refine W.par ?_ | with_reducible refine W.app ?_ | with_reducible refine W.ext ?_
    | (with_reducible refine W.isLt ?_; refine ⟨by simp, ?_⟩) | (with_reducible refine W.isMul ?_; refine ⟨_, W.mulK (by decide), ?_⟩) | (with_reducible refine W.isEq ?_; first | refine ⟨_, W.eqI, ?_⟩ | refine ⟨_, W.eqS, ?_⟩) | (with_reducible refine W.isNe ?_; first | refine ⟨_, W.neI, ?_⟩ | refine ⟨_, W.neS, ?_⟩)
    | (with_reducible refine W.isLf ?_; refine ⟨_, rfl, ?_⟩)
    | (with_reducible refine W.isBr ?_; first | refine ⟨_, rfl, fun _ => ?_, fun hf => Bool.noConfusion hf⟩ | refine ⟨_, rfl, fun hf => Bool.noConfusion hf, fun _ => ?_⟩)
    | (with_reducible refine W.isBr2 ?_; first | refine ⟨_, rfl, fun _ => ?_, fun hf => Bool.noConfusion hf⟩ | refine ⟨_, rfl, fun hf => Bool.noConfusion hf, fun _ => ?_⟩)
    | (with_reducible refine W.isLfS ?_; refine ⟨_, _, (by assumption), rfl, fun hl => ?_⟩))
  refine (draw_at G a (by decide) (by decide)).mono fun v h1 q => ?_
  obtain ⟨⟨j, rfl, j0, j1⟩, a1⟩ := q
  obtain ⟨n, en, n0, n1⟩ := pick5 (h := h1) j0 j1
  refine ⟨_, en, n, rfl, small_of n0 (by omega), fun i ys h' => ∃ ss : List (List Nat), ys = ss.map D.str ∧ ss.length = i ∧ (∀ x ∈ ss, Lot s x) ∧ At l h0 h', ⟨[], rfl, rfl, by simp, a1⟩, fun _ _ _ _ => wat_nil _ _, ?_, ?_⟩
  · rintro i x ys h' hx ⟨ss, rfl, hc, hin, a2⟩
    obtain ⟨rfl, _⟩ := rng_get hx
    refine ⟨_, rfl, ?_⟩
    repeat (first
    | with_reducible refine W.cons ?_ | with_reducible refine W.set ?_ | with_reducible refine W.ret ?_ | with_reducible refine W.cst ?_ | (with_reducible refine W.isVar ?_; refine W.var rfl ?_)
    | (with_reducible refine W.isGetR ?_; refine W.getR rfl (by assumption) rfl ?_) | (with_reducible refine W.isLenR ?_; refine W.lenR rfl (by assumption) ?_) | (with_reducible refine W.isSetR ?_; refine W.setR rfl ?_)
    | with_reducible refine W.o2 ?_ | with_reducible refine W.o1 ?_ | with_reducible refine W.call ?_ | with_reducible refine W.es ?_ | with_reducible refine W.es0 ?_ | with_reducible refine W.nx ?_ | with_reducible refine W.rt ?_ | with_reducible refine W.tup ?_ | with_reducible refine W.lst ?_
    | with_reducible refine W.slice ?_ | with_reducible refine W.val ?_ | with_reducible refine W.rng ?_ | with_reducible refine W.enu ?_ | with_reducible refine W.seti ?_ | with_reducible refine W.ts0 ?_ | with_reducible refine W.ts1 ?_ | with_reducible refine W.cond ?_ | with_reducible refine W.and ?_
    | with_reducible refine W.or ?_ | with_reducible refine W.ife ?_ | with_reducible refine W.nil ?_ | with_reducible refine W.par ?_ | with_reducible refine W.app ?_ | with_reducible refine W.ext ?_
    | (with_reducible refine W.isLt ?_; refine ⟨by simp, ?_⟩) | (with_reducible refine W.isMul ?_; refine ⟨_, W.mulK (by decide), ?_⟩) | (with_reducible refine W.isEq ?_; first | refine ⟨_, W.eqI, ?_⟩ | refine ⟨_, W.eqS, ?_⟩) | (with_reducible refine W.isNe ?_; first | refine ⟨_, W.neI, ?_⟩ | refine ⟨_, W.neS, ?_⟩)
    | (with_reducible refine W.isLf ?_; refine ⟨_, rfl, ?_⟩)
    | (with_reducible refine W.isBr ?_; first | refine ⟨_, rfl, fun _ => ?_, fun hf => Bool.noConfusion hf⟩ | refine ⟨_, rfl, fun hf => Bool.noConfusion hf, fun _ => ?_⟩)
    | (with_reducible refine W.isBr2 ?_; first | refine ⟨_, rfl, fun _ => ?_, fun hf => Bool.noConfusion hf⟩ | refine ⟨_, rfl, fun hf => Bool.noConfusion hf, fun _ => ?_⟩)
    | (with_reducible refine W.isLfS ?_; refine ⟨_, _, (by assumption), rfl, fun hl => ?_⟩))
    refine ⟨fun _ => ?_, fun hf => (nomatch hf)⟩
    repeat (first
    | with_reducible refine W.cons ?_ | with_reducible refine W.set ?_ | with_reducible refine W.ret ?_ | with_reducible refine W.cst ?_ | (with_reducible refine W.isVar ?_; refine W.var rfl ?_)
    | (with_reducible refine W.isGetR ?_; refine W.getR rfl (by assumption) rfl ?_) | (with_reducible refine W.isLenR ?_; refine W.lenR rfl (by assumption) ?_) | (with_reducible refine W.isSetR ?_; refine W.setR rfl ?_)
    | with_reducible refine W.o2 ?_ | with_reducible refine W.o1 ?_ | with_reducible refine W.call ?_ | with_reducible refine W.es ?_ | with_reducible refine W.es0 ?_ | with_reducible refine W.nx ?_ | with_reducible refine W.rt ?_ | with_reducible refine W.tup ?_ | with_reducible refine W.lst ?_
    | with_reducible refine W.slice ?_ | with_reducible refine W.val ?_ | with_reducible refine W.rng ?_ | with_reducible refine W.enu ?_ | with_reducible refine W.seti ?_ | with_reducible refine W.ts0 ?_ | with_reducible refine W.ts1 ?_ | with_reducible refine W.cond ?_ | with_reducible refine W.and ?_
    | with_reducible refine W.or ?_ | with_reducible refine W.ife ?_ | with_reducible refine W.nil ?_ | with_reducible refine W.par ?_ | with_reducible refine W.app ?_ | with_reducible refine W.ext ?_
    | (with_reducible refine W.isLt ?_; refine ⟨by simp, ?_⟩) | (with_reducible refine W.isMul ?_; refine ⟨_, W.mulK (by decide), ?_⟩) | (with_reducible refine W.isEq ?_; first | refine ⟨_, W.eqI, ?_⟩ | refine ⟨_, W.eqS, ?_⟩) | (with_reducible refine W.isNe ?_; first | refine ⟨_, W.neI, ?_⟩ | refine ⟨_, W.neS, ?_⟩)
    | (with_reducible refine W.isLf ?_; refine ⟨_, rfl, ?_⟩)
    | (with_reducible refine W.isBr ?_; first | refine ⟨_, rfl, fun _ => ?_, fun hf => Bool.noConfusion hf⟩ | refine ⟨_, rfl, fun hf => Bool.noConfusion hf, fun _ => ?_⟩)
    | (with_reducible refine W.isBr2 ?_; first | refine ⟨_, rfl, fun _ => ?_, fun hf => Bool.noConfusion hf⟩ | refine ⟨_, rfl, fun hf => Bool.noConfusion hf, fun _ => ?_⟩)
    | (with_reducible refine W.isLfS ?_; refine ⟨_, _, (by assumption), rfl, fun hl => ?_⟩))
    refine (lot_ok G a2 hs hs2).mono fun v h3 q => ?_
    obtain ⟨⟨w, rfl, w0, w1⟩, a3⟩ := q
    refine ⟨ss ++ [w], by simp [D.keep], by simp [hc], fun x hx => ?_, a3⟩
    rcases List.mem_append.mp hx with hx | hx
    · exact hin x hx
    · rw [List.mem_singleton.mp hx]; exact ⟨w0, w1⟩
  rintro ys h2 ⟨ss, rfl, hc, hin, a2⟩
  simp only [rngD, List.length_map, List.length_range] at hc
  have hc2 : ss.length ≤ 2 := by omega
  refine ⟨by rw [List.length_map]; unfold line; omega, _, rfl, by simp, W.nx ?_⟩
  -- the end, with what the slots have become
  have done : ∀ (h3 : Hh) (ts : List (List Nat)), At l h0 h3 → Slots edge s ts → Ok (evSs (callF T (d + 3)) [.ret (.o1 .tuple (.var 3))] [some (.ref l), some (.str s), some (.int edge), some (.ref h2.length), none] (h3 ++ [.lst (ts.map D.str)])) (W.En h fun v h' => (∃ ss, v = .tup (ss.map D.str) ∧ Slots edge s ss) ∧ At l h0 h') := by
    intro h3 ts a3 hts
    repeat (first
    | with_reducible refine W.cons ?_ | with_reducible refine W.set ?_ | with_reducible refine W.ret ?_ | with_reducible refine W.cst ?_ | (with_reducible refine W.isVar ?_; refine W.var rfl ?_)
    | (with_reducible refine W.isGetR ?_; refine W.getR rfl (by assumption) rfl ?_) | (with_reducible refine W.isLenR ?_; refine W.lenR rfl (by assumption) ?_) | (with_reducible refine W.isSetR ?_; refine W.setR rfl ?_)
    | with_reducible refine W.o2 ?_ | with_reducible refine W.o1 ?_ | with_reducible refine W.call ?_ | with_reducible refine W.es ?_ | with_reducible refine W.es0 ?_ | with_reducible refine W.nx ?_ | with_reducible refine W.rt ?_ | with_reducible refine W.tup ?_ | with_reducible refine W.lst ?_
    | with_reducible refine W.slice ?_ | with_reducible refine W.val ?_ | with_reducible refine W.rng ?_ | with_reducible refine W.enu ?_ | with_reducible refine W.seti ?_ | with_reducible refine W.ts0 ?_ | with_reducible refine W.ts1 ?_ | with_reducible refine W.cond ?_ | with_reducible refine W.and ?_
    | with_reducible refine W.or ?_ | with_reducible refine W.ife ?_ | with_reducible refine W.nil ?_ | with_reducible refine W.par ?_ | with_reducible refine W.app ?_ | with_reducible refine W.ext ?_
    | (with_reducible refine W.isLt ?_; refine ⟨by simp, ?_⟩) | (with_reducible refine W.isMul ?_; refine ⟨_, W.mulK (by decide), ?_⟩) | (with_reducible refine W.isEq ?_; first | refine ⟨_, W.eqI, ?_⟩ | refine ⟨_, W.eqS, ?_⟩) | (with_reducible refine W.isNe ?_; first | refine ⟨_, W.neI, ?_⟩ | refine ⟨_, W.neS, ?_⟩)
    | (with_reducible refine W.isLf ?_; refine ⟨_, rfl, ?_⟩)
    | (with_reducible refine W.isBr ?_; first | refine ⟨_, rfl, fun _ => ?_, fun hf => Bool.noConfusion hf⟩ | refine ⟨_, rfl, fun hf => Bool.noConfusion hf, fun _ => ?_⟩)
    | (with_reducible refine W.isBr2 ?_; first | refine ⟨_, rfl, fun _ => ?_, fun hf => Bool.noConfusion hf⟩ | refine ⟨_, rfl, fun hf => Bool.noConfusion hf, fun _ => ?_⟩)
    | (with_reducible refine W.isLfS ?_; refine ⟨_, _, (by assumption), rfl, fun hl => ?_⟩))
    have e3 : (h3 ++ [Ob.lst (ts.map D.str)])[h2.length]? = some (.lst (ts.map D.str)) := by
      rw [a2.len, ← a3.len]; exact last_get
    refine ⟨.tup (ts.map D.str), by simp only [o1F, seqs, items, e3, Option.map_some], ?_⟩
    repeat (first
    | with_reducible refine W.cons ?_ | with_reducible refine W.set ?_ | with_reducible refine W.ret ?_ | with_reducible refine W.cst ?_ | (with_reducible refine W.isVar ?_; refine W.var rfl ?_)
    | (with_reducible refine W.isGetR ?_; refine W.getR rfl (by assumption) rfl ?_) | (with_reducible refine W.isLenR ?_; refine W.lenR rfl (by assumption) ?_) | (with_reducible refine W.isSetR ?_; refine W.setR rfl ?_)
    | with_reducible refine W.o2 ?_ | with_reducible refine W.o1 ?_ | with_reducible refine W.call ?_ | with_reducible refine W.es ?_ | with_reducible refine W.es0 ?_ | with_reducible refine W.nx ?_ | with_reducible refine W.rt ?_ | with_reducible refine W.tup ?_ | with_reducible refine W.lst ?_
    | with_reducible refine W.slice ?_ | with_reducible refine W.val ?_ | with_reducible refine W.rng ?_ | with_reducible refine W.enu ?_ | with_reducible refine W.seti ?_ | with_reducible refine W.ts0 ?_ | with_reducible refine W.ts1 ?_ | with_reducible refine W.cond ?_ | with_reducible refine W.and ?_
    | with_reducible refine W.or ?_ | with_reducible refine W.ife ?_ | with_reducible refine W.nil ?_ | with_reducible refine W.par ?_ | with_reducible refine W.app ?_ | with_reducible refine W.ext ?_
    | (with_reducible refine W.isLt ?_; refine ⟨by simp, ?_⟩) | (with_reducible refine W.isMul ?_; refine ⟨_, W.mulK (by decide), ?_⟩) | (with_reducible refine W.isEq ?_; first | refine ⟨_, W.eqI, ?_⟩ | refine ⟨_, W.eqS, ?_⟩) | (with_reducible refine W.isNe ?_; first | refine ⟨_, W.neI, ?_⟩ | refine ⟨_, W.neS, ?_⟩)
    | (with_reducible refine W.isLf ?_; refine ⟨_, rfl, ?_⟩)
    | (with_reducible refine W.isBr ?_; first | refine ⟨_, rfl, fun _ => ?_, fun hf => Bool.noConfusion hf⟩ | refine ⟨_, rfl, fun hf => Bool.noConfusion hf, fun _ => ?_⟩)
    | (with_reducible refine W.isBr2 ?_; first | refine ⟨_, rfl, fun _ => ?_, fun hf => Bool.noConfusion hf⟩ | refine ⟨_, rfl, fun hf => Bool.noConfusion hf, fun _ => ?_⟩)
    | (with_reducible refine W.isLfS ?_; refine ⟨_, _, (by assumption), rfl, fun hl => ?_⟩))
    refine W.en ?_
    have a4 : At l h h3 := by
      obtain ⟨o, e, p, e2⟩ := a
      obtain ⟨o3, e5, p3, e6⟩ := a3
      exact ⟨o3, by rw [e5, e, List.set_set], p3, e6⟩
    rw [fin_at a4 (by simp only [D.und]; exact strs_und _ _ _) (fun _ => by simp) (by simp)]
    exact Ok.ok ⟨⟨ts, rfl, hts⟩, a3⟩
  have e3 : (h2 ++ [Ob.lst (ss.map D.str)])[h2.length]? = some (.lst (ss.map D.str)) := last_get
  have plain : Slots edge s ss := ⟨hc2, .inl hin⟩
  refine W.cons ?_
  refine W.cond (W.and (W.o2 (W.lenR rfl e3 ?_)))
  repeat (first
    | with_reducible refine W.cons ?_ | with_reducible refine W.set ?_ | with_reducible refine W.ret ?_ | with_reducible refine W.cst ?_ | (with_reducible refine W.isVar ?_; refine W.var rfl ?_)
    | (with_reducible refine W.isGetR ?_; refine W.getR rfl (by assumption) rfl ?_) | (with_reducible refine W.isLenR ?_; refine W.lenR rfl (by assumption) ?_) | (with_reducible refine W.isSetR ?_; refine W.setR rfl ?_)
    | with_reducible refine W.o2 ?_ | with_reducible refine W.o1 ?_ | with_reducible refine W.call ?_ | with_reducible refine W.es ?_ | with_reducible refine W.es0 ?_ | with_reducible refine W.nx ?_ | with_reducible refine W.rt ?_ | with_reducible refine W.tup ?_ | with_reducible refine W.lst ?_
    | with_reducible refine W.slice ?_ | with_reducible refine W.val ?_ | with_reducible refine W.rng ?_ | with_reducible refine W.enu ?_ | with_reducible refine W.seti ?_ | with_reducible refine W.ts0 ?_ | with_reducible refine W.ts1 ?_ | with_reducible refine W.cond ?_ | with_reducible refine W.and ?_
    | with_reducible refine W.or ?_ | with_reducible refine W.ife ?_ | with_reducible refine W.nil ?_ | with_reducible refine W.par ?_ | with_reducible refine W.app ?_ | with_reducible refine W.ext ?_
    | (with_reducible refine W.isLt ?_; refine ⟨by simp, ?_⟩) | (with_reducible refine W.isMul ?_; refine ⟨_, W.mulK (by decide), ?_⟩) | (with_reducible refine W.isEq ?_; first | refine ⟨_, W.eqI, ?_⟩ | refine ⟨_, W.eqS, ?_⟩) | (with_reducible refine W.isNe ?_; first | refine ⟨_, W.neI, ?_⟩ | refine ⟨_, W.neS, ?_⟩)
    | (with_reducible refine W.isLf ?_; refine ⟨_, rfl, ?_⟩)
    | (with_reducible refine W.isBr ?_; first | refine ⟨_, rfl, fun _ => ?_, fun hf => Bool.noConfusion hf⟩ | refine ⟨_, rfl, fun hf => Bool.noConfusion hf, fun _ => ?_⟩)
    | (with_reducible refine W.isBr2 ?_; first | refine ⟨_, rfl, fun _ => ?_, fun hf => Bool.noConfusion hf⟩ | refine ⟨_, rfl, fun hf => Bool.noConfusion hf, fun _ => ?_⟩)
    | (with_reducible refine W.isLfS ?_; refine ⟨_, _, (by assumption), rfl, fun hl => ?_⟩))
  refine ⟨_, rfl, fun hk => ?_, fun _ => ⟨_, rfl, fun hf => (nomatch hf), fun _ => W.nil (W.nx (done h2 ss a2 plain))⟩⟩
  simp only [decide_eq_true_eq, List.length_map] at hk
  repeat (first
    | with_reducible refine W.cons ?_ | with_reducible refine W.set ?_ | with_reducible refine W.ret ?_ | with_reducible refine W.cst ?_ | (with_reducible refine W.isVar ?_; refine W.var rfl ?_)
    | (with_reducible refine W.isGetR ?_; refine W.getR rfl (by assumption) rfl ?_) | (with_reducible refine W.isLenR ?_; refine W.lenR rfl (by assumption) ?_) | (with_reducible refine W.isSetR ?_; refine W.setR rfl ?_)
    | with_reducible refine W.o2 ?_ | with_reducible refine W.o1 ?_ | with_reducible refine W.call ?_ | with_reducible refine W.es ?_ | with_reducible refine W.es0 ?_ | with_reducible refine W.nx ?_ | with_reducible refine W.rt ?_ | with_reducible refine W.tup ?_ | with_reducible refine W.lst ?_
    | with_reducible refine W.slice ?_ | with_reducible refine W.val ?_ | with_reducible refine W.rng ?_ | with_reducible refine W.enu ?_ | with_reducible refine W.seti ?_ | with_reducible refine W.ts0 ?_ | with_reducible refine W.ts1 ?_ | with_reducible refine W.cond ?_ | with_reducible refine W.and ?_
    | with_reducible refine W.or ?_ | with_reducible refine W.ife ?_ | with_reducible refine W.nil ?_ | with_reducible refine W.par ?_ | with_reducible refine W.app ?_ | with_reducible refine W.ext ?_
    | (with_reducible refine W.isLt ?_; refine ⟨by simp, ?_⟩) | (with_reducible refine W.isMul ?_; refine ⟨_, W.mulK (by decide), ?_⟩) | (with_reducible refine W.isEq ?_; first | refine ⟨_, W.eqI, ?_⟩ | refine ⟨_, W.eqS, ?_⟩) | (with_reducible refine W.isNe ?_; first | refine ⟨_, W.neI, ?_⟩ | refine ⟨_, W.neS, ?_⟩)
    | (with_reducible refine W.isLf ?_; refine ⟨_, rfl, ?_⟩)
    | (with_reducible refine W.isBr ?_; first | refine ⟨_, rfl, fun _ => ?_, fun hf => Bool.noConfusion hf⟩ | refine ⟨_, rfl, fun hf => Bool.noConfusion hf, fun _ => ?_⟩)
    | (with_reducible refine W.isBr2 ?_; first | refine ⟨_, rfl, fun _ => ?_, fun hf => Bool.noConfusion hf⟩ | refine ⟨_, rfl, fun hf => Bool.noConfusion hf, fun _ => ?_⟩)
    | (with_reducible refine W.isLfS ?_; refine ⟨_, _, (by assumption), rfl, fun hl => ?_⟩))
  refine (draw_at G (a2.app [Ob.lst (ss.map D.str)]) (by decide) (by decide)).mono fun v h3 q => ?_
  obtain ⟨⟨j, rfl, j0, j1⟩, a3⟩ := q
  obtain ⟨h4, rfl, a4⟩ := a2.unapp a3
  have len4 : h4.length = h2.length := by rw [a4.len, a2.len]
  have e4 : (h4 ++ [Ob.lst (ss.map D.str)])[h2.length]? = some (.lst (ss.map D.str)) := by rw [← len4]; exact last_get
  repeat (first
    | with_reducible refine W.cons ?_ | with_reducible refine W.set ?_ | with_reducible refine W.ret ?_ | with_reducible refine W.cst ?_ | (with_reducible refine W.isVar ?_; refine W.var rfl ?_)
    | (with_reducible refine W.isGetR ?_; refine W.getR rfl (by assumption) rfl ?_) | (with_reducible refine W.isLenR ?_; refine W.lenR rfl (by assumption) ?_) | (with_reducible refine W.isSetR ?_; refine W.setR rfl ?_)
    | with_reducible refine W.o2 ?_ | with_reducible refine W.o1 ?_ | with_reducible refine W.call ?_ | with_reducible refine W.es ?_ | with_reducible refine W.es0 ?_ | with_reducible refine W.nx ?_ | with_reducible refine W.rt ?_ | with_reducible refine W.tup ?_ | with_reducible refine W.lst ?_
    | with_reducible refine W.slice ?_ | with_reducible refine W.val ?_ | with_reducible refine W.rng ?_ | with_reducible refine W.enu ?_ | with_reducible refine W.seti ?_ | with_reducible refine W.ts0 ?_ | with_reducible refine W.ts1 ?_ | with_reducible refine W.cond ?_ | with_reducible refine W.and ?_
    | with_reducible refine W.or ?_ | with_reducible refine W.ife ?_ | with_reducible refine W.nil ?_ | with_reducible refine W.par ?_ | with_reducible refine W.app ?_ | with_reducible refine W.ext ?_
    | (with_reducible refine W.isLt ?_; refine ⟨by simp, ?_⟩) | (with_reducible refine W.isMul ?_; refine ⟨_, W.mulK (by decide), ?_⟩) | (with_reducible refine W.isEq ?_; first | refine ⟨_, W.eqI, ?_⟩ | refine ⟨_, W.eqS, ?_⟩) | (with_reducible refine W.isNe ?_; first | refine ⟨_, W.neI, ?_⟩ | refine ⟨_, W.neS, ?_⟩)
    | (with_reducible refine W.isLf ?_; refine ⟨_, rfl, ?_⟩)
    | (with_reducible refine W.isBr ?_; first | refine ⟨_, rfl, fun _ => ?_, fun hf => Bool.noConfusion hf⟩ | refine ⟨_, rfl, fun hf => Bool.noConfusion hf, fun _ => ?_⟩)
    | (with_reducible refine W.isBr2 ?_; first | refine ⟨_, rfl, fun _ => ?_, fun hf => Bool.noConfusion hf⟩ | refine ⟨_, rfl, fun hf => Bool.noConfusion hf, fun _ => ?_⟩)
    | (with_reducible refine W.isLfS ?_; refine ⟨_, _, (by assumption), rfl, fun hl => ?_⟩))
  refine ⟨_, rfl, fun hk2 => ?_, fun _ => W.nil (W.nx (done h4 ss a4 plain))⟩
  have put : ∀ j : Nat, j < ss.length → (j = if edge = 0 then 0 else ss.length - 1) → Ok (evSs (callF T (d + 3)) [.ret (.o1 .tuple (.var 3))] [some (.ref l), some (.str s), some (.int edge), some (.ref h2.length), none] ((h4 ++ [Ob.lst (ss.map D.str)]).set h2.length (.lst ((ss.map D.str).set j (.str [35]))))) (W.En h fun v h' => (∃ ss, v = .tup (ss.map D.str) ∧ Slots edge s ss) ∧ At l h0 h') := by
    intro j hj he
    rw [← len4, last_set, show (ss.map D.str).set j (.str [35]) = (ss.set j [35]).map D.str by rw [List.map_set]]
    rw [len4]
    exact done h4 _ a4 ⟨by rw [List.length_set]; exact hc2, .inr ⟨ss, j, hin, hj, he, rfl⟩⟩
  refine W.cons (W.seti ?_)
  repeat (first
    | with_reducible refine W.cons ?_ | with_reducible refine W.set ?_ | with_reducible refine W.ret ?_ | with_reducible refine W.cst ?_ | (with_reducible refine W.isVar ?_; refine W.var rfl ?_)
    | (with_reducible refine W.isGetR ?_; refine W.getR rfl (by assumption) rfl ?_) | (with_reducible refine W.isLenR ?_; refine W.lenR rfl (by assumption) ?_) | (with_reducible refine W.isSetR ?_; refine W.setR rfl ?_)
    | with_reducible refine W.o2 ?_ | with_reducible refine W.o1 ?_ | with_reducible refine W.call ?_ | with_reducible refine W.es ?_ | with_reducible refine W.es0 ?_ | with_reducible refine W.nx ?_ | with_reducible refine W.rt ?_ | with_reducible refine W.tup ?_ | with_reducible refine W.lst ?_
    | with_reducible refine W.slice ?_ | with_reducible refine W.val ?_ | with_reducible refine W.rng ?_ | with_reducible refine W.enu ?_ | with_reducible refine W.seti ?_ | with_reducible refine W.ts0 ?_ | with_reducible refine W.ts1 ?_ | with_reducible refine W.cond ?_ | with_reducible refine W.and ?_
    | with_reducible refine W.or ?_ | with_reducible refine W.ife ?_ | with_reducible refine W.nil ?_ | with_reducible refine W.par ?_ | with_reducible refine W.app ?_ | with_reducible refine W.ext ?_
    | (with_reducible refine W.isLt ?_; refine ⟨by simp, ?_⟩) | (with_reducible refine W.isMul ?_; refine ⟨_, W.mulK (by decide), ?_⟩) | (with_reducible refine W.isEq ?_; first | refine ⟨_, W.eqI, ?_⟩ | refine ⟨_, W.eqS, ?_⟩) | (with_reducible refine W.isNe ?_; first | refine ⟨_, W.neI, ?_⟩ | refine ⟨_, W.neS, ?_⟩)
    | (with_reducible refine W.isLf ?_; refine ⟨_, rfl, ?_⟩)
    | (with_reducible refine W.isBr ?_; first | refine ⟨_, rfl, fun _ => ?_, fun hf => Bool.noConfusion hf⟩ | refine ⟨_, rfl, fun hf => Bool.noConfusion hf, fun _ => ?_⟩)
    | (with_reducible refine W.isBr2 ?_; first | refine ⟨_, rfl, fun _ => ?_, fun hf => Bool.noConfusion hf⟩ | refine ⟨_, rfl, fun hf => Bool.noConfusion hf, fun _ => ?_⟩)
    | (with_reducible refine W.isLfS ?_; refine ⟨_, _, (by assumption), rfl, fun hl => ?_⟩))
  refine ⟨_, rfl, fun he => ?_, fun he => ?_⟩
  · repeat (first
    | with_reducible refine W.cons ?_ | with_reducible refine W.set ?_ | with_reducible refine W.ret ?_ | with_reducible refine W.cst ?_ | (with_reducible refine W.isVar ?_; refine W.var rfl ?_)
    | (with_reducible refine W.isGetR ?_; refine W.getR rfl (by assumption) rfl ?_) | (with_reducible refine W.isLenR ?_; refine W.lenR rfl (by assumption) ?_) | (with_reducible refine W.isSetR ?_; refine W.setR rfl ?_)
    | with_reducible refine W.o2 ?_ | with_reducible refine W.o1 ?_ | with_reducible refine W.call ?_ | with_reducible refine W.es ?_ | with_reducible refine W.es0 ?_ | with_reducible refine W.nx ?_ | with_reducible refine W.rt ?_ | with_reducible refine W.tup ?_ | with_reducible refine W.lst ?_
    | with_reducible refine W.slice ?_ | with_reducible refine W.val ?_ | with_reducible refine W.rng ?_ | with_reducible refine W.enu ?_ | with_reducible refine W.seti ?_ | with_reducible refine W.ts0 ?_ | with_reducible refine W.ts1 ?_ | with_reducible refine W.cond ?_ | with_reducible refine W.and ?_
    | with_reducible refine W.or ?_ | with_reducible refine W.ife ?_ | with_reducible refine W.nil ?_ | with_reducible refine W.par ?_ | with_reducible refine W.app ?_ | with_reducible refine W.ext ?_
    | (with_reducible refine W.isLt ?_; refine ⟨by simp, ?_⟩) | (with_reducible refine W.isMul ?_; refine ⟨_, W.mulK (by decide), ?_⟩) | (with_reducible refine W.isEq ?_; first | refine ⟨_, W.eqI, ?_⟩ | refine ⟨_, W.eqS, ?_⟩) | (with_reducible refine W.isNe ?_; first | refine ⟨_, W.neI, ?_⟩ | refine ⟨_, W.neS, ?_⟩)
    | (with_reducible refine W.isLf ?_; refine ⟨_, rfl, ?_⟩)
    | (with_reducible refine W.isBr ?_; first | refine ⟨_, rfl, fun _ => ?_, fun hf => Bool.noConfusion hf⟩ | refine ⟨_, rfl, fun hf => Bool.noConfusion hf, fun _ => ?_⟩)
    | (with_reducible refine W.isBr2 ?_; first | refine ⟨_, rfl, fun _ => ?_, fun hf => Bool.noConfusion hf⟩ | refine ⟨_, rfl, fun hf => Bool.noConfusion hf, fun _ => ?_⟩)
    | (with_reducible refine W.isLfS ?_; refine ⟨_, _, (by assumption), rfl, fun hl => ?_⟩))
    refine ⟨_, _, _, 0, rfl, rfl, e4, ?_, W.nx (W.nil (W.nx (put 0 (by omega) ?_)))⟩
    · simp only [ixN, List.length_map]
      rw [if_pos (by decide), if_pos (by omega)]
      rfl
    · rw [if_pos (by simpa using he)]
  · refine W.o2 (W.lenR rfl e4 ?_)
    repeat (first
    | with_reducible refine W.cons ?_ | with_reducible refine W.set ?_ | with_reducible refine W.ret ?_ | with_reducible refine W.cst ?_ | (with_reducible refine W.isVar ?_; refine W.var rfl ?_)
    | (with_reducible refine W.isGetR ?_; refine W.getR rfl (by assumption) rfl ?_) | (with_reducible refine W.isLenR ?_; refine W.lenR rfl (by assumption) ?_) | (with_reducible refine W.isSetR ?_; refine W.setR rfl ?_)
    | with_reducible refine W.o2 ?_ | with_reducible refine W.o1 ?_ | with_reducible refine W.call ?_ | with_reducible refine W.es ?_ | with_reducible refine W.es0 ?_ | with_reducible refine W.nx ?_ | with_reducible refine W.rt ?_ | with_reducible refine W.tup ?_ | with_reducible refine W.lst ?_
    | with_reducible refine W.slice ?_ | with_reducible refine W.val ?_ | with_reducible refine W.rng ?_ | with_reducible refine W.enu ?_ | with_reducible refine W.seti ?_ | with_reducible refine W.ts0 ?_ | with_reducible refine W.ts1 ?_ | with_reducible refine W.cond ?_ | with_reducible refine W.and ?_
    | with_reducible refine W.or ?_ | with_reducible refine W.ife ?_ | with_reducible refine W.nil ?_ | with_reducible refine W.par ?_ | with_reducible refine W.app ?_ | with_reducible refine W.ext ?_
    | (with_reducible refine W.isLt ?_; refine ⟨by simp, ?_⟩) | (with_reducible refine W.isMul ?_; refine ⟨_, W.mulK (by decide), ?_⟩) | (with_reducible refine W.isEq ?_; first | refine ⟨_, W.eqI, ?_⟩ | refine ⟨_, W.eqS, ?_⟩) | (with_reducible refine W.isNe ?_; first | refine ⟨_, W.neI, ?_⟩ | refine ⟨_, W.neS, ?_⟩)
    | (with_reducible refine W.isLf ?_; refine ⟨_, rfl, ?_⟩)
    | (with_reducible refine W.isBr ?_; first | refine ⟨_, rfl, fun _ => ?_, fun hf => Bool.noConfusion hf⟩ | refine ⟨_, rfl, fun hf => Bool.noConfusion hf, fun _ => ?_⟩)
    | (with_reducible refine W.isBr2 ?_; first | refine ⟨_, rfl, fun _ => ?_, fun hf => Bool.noConfusion hf⟩ | refine ⟨_, rfl, fun hf => Bool.noConfusion hf, fun _ => ?_⟩)
    | (with_reducible refine W.isLfS ?_; refine ⟨_, _, (by assumption), rfl, fun hl => ?_⟩))
    refine ⟨_, _, _, ss.length - 1, rfl, rfl, e4, ?_, W.nx (W.nil (W.nx (put _ (by omega) ?_)))⟩
    · simp only [ixN, List.length_map]
      rw [if_pos (by omega), if_pos (by omega)]
      congr 1
      omega
    · rw [if_neg (by simpa using he)]
structure Rule where
  ch : List (Nat × List Nat)
  bf : List (List Nat)
  bh : List (List Nat)
def chD (ch : List (Nat × List Nat)) : List D := ch.map fun p => .tup [.str [p.1], .str p.2]
def ruleD (r : Rule) : D := .tup [.tup (chD r.ch), .tup (r.bf.map D.str), .tup (r.bh.map D.str)]
structure ChOk (s : List Nat) (ch : List (Nat × List Nat)) : Prop where
  sub : (ch.map (·.1)).Sublist s
  ne : ch ≠ []
  out : ∀ p ∈ ch, (∀ c ∈ p.2, c ∈ s) ∧ p.2.length ≤ 2
structure RuleOk (s : List Nat) (r : Rule) : Prop where
  ch : ChOk s r.ch
  bf : Slots 0 s r.bf
  bh : Slots 1 s r.bh
theorem law_ok (G : GT T) {l : Nat} {h0 : Hh} {s : List Nat} (a : At l h0 h) (hs : s ≠ []) (hs2 : s.length < 1000) :
    Ok (callF T (d + 5) "" "_law_law" [.ref l, .str s] h) fun v h' => (∃ r, v = ruleD r ∧ RuleOk s r) ∧ At l h0 h' := by
  have hsl : s.length ≤ line := by unfold line; omega
  have hpos : 0 < s.length := List.length_pos_iff.mpr hs
  refine W.fn G.law rfl ?_
  unfold b_law_law
  simp only [startD, List.map_cons, List.map_nil, List.cons_append, List.nil_append, List.length_cons, List.length_nil, List.replicate, Nat.reduceAdd, Nat.reduceSub]
  refine W.cons (W.set (W.o1 (W.comp (W.val ?_))))
  repeat (first
    | with_reducible refine W.cons ?_ | with_reducible refine W.set ?_ | with_reducible refine W.ret ?_ | with_reducible refine W.cst ?_ | (with_reducible refine W.isVar ?_; refine W.var rfl ?_)
    | (with_reducible refine W.isGetR ?_; refine W.getR rfl (by assumption) rfl ?_) | (with_reducible refine W.isLenR ?_; refine W.lenR rfl (by assumption) ?_) | (with_reducible refine W.isSetR ?_; refine W.setR rfl ?_)
    | with_reducible refine W.o2 ?_ | with_reducible refine W.o1 ?_ | with_reducible refine W.call ?_ | with_reducible refine W.es ?_ | with_reducible refine W.es0 ?_ | with_reducible refine W.nx ?_ | with_reducible refine W.rt ?_ | with_reducible refine W.tup ?_ | with_reducible refine W.lst ?_
    | with_reducible refine W.slice ?_ | with_reducible refine W.val ?_ | with_reducible refine W.rng ?_ | with_reducible refine W.enu ?_ | with_reducible refine W.seti ?_ | with_reducible refine W.ts0 ?_ | with_reducible refine W.ts1 ?_ | with_reducible refine W.cond ?_ | with_reducible refine W.and ?_
    | with_reducible refine W.or ?_ | with_reducible refine W.ife ?_ | with_reducible refine W.nil ?_ | with_reducible refine W.par ?_ | with_reducible refine W.app ?_ | with_reducible refine W.ext ?_
    | (with_reducible refine W.isLt ?_; refine ⟨by simp, ?_⟩) | (with_reducible refine W.isMul ?_; refine ⟨_, W.mulK (by decide), ?_⟩) | (with_reducible refine W.isEq ?_; first | refine ⟨_, W.eqI, ?_⟩ | refine ⟨_, W.eqS, ?_⟩) | (with_reducible refine W.isNe ?_; first | refine ⟨_, W.neI, ?_⟩ | refine ⟨_, W.neS, ?_⟩)
    | (with_reducible refine W.isLf ?_; refine ⟨_, rfl, ?_⟩)
    | (with_reducible refine W.isBr ?_; first | refine ⟨_, rfl, fun _ => ?_, fun hf => Bool.noConfusion hf⟩ | refine ⟨_, rfl, fun hf => Bool.noConfusion hf, fun _ => ?_⟩)
    | (with_reducible refine W.isBr2 ?_; first | refine ⟨_, rfl, fun _ => ?_, fun hf => Bool.noConfusion hf⟩ | refine ⟨_, rfl, fun hf => Bool.noConfusion hf, fun _ => ?_⟩)
    | (with_reducible refine W.isLfS ?_; refine ⟨_, _, (by assumption), rfl, fun hl => ?_⟩))
  refine ⟨_, rfl, fun i ys h' => ∃ ch : List (Nat × List Nat), ys = chD ch ∧ (ch.map (·.1)).Sublist (s.take i) ∧ (∀ p ∈ ch, (∀ c ∈ p.2, c ∈ s) ∧ p.2.length ≤ 2) ∧ At l h0 h', ⟨[], rfl, by simp, by simp, a⟩, fun _ _ _ _ => wat_nil _ _, ?_, ?_⟩
  · rintro i x ys h' hx ⟨ch, rfl, hc, hin, a2⟩
    rw [List.getElem?_map] at hx
    obtain ⟨c, hc2, rfl⟩ := Option.map_eq_some_iff.mp hx
    refine ⟨_, rfl, ?_⟩
    repeat (first
    | with_reducible refine W.cons ?_ | with_reducible refine W.set ?_ | with_reducible refine W.ret ?_ | with_reducible refine W.cst ?_ | (with_reducible refine W.isVar ?_; refine W.var rfl ?_)
    | (with_reducible refine W.isGetR ?_; refine W.getR rfl (by assumption) rfl ?_) | (with_reducible refine W.isLenR ?_; refine W.lenR rfl (by assumption) ?_) | (with_reducible refine W.isSetR ?_; refine W.setR rfl ?_)
    | with_reducible refine W.o2 ?_ | with_reducible refine W.o1 ?_ | with_reducible refine W.call ?_ | with_reducible refine W.es ?_ | with_reducible refine W.es0 ?_ | with_reducible refine W.nx ?_ | with_reducible refine W.rt ?_ | with_reducible refine W.tup ?_ | with_reducible refine W.lst ?_
    | with_reducible refine W.slice ?_ | with_reducible refine W.val ?_ | with_reducible refine W.rng ?_ | with_reducible refine W.enu ?_ | with_reducible refine W.seti ?_ | with_reducible refine W.ts0 ?_ | with_reducible refine W.ts1 ?_ | with_reducible refine W.cond ?_ | with_reducible refine W.and ?_
    | with_reducible refine W.or ?_ | with_reducible refine W.ife ?_ | with_reducible refine W.nil ?_ | with_reducible refine W.par ?_ | with_reducible refine W.app ?_ | with_reducible refine W.ext ?_
    | (with_reducible refine W.isLt ?_; refine ⟨by simp, ?_⟩) | (with_reducible refine W.isMul ?_; refine ⟨_, W.mulK (by decide), ?_⟩) | (with_reducible refine W.isEq ?_; first | refine ⟨_, W.eqI, ?_⟩ | refine ⟨_, W.eqS, ?_⟩) | (with_reducible refine W.isNe ?_; first | refine ⟨_, W.neI, ?_⟩ | refine ⟨_, W.neS, ?_⟩)
    | (with_reducible refine W.isLf ?_; refine ⟨_, rfl, ?_⟩)
    | (with_reducible refine W.isBr ?_; first | refine ⟨_, rfl, fun _ => ?_, fun hf => Bool.noConfusion hf⟩ | refine ⟨_, rfl, fun hf => Bool.noConfusion hf, fun _ => ?_⟩)
    | (with_reducible refine W.isBr2 ?_; first | refine ⟨_, rfl, fun _ => ?_, fun hf => Bool.noConfusion hf⟩ | refine ⟨_, rfl, fun hf => Bool.noConfusion hf, fun _ => ?_⟩)
    | (with_reducible refine W.isLfS ?_; refine ⟨_, _, (by assumption), rfl, fun hl => ?_⟩))
    refine (draw_at G a2 (by decide) (by decide)).mono fun v h3 q => ?_
    obtain ⟨⟨j, rfl, j0, j1⟩, a3⟩ := q
    repeat (first
    | with_reducible refine W.cons ?_ | with_reducible refine W.set ?_ | with_reducible refine W.ret ?_ | with_reducible refine W.cst ?_ | (with_reducible refine W.isVar ?_; refine W.var rfl ?_)
    | (with_reducible refine W.isGetR ?_; refine W.getR rfl (by assumption) rfl ?_) | (with_reducible refine W.isLenR ?_; refine W.lenR rfl (by assumption) ?_) | (with_reducible refine W.isSetR ?_; refine W.setR rfl ?_)
    | with_reducible refine W.o2 ?_ | with_reducible refine W.o1 ?_ | with_reducible refine W.call ?_ | with_reducible refine W.es ?_ | with_reducible refine W.es0 ?_ | with_reducible refine W.nx ?_ | with_reducible refine W.rt ?_ | with_reducible refine W.tup ?_ | with_reducible refine W.lst ?_
    | with_reducible refine W.slice ?_ | with_reducible refine W.val ?_ | with_reducible refine W.rng ?_ | with_reducible refine W.enu ?_ | with_reducible refine W.seti ?_ | with_reducible refine W.ts0 ?_ | with_reducible refine W.ts1 ?_ | with_reducible refine W.cond ?_ | with_reducible refine W.and ?_
    | with_reducible refine W.or ?_ | with_reducible refine W.ife ?_ | with_reducible refine W.nil ?_ | with_reducible refine W.par ?_ | with_reducible refine W.app ?_ | with_reducible refine W.ext ?_
    | (with_reducible refine W.isLt ?_; refine ⟨by simp, ?_⟩) | (with_reducible refine W.isMul ?_; refine ⟨_, W.mulK (by decide), ?_⟩) | (with_reducible refine W.isEq ?_; first | refine ⟨_, W.eqI, ?_⟩ | refine ⟨_, W.eqS, ?_⟩) | (with_reducible refine W.isNe ?_; first | refine ⟨_, W.neI, ?_⟩ | refine ⟨_, W.neS, ?_⟩)
    | (with_reducible refine W.isLf ?_; refine ⟨_, rfl, ?_⟩)
    | (with_reducible refine W.isBr ?_; first | refine ⟨_, rfl, fun _ => ?_, fun hf => Bool.noConfusion hf⟩ | refine ⟨_, rfl, fun hf => Bool.noConfusion hf, fun _ => ?_⟩)
    | (with_reducible refine W.isBr2 ?_; first | refine ⟨_, rfl, fun _ => ?_, fun hf => Bool.noConfusion hf⟩ | refine ⟨_, rfl, fun hf => Bool.noConfusion hf, fun _ => ?_⟩)
    | (with_reducible refine W.isLfS ?_; refine ⟨_, _, (by assumption), rfl, fun hl => ?_⟩))
    refine ⟨_, rfl, fun _ => ?_, fun _ => ?_⟩
    · repeat (first
    | with_reducible refine W.cons ?_ | with_reducible refine W.set ?_ | with_reducible refine W.ret ?_ | with_reducible refine W.cst ?_ | (with_reducible refine W.isVar ?_; refine W.var rfl ?_)
    | (with_reducible refine W.isGetR ?_; refine W.getR rfl (by assumption) rfl ?_) | (with_reducible refine W.isLenR ?_; refine W.lenR rfl (by assumption) ?_) | (with_reducible refine W.isSetR ?_; refine W.setR rfl ?_)
    | with_reducible refine W.o2 ?_ | with_reducible refine W.o1 ?_ | with_reducible refine W.call ?_ | with_reducible refine W.es ?_ | with_reducible refine W.es0 ?_ | with_reducible refine W.nx ?_ | with_reducible refine W.rt ?_ | with_reducible refine W.tup ?_ | with_reducible refine W.lst ?_
    | with_reducible refine W.slice ?_ | with_reducible refine W.val ?_ | with_reducible refine W.rng ?_ | with_reducible refine W.enu ?_ | with_reducible refine W.seti ?_ | with_reducible refine W.ts0 ?_ | with_reducible refine W.ts1 ?_ | with_reducible refine W.cond ?_ | with_reducible refine W.and ?_
    | with_reducible refine W.or ?_ | with_reducible refine W.ife ?_ | with_reducible refine W.nil ?_ | with_reducible refine W.par ?_ | with_reducible refine W.app ?_ | with_reducible refine W.ext ?_
    | (with_reducible refine W.isLt ?_; refine ⟨by simp, ?_⟩) | (with_reducible refine W.isMul ?_; refine ⟨_, W.mulK (by decide), ?_⟩) | (with_reducible refine W.isEq ?_; first | refine ⟨_, W.eqI, ?_⟩ | refine ⟨_, W.eqS, ?_⟩) | (with_reducible refine W.isNe ?_; first | refine ⟨_, W.neI, ?_⟩ | refine ⟨_, W.neS, ?_⟩)
    | (with_reducible refine W.isLf ?_; refine ⟨_, rfl, ?_⟩)
    | (with_reducible refine W.isBr ?_; first | refine ⟨_, rfl, fun _ => ?_, fun hf => Bool.noConfusion hf⟩ | refine ⟨_, rfl, fun hf => Bool.noConfusion hf, fun _ => ?_⟩)
    | (with_reducible refine W.isBr2 ?_; first | refine ⟨_, rfl, fun _ => ?_, fun hf => Bool.noConfusion hf⟩ | refine ⟨_, rfl, fun hf => Bool.noConfusion hf, fun _ => ?_⟩)
    | (with_reducible refine W.isLfS ?_; refine ⟨_, _, (by assumption), rfl, fun hl => ?_⟩))
      refine (word_ok G a3 hs hs2 (by decide) (by decide)).mono fun v h4 q => ?_
      obtain ⟨⟨w, rfl, w0, w1⟩, a4⟩ := q
      repeat (first
    | with_reducible refine W.cons ?_ | with_reducible refine W.set ?_ | with_reducible refine W.ret ?_ | with_reducible refine W.cst ?_ | (with_reducible refine W.isVar ?_; refine W.var rfl ?_)
    | (with_reducible refine W.isGetR ?_; refine W.getR rfl (by assumption) rfl ?_) | (with_reducible refine W.isLenR ?_; refine W.lenR rfl (by assumption) ?_) | (with_reducible refine W.isSetR ?_; refine W.setR rfl ?_)
    | with_reducible refine W.o2 ?_ | with_reducible refine W.o1 ?_ | with_reducible refine W.call ?_ | with_reducible refine W.es ?_ | with_reducible refine W.es0 ?_ | with_reducible refine W.nx ?_ | with_reducible refine W.rt ?_ | with_reducible refine W.tup ?_ | with_reducible refine W.lst ?_
    | with_reducible refine W.slice ?_ | with_reducible refine W.val ?_ | with_reducible refine W.rng ?_ | with_reducible refine W.enu ?_ | with_reducible refine W.seti ?_ | with_reducible refine W.ts0 ?_ | with_reducible refine W.ts1 ?_ | with_reducible refine W.cond ?_ | with_reducible refine W.and ?_
    | with_reducible refine W.or ?_ | with_reducible refine W.ife ?_ | with_reducible refine W.nil ?_ | with_reducible refine W.par ?_ | with_reducible refine W.app ?_ | with_reducible refine W.ext ?_
    | (with_reducible refine W.isLt ?_; refine ⟨by simp, ?_⟩) | (with_reducible refine W.isMul ?_; refine ⟨_, W.mulK (by decide), ?_⟩) | (with_reducible refine W.isEq ?_; first | refine ⟨_, W.eqI, ?_⟩ | refine ⟨_, W.eqS, ?_⟩) | (with_reducible refine W.isNe ?_; first | refine ⟨_, W.neI, ?_⟩ | refine ⟨_, W.neS, ?_⟩)
    | (with_reducible refine W.isLf ?_; refine ⟨_, rfl, ?_⟩)
    | (with_reducible refine W.isBr ?_; first | refine ⟨_, rfl, fun _ => ?_, fun hf => Bool.noConfusion hf⟩ | refine ⟨_, rfl, fun hf => Bool.noConfusion hf, fun _ => ?_⟩)
    | (with_reducible refine W.isBr2 ?_; first | refine ⟨_, rfl, fun _ => ?_, fun hf => Bool.noConfusion hf⟩ | refine ⟨_, rfl, fun hf => Bool.noConfusion hf, fun _ => ?_⟩)
    | (with_reducible refine W.isLfS ?_; refine ⟨_, _, (by assumption), rfl, fun hl => ?_⟩))
      refine ⟨ch ++ [(c, w)], by simp [chD, D.keep], ?_, fun p hp => ?_, a4⟩
      · rw [List.take_succ, hc2, List.map_append]
        exact List.Sublist.append hc (List.Sublist.refl _)
      · rcases List.mem_append.mp hp with hp | hp
        · exact hin p hp
        · rw [List.mem_singleton.mp hp]; exact ⟨w0, by simp only; omega⟩
    · refine ⟨ch, by simp, ?_, hin, a3⟩
      rw [List.take_succ, hc2]
      exact hc.trans (List.sublist_append_left _ _)
  rintro ys h2 ⟨ch, rfl, hc, hin, a2⟩
  rw [List.length_map, List.take_length] at hc
  have hlen : ch.length ≤ s.length := by have := hc.length_le; simpa using this
  refine ⟨by simp only [chD, List.length_map]; omega, _, rfl, by simp, W.nx ?_⟩
  have done : ∀ (h3 : Hh) (ch : List (Nat × List Nat)), At l h0 h3 → ChOk s ch → Ok (evSs (callF T (d + 4)) [(.ret (.tup [(.var 2), (.call "" "_law_slots" [(.var 0), (.var 1), (.cst (.int 0))]), (.call "" "_law_slots" [(.var 0), (.var 1), (.cst (.int 1))])]))] [some (.ref l), some (.str s), some (.tup (chD ch)), none] h3) (W.En h fun v h' => (∃ r, v = ruleD r ∧ RuleOk s r) ∧ At l h0 h') := by
    intro h3 ch a3 hch
    repeat (first
    | with_reducible refine W.cons ?_ | with_reducible refine W.set ?_ | with_reducible refine W.ret ?_ | with_reducible refine W.cst ?_ | (with_reducible refine W.isVar ?_; refine W.var rfl ?_)
    | (with_reducible refine W.isGetR ?_; refine W.getR rfl (by assumption) rfl ?_) | (with_reducible refine W.isLenR ?_; refine W.lenR rfl (by assumption) ?_) | (with_reducible refine W.isSetR ?_; refine W.setR rfl ?_)
    | with_reducible refine W.o2 ?_ | with_reducible refine W.o1 ?_ | with_reducible refine W.call ?_ | with_reducible refine W.es ?_ | with_reducible refine W.es0 ?_ | with_reducible refine W.nx ?_ | with_reducible refine W.rt ?_ | with_reducible refine W.tup ?_ | with_reducible refine W.lst ?_
    | with_reducible refine W.slice ?_ | with_reducible refine W.val ?_ | with_reducible refine W.rng ?_ | with_reducible refine W.enu ?_ | with_reducible refine W.seti ?_ | with_reducible refine W.ts0 ?_ | with_reducible refine W.ts1 ?_ | with_reducible refine W.cond ?_ | with_reducible refine W.and ?_
    | with_reducible refine W.or ?_ | with_reducible refine W.ife ?_ | with_reducible refine W.nil ?_ | with_reducible refine W.par ?_ | with_reducible refine W.app ?_ | with_reducible refine W.ext ?_
    | (with_reducible refine W.isLt ?_; refine ⟨by simp, ?_⟩) | (with_reducible refine W.isMul ?_; refine ⟨_, W.mulK (by decide), ?_⟩) | (with_reducible refine W.isEq ?_; first | refine ⟨_, W.eqI, ?_⟩ | refine ⟨_, W.eqS, ?_⟩) | (with_reducible refine W.isNe ?_; first | refine ⟨_, W.neI, ?_⟩ | refine ⟨_, W.neS, ?_⟩)
    | (with_reducible refine W.isLf ?_; refine ⟨_, rfl, ?_⟩)
    | (with_reducible refine W.isBr ?_; first | refine ⟨_, rfl, fun _ => ?_, fun hf => Bool.noConfusion hf⟩ | refine ⟨_, rfl, fun hf => Bool.noConfusion hf, fun _ => ?_⟩)
    | (with_reducible refine W.isBr2 ?_; first | refine ⟨_, rfl, fun _ => ?_, fun hf => Bool.noConfusion hf⟩ | refine ⟨_, rfl, fun hf => Bool.noConfusion hf, fun _ => ?_⟩)
    | (with_reducible refine W.isLfS ?_; refine ⟨_, _, (by assumption), rfl, fun hl => ?_⟩))
    refine (slots_ok G a3 hs hs2).mono fun v h4 q => ?_
    obtain ⟨⟨ss, rfl, q1⟩, a4⟩ := q
    repeat (first
    | with_reducible refine W.cons ?_ | with_reducible refine W.set ?_ | with_reducible refine W.ret ?_ | with_reducible refine W.cst ?_ | (with_reducible refine W.isVar ?_; refine W.var rfl ?_)
    | (with_reducible refine W.isGetR ?_; refine W.getR rfl (by assumption) rfl ?_) | (with_reducible refine W.isLenR ?_; refine W.lenR rfl (by assumption) ?_) | (with_reducible refine W.isSetR ?_; refine W.setR rfl ?_)
    | with_reducible refine W.o2 ?_ | with_reducible refine W.o1 ?_ | with_reducible refine W.call ?_ | with_reducible refine W.es ?_ | with_reducible refine W.es0 ?_ | with_reducible refine W.nx ?_ | with_reducible refine W.rt ?_ | with_reducible refine W.tup ?_ | with_reducible refine W.lst ?_
    | with_reducible refine W.slice ?_ | with_reducible refine W.val ?_ | with_reducible refine W.rng ?_ | with_reducible refine W.enu ?_ | with_reducible refine W.seti ?_ | with_reducible refine W.ts0 ?_ | with_reducible refine W.ts1 ?_ | with_reducible refine W.cond ?_ | with_reducible refine W.and ?_
    | with_reducible refine W.or ?_ | with_reducible refine W.ife ?_ | with_reducible refine W.nil ?_ | with_reducible refine W.par ?_ | with_reducible refine W.app ?_ | with_reducible refine W.ext ?_
    | (with_reducible refine W.isLt ?_; refine ⟨by simp, ?_⟩) | (with_reducible refine W.isMul ?_; refine ⟨_, W.mulK (by decide), ?_⟩) | (with_reducible refine W.isEq ?_; first | refine ⟨_, W.eqI, ?_⟩ | refine ⟨_, W.eqS, ?_⟩) | (with_reducible refine W.isNe ?_; first | refine ⟨_, W.neI, ?_⟩ | refine ⟨_, W.neS, ?_⟩)
    | (with_reducible refine W.isLf ?_; refine ⟨_, rfl, ?_⟩)
    | (with_reducible refine W.isBr ?_; first | refine ⟨_, rfl, fun _ => ?_, fun hf => Bool.noConfusion hf⟩ | refine ⟨_, rfl, fun hf => Bool.noConfusion hf, fun _ => ?_⟩)
    | (with_reducible refine W.isBr2 ?_; first | refine ⟨_, rfl, fun _ => ?_, fun hf => Bool.noConfusion hf⟩ | refine ⟨_, rfl, fun hf => Bool.noConfusion hf, fun _ => ?_⟩)
    | (with_reducible refine W.isLfS ?_; refine ⟨_, _, (by assumption), rfl, fun hl => ?_⟩))
    refine (slots_ok G a4 hs hs2).mono fun v h5 q => ?_
    obtain ⟨⟨ts, rfl, q2⟩, a5⟩ := q
    repeat (first
    | with_reducible refine W.cons ?_ | with_reducible refine W.set ?_ | with_reducible refine W.ret ?_ | with_reducible refine W.cst ?_ | (with_reducible refine W.isVar ?_; refine W.var rfl ?_)
    | (with_reducible refine W.isGetR ?_; refine W.getR rfl (by assumption) rfl ?_) | (with_reducible refine W.isLenR ?_; refine W.lenR rfl (by assumption) ?_) | (with_reducible refine W.isSetR ?_; refine W.setR rfl ?_)
    | with_reducible refine W.o2 ?_ | with_reducible refine W.o1 ?_ | with_reducible refine W.call ?_ | with_reducible refine W.es ?_ | with_reducible refine W.es0 ?_ | with_reducible refine W.nx ?_ | with_reducible refine W.rt ?_ | with_reducible refine W.tup ?_ | with_reducible refine W.lst ?_
    | with_reducible refine W.slice ?_ | with_reducible refine W.val ?_ | with_reducible refine W.rng ?_ | with_reducible refine W.enu ?_ | with_reducible refine W.seti ?_ | with_reducible refine W.ts0 ?_ | with_reducible refine W.ts1 ?_ | with_reducible refine W.cond ?_ | with_reducible refine W.and ?_
    | with_reducible refine W.or ?_ | with_reducible refine W.ife ?_ | with_reducible refine W.nil ?_ | with_reducible refine W.par ?_ | with_reducible refine W.app ?_ | with_reducible refine W.ext ?_
    | (with_reducible refine W.isLt ?_; refine ⟨by simp, ?_⟩) | (with_reducible refine W.isMul ?_; refine ⟨_, W.mulK (by decide), ?_⟩) | (with_reducible refine W.isEq ?_; first | refine ⟨_, W.eqI, ?_⟩ | refine ⟨_, W.eqS, ?_⟩) | (with_reducible refine W.isNe ?_; first | refine ⟨_, W.neI, ?_⟩ | refine ⟨_, W.neS, ?_⟩)
    | (with_reducible refine W.isLf ?_; refine ⟨_, rfl, ?_⟩)
    | (with_reducible refine W.isBr ?_; first | refine ⟨_, rfl, fun _ => ?_, fun hf => Bool.noConfusion hf⟩ | refine ⟨_, rfl, fun hf => Bool.noConfusion hf, fun _ => ?_⟩)
    | (with_reducible refine W.isBr2 ?_; first | refine ⟨_, rfl, fun _ => ?_, fun hf => Bool.noConfusion hf⟩ | refine ⟨_, rfl, fun hf => Bool.noConfusion hf, fun _ => ?_⟩)
    | (with_reducible refine W.isLfS ?_; refine ⟨_, _, (by assumption), rfl, fun hl => ?_⟩))
    refine W.en ?_
    rw [fin_same (by rw [a5.len, a.len])]
    exact Ok.ok ⟨⟨⟨ch, ss, ts⟩, rfl, hch, q1, q2⟩, a5⟩
  refine W.cons ?_
  repeat (first
    | with_reducible refine W.cons ?_ | with_reducible refine W.set ?_ | with_reducible refine W.ret ?_ | with_reducible refine W.cst ?_ | (with_reducible refine W.isVar ?_; refine W.var rfl ?_)
    | (with_reducible refine W.isGetR ?_; refine W.getR rfl (by assumption) rfl ?_) | (with_reducible refine W.isLenR ?_; refine W.lenR rfl (by assumption) ?_) | (with_reducible refine W.isSetR ?_; refine W.setR rfl ?_)
    | with_reducible refine W.o2 ?_ | with_reducible refine W.o1 ?_ | with_reducible refine W.call ?_ | with_reducible refine W.es ?_ | with_reducible refine W.es0 ?_ | with_reducible refine W.nx ?_ | with_reducible refine W.rt ?_ | with_reducible refine W.tup ?_ | with_reducible refine W.lst ?_
    | with_reducible refine W.slice ?_ | with_reducible refine W.val ?_ | with_reducible refine W.rng ?_ | with_reducible refine W.enu ?_ | with_reducible refine W.seti ?_ | with_reducible refine W.ts0 ?_ | with_reducible refine W.ts1 ?_ | with_reducible refine W.cond ?_ | with_reducible refine W.and ?_
    | with_reducible refine W.or ?_ | with_reducible refine W.ife ?_ | with_reducible refine W.nil ?_ | with_reducible refine W.par ?_ | with_reducible refine W.app ?_ | with_reducible refine W.ext ?_
    | (with_reducible refine W.isLt ?_; refine ⟨by simp, ?_⟩) | (with_reducible refine W.isMul ?_; refine ⟨_, W.mulK (by decide), ?_⟩) | (with_reducible refine W.isEq ?_; first | refine ⟨_, W.eqI, ?_⟩ | refine ⟨_, W.eqS, ?_⟩) | (with_reducible refine W.isNe ?_; first | refine ⟨_, W.neI, ?_⟩ | refine ⟨_, W.neS, ?_⟩)
    | (with_reducible refine W.isLf ?_; refine ⟨_, rfl, ?_⟩)
    | (with_reducible refine W.isBr ?_; first | refine ⟨_, rfl, fun _ => ?_, fun hf => Bool.noConfusion hf⟩ | refine ⟨_, rfl, fun hf => Bool.noConfusion hf, fun _ => ?_⟩)
    | (with_reducible refine W.isBr2 ?_; first | refine ⟨_, rfl, fun _ => ?_, fun hf => Bool.noConfusion hf⟩ | refine ⟨_, rfl, fun hf => Bool.noConfusion hf, fun _ => ?_⟩)
    | (with_reducible refine W.isLfS ?_; refine ⟨_, _, (by assumption), rfl, fun hl => ?_⟩))
  refine ⟨_, rfl, fun hk => ?_, fun hk => W.nil (W.nx (done h2 ch a2 ⟨hc, fun e => ?_, hin⟩))⟩
  · obtain ⟨c, e, e2⟩ := idx_str (h := h2) (i := 0) hsl (by decide) (by omega)
    repeat (first
    | with_reducible refine W.cons ?_ | with_reducible refine W.set ?_ | with_reducible refine W.ret ?_ | with_reducible refine W.cst ?_ | (with_reducible refine W.isVar ?_; refine W.var rfl ?_)
    | (with_reducible refine W.isGetR ?_; refine W.getR rfl (by assumption) rfl ?_) | (with_reducible refine W.isLenR ?_; refine W.lenR rfl (by assumption) ?_) | (with_reducible refine W.isSetR ?_; refine W.setR rfl ?_)
    | with_reducible refine W.o2 ?_ | with_reducible refine W.o1 ?_ | with_reducible refine W.call ?_ | with_reducible refine W.es ?_ | with_reducible refine W.es0 ?_ | with_reducible refine W.nx ?_ | with_reducible refine W.rt ?_ | with_reducible refine W.tup ?_ | with_reducible refine W.lst ?_
    | with_reducible refine W.slice ?_ | with_reducible refine W.val ?_ | with_reducible refine W.rng ?_ | with_reducible refine W.enu ?_ | with_reducible refine W.seti ?_ | with_reducible refine W.ts0 ?_ | with_reducible refine W.ts1 ?_ | with_reducible refine W.cond ?_ | with_reducible refine W.and ?_
    | with_reducible refine W.or ?_ | with_reducible refine W.ife ?_ | with_reducible refine W.nil ?_ | with_reducible refine W.par ?_ | with_reducible refine W.app ?_ | with_reducible refine W.ext ?_
    | (with_reducible refine W.isLt ?_; refine ⟨by simp, ?_⟩) | (with_reducible refine W.isMul ?_; refine ⟨_, W.mulK (by decide), ?_⟩) | (with_reducible refine W.isEq ?_; first | refine ⟨_, W.eqI, ?_⟩ | refine ⟨_, W.eqS, ?_⟩) | (with_reducible refine W.isNe ?_; first | refine ⟨_, W.neI, ?_⟩ | refine ⟨_, W.neS, ?_⟩)
    | (with_reducible refine W.isLf ?_; refine ⟨_, rfl, ?_⟩)
    | (with_reducible refine W.isBr ?_; first | refine ⟨_, rfl, fun _ => ?_, fun hf => Bool.noConfusion hf⟩ | refine ⟨_, rfl, fun hf => Bool.noConfusion hf, fun _ => ?_⟩)
    | (with_reducible refine W.isBr2 ?_; first | refine ⟨_, rfl, fun _ => ?_, fun hf => Bool.noConfusion hf⟩ | refine ⟨_, rfl, fun hf => Bool.noConfusion hf, fun _ => ?_⟩)
    | (with_reducible refine W.isLfS ?_; refine ⟨_, _, (by assumption), rfl, fun hl => ?_⟩))
    refine ⟨_, e, ?_⟩
    repeat (first
    | with_reducible refine W.cons ?_ | with_reducible refine W.set ?_ | with_reducible refine W.ret ?_ | with_reducible refine W.cst ?_ | (with_reducible refine W.isVar ?_; refine W.var rfl ?_)
    | (with_reducible refine W.isGetR ?_; refine W.getR rfl (by assumption) rfl ?_) | (with_reducible refine W.isLenR ?_; refine W.lenR rfl (by assumption) ?_) | (with_reducible refine W.isSetR ?_; refine W.setR rfl ?_)
    | with_reducible refine W.o2 ?_ | with_reducible refine W.o1 ?_ | with_reducible refine W.call ?_ | with_reducible refine W.es ?_ | with_reducible refine W.es0 ?_ | with_reducible refine W.nx ?_ | with_reducible refine W.rt ?_ | with_reducible refine W.tup ?_ | with_reducible refine W.lst ?_
    | with_reducible refine W.slice ?_ | with_reducible refine W.val ?_ | with_reducible refine W.rng ?_ | with_reducible refine W.enu ?_ | with_reducible refine W.seti ?_ | with_reducible refine W.ts0 ?_ | with_reducible refine W.ts1 ?_ | with_reducible refine W.cond ?_ | with_reducible refine W.and ?_
    | with_reducible refine W.or ?_ | with_reducible refine W.ife ?_ | with_reducible refine W.nil ?_ | with_reducible refine W.par ?_ | with_reducible refine W.app ?_ | with_reducible refine W.ext ?_
    | (with_reducible refine W.isLt ?_; refine ⟨by simp, ?_⟩) | (with_reducible refine W.isMul ?_; refine ⟨_, W.mulK (by decide), ?_⟩) | (with_reducible refine W.isEq ?_; first | refine ⟨_, W.eqI, ?_⟩ | refine ⟨_, W.eqS, ?_⟩) | (with_reducible refine W.isNe ?_; first | refine ⟨_, W.neI, ?_⟩ | refine ⟨_, W.neS, ?_⟩)
    | (with_reducible refine W.isLf ?_; refine ⟨_, rfl, ?_⟩)
    | (with_reducible refine W.isBr ?_; first | refine ⟨_, rfl, fun _ => ?_, fun hf => Bool.noConfusion hf⟩ | refine ⟨_, rfl, fun hf => Bool.noConfusion hf, fun _ => ?_⟩)
    | (with_reducible refine W.isBr2 ?_; first | refine ⟨_, rfl, fun _ => ?_, fun hf => Bool.noConfusion hf⟩ | refine ⟨_, rfl, fun hf => Bool.noConfusion hf, fun _ => ?_⟩)
    | (with_reducible refine W.isLfS ?_; refine ⟨_, _, (by assumption), rfl, fun hl => ?_⟩))
    refine (word_ok G a2 hs hs2 (by decide) (by decide)).mono fun v h4 q => ?_
    obtain ⟨⟨w, rfl, w0, w1⟩, a4⟩ := q
    repeat (first
    | with_reducible refine W.set ?_ | with_reducible refine W.ret ?_ | with_reducible refine W.cst ?_ | (with_reducible refine W.isVar ?_; refine W.var rfl ?_)
    | (with_reducible refine W.isGetR ?_; refine W.getR rfl (by assumption) rfl ?_) | (with_reducible refine W.isLenR ?_; refine W.lenR rfl (by assumption) ?_) | (with_reducible refine W.isSetR ?_; refine W.setR rfl ?_)
    | with_reducible refine W.o2 ?_ | with_reducible refine W.o1 ?_ | with_reducible refine W.call ?_ | with_reducible refine W.es ?_ | with_reducible refine W.es0 ?_ | with_reducible refine W.rt ?_ | with_reducible refine W.tup ?_ | with_reducible refine W.lst ?_
    | with_reducible refine W.slice ?_ | with_reducible refine W.val ?_ | with_reducible refine W.rng ?_ | with_reducible refine W.enu ?_ | with_reducible refine W.seti ?_ | with_reducible refine W.ts0 ?_ | with_reducible refine W.ts1 ?_ | with_reducible refine W.cond ?_ | with_reducible refine W.and ?_
    | with_reducible refine W.or ?_ | with_reducible refine W.ife ?_ | with_reducible refine W.nil ?_ | with_reducible refine W.par ?_ | with_reducible refine W.app ?_ | with_reducible refine W.ext ?_
    | (with_reducible refine W.isLt ?_; refine ⟨by simp, ?_⟩) | (with_reducible refine W.isMul ?_; refine ⟨_, W.mulK (by decide), ?_⟩) | (with_reducible refine W.isEq ?_; first | refine ⟨_, W.eqI, ?_⟩ | refine ⟨_, W.eqS, ?_⟩) | (with_reducible refine W.isNe ?_; first | refine ⟨_, W.neI, ?_⟩ | refine ⟨_, W.neS, ?_⟩)
    | (with_reducible refine W.isLf ?_; refine ⟨_, rfl, ?_⟩)
    | (with_reducible refine W.isBr ?_; first | refine ⟨_, rfl, fun _ => ?_, fun hf => Bool.noConfusion hf⟩ | refine ⟨_, rfl, fun hf => Bool.noConfusion hf, fun _ => ?_⟩)
    | (with_reducible refine W.isBr2 ?_; first | refine ⟨_, rfl, fun _ => ?_, fun hf => Bool.noConfusion hf⟩ | refine ⟨_, rfl, fun hf => Bool.noConfusion hf, fun _ => ?_⟩)
    | (with_reducible refine W.isLfS ?_; refine ⟨_, _, (by assumption), rfl, fun hl => ?_⟩))
    refine W.nx (W.nil (W.nx ?_))
    exact done h4 [(c, w)] a4 ⟨List.singleton_sublist.mpr (List.mem_of_getElem? e2), by simp, fun p hp => by rw [List.mem_singleton.mp hp]; exact ⟨w0, by simp only; omega⟩⟩
  · subst e
    simp [chD] at hk
theorem addT {xs ys : List D} (hl : xs.length + ys.length ≤ line) : o2F .add h (.tup xs) (.tup ys) = some (.tup (xs ++ ys)) := by
  simp only [o2F, if_pos hl]
theorem Slots.nil (e : Int) (s : List Nat) : Slots e s [] := ⟨by simp, .inl (by simp)⟩
theorem history_ok (G : GT T) {l : Nat} {h0 : Hh} {s : List Nat} {most : Int} (a : At l h0 h) (hs : s ≠ []) (hs2 : s.length < 1000) (hm : 0 ≤ most) (hm2 : most < 1000) :
    Ok (callF T (d + 6) "" "_law_history" [.ref l, .str s, .int most] h) fun v h' => (∃ rs : List Rule, v = .tup (rs.map ruleD) ∧ (∀ r ∈ rs, RuleOk s r) ∧ (rs.length : Int) ≤ most) ∧ At l h0 h' := by
  refine W.fn G.history rfl ?_
  unfold b_law_history
  simp only [startD, List.map_cons, List.map_nil, List.cons_append, List.nil_append, List.length_cons, List.length_nil, List.replicate, Nat.reduceAdd, Nat.reduceSub]
  refine W.cons (W.setT ?_)
  repeat (first
    | with_reducible refine W.cons ?_ | with_reducible refine W.set ?_ | with_reducible refine W.ret ?_ | with_reducible refine W.cst ?_ | (with_reducible refine W.isVar ?_; refine W.var rfl ?_)
    | (with_reducible refine W.isGetR ?_; refine W.getR rfl (by assumption) rfl ?_) | (with_reducible refine W.isLenR ?_; refine W.lenR rfl (by assumption) ?_) | (with_reducible refine W.isSetR ?_; refine W.setR rfl ?_)
    | with_reducible refine W.o2 ?_ | with_reducible refine W.o1 ?_ | with_reducible refine W.call ?_ | with_reducible refine W.es ?_ | with_reducible refine W.es0 ?_ | with_reducible refine W.nx ?_ | with_reducible refine W.rt ?_ | with_reducible refine W.tup ?_ | with_reducible refine W.lst ?_
    | with_reducible refine W.slice ?_ | with_reducible refine W.val ?_ | with_reducible refine W.rng ?_ | with_reducible refine W.enu ?_ | with_reducible refine W.seti ?_ | with_reducible refine W.ts0 ?_ | with_reducible refine W.ts1 ?_ | with_reducible refine W.cond ?_ | with_reducible refine W.and ?_
    | with_reducible refine W.or ?_ | with_reducible refine W.ife ?_ | with_reducible refine W.nil ?_ | with_reducible refine W.par ?_ | with_reducible refine W.app ?_ | with_reducible refine W.ext ?_
    | (with_reducible refine W.isLt ?_; refine ⟨by simp, ?_⟩) | (with_reducible refine W.isMul ?_; refine ⟨_, W.mulK (by decide), ?_⟩) | (with_reducible refine W.isEq ?_; first | refine ⟨_, W.eqI, ?_⟩ | refine ⟨_, W.eqS, ?_⟩) | (with_reducible refine W.isNe ?_; first | refine ⟨_, W.neI, ?_⟩ | refine ⟨_, W.neS, ?_⟩)
    | (with_reducible refine W.isLf ?_; refine ⟨_, rfl, ?_⟩)
    | (with_reducible refine W.isBr ?_; first | refine ⟨_, rfl, fun _ => ?_, fun hf => Bool.noConfusion hf⟩ | refine ⟨_, rfl, fun hf => Bool.noConfusion hf, fun _ => ?_⟩)
    | (with_reducible refine W.isBr2 ?_; first | refine ⟨_, rfl, fun _ => ?_, fun hf => Bool.noConfusion hf⟩ | refine ⟨_, rfl, fun hf => Bool.noConfusion hf, fun _ => ?_⟩)
    | (with_reducible refine W.isLfS ?_; refine ⟨_, _, (by assumption), rfl, fun hl => ?_⟩))
  refine ⟨_, rfl, W.nx (W.cons (W.forr ?_))⟩
  repeat (first
    | with_reducible refine W.cons ?_ | with_reducible refine W.set ?_ | with_reducible refine W.ret ?_ | with_reducible refine W.cst ?_ | (with_reducible refine W.isVar ?_; refine W.var rfl ?_)
    | (with_reducible refine W.isGetR ?_; refine W.getR rfl (by assumption) rfl ?_) | (with_reducible refine W.isLenR ?_; refine W.lenR rfl (by assumption) ?_) | (with_reducible refine W.isSetR ?_; refine W.setR rfl ?_)
    | with_reducible refine W.o2 ?_ | with_reducible refine W.o1 ?_ | with_reducible refine W.call ?_ | with_reducible refine W.es ?_ | with_reducible refine W.es0 ?_ | with_reducible refine W.nx ?_ | with_reducible refine W.rt ?_ | with_reducible refine W.tup ?_ | with_reducible refine W.lst ?_
    | with_reducible refine W.slice ?_ | with_reducible refine W.val ?_ | with_reducible refine W.rng ?_ | with_reducible refine W.enu ?_ | with_reducible refine W.seti ?_ | with_reducible refine W.ts0 ?_ | with_reducible refine W.ts1 ?_ | with_reducible refine W.cond ?_ | with_reducible refine W.and ?_
    | with_reducible refine W.or ?_ | with_reducible refine W.ife ?_ | with_reducible refine W.nil ?_ | with_reducible refine W.par ?_ | with_reducible refine W.app ?_ | with_reducible refine W.ext ?_
    | (with_reducible refine W.isLt ?_; refine ⟨by simp, ?_⟩) | (with_reducible refine W.isMul ?_; refine ⟨_, W.mulK (by decide), ?_⟩) | (with_reducible refine W.isEq ?_; first | refine ⟨_, W.eqI, ?_⟩ | refine ⟨_, W.eqS, ?_⟩) | (with_reducible refine W.isNe ?_; first | refine ⟨_, W.neI, ?_⟩ | refine ⟨_, W.neS, ?_⟩)
    | (with_reducible refine W.isLf ?_; refine ⟨_, rfl, ?_⟩)
    | (with_reducible refine W.isBr ?_; first | refine ⟨_, rfl, fun _ => ?_, fun hf => Bool.noConfusion hf⟩ | refine ⟨_, rfl, fun hf => Bool.noConfusion hf, fun _ => ?_⟩)
    | (with_reducible refine W.isBr2 ?_; first | refine ⟨_, rfl, fun _ => ?_, fun hf => Bool.noConfusion hf⟩ | refine ⟨_, rfl, fun hf => Bool.noConfusion hf, fun _ => ?_⟩)
    | (with_reducible refine W.isLfS ?_; refine ⟨_, _, (by assumption), rfl, fun hl => ?_⟩))
  refine (draw_at G a (by omega) (by omega)).mono fun v h1 q => ?_
  obtain ⟨⟨k, rfl, k0, k1⟩, a1⟩ := q
  refine ⟨k, rfl, small_of k0 (by omega), fun i σ h' => ∃ (rs : List Rule) (n : Int) (o5 o6 : Option D), σ = [some (.ref l), some (.str s), some (.int most), some (.tup (rs.map ruleD)), some (.int n), o5, o6] ∧ rs.length = i ∧ (∀ r ∈ rs, RuleOk s r) ∧ At l h0 h',
    ⟨[], 0, none, none, rfl, rfl, by simp, a1⟩, fun _ _ _ _ => wat_nil _ _, ?_, ?_⟩
  · rintro i x σ h' hx ⟨rs, n, o5, o6, rfl, hc, hin, a2⟩
    obtain ⟨rfl, hi⟩ := rng_get hx
    refine ⟨_, rfl, ?_⟩
    repeat (first
    | with_reducible refine W.cons ?_ | with_reducible refine W.set ?_ | with_reducible refine W.ret ?_ | with_reducible refine W.cst ?_ | (with_reducible refine W.isVar ?_; refine W.var rfl ?_)
    | (with_reducible refine W.isGetR ?_; refine W.getR rfl (by assumption) rfl ?_) | (with_reducible refine W.isLenR ?_; refine W.lenR rfl (by assumption) ?_) | (with_reducible refine W.isSetR ?_; refine W.setR rfl ?_)
    | with_reducible refine W.o2 ?_ | with_reducible refine W.o1 ?_ | with_reducible refine W.call ?_ | with_reducible refine W.es ?_ | with_reducible refine W.es0 ?_ | with_reducible refine W.nx ?_ | with_reducible refine W.rt ?_ | with_reducible refine W.tup ?_ | with_reducible refine W.lst ?_
    | with_reducible refine W.slice ?_ | with_reducible refine W.val ?_ | with_reducible refine W.rng ?_ | with_reducible refine W.enu ?_ | with_reducible refine W.seti ?_ | with_reducible refine W.ts0 ?_ | with_reducible refine W.ts1 ?_ | with_reducible refine W.cond ?_ | with_reducible refine W.and ?_
    | with_reducible refine W.or ?_ | with_reducible refine W.ife ?_ | with_reducible refine W.nil ?_ | with_reducible refine W.par ?_ | with_reducible refine W.app ?_ | with_reducible refine W.ext ?_
    | (with_reducible refine W.isLt ?_; refine ⟨by simp, ?_⟩) | (with_reducible refine W.isMul ?_; refine ⟨_, W.mulK (by decide), ?_⟩) | (with_reducible refine W.isEq ?_; first | refine ⟨_, W.eqI, ?_⟩ | refine ⟨_, W.eqS, ?_⟩) | (with_reducible refine W.isNe ?_; first | refine ⟨_, W.neI, ?_⟩ | refine ⟨_, W.neS, ?_⟩)
    | (with_reducible refine W.isLf ?_; refine ⟨_, rfl, ?_⟩)
    | (with_reducible refine W.isBr ?_; first | refine ⟨_, rfl, fun _ => ?_, fun hf => Bool.noConfusion hf⟩ | refine ⟨_, rfl, fun hf => Bool.noConfusion hf, fun _ => ?_⟩)
    | (with_reducible refine W.isBr2 ?_; first | refine ⟨_, rfl, fun _ => ?_, fun hf => Bool.noConfusion hf⟩ | refine ⟨_, rfl, fun hf => Bool.noConfusion hf, fun _ => ?_⟩)
    | (with_reducible refine W.isLfS ?_; refine ⟨_, _, (by assumption), rfl, fun hl => ?_⟩))
    refine (law_ok G a2 hs hs2).mono fun v h3 q => ?_
    obtain ⟨⟨r, rfl, hr⟩, a3⟩ := q
    repeat (first
    | with_reducible refine W.cons ?_ | with_reducible refine W.set ?_ | with_reducible refine W.ret ?_ | with_reducible refine W.cst ?_ | (with_reducible refine W.isVar ?_; refine W.var rfl ?_)
    | (with_reducible refine W.isGetR ?_; refine W.getR rfl (by assumption) rfl ?_) | (with_reducible refine W.isLenR ?_; refine W.lenR rfl (by assumption) ?_) | (with_reducible refine W.isSetR ?_; refine W.setR rfl ?_)
    | with_reducible refine W.o2 ?_ | with_reducible refine W.o1 ?_ | with_reducible refine W.call ?_ | with_reducible refine W.es ?_ | with_reducible refine W.es0 ?_ | with_reducible refine W.nx ?_ | with_reducible refine W.rt ?_ | with_reducible refine W.tup ?_ | with_reducible refine W.lst ?_
    | with_reducible refine W.slice ?_ | with_reducible refine W.val ?_ | with_reducible refine W.rng ?_ | with_reducible refine W.enu ?_ | with_reducible refine W.seti ?_ | with_reducible refine W.ts0 ?_ | with_reducible refine W.ts1 ?_ | with_reducible refine W.cond ?_ | with_reducible refine W.and ?_
    | with_reducible refine W.or ?_ | with_reducible refine W.ife ?_ | with_reducible refine W.nil ?_ | with_reducible refine W.par ?_ | with_reducible refine W.app ?_ | with_reducible refine W.ext ?_
    | (with_reducible refine W.isLt ?_; refine ⟨by simp, ?_⟩) | (with_reducible refine W.isMul ?_; refine ⟨_, W.mulK (by decide), ?_⟩) | (with_reducible refine W.isEq ?_; first | refine ⟨_, W.eqI, ?_⟩ | refine ⟨_, W.eqS, ?_⟩) | (with_reducible refine W.isNe ?_; first | refine ⟨_, W.neI, ?_⟩ | refine ⟨_, W.neS, ?_⟩)
    | (with_reducible refine W.isLf ?_; refine ⟨_, rfl, ?_⟩)
    | (with_reducible refine W.isBr ?_; first | refine ⟨_, rfl, fun _ => ?_, fun hf => Bool.noConfusion hf⟩ | refine ⟨_, rfl, fun hf => Bool.noConfusion hf, fun _ => ?_⟩)
    | (with_reducible refine W.isBr2 ?_; first | refine ⟨_, rfl, fun _ => ?_, fun hf => Bool.noConfusion hf⟩ | refine ⟨_, rfl, fun hf => Bool.noConfusion hf, fun _ => ?_⟩)
    | (with_reducible refine W.isLfS ?_; refine ⟨_, _, (by assumption), rfl, fun hl => ?_⟩))
    have hl : (rs.map ruleD).length + 1 ≤ line := by rw [List.length_map]; unfold line; omega
    refine ⟨_, rfl, fun _ => ?_, fun _ => ?_⟩
    · repeat (first
    | with_reducible refine W.cons ?_ | with_reducible refine W.set ?_ | with_reducible refine W.ret ?_ | with_reducible refine W.cst ?_ | (with_reducible refine W.isVar ?_; refine W.var rfl ?_)
    | (with_reducible refine W.isGetR ?_; refine W.getR rfl (by assumption) rfl ?_) | (with_reducible refine W.isLenR ?_; refine W.lenR rfl (by assumption) ?_) | (with_reducible refine W.isSetR ?_; refine W.setR rfl ?_)
    | with_reducible refine W.o2 ?_ | with_reducible refine W.o1 ?_ | with_reducible refine W.call ?_ | with_reducible refine W.es ?_ | with_reducible refine W.es0 ?_ | with_reducible refine W.nx ?_ | with_reducible refine W.rt ?_ | with_reducible refine W.tup ?_ | with_reducible refine W.lst ?_
    | with_reducible refine W.slice ?_ | with_reducible refine W.val ?_ | with_reducible refine W.rng ?_ | with_reducible refine W.enu ?_ | with_reducible refine W.seti ?_ | with_reducible refine W.ts0 ?_ | with_reducible refine W.ts1 ?_ | with_reducible refine W.cond ?_ | with_reducible refine W.and ?_
    | with_reducible refine W.or ?_ | with_reducible refine W.ife ?_ | with_reducible refine W.nil ?_ | with_reducible refine W.par ?_ | with_reducible refine W.app ?_ | with_reducible refine W.ext ?_
    | (with_reducible refine W.isLt ?_; refine ⟨by simp, ?_⟩) | (with_reducible refine W.isMul ?_; refine ⟨_, W.mulK (by decide), ?_⟩) | (with_reducible refine W.isEq ?_; first | refine ⟨_, W.eqI, ?_⟩ | refine ⟨_, W.eqS, ?_⟩) | (with_reducible refine W.isNe ?_; first | refine ⟨_, W.neI, ?_⟩ | refine ⟨_, W.neS, ?_⟩)
    | (with_reducible refine W.isLf ?_; refine ⟨_, rfl, ?_⟩)
    | (with_reducible refine W.isBr ?_; first | refine ⟨_, rfl, fun _ => ?_, fun hf => Bool.noConfusion hf⟩ | refine ⟨_, rfl, fun hf => Bool.noConfusion hf, fun _ => ?_⟩)
    | (with_reducible refine W.isBr2 ?_; first | refine ⟨_, rfl, fun _ => ?_, fun hf => Bool.noConfusion hf⟩ | refine ⟨_, rfl, fun hf => Bool.noConfusion hf, fun _ => ?_⟩)
    | (with_reducible refine W.isLfS ?_; refine ⟨_, _, (by assumption), rfl, fun hl => ?_⟩))
      refine ⟨_, addT hl, ?_⟩
      repeat (first
    | with_reducible refine W.cons ?_ | with_reducible refine W.set ?_ | with_reducible refine W.ret ?_ | with_reducible refine W.cst ?_ | (with_reducible refine W.isVar ?_; refine W.var rfl ?_)
    | (with_reducible refine W.isGetR ?_; refine W.getR rfl (by assumption) rfl ?_) | (with_reducible refine W.isLenR ?_; refine W.lenR rfl (by assumption) ?_) | (with_reducible refine W.isSetR ?_; refine W.setR rfl ?_)
    | with_reducible refine W.o2 ?_ | with_reducible refine W.o1 ?_ | with_reducible refine W.call ?_ | with_reducible refine W.es ?_ | with_reducible refine W.es0 ?_ | with_reducible refine W.nx ?_ | with_reducible refine W.rt ?_ | with_reducible refine W.tup ?_ | with_reducible refine W.lst ?_
    | with_reducible refine W.slice ?_ | with_reducible refine W.val ?_ | with_reducible refine W.rng ?_ | with_reducible refine W.enu ?_ | with_reducible refine W.seti ?_ | with_reducible refine W.ts0 ?_ | with_reducible refine W.ts1 ?_ | with_reducible refine W.cond ?_ | with_reducible refine W.and ?_
    | with_reducible refine W.or ?_ | with_reducible refine W.ife ?_ | with_reducible refine W.nil ?_ | with_reducible refine W.par ?_ | with_reducible refine W.app ?_ | with_reducible refine W.ext ?_
    | (with_reducible refine W.isLt ?_; refine ⟨by simp, ?_⟩) | (with_reducible refine W.isMul ?_; refine ⟨_, W.mulK (by decide), ?_⟩) | (with_reducible refine W.isEq ?_; first | refine ⟨_, W.eqI, ?_⟩ | refine ⟨_, W.eqS, ?_⟩) | (with_reducible refine W.isNe ?_; first | refine ⟨_, W.neI, ?_⟩ | refine ⟨_, W.neS, ?_⟩)
    | (with_reducible refine W.isLf ?_; refine ⟨_, rfl, ?_⟩)
    | (with_reducible refine W.isBr ?_; first | refine ⟨_, rfl, fun _ => ?_, fun hf => Bool.noConfusion hf⟩ | refine ⟨_, rfl, fun hf => Bool.noConfusion hf, fun _ => ?_⟩)
    | (with_reducible refine W.isBr2 ?_; first | refine ⟨_, rfl, fun _ => ?_, fun hf => Bool.noConfusion hf⟩ | refine ⟨_, rfl, fun hf => Bool.noConfusion hf, fun _ => ?_⟩)
    | (with_reducible refine W.isLfS ?_; refine ⟨_, _, (by assumption), rfl, fun hl => ?_⟩))
      refine ⟨rs ++ [r], _, _, _, (by simp only [List.map_append, List.map_cons, List.map_nil]; rfl), by simp [hc], fun x hx => ?_, a3⟩
      · rcases List.mem_append.mp hx with hx | hx
        · exact hin x hx
        · rw [List.mem_singleton.mp hx]; exact hr
    · repeat (first
    | with_reducible refine W.cons ?_ | with_reducible refine W.set ?_ | with_reducible refine W.ret ?_ | with_reducible refine W.cst ?_ | (with_reducible refine W.isVar ?_; refine W.var rfl ?_)
    | (with_reducible refine W.isGetR ?_; refine W.getR rfl (by assumption) rfl ?_) | (with_reducible refine W.isLenR ?_; refine W.lenR rfl (by assumption) ?_) | (with_reducible refine W.isSetR ?_; refine W.setR rfl ?_)
    | with_reducible refine W.o2 ?_ | with_reducible refine W.o1 ?_ | with_reducible refine W.call ?_ | with_reducible refine W.es ?_ | with_reducible refine W.es0 ?_ | with_reducible refine W.nx ?_ | with_reducible refine W.rt ?_ | with_reducible refine W.tup ?_ | with_reducible refine W.lst ?_
    | with_reducible refine W.slice ?_ | with_reducible refine W.val ?_ | with_reducible refine W.rng ?_ | with_reducible refine W.enu ?_ | with_reducible refine W.seti ?_ | with_reducible refine W.ts0 ?_ | with_reducible refine W.ts1 ?_ | with_reducible refine W.cond ?_ | with_reducible refine W.and ?_
    | with_reducible refine W.or ?_ | with_reducible refine W.ife ?_ | with_reducible refine W.nil ?_ | with_reducible refine W.par ?_ | with_reducible refine W.app ?_ | with_reducible refine W.ext ?_
    | (with_reducible refine W.isLt ?_; refine ⟨by simp, ?_⟩) | (with_reducible refine W.isMul ?_; refine ⟨_, W.mulK (by decide), ?_⟩) | (with_reducible refine W.isEq ?_; first | refine ⟨_, W.eqI, ?_⟩ | refine ⟨_, W.eqS, ?_⟩) | (with_reducible refine W.isNe ?_; first | refine ⟨_, W.neI, ?_⟩ | refine ⟨_, W.neS, ?_⟩)
    | (with_reducible refine W.isLf ?_; refine ⟨_, rfl, ?_⟩)
    | (with_reducible refine W.isBr ?_; first | refine ⟨_, rfl, fun _ => ?_, fun hf => Bool.noConfusion hf⟩ | refine ⟨_, rfl, fun hf => Bool.noConfusion hf, fun _ => ?_⟩)
    | (with_reducible refine W.isBr2 ?_; first | refine ⟨_, rfl, fun _ => ?_, fun hf => Bool.noConfusion hf⟩ | refine ⟨_, rfl, fun hf => Bool.noConfusion hf, fun _ => ?_⟩)
    | (with_reducible refine W.isLfS ?_; refine ⟨_, _, (by assumption), rfl, fun hl => ?_⟩))
      refine ⟨_, addT hl, ?_⟩
      repeat (first
    | with_reducible refine W.cons ?_ | with_reducible refine W.set ?_ | with_reducible refine W.ret ?_ | with_reducible refine W.cst ?_ | (with_reducible refine W.isVar ?_; refine W.var rfl ?_)
    | (with_reducible refine W.isGetR ?_; refine W.getR rfl (by assumption) rfl ?_) | (with_reducible refine W.isLenR ?_; refine W.lenR rfl (by assumption) ?_) | (with_reducible refine W.isSetR ?_; refine W.setR rfl ?_)
    | with_reducible refine W.o2 ?_ | with_reducible refine W.o1 ?_ | with_reducible refine W.call ?_ | with_reducible refine W.es ?_ | with_reducible refine W.es0 ?_ | with_reducible refine W.nx ?_ | with_reducible refine W.rt ?_ | with_reducible refine W.tup ?_ | with_reducible refine W.lst ?_
    | with_reducible refine W.slice ?_ | with_reducible refine W.val ?_ | with_reducible refine W.rng ?_ | with_reducible refine W.enu ?_ | with_reducible refine W.seti ?_ | with_reducible refine W.ts0 ?_ | with_reducible refine W.ts1 ?_ | with_reducible refine W.cond ?_ | with_reducible refine W.and ?_
    | with_reducible refine W.or ?_ | with_reducible refine W.ife ?_ | with_reducible refine W.nil ?_ | with_reducible refine W.par ?_ | with_reducible refine W.app ?_ | with_reducible refine W.ext ?_
    | (with_reducible refine W.isLt ?_; refine ⟨by simp, ?_⟩) | (with_reducible refine W.isMul ?_; refine ⟨_, W.mulK (by decide), ?_⟩) | (with_reducible refine W.isEq ?_; first | refine ⟨_, W.eqI, ?_⟩ | refine ⟨_, W.eqS, ?_⟩) | (with_reducible refine W.isNe ?_; first | refine ⟨_, W.neI, ?_⟩ | refine ⟨_, W.neS, ?_⟩)
    | (with_reducible refine W.isLf ?_; refine ⟨_, rfl, ?_⟩)
    | (with_reducible refine W.isBr ?_; first | refine ⟨_, rfl, fun _ => ?_, fun hf => Bool.noConfusion hf⟩ | refine ⟨_, rfl, fun hf => Bool.noConfusion hf, fun _ => ?_⟩)
    | (with_reducible refine W.isBr2 ?_; first | refine ⟨_, rfl, fun _ => ?_, fun hf => Bool.noConfusion hf⟩ | refine ⟨_, rfl, fun hf => Bool.noConfusion hf, fun _ => ?_⟩)
    | (with_reducible refine W.isLfS ?_; refine ⟨_, _, (by assumption), rfl, fun hl => ?_⟩))
      refine ⟨rs ++ [⟨r.ch, [], []⟩], _, _, _, (by simp only [List.map_append, List.map_cons, List.map_nil]; rfl), by simp [hc], fun x hx => ?_, a3⟩
      · rcases List.mem_append.mp hx with hx | hx
        · exact hin x hx
        · rw [List.mem_singleton.mp hx]; exact ⟨hr.ch, Slots.nil _ _, Slots.nil _ _⟩
  · rintro σ h' ⟨rs, n, o5, o6, rfl, hc, hin, a2⟩
    simp only [rngD, List.length_map, List.length_range] at hc
    repeat (first
    | with_reducible refine W.cons ?_ | with_reducible refine W.set ?_ | with_reducible refine W.ret ?_ | with_reducible refine W.cst ?_ | (with_reducible refine W.isVar ?_; refine W.var rfl ?_)
    | (with_reducible refine W.isGetR ?_; refine W.getR rfl (by assumption) rfl ?_) | (with_reducible refine W.isLenR ?_; refine W.lenR rfl (by assumption) ?_) | (with_reducible refine W.isSetR ?_; refine W.setR rfl ?_)
    | with_reducible refine W.o2 ?_ | with_reducible refine W.o1 ?_ | with_reducible refine W.call ?_ | with_reducible refine W.es ?_ | with_reducible refine W.es0 ?_ | with_reducible refine W.nx ?_ | with_reducible refine W.rt ?_ | with_reducible refine W.tup ?_ | with_reducible refine W.lst ?_
    | with_reducible refine W.slice ?_ | with_reducible refine W.val ?_ | with_reducible refine W.rng ?_ | with_reducible refine W.enu ?_ | with_reducible refine W.seti ?_ | with_reducible refine W.ts0 ?_ | with_reducible refine W.ts1 ?_ | with_reducible refine W.cond ?_ | with_reducible refine W.and ?_
    | with_reducible refine W.or ?_ | with_reducible refine W.ife ?_ | with_reducible refine W.nil ?_ | with_reducible refine W.par ?_ | with_reducible refine W.app ?_ | with_reducible refine W.ext ?_
    | (with_reducible refine W.isLt ?_; refine ⟨by simp, ?_⟩) | (with_reducible refine W.isMul ?_; refine ⟨_, W.mulK (by decide), ?_⟩) | (with_reducible refine W.isEq ?_; first | refine ⟨_, W.eqI, ?_⟩ | refine ⟨_, W.eqS, ?_⟩) | (with_reducible refine W.isNe ?_; first | refine ⟨_, W.neI, ?_⟩ | refine ⟨_, W.neS, ?_⟩)
    | (with_reducible refine W.isLf ?_; refine ⟨_, rfl, ?_⟩)
    | (with_reducible refine W.isBr ?_; first | refine ⟨_, rfl, fun _ => ?_, fun hf => Bool.noConfusion hf⟩ | refine ⟨_, rfl, fun hf => Bool.noConfusion hf, fun _ => ?_⟩)
    | (with_reducible refine W.isBr2 ?_; first | refine ⟨_, rfl, fun _ => ?_, fun hf => Bool.noConfusion hf⟩ | refine ⟨_, rfl, fun hf => Bool.noConfusion hf, fun _ => ?_⟩)
    | (with_reducible refine W.isLfS ?_; refine ⟨_, _, (by assumption), rfl, fun hl => ?_⟩))
    refine W.en ?_
    rw [fin_same (by rw [a2.len, a.len])]
    exact Ok.ok ⟨⟨rs, rfl, hin, by omega⟩, a2⟩
/-- the sounds that are drawn -/
def Sounds (s : List Nat) : Prop := s = [97, 98] ∨ s = [97, 98, 99] ∨ s = [97]
theorem sounds_ok (G : GT T) {l : Nat} {h0 : Hh} (a : At l h0 h) : Ok (callF T (d + 3) "" "_law_sounds" [.ref l] h) fun v h' => (∃ s, v = .str s ∧ Sounds s) ∧ At l h0 h' := by
  refine W.fn G.sounds rfl ?_
  unfold b_law_sounds
  simp only [startD, List.map_cons, List.map_nil, List.cons_append, List.nil_append, List.length_cons, List.length_nil, List.replicate, Nat.reduceAdd, Nat.reduceSub]
  repeat (first
    | with_reducible refine W.cons ?_ | with_reducible refine W.set ?_ | with_reducible refine W.ret ?_ | with_reducible refine W.cst ?_ | (with_reducible refine W.isVar ?_; refine W.var rfl ?_)
    | (with_reducible refine W.isGetR ?_; refine W.getR rfl (by assumption) rfl ?_) | (with_reducible refine W.isLenR ?_; refine W.lenR rfl (by assumption) ?_) | (with_reducible refine W.isSetR ?_; refine W.setR rfl ?_)
    | with_reducible refine W.o2 ?_ | with_reducible refine W.o1 ?_ | with_reducible refine W.call ?_ | with_reducible refine W.es ?_ | with_reducible refine W.es0 ?_ | with_reducible refine W.nx ?_ | with_reducible refine W.rt ?_ | with_reducible refine W.tup ?_ | with_reducible refine W.lst ?_
    | with_reducible refine W.slice ?_ | with_reducible refine W.val ?_ | with_reducible refine W.rng ?_ | with_reducible refine W.enu ?_ | with_reducible refine W.seti ?_ | with_reducible refine W.ts0 ?_ | with_reducible refine W.ts1 ?_ | with_reducible refine W.cond ?_ | with_reducible refine W.and ?_
    | with_reducible refine W.or ?_ | with_reducible refine W.ife ?_ | with_reducible refine W.nil ?_ | with_reducible refine W.par ?_ | with_reducible refine W.app ?_ | with_reducible refine W.ext ?_
    | (with_reducible refine W.isLt ?_; refine ⟨by simp, ?_⟩) | (with_reducible refine W.isMul ?_; refine ⟨_, W.mulK (by decide), ?_⟩) | (with_reducible refine W.isEq ?_; first | refine ⟨_, W.eqI, ?_⟩ | refine ⟨_, W.eqS, ?_⟩) | (with_reducible refine W.isNe ?_; first | refine ⟨_, W.neI, ?_⟩ | refine ⟨_, W.neS, ?_⟩)
    | (with_reducible refine W.isLf ?_; refine ⟨_, rfl, ?_⟩)
    | (with_reducible refine W.isBr ?_; first | refine ⟨_, rfl, fun _ => ?_, fun hf => Bool.noConfusion hf⟩ | refine ⟨_, rfl, fun hf => Bool.noConfusion hf, fun _ => ?_⟩)
    | (with_reducible refine W.isBr2 ?_; first | refine ⟨_, rfl, fun _ => ?_, fun hf => Bool.noConfusion hf⟩ | refine ⟨_, rfl, fun hf => Bool.noConfusion hf, fun _ => ?_⟩)
    | (with_reducible refine W.isLfS ?_; refine ⟨_, _, (by assumption), rfl, fun hl => ?_⟩))
  refine (draw_at G a (by decide) (by decide)).mono fun v h1 q => ?_
  obtain ⟨⟨j, rfl, j0, j1⟩, a1⟩ := q
  have pick : ∃ s, o2F .idx h1 (.tup [.str [97, 98], .str [97, 98, 99], .str [97], .str [97, 98]]) (.int j) = some (.str s) ∧ Sounds s := by
    have : j = 0 ∨ j = 1 ∨ j = 2 ∨ j = 3 := by omega
    rcases this with rfl | rfl | rfl | rfl
    · exact ⟨_, rfl, .inl rfl⟩
    · exact ⟨_, rfl, .inr (.inl rfl)⟩
    · exact ⟨_, rfl, .inr (.inr rfl)⟩
    · exact ⟨_, rfl, .inl rfl⟩
  obtain ⟨s, e, hs⟩ := pick
  refine ⟨_, e, ?_⟩
  repeat (first
    | with_reducible refine W.cons ?_ | with_reducible refine W.set ?_ | with_reducible refine W.ret ?_ | with_reducible refine W.cst ?_ | (with_reducible refine W.isVar ?_; refine W.var rfl ?_)
    | (with_reducible refine W.isGetR ?_; refine W.getR rfl (by assumption) rfl ?_) | (with_reducible refine W.isLenR ?_; refine W.lenR rfl (by assumption) ?_) | (with_reducible refine W.isSetR ?_; refine W.setR rfl ?_)
    | with_reducible refine W.o2 ?_ | with_reducible refine W.o1 ?_ | with_reducible refine W.call ?_ | with_reducible refine W.es ?_ | with_reducible refine W.es0 ?_ | with_reducible refine W.nx ?_ | with_reducible refine W.rt ?_ | with_reducible refine W.tup ?_ | with_reducible refine W.lst ?_
    | with_reducible refine W.slice ?_ | with_reducible refine W.val ?_ | with_reducible refine W.rng ?_ | with_reducible refine W.enu ?_ | with_reducible refine W.seti ?_ | with_reducible refine W.ts0 ?_ | with_reducible refine W.ts1 ?_ | with_reducible refine W.cond ?_ | with_reducible refine W.and ?_
    | with_reducible refine W.or ?_ | with_reducible refine W.ife ?_ | with_reducible refine W.nil ?_ | with_reducible refine W.par ?_ | with_reducible refine W.app ?_ | with_reducible refine W.ext ?_
    | (with_reducible refine W.isLt ?_; refine ⟨by simp, ?_⟩) | (with_reducible refine W.isMul ?_; refine ⟨_, W.mulK (by decide), ?_⟩) | (with_reducible refine W.isEq ?_; first | refine ⟨_, W.eqI, ?_⟩ | refine ⟨_, W.eqS, ?_⟩) | (with_reducible refine W.isNe ?_; first | refine ⟨_, W.neI, ?_⟩ | refine ⟨_, W.neS, ?_⟩)
    | (with_reducible refine W.isLf ?_; refine ⟨_, rfl, ?_⟩)
    | (with_reducible refine W.isBr ?_; first | refine ⟨_, rfl, fun _ => ?_, fun hf => Bool.noConfusion hf⟩ | refine ⟨_, rfl, fun hf => Bool.noConfusion hf, fun _ => ?_⟩)
    | (with_reducible refine W.isBr2 ?_; first | refine ⟨_, rfl, fun _ => ?_, fun hf => Bool.noConfusion hf⟩ | refine ⟨_, rfl, fun hf => Bool.noConfusion hf, fun _ => ?_⟩)
    | (with_reducible refine W.isLfS ?_; refine ⟨_, _, (by assumption), rfl, fun hl => ?_⟩))
  refine W.en ?_
  rw [fin_same (by rw [a1.len, a.len])]
  exact Ok.ok ⟨⟨s, rfl, hs⟩, a1⟩
theorem Sounds.ne {s : List Nat} (hs : Sounds s) : s ≠ [] := by rcases hs with rfl | rfl | rfl <;> simp
theorem Sounds.len {s : List Nat} (hs : Sounds s) : s.length ≤ 3 := by rcases hs with rfl | rfl | rfl <;> simp
theorem Sounds.nodup {s : List Nat} (hs : Sounds s) : s.Nodup := by rcases hs with rfl | rfl | rfl <;> decide
theorem pool_ok (G : GT T) (ns : List Int) : Ok (callF T (d + 1) "" "_law_pool" [.fz (ns.map .int)] h) fun v h' => h' = h ∧ ∃ xs, v = .lv xs ∧ PoolOb (.lst xs) := by
  refine W.fn G.pool rfl ?_
  unfold b_law_pool
  simp only [startD, List.map_cons, List.map_nil, List.cons_append, List.nil_append, List.length_cons, List.length_nil, List.replicate, Nat.reduceAdd, Nat.reduceSub]
  repeat (first
    | with_reducible refine W.cons ?_ | with_reducible refine W.set ?_ | with_reducible refine W.ret ?_ | with_reducible refine W.cst ?_ | (with_reducible refine W.isVar ?_; refine W.var rfl ?_)
    | (with_reducible refine W.isGetR ?_; refine W.getR rfl (by assumption) rfl ?_) | (with_reducible refine W.isLenR ?_; refine W.lenR rfl (by assumption) ?_) | (with_reducible refine W.isSetR ?_; refine W.setR rfl ?_)
    | with_reducible refine W.o2 ?_ | with_reducible refine W.o1 ?_ | with_reducible refine W.call ?_ | with_reducible refine W.es ?_ | with_reducible refine W.es0 ?_ | with_reducible refine W.nx ?_ | with_reducible refine W.rt ?_ | with_reducible refine W.tup ?_ | with_reducible refine W.lst ?_
    | with_reducible refine W.slice ?_ | with_reducible refine W.val ?_ | with_reducible refine W.rng ?_ | with_reducible refine W.enu ?_ | with_reducible refine W.seti ?_ | with_reducible refine W.ts0 ?_ | with_reducible refine W.ts1 ?_ | with_reducible refine W.cond ?_ | with_reducible refine W.and ?_
    | with_reducible refine W.or ?_ | with_reducible refine W.ife ?_ | with_reducible refine W.nil ?_ | with_reducible refine W.par ?_ | with_reducible refine W.app ?_ | with_reducible refine W.ext ?_
    | (with_reducible refine W.isLt ?_; refine ⟨by simp, ?_⟩) | (with_reducible refine W.isMul ?_; refine ⟨_, W.mulK (by decide), ?_⟩) | (with_reducible refine W.isEq ?_; first | refine ⟨_, W.eqI, ?_⟩ | refine ⟨_, W.eqS, ?_⟩) | (with_reducible refine W.isNe ?_; first | refine ⟨_, W.neI, ?_⟩ | refine ⟨_, W.neS, ?_⟩)
    | (with_reducible refine W.isLf ?_; refine ⟨_, rfl, ?_⟩)
    | (with_reducible refine W.isBr ?_; first | refine ⟨_, rfl, fun _ => ?_, fun hf => Bool.noConfusion hf⟩ | refine ⟨_, rfl, fun hf => Bool.noConfusion hf, fun _ => ?_⟩)
    | (with_reducible refine W.isBr2 ?_; first | refine ⟨_, rfl, fun _ => ?_, fun hf => Bool.noConfusion hf⟩ | refine ⟨_, rfl, fun hf => Bool.noConfusion hf, fun _ => ?_⟩)
    | (with_reducible refine W.isLfS ?_; refine ⟨_, _, (by assumption), rfl, fun hl => ?_⟩))
  refine W.forr ?_
  repeat (first
    | with_reducible refine W.cons ?_ | with_reducible refine W.set ?_ | with_reducible refine W.ret ?_ | with_reducible refine W.cst ?_ | (with_reducible refine W.isVar ?_; refine W.var rfl ?_)
    | (with_reducible refine W.isGetR ?_; refine W.getR rfl (by assumption) rfl ?_) | (with_reducible refine W.isLenR ?_; refine W.lenR rfl (by assumption) ?_) | (with_reducible refine W.isSetR ?_; refine W.setR rfl ?_)
    | with_reducible refine W.o2 ?_ | with_reducible refine W.o1 ?_ | with_reducible refine W.call ?_ | with_reducible refine W.es ?_ | with_reducible refine W.es0 ?_ | with_reducible refine W.nx ?_ | with_reducible refine W.rt ?_ | with_reducible refine W.tup ?_ | with_reducible refine W.lst ?_
    | with_reducible refine W.slice ?_ | with_reducible refine W.val ?_ | with_reducible refine W.rng ?_ | with_reducible refine W.enu ?_ | with_reducible refine W.seti ?_ | with_reducible refine W.ts0 ?_ | with_reducible refine W.ts1 ?_ | with_reducible refine W.cond ?_ | with_reducible refine W.and ?_
    | with_reducible refine W.or ?_ | with_reducible refine W.ife ?_ | with_reducible refine W.nil ?_ | with_reducible refine W.par ?_ | with_reducible refine W.app ?_ | with_reducible refine W.ext ?_
    | (with_reducible refine W.isLt ?_; refine ⟨by simp, ?_⟩) | (with_reducible refine W.isMul ?_; refine ⟨_, W.mulK (by decide), ?_⟩) | (with_reducible refine W.isEq ?_; first | refine ⟨_, W.eqI, ?_⟩ | refine ⟨_, W.eqS, ?_⟩) | (with_reducible refine W.isNe ?_; first | refine ⟨_, W.neI, ?_⟩ | refine ⟨_, W.neS, ?_⟩)
    | (with_reducible refine W.isLf ?_; refine ⟨_, rfl, ?_⟩)
    | (with_reducible refine W.isBr ?_; first | refine ⟨_, rfl, fun _ => ?_, fun hf => Bool.noConfusion hf⟩ | refine ⟨_, rfl, fun hf => Bool.noConfusion hf, fun _ => ?_⟩)
    | (with_reducible refine W.isBr2 ?_; first | refine ⟨_, rfl, fun _ => ?_, fun hf => Bool.noConfusion hf⟩ | refine ⟨_, rfl, fun hf => Bool.noConfusion hf, fun _ => ?_⟩)
    | (with_reducible refine W.isLfS ?_; refine ⟨_, _, (by assumption), rfl, fun hl => ?_⟩))
  refine ⟨_, rfl, fun i σ h' => ∃ (n : Int) (o : Option D), σ = [some (.fz (ns.map .int)), some (.int n), o] ∧ h' = h, ⟨_, _, rfl, rfl⟩, fun _ _ _ _ => wat_nil _ _, ?_, ?_⟩
  · rintro i x σ h' hx ⟨n, o, rfl, rfl⟩
    have hm := List.mem_of_getElem? hx
    have hm2 : x ∈ ns.map D.int := by
      have := List.mem_of_mem_take hm
      exact List.mem_of_mem_drop this
    obtain ⟨m, _, rfl⟩ := List.mem_map.mp hm2
    refine ⟨_, rfl, ?_⟩
    repeat (first
    | with_reducible refine W.cons ?_ | with_reducible refine W.set ?_ | with_reducible refine W.ret ?_ | with_reducible refine W.cst ?_ | (with_reducible refine W.isVar ?_; refine W.var rfl ?_)
    | (with_reducible refine W.isGetR ?_; refine W.getR rfl (by assumption) rfl ?_) | (with_reducible refine W.isLenR ?_; refine W.lenR rfl (by assumption) ?_) | (with_reducible refine W.isSetR ?_; refine W.setR rfl ?_)
    | with_reducible refine W.o2 ?_ | with_reducible refine W.o1 ?_ | with_reducible refine W.call ?_ | with_reducible refine W.es ?_ | with_reducible refine W.es0 ?_ | with_reducible refine W.nx ?_ | with_reducible refine W.rt ?_ | with_reducible refine W.tup ?_ | with_reducible refine W.lst ?_
    | with_reducible refine W.slice ?_ | with_reducible refine W.val ?_ | with_reducible refine W.rng ?_ | with_reducible refine W.enu ?_ | with_reducible refine W.seti ?_ | with_reducible refine W.ts0 ?_ | with_reducible refine W.ts1 ?_ | with_reducible refine W.cond ?_ | with_reducible refine W.and ?_
    | with_reducible refine W.or ?_ | with_reducible refine W.ife ?_ | with_reducible refine W.nil ?_ | with_reducible refine W.par ?_ | with_reducible refine W.app ?_ | with_reducible refine W.ext ?_
    | (with_reducible refine W.isLt ?_; refine ⟨by simp, ?_⟩) | (with_reducible refine W.isMul ?_; refine ⟨_, W.mulK (by decide), ?_⟩) | (with_reducible refine W.isEq ?_; first | refine ⟨_, W.eqI, ?_⟩ | refine ⟨_, W.eqS, ?_⟩) | (with_reducible refine W.isNe ?_; first | refine ⟨_, W.neI, ?_⟩ | refine ⟨_, W.neS, ?_⟩)
    | (with_reducible refine W.isLf ?_; refine ⟨_, rfl, ?_⟩)
    | (with_reducible refine W.isBr ?_; first | refine ⟨_, rfl, fun _ => ?_, fun hf => Bool.noConfusion hf⟩ | refine ⟨_, rfl, fun hf => Bool.noConfusion hf, fun _ => ?_⟩)
    | (with_reducible refine W.isBr2 ?_; first | refine ⟨_, rfl, fun _ => ?_, fun hf => Bool.noConfusion hf⟩ | refine ⟨_, rfl, fun hf => Bool.noConfusion hf, fun _ => ?_⟩)
    | (with_reducible refine W.isLfS ?_; refine ⟨_, _, (by assumption), rfl, fun hl => ?_⟩))
    exact ⟨_, _, rfl, rfl⟩
  · rintro σ h' ⟨n, o, rfl, rfl⟩
    repeat (first
    | with_reducible refine W.cons ?_ | with_reducible refine W.set ?_ | with_reducible refine W.ret ?_ | with_reducible refine W.cst ?_ | (with_reducible refine W.isVar ?_; refine W.var rfl ?_)
    | (with_reducible refine W.isGetR ?_; refine W.getR rfl (by assumption) rfl ?_) | (with_reducible refine W.isLenR ?_; refine W.lenR rfl (by assumption) ?_) | (with_reducible refine W.isSetR ?_; refine W.setR rfl ?_)
    | with_reducible refine W.o2 ?_ | with_reducible refine W.o1 ?_ | with_reducible refine W.call ?_ | with_reducible refine W.es ?_ | with_reducible refine W.es0 ?_ | with_reducible refine W.nx ?_ | with_reducible refine W.rt ?_ | with_reducible refine W.tup ?_ | with_reducible refine W.lst ?_
    | with_reducible refine W.slice ?_ | with_reducible refine W.val ?_ | with_reducible refine W.rng ?_ | with_reducible refine W.enu ?_ | with_reducible refine W.seti ?_ | with_reducible refine W.ts0 ?_ | with_reducible refine W.ts1 ?_ | with_reducible refine W.cond ?_ | with_reducible refine W.and ?_
    | with_reducible refine W.or ?_ | with_reducible refine W.ife ?_ | with_reducible refine W.nil ?_ | with_reducible refine W.par ?_ | with_reducible refine W.app ?_ | with_reducible refine W.ext ?_
    | (with_reducible refine W.isLt ?_; refine ⟨by simp, ?_⟩) | (with_reducible refine W.isMul ?_; refine ⟨_, W.mulK (by decide), ?_⟩) | (with_reducible refine W.isEq ?_; first | refine ⟨_, W.eqI, ?_⟩ | refine ⟨_, W.eqS, ?_⟩) | (with_reducible refine W.isNe ?_; first | refine ⟨_, W.neI, ?_⟩ | refine ⟨_, W.neS, ?_⟩)
    | (with_reducible refine W.isLf ?_; refine ⟨_, rfl, ?_⟩)
    | (with_reducible refine W.isBr ?_; first | refine ⟨_, rfl, fun _ => ?_, fun hf => Bool.noConfusion hf⟩ | refine ⟨_, rfl, fun hf => Bool.noConfusion hf, fun _ => ?_⟩)
    | (with_reducible refine W.isBr2 ?_; first | refine ⟨_, rfl, fun _ => ?_, fun hf => Bool.noConfusion hf⟩ | refine ⟨_, rfl, fun hf => Bool.noConfusion hf, fun _ => ?_⟩)
    | (with_reducible refine W.isLfS ?_; refine ⟨_, _, (by assumption), rfl, fun hl => ?_⟩))
    refine W.en ?_
    rw [fin_self]
    exact Ok.ok ⟨rfl, _, rfl, ns, 0, 0, 0, n, rfl, by decide⟩
end
end Gen
end Sd

/-! GenB: what is the same is told to be the same. -/
namespace Sd
namespace Gen
section
variable {T : Tb} {d : Nat} {h : Hh}
/-- plain data: no dicts, no objects, at most n deep -/
def dat : Nat → D → Bool
  | _, .non => true
  | _, .bl _ => true
  | _, .int _ => true
  | _, .str _ => true
  | n + 1, .tup xs => xs.all (dat n) && decide (xs.length ≤ 1000000)
  | n + 1, .fz xs => xs.all (dat n) && decide (xs.length ≤ 1000000)
  | _, _ => false
theorem dat_keep {n : Nat} {x : D} (hx : dat n x = true) : x.keep = x := by
  cases x <;> first | rfl | (cases n <;> simp [dat] at hx)
theorem same_items {n : Nat} {xs : List D} {v u : D} {R : Fl → Hh → Prop} (r : R (.rt (.bl true)) h) (ih : ∀ x ∈ xs, Ok (callF T (d + n + 1) "" "_law_same" [x, x] h) fun v h' => v = .bl true ∧ h' = h) (hkx : ∀ x ∈ xs, x.keep = x) (hl : xs.length ≤ 1000000)
    (hlen : o1F .len h u = some (.int xs.length)) (hidx : ∀ i : Nat, o2F .idx h v (.int (0 + (i : Nat))) = atI xs (0 + (i : Nat))) (hidu : ∀ i : Nat, o2F .idx h u (.int (0 + (i : Nat))) = atI xs (0 + (i : Nat))) :
    Ok (evSs (callF T (d + n + 1)) [(.ret (.o2 .eq (.o1 .len (.comp [2] (.var 2) (.n 2) (.rng (.o1 .len (.var 1))) [(.o1 .not (.call "" "_law_same" [(.o2 .idx (.var 0) (.var 2)), (.o2 .idx (.var 1) (.var 2))]))])) (.cst (.int 0))))] [some v, some u, none] h)
      R := by
  refine W.cons (W.ret (W.o2 (W.o1 (W.compM (fun _ => []) (W.rng (W.o1 (W.var rfl ?_)))))))
  have hnil : (rngD 0 xs.length).flatMap (fun _ => ([] : List D)) = [] := by simp
  refine ⟨_, hlen, _, rfl, ?_, ?_, ?_, ?_⟩
  · simp only [small, Bool.and_eq_true, decide_eq_true_eq]; omega
  · intro x hx
    obtain ⟨i, hi⟩ := List.getElem?_of_mem hx
    obtain ⟨rfl, hlt⟩ := rng_get hi
    have hlt' : i < xs.length := by omega
    have e0 : atI xs (0 + (i : Nat)) = some xs[i] := by
      obtain ⟨y, e1, e2⟩ := W.atI_some (xs := xs) (i := 0 + (i : Nat)) (by omega) (by omega)
      rw [e1, ← e2]
      rw [show ((0 : Int) + (i : Nat)).toNat = i by omega]
      exact List.getElem?_eq_getElem hlt'
    have hk := hkx _ (List.getElem_mem hlt')
    refine ⟨_, rfl, ?_⟩
    refine W.ts1 (W.o1 (W.call (W.es (W.o2 (W.var rfl (W.var rfl ⟨xs[i], by rw [hidx, e0], W.es (W.o2 (W.var rfl (W.var rfl ⟨xs[i], by rw [hidu, e0], W.es0 ?_⟩)))⟩))))))
    rw [hk]
    refine (ih _ (List.getElem_mem hlt')).mono fun v h' q => ?_
    obtain ⟨rfl, rfl⟩ := q
    repeat (first
    | with_reducible refine W.cons ?_ | with_reducible refine W.set ?_ | with_reducible refine W.ret ?_ | with_reducible refine W.cst ?_ | (with_reducible refine W.isVar ?_; refine W.var rfl ?_)
    | (with_reducible refine W.isGetR ?_; refine W.getR rfl (by assumption) rfl ?_) | (with_reducible refine W.isLenR ?_; refine W.lenR rfl (by assumption) ?_) | (with_reducible refine W.isSetR ?_; refine W.setR rfl ?_)
    | with_reducible refine W.o2 ?_ | with_reducible refine W.o1 ?_ | with_reducible refine W.call ?_ | with_reducible refine W.es ?_ | with_reducible refine W.es0 ?_ | with_reducible refine W.nx ?_ | with_reducible refine W.rt ?_ | with_reducible refine W.tup ?_ | with_reducible refine W.lst ?_
    | with_reducible refine W.slice ?_ | with_reducible refine W.val ?_ | with_reducible refine W.rng ?_ | with_reducible refine W.enu ?_ | with_reducible refine W.seti ?_ | with_reducible refine W.ts0 ?_ | with_reducible refine W.ts1 ?_ | with_reducible refine W.cond ?_ | with_reducible refine W.and ?_
    | with_reducible refine W.or ?_ | with_reducible refine W.ife ?_ | with_reducible refine W.nil ?_ | with_reducible refine W.par ?_ | with_reducible refine W.app ?_ | with_reducible refine W.ext ?_
    | (with_reducible refine W.isLt ?_; refine ⟨by simp, ?_⟩) | (with_reducible refine W.isMul ?_; refine ⟨_, W.mulK (by decide), ?_⟩) | (with_reducible refine W.isEq ?_; first | refine ⟨_, W.eqI, ?_⟩ | refine ⟨_, W.eqS, ?_⟩) | (with_reducible refine W.isNe ?_; first | refine ⟨_, W.neI, ?_⟩ | refine ⟨_, W.neS, ?_⟩)
    | (with_reducible refine W.isLf ?_; refine ⟨_, rfl, ?_⟩)
    | (with_reducible refine W.isBr ?_; first | refine ⟨_, rfl, fun _ => ?_, fun hf => Bool.noConfusion hf⟩ | refine ⟨_, rfl, fun hf => Bool.noConfusion hf, fun _ => ?_⟩)
    | (with_reducible refine W.isBr2 ?_; first | refine ⟨_, rfl, fun _ => ?_, fun hf => Bool.noConfusion hf⟩ | refine ⟨_, rfl, fun hf => Bool.noConfusion hf, fun _ => ?_⟩)
    | (with_reducible refine W.isLfS ?_; refine ⟨_, _, (by assumption), rfl, fun hl => ?_⟩))
    exact ⟨rfl, rfl⟩
  · rw [hnil]; simp [line]
  · rw [hnil]
    refine ⟨_, rfl, ?_⟩
    repeat (first
    | with_reducible refine W.set ?_ | with_reducible refine W.ret ?_ | with_reducible refine W.cst ?_ | (with_reducible refine W.isVar ?_; refine W.var rfl ?_)
    | (with_reducible refine W.isGetR ?_; refine W.getR rfl (by assumption) rfl ?_) | (with_reducible refine W.isLenR ?_; refine W.lenR rfl (by assumption) ?_) | (with_reducible refine W.isSetR ?_; refine W.setR rfl ?_)
    | with_reducible refine W.o2 ?_ | with_reducible refine W.o1 ?_ | with_reducible refine W.call ?_ | with_reducible refine W.es ?_ | with_reducible refine W.es0 ?_ | with_reducible refine W.rt ?_ | with_reducible refine W.tup ?_ | with_reducible refine W.lst ?_
    | with_reducible refine W.slice ?_ | with_reducible refine W.val ?_ | with_reducible refine W.rng ?_ | with_reducible refine W.enu ?_ | with_reducible refine W.seti ?_ | with_reducible refine W.ts0 ?_ | with_reducible refine W.ts1 ?_ | with_reducible refine W.cond ?_ | with_reducible refine W.and ?_
    | with_reducible refine W.or ?_ | with_reducible refine W.ife ?_ | with_reducible refine W.nil ?_ | with_reducible refine W.par ?_ | with_reducible refine W.app ?_ | with_reducible refine W.ext ?_
    | (with_reducible refine W.isLt ?_; refine ⟨by simp, ?_⟩) | (with_reducible refine W.isMul ?_; refine ⟨_, W.mulK (by decide), ?_⟩) | (with_reducible refine W.isEq ?_; first | refine ⟨_, W.eqI, ?_⟩ | refine ⟨_, W.eqS, ?_⟩) | (with_reducible refine W.isNe ?_; first | refine ⟨_, W.neI, ?_⟩ | refine ⟨_, W.neS, ?_⟩)
    | (with_reducible refine W.isLf ?_; refine ⟨_, rfl, ?_⟩)
    | (with_reducible refine W.isBr ?_; first | refine ⟨_, rfl, fun _ => ?_, fun hf => Bool.noConfusion hf⟩ | refine ⟨_, rfl, fun hf => Bool.noConfusion hf, fun _ => ?_⟩)
    | (with_reducible refine W.isBr2 ?_; first | refine ⟨_, rfl, fun _ => ?_, fun hf => Bool.noConfusion hf⟩ | refine ⟨_, rfl, fun hf => Bool.noConfusion hf, fun _ => ?_⟩)
    | (with_reducible refine W.isLfS ?_; refine ⟨_, _, (by assumption), rfl, fun hl => ?_⟩))
    exact r
theorem same_leaf (G : GT T) (x : D) (hx : dat 0 x = true) : Ok (callF T (d + 1) "" "_law_same" [x, x] h) fun v h' => v = .bl true ∧ h' = h := by
  refine W.fn G.same rfl ?_
  unfold b_law_same
  simp only [startD, List.map_cons, List.map_nil, List.cons_append, List.nil_append, List.length_cons, List.length_nil, List.replicate, Nat.reduceAdd, Nat.reduceSub]
  cases x with
  | non =>
    repeat (first
    | with_reducible refine W.cons ?_ | with_reducible refine W.set ?_ | with_reducible refine W.ret ?_ | with_reducible refine W.cst ?_ | (with_reducible refine W.isVar ?_; refine W.var rfl ?_)
    | (with_reducible refine W.isGetR ?_; refine W.getR rfl (by assumption) rfl ?_) | (with_reducible refine W.isLenR ?_; refine W.lenR rfl (by assumption) ?_) | (with_reducible refine W.isSetR ?_; refine W.setR rfl ?_)
    | with_reducible refine W.o2 ?_ | with_reducible refine W.o1 ?_ | with_reducible refine W.call ?_ | with_reducible refine W.es ?_ | with_reducible refine W.es0 ?_ | with_reducible refine W.nx ?_ | with_reducible refine W.rt ?_ | with_reducible refine W.tup ?_ | with_reducible refine W.lst ?_
    | with_reducible refine W.slice ?_ | with_reducible refine W.val ?_ | with_reducible refine W.rng ?_ | with_reducible refine W.enu ?_ | with_reducible refine W.seti ?_ | with_reducible refine W.ts0 ?_ | with_reducible refine W.ts1 ?_ | with_reducible refine W.cond ?_ | with_reducible refine W.and ?_
    | with_reducible refine W.or ?_ | with_reducible refine W.ife ?_ | with_reducible refine W.nil ?_ | with_reducible refine W.par ?_ | with_reducible refine W.app ?_ | with_reducible refine W.ext ?_
    | (with_reducible refine W.isLt ?_; refine ⟨by simp, ?_⟩) | (with_reducible refine W.isMul ?_; refine ⟨_, W.mulK (by decide), ?_⟩) | (with_reducible refine W.isEq ?_; first | refine ⟨_, W.eqI, ?_⟩ | refine ⟨_, W.eqS, ?_⟩) | (with_reducible refine W.isNe ?_; first | refine ⟨_, W.neI, ?_⟩ | refine ⟨_, W.neS, ?_⟩)
    | (with_reducible refine W.isLf ?_; refine ⟨_, rfl, ?_⟩)
    | (with_reducible refine W.isBr ?_; first | refine ⟨_, rfl, fun _ => ?_, fun hf => Bool.noConfusion hf⟩ | refine ⟨_, rfl, fun hf => Bool.noConfusion hf, fun _ => ?_⟩)
    | (with_reducible refine W.isBr2 ?_; first | refine ⟨_, rfl, fun _ => ?_, fun hf => Bool.noConfusion hf⟩ | refine ⟨_, rfl, fun hf => Bool.noConfusion hf, fun _ => ?_⟩)
    | (with_reducible refine W.isLfS ?_; refine ⟨_, _, (by assumption), rfl, fun hl => ?_⟩))
    refine W.en ?_
    rw [fin_self]
    exact Ok.ok ⟨rfl, rfl⟩
  | bl b =>
    cases b <;> (
      repeat (first
    | with_reducible refine W.cons ?_ | with_reducible refine W.set ?_ | with_reducible refine W.ret ?_ | with_reducible refine W.cst ?_ | (with_reducible refine W.isVar ?_; refine W.var rfl ?_)
    | (with_reducible refine W.isGetR ?_; refine W.getR rfl (by assumption) rfl ?_) | (with_reducible refine W.isLenR ?_; refine W.lenR rfl (by assumption) ?_) | (with_reducible refine W.isSetR ?_; refine W.setR rfl ?_)
    | with_reducible refine W.o2 ?_ | with_reducible refine W.o1 ?_ | with_reducible refine W.call ?_ | with_reducible refine W.es ?_ | with_reducible refine W.es0 ?_ | with_reducible refine W.nx ?_ | with_reducible refine W.rt ?_ | with_reducible refine W.tup ?_ | with_reducible refine W.lst ?_
    | with_reducible refine W.slice ?_ | with_reducible refine W.val ?_ | with_reducible refine W.rng ?_ | with_reducible refine W.enu ?_ | with_reducible refine W.seti ?_ | with_reducible refine W.ts0 ?_ | with_reducible refine W.ts1 ?_ | with_reducible refine W.cond ?_ | with_reducible refine W.and ?_
    | with_reducible refine W.or ?_ | with_reducible refine W.ife ?_ | with_reducible refine W.nil ?_ | with_reducible refine W.par ?_ | with_reducible refine W.app ?_ | with_reducible refine W.ext ?_
    | (with_reducible refine W.isLt ?_; refine ⟨by simp, ?_⟩) | (with_reducible refine W.isMul ?_; refine ⟨_, W.mulK (by decide), ?_⟩) | (with_reducible refine W.isEq ?_; first | refine ⟨_, W.eqI, ?_⟩ | refine ⟨_, W.eqS, ?_⟩) | (with_reducible refine W.isNe ?_; first | refine ⟨_, W.neI, ?_⟩ | refine ⟨_, W.neS, ?_⟩)
    | (with_reducible refine W.isLf ?_; refine ⟨_, rfl, ?_⟩)
    | (with_reducible refine W.isBr ?_; first | refine ⟨_, rfl, fun _ => ?_, fun hf => Bool.noConfusion hf⟩ | refine ⟨_, rfl, fun hf => Bool.noConfusion hf, fun _ => ?_⟩)
    | (with_reducible refine W.isBr2 ?_; first | refine ⟨_, rfl, fun _ => ?_, fun hf => Bool.noConfusion hf⟩ | refine ⟨_, rfl, fun hf => Bool.noConfusion hf, fun _ => ?_⟩)
    | (with_reducible refine W.isLfS ?_; refine ⟨_, _, (by assumption), rfl, fun hl => ?_⟩))
      refine W.en ?_
      rw [fin_self]
      exact Ok.ok ⟨rfl, rfl⟩)
  | int i =>
    repeat (first
    | with_reducible refine W.cons ?_ | with_reducible refine W.set ?_ | with_reducible refine W.ret ?_ | with_reducible refine W.cst ?_ | (with_reducible refine W.isVar ?_; refine W.var rfl ?_)
    | (with_reducible refine W.isGetR ?_; refine W.getR rfl (by assumption) rfl ?_) | (with_reducible refine W.isLenR ?_; refine W.lenR rfl (by assumption) ?_) | (with_reducible refine W.isSetR ?_; refine W.setR rfl ?_)
    | with_reducible refine W.o2 ?_ | with_reducible refine W.o1 ?_ | with_reducible refine W.call ?_ | with_reducible refine W.es ?_ | with_reducible refine W.es0 ?_ | with_reducible refine W.nx ?_ | with_reducible refine W.rt ?_ | with_reducible refine W.tup ?_ | with_reducible refine W.lst ?_
    | with_reducible refine W.slice ?_ | with_reducible refine W.val ?_ | with_reducible refine W.rng ?_ | with_reducible refine W.enu ?_ | with_reducible refine W.seti ?_ | with_reducible refine W.ts0 ?_ | with_reducible refine W.ts1 ?_ | with_reducible refine W.cond ?_ | with_reducible refine W.and ?_
    | with_reducible refine W.or ?_ | with_reducible refine W.ife ?_ | with_reducible refine W.nil ?_ | with_reducible refine W.par ?_ | with_reducible refine W.app ?_ | with_reducible refine W.ext ?_
    | (with_reducible refine W.isLt ?_; refine ⟨by simp, ?_⟩) | (with_reducible refine W.isMul ?_; refine ⟨_, W.mulK (by decide), ?_⟩) | (with_reducible refine W.isEq ?_; first | refine ⟨_, W.eqI, ?_⟩ | refine ⟨_, W.eqS, ?_⟩) | (with_reducible refine W.isNe ?_; first | refine ⟨_, W.neI, ?_⟩ | refine ⟨_, W.neS, ?_⟩)
    | (with_reducible refine W.isLf ?_; refine ⟨_, rfl, ?_⟩)
    | (with_reducible refine W.isBr ?_; first | refine ⟨_, rfl, fun _ => ?_, fun hf => Bool.noConfusion hf⟩ | refine ⟨_, rfl, fun hf => Bool.noConfusion hf, fun _ => ?_⟩)
    | (with_reducible refine W.isBr2 ?_; first | refine ⟨_, rfl, fun _ => ?_, fun hf => Bool.noConfusion hf⟩ | refine ⟨_, rfl, fun hf => Bool.noConfusion hf, fun _ => ?_⟩)
    | (with_reducible refine W.isLfS ?_; refine ⟨_, _, (by assumption), rfl, fun hl => ?_⟩))
    refine W.en ?_
    rw [fin_self]
    exact Ok.ok ⟨by simp [D.keep], rfl⟩
  | str i =>
    repeat (first
    | with_reducible refine W.cons ?_ | with_reducible refine W.set ?_ | with_reducible refine W.ret ?_ | with_reducible refine W.cst ?_ | (with_reducible refine W.isVar ?_; refine W.var rfl ?_)
    | (with_reducible refine W.isGetR ?_; refine W.getR rfl (by assumption) rfl ?_) | (with_reducible refine W.isLenR ?_; refine W.lenR rfl (by assumption) ?_) | (with_reducible refine W.isSetR ?_; refine W.setR rfl ?_)
    | with_reducible refine W.o2 ?_ | with_reducible refine W.o1 ?_ | with_reducible refine W.call ?_ | with_reducible refine W.es ?_ | with_reducible refine W.es0 ?_ | with_reducible refine W.nx ?_ | with_reducible refine W.rt ?_ | with_reducible refine W.tup ?_ | with_reducible refine W.lst ?_
    | with_reducible refine W.slice ?_ | with_reducible refine W.val ?_ | with_reducible refine W.rng ?_ | with_reducible refine W.enu ?_ | with_reducible refine W.seti ?_ | with_reducible refine W.ts0 ?_ | with_reducible refine W.ts1 ?_ | with_reducible refine W.cond ?_ | with_reducible refine W.and ?_
    | with_reducible refine W.or ?_ | with_reducible refine W.ife ?_ | with_reducible refine W.nil ?_ | with_reducible refine W.par ?_ | with_reducible refine W.app ?_ | with_reducible refine W.ext ?_
    | (with_reducible refine W.isLt ?_; refine ⟨by simp, ?_⟩) | (with_reducible refine W.isMul ?_; refine ⟨_, W.mulK (by decide), ?_⟩) | (with_reducible refine W.isEq ?_; first | refine ⟨_, W.eqI, ?_⟩ | refine ⟨_, W.eqS, ?_⟩) | (with_reducible refine W.isNe ?_; first | refine ⟨_, W.neI, ?_⟩ | refine ⟨_, W.neS, ?_⟩)
    | (with_reducible refine W.isLf ?_; refine ⟨_, rfl, ?_⟩)
    | (with_reducible refine W.isBr ?_; first | refine ⟨_, rfl, fun _ => ?_, fun hf => Bool.noConfusion hf⟩ | refine ⟨_, rfl, fun hf => Bool.noConfusion hf, fun _ => ?_⟩)
    | (with_reducible refine W.isBr2 ?_; first | refine ⟨_, rfl, fun _ => ?_, fun hf => Bool.noConfusion hf⟩ | refine ⟨_, rfl, fun hf => Bool.noConfusion hf, fun _ => ?_⟩)
    | (with_reducible refine W.isLfS ?_; refine ⟨_, _, (by assumption), rfl, fun hl => ?_⟩))
    refine W.en ?_
    rw [fin_self]
    exact Ok.ok ⟨by simp [D.keep], rfl⟩
  | _ => simp [dat] at hx
theorem same_ok (G : GT T) : ∀ (n : Nat) (x : D), dat n x = true → Ok (callF T (d + n + 1) "" "_law_same" [x, x] h) fun v h' => v = .bl true ∧ h' = h := by
  intro n
  induction n with
  | zero => exact fun x hx => same_leaf G x hx
  | succ n ih =>
    intro x hx
    cases x with
    | fz xs =>
      simp only [dat, Bool.and_eq_true, List.all_eq_true, decide_eq_true_eq] at hx
      refine W.fn G.same rfl ?_
      unfold b_law_same
      simp only [startD, List.map_cons, List.map_nil, List.cons_append, List.nil_append, List.length_cons, List.length_nil, List.replicate, Nat.reduceAdd, Nat.reduceSub]
      repeat (first
    | with_reducible refine W.cons ?_ | with_reducible refine W.set ?_ | with_reducible refine W.ret ?_ | with_reducible refine W.cst ?_ | (with_reducible refine W.isVar ?_; refine W.var rfl ?_)
    | (with_reducible refine W.isGetR ?_; refine W.getR rfl (by assumption) rfl ?_) | (with_reducible refine W.isLenR ?_; refine W.lenR rfl (by assumption) ?_) | (with_reducible refine W.isSetR ?_; refine W.setR rfl ?_)
    | with_reducible refine W.o2 ?_ | with_reducible refine W.o1 ?_ | with_reducible refine W.call ?_ | with_reducible refine W.es ?_ | with_reducible refine W.es0 ?_ | with_reducible refine W.nx ?_ | with_reducible refine W.rt ?_ | with_reducible refine W.tup ?_ | with_reducible refine W.lst ?_
    | with_reducible refine W.slice ?_ | with_reducible refine W.val ?_ | with_reducible refine W.rng ?_ | with_reducible refine W.enu ?_ | with_reducible refine W.seti ?_ | with_reducible refine W.ts0 ?_ | with_reducible refine W.ts1 ?_ | with_reducible refine W.cond ?_ | with_reducible refine W.and ?_
    | with_reducible refine W.or ?_ | with_reducible refine W.ife ?_ | with_reducible refine W.nil ?_ | with_reducible refine W.par ?_ | with_reducible refine W.app ?_ | with_reducible refine W.ext ?_
    | (with_reducible refine W.isLt ?_; refine ⟨by simp, ?_⟩) | (with_reducible refine W.isMul ?_; refine ⟨_, W.mulK (by decide), ?_⟩) | (with_reducible refine W.isEq ?_; first | refine ⟨_, W.eqI, ?_⟩ | refine ⟨_, W.eqS, ?_⟩) | (with_reducible refine W.isNe ?_; first | refine ⟨_, W.neI, ?_⟩ | refine ⟨_, W.neS, ?_⟩)
    | (with_reducible refine W.isLf ?_; refine ⟨_, rfl, ?_⟩)
    | (with_reducible refine W.isBr ?_; first | refine ⟨_, rfl, fun _ => ?_, fun hf => Bool.noConfusion hf⟩ | refine ⟨_, rfl, fun hf => Bool.noConfusion hf, fun _ => ?_⟩)
    | (with_reducible refine W.isBr2 ?_; first | refine ⟨_, rfl, fun _ => ?_, fun hf => Bool.noConfusion hf⟩ | refine ⟨_, rfl, fun hf => Bool.noConfusion hf, fun _ => ?_⟩)
    | (with_reducible refine W.isLfS ?_; refine ⟨_, _, (by assumption), rfl, fun hl => ?_⟩))
      refine ⟨_, rfl, fun hf => absurd hf (by simp), fun _ => ?_⟩
      refine W.nil (W.nx ?_)
      have hend : W.En h (fun v h' => v = .bl true ∧ h' = h) (.rt (.bl true)) h := by
        refine W.en ?_
        rw [fin_self]
        exact Ok.ok ⟨rfl, rfl⟩
      exact same_items (T := T) (d := d) (h := h) (v := .fz xs) (u := .fz xs) (W.rt hend) (fun x hm => ih x (hx.1 x hm)) (fun x hm => dat_keep (hx.1 x hm)) hx.2 rfl (fun _ => rfl) (fun _ => rfl)
    | tup xs =>
      simp only [dat, Bool.and_eq_true, List.all_eq_true, decide_eq_true_eq] at hx
      refine W.fn G.same rfl ?_
      unfold b_law_same
      simp only [startD, List.map_cons, List.map_nil, List.cons_append, List.nil_append, List.length_cons, List.length_nil, List.replicate, Nat.reduceAdd, Nat.reduceSub]
      repeat (first
    | with_reducible refine W.cons ?_ | with_reducible refine W.set ?_ | with_reducible refine W.ret ?_ | with_reducible refine W.cst ?_ | (with_reducible refine W.isVar ?_; refine W.var rfl ?_)
    | (with_reducible refine W.isGetR ?_; refine W.getR rfl (by assumption) rfl ?_) | (with_reducible refine W.isLenR ?_; refine W.lenR rfl (by assumption) ?_) | (with_reducible refine W.isSetR ?_; refine W.setR rfl ?_)
    | with_reducible refine W.o2 ?_ | with_reducible refine W.o1 ?_ | with_reducible refine W.call ?_ | with_reducible refine W.es ?_ | with_reducible refine W.es0 ?_ | with_reducible refine W.nx ?_ | with_reducible refine W.rt ?_ | with_reducible refine W.tup ?_ | with_reducible refine W.lst ?_
    | with_reducible refine W.slice ?_ | with_reducible refine W.val ?_ | with_reducible refine W.rng ?_ | with_reducible refine W.enu ?_ | with_reducible refine W.seti ?_ | with_reducible refine W.ts0 ?_ | with_reducible refine W.ts1 ?_ | with_reducible refine W.cond ?_ | with_reducible refine W.and ?_
    | with_reducible refine W.or ?_ | with_reducible refine W.ife ?_ | with_reducible refine W.nil ?_ | with_reducible refine W.par ?_ | with_reducible refine W.app ?_ | with_reducible refine W.ext ?_
    | (with_reducible refine W.isLt ?_; refine ⟨by simp, ?_⟩) | (with_reducible refine W.isMul ?_; refine ⟨_, W.mulK (by decide), ?_⟩) | (with_reducible refine W.isEq ?_; first | refine ⟨_, W.eqI, ?_⟩ | refine ⟨_, W.eqS, ?_⟩) | (with_reducible refine W.isNe ?_; first | refine ⟨_, W.neI, ?_⟩ | refine ⟨_, W.neS, ?_⟩)
    | (with_reducible refine W.isLf ?_; refine ⟨_, rfl, ?_⟩)
    | (with_reducible refine W.isBr ?_; first | refine ⟨_, rfl, fun _ => ?_, fun hf => Bool.noConfusion hf⟩ | refine ⟨_, rfl, fun hf => Bool.noConfusion hf, fun _ => ?_⟩)
    | (with_reducible refine W.isBr2 ?_; first | refine ⟨_, rfl, fun _ => ?_, fun hf => Bool.noConfusion hf⟩ | refine ⟨_, rfl, fun hf => Bool.noConfusion hf, fun _ => ?_⟩)
    | (with_reducible refine W.isLfS ?_; refine ⟨_, _, (by assumption), rfl, fun hl => ?_⟩))
      refine ⟨_, rfl, fun hf => absurd hf (by simp), fun _ => ?_⟩
      refine W.nil (W.nx ?_)
      have hend : W.En h (fun v h' => v = .bl true ∧ h' = h) (.rt (.bl true)) h := by
        refine W.en ?_
        rw [fin_self]
        exact Ok.ok ⟨rfl, rfl⟩
      exact same_items (T := T) (d := d) (h := h) (v := .tup xs) (u := .tup xs) (W.rt hend) (fun x hm => ih x (hx.1 x hm)) (fun x hm => dat_keep (hx.1 x hm)) hx.2 rfl (fun _ => rfl) (fun _ => rfl)
    | lv _ => simp [dat] at hx
    | fd _ _ => simp [dat] at hx
    | dv _ _ => simp [dat] at hx
    | ref _ => simp [dat] at hx
    | _ =>
      rw [show d + (n + 1) + 1 = (d + (n + 1)) + 1 from rfl]
      exact same_leaf G _ rfl
/-- a list and one that may change, of the same items -/
theorem same_ref (G : GT T) {n : Nat} {xs : List D} {l : Nat} (hx : ∀ x ∈ xs, dat n x = true) (hl : xs.length ≤ 1000000) (hr : h[l]? = some (.lst xs)) : Ok (callF T (d + (n + 1) + 1) "" "_law_same" [.fz xs, .ref l] h) fun v h' => v = .bl true ∧ h' = h := by
  have i1 : o1F (.isi .tup) h (.ref l) = some (.bl false) := by simp only [o1F, isTy, hr, Option.map_some]; rfl
  have i2 : o1F (.isi .lst) h (.ref l) = some (.bl true) := by simp only [o1F, isTy, hr, Option.map_some]; rfl
  have i3 : o1F .len h (.ref l) = some (.int xs.length) := by simp only [o1F, seqs, items, hr]
  refine W.fn G.same rfl ?_
  unfold b_law_same
  simp only [startD, List.map_cons, List.map_nil, List.cons_append, List.nil_append, List.length_cons, List.length_nil, List.replicate, Nat.reduceAdd, Nat.reduceSub]
  refine W.cons (W.cond (W.or (W.o1 (W.var rfl ⟨_, i1, _, rfl, fun _ => W.o1 (W.var rfl ⟨_, i2, _, rfl, fun _ => ?_, fun hf => Bool.noConfusion hf⟩), fun hf => Bool.noConfusion hf⟩))))
  refine W.cons (W.cond (W.or (W.o2 (W.o1 (W.var rfl ⟨_, i1, W.o1 (W.var rfl ⟨_, rfl, _, rfl, _, rfl, fun _ => W.o2 (W.o1 (W.var rfl ⟨_, i2, W.o1 (W.var rfl ⟨_, rfl, _, rfl, _, rfl, fun hf => Bool.noConfusion hf, fun _ => W.nil (W.nx ?_)⟩)⟩)), fun hf => Bool.noConfusion hf⟩)⟩)))))
  refine W.cons (W.cond (W.o2 (W.o1 (W.var rfl ⟨_, rfl, W.o1 (W.var rfl ⟨_, i3, _, W.neI, _, rfl, fun hf => absurd hf (by simp), fun _ => W.nil (W.nx ?_)⟩)⟩))))
  have hend : W.En h (fun v h' => v = .bl true ∧ h' = h) (.rt (.bl true)) h := by
    refine W.en ?_
    rw [fin_self]
    exact Ok.ok ⟨rfl, rfl⟩
  exact same_items (T := T) (d := d) (n := n) (h := h) (v := .fz xs) (u := .ref l) (W.rt hend) (fun x hm => same_ok G n x (hx x hm)) (fun x hm => dat_keep (hx x hm)) hl i3 (fun _ => rfl) (fun i => by simp only [o2F, seqs, items, hr])
end
end Gen
end Sd

/-! WordP: words led by rules: the program's defs and the law's. -/
namespace Sd
namespace Gen
/-- slots_hold: 0 word, 1 place, 2 slots, 3 k, 4 slot, 5 at, 6 here -/
def b_slots_hold : List S := [
  (.forr (.t [3, 4]) (.enu (.var 2)) [(.set (.n 5) (.o2 .add (.var 1) (.var 3))), (.set (.n 6) (.ife (.chn .le .lt (.cst (.int 0)) (.var 5) (.o1 .len (.var 0))) (.o2 .idx (.var 0) (.var 5)) (.cst (.str [35])))), (.cond (.o2 .notin (.var 6) (.var 4)) [(.ret (.cst (.bl false)))] [])]),
  (.ret (.cst (.bl true)))]
/-- applies: 0 rule, 1 word, 2 place, 3 changes, 4 before, 5 behind, 6 one, 7 _ -/
def b_applies : List S := [
  (.set (.t [3, 4, 5]) (.var 0)),
  (.cond (.o2 .notin (.o2 .idx (.var 1) (.var 2)) (.comp [6, 7] (.var 6) (.t [6, 7]) (.val (.var 3)) [])) [(.ret (.cst (.bl false)))] []),
  (.ret (.and (.call "" "slots_hold" [(.var 1), (.o2 .sub (.var 2) (.o1 .len (.var 4))), (.var 4)]) (.call "" "slots_hold" [(.var 1), (.o2 .add (.var 2) (.cst (.int 1))), (.var 5)])))]
/-- changed: 0 rule, 1 word, 2 known, 3 place, 4 one -/
def b_changed : List S := [
  (.set (.n 2) (.o1 .dict (.o2 .idx (.var 0) (.cst (.int 0))))),
  (.ret (.o2 .join (.cst (.str [])) (.comp [3, 4] (.ife (.call "" "applies" [(.var 0), (.var 1), (.var 3)]) (.o2 .idx (.var 2) (.var 4)) (.var 4)) (.t [3, 4]) (.enu (.var 1)) [])))]
/-- led: 0 history, 1 word, 2 rule -/
def b_led : List S := [
  (.forr (.n 2) (.val (.var 0)) [(.set (.n 1) (.call "" "changed" [(.var 2), (.var 1)]))]),
  (.ret (.var 1))]
/-- stages: 0 history, 1 word, 2 found, 3 rule -/
def b_stages : List S := [
  (.set (.n 2) (.alc (.lst [(.var 1)]))),
  (.forr (.n 3) (.val (.var 0)) [(.app (.var 2) (.call "" "changed" [(.var 3), (.o2 .idx (.var 2) (.o1 .neg (.cst (.int 1))))]))]),
  (.ret (.var 2))]
/-- words_up_to: 0 sounds, 1 most, 2 found, 3 last, 4 _, 5 word, 6 one -/
def b_words_up_to : List S := [
  (.par 2 3 (.alc (.lst [(.cst (.str []))])) (.lst [(.cst (.str []))])),
  (.forr (.n 4) (.rng (.var 1)) [(.set (.n 3) (.comp2 [5, 6] (.o2 .add (.var 5) (.var 6)) (.n 5) (.val (.var 3)) [] (.n 6) (.val (.var 0)) [])), (.ext (.var 2) (.var 3))]),
  (.ret (.var 2))]
/-- _law_holds: 0 word, 1 at, 2 slots, 3 k, 4 here -/
def b_law_holds : List S := [
  (.forr (.n 3) (.rng (.o1 .len (.var 2))) [(.set (.n 4) (.ife (.and (.o2 .ge (.o2 .add (.var 1) (.var 3)) (.cst (.int 0))) (.o2 .lt (.o2 .add (.var 1) (.var 3)) (.o1 .len (.var 0)))) (.o2 .idx (.var 0) (.o2 .add (.var 1) (.var 3))) (.cst (.str [35])))), (.cond (.o2 .notin (.var 4) (.o2 .idx (.var 2) (.var 3))) [(.ret (.cst (.bl false)))] [])]),
  (.ret (.cst (.bl true)))]
/-- _law_applies: 0 law, 1 word, 2 at, 3 known, 4 one, 5 out -/
def b_law_applies : List S := [
  (.set (.n 3) (.comp [4, 5] (.var 4) (.t [4, 5]) (.val (.o2 .idx (.var 0) (.cst (.int 0)))) [])),
  (.ret (.and (.o2 .isin (.o2 .idx (.var 1) (.var 2)) (.var 3)) (.and (.call "" "_law_holds" [(.var 1), (.o2 .sub (.var 2) (.o1 .len (.o2 .idx (.var 0) (.cst (.int 1))))), (.o2 .idx (.var 0) (.cst (.int 1)))]) (.call "" "_law_holds" [(.var 1), (.o2 .add (.var 2) (.cst (.int 1))), (.o2 .idx (.var 0) (.cst (.int 2)))]))))]
/-- _law_changed: 0 law, 1 word, 2 found, 3 at -/
def b_law_changed : List S := [
  (.set (.n 2) (.cst (.str []))),
  (.forr (.n 3) (.rng (.o1 .len (.var 1))) [(.set (.n 2) (.o2 .add (.var 2) (.ife (.call "" "_law_applies" [(.var 0), (.var 1), (.var 3)]) (.o2 .idx (.o1 .dict (.o2 .idx (.var 0) (.cst (.int 0)))) (.o2 .idx (.var 1) (.var 3))) (.o2 .idx (.var 1) (.var 3)))))]),
  (.ret (.var 2))]
/-- _law_led: 0 history, 1 word, 2 found, 3 law -/
def b_law_led : List S := [
  (.set (.n 2) (.var 1)),
  (.forr (.n 3) (.val (.var 0)) [(.set (.n 2) (.call "" "_law_changed" [(.var 3), (.var 2)]))]),
  (.ret (.var 2))]
/-- _law_words: 0 sounds, 1 most, 2 found, 3 last, 4 k, 5 longer, 6 word, 7 one -/
def b_law_words : List S := [
  (.par 2 3 (.lst [(.cst (.str []))]) (.lst [(.cst (.str []))])),
  (.forr (.n 4) (.rng (.var 1)) [(.set (.n 5) (.lst [])), (.forr (.n 6) (.val (.var 3)) [(.set (.n 5) (.o2 .add (.var 5) (.comp [7] (.o2 .add (.var 6) (.var 7)) (.n 7) (.val (.var 0)) [])))]), (.par 2 3 (.o2 .add (.var 2) (.var 5)) (.var 5))]),
  (.ret (.var 2))]

structure WT (T : Tb) : Prop where
  slots_hold : T "" "slots_hold" = some ⟨3, 7, b_slots_hold⟩
  applies : T "" "applies" = some ⟨3, 8, b_applies⟩
  changed : T "" "changed" = some ⟨2, 5, b_changed⟩
  led : T "" "led" = some ⟨2, 3, b_led⟩
structure WLT (T : Tb) : Prop where
  holds : T "" "_law_holds" = some ⟨3, 5, b_law_holds⟩
  applies : T "" "_law_applies" = some ⟨3, 6, b_law_applies⟩
  changed : T "" "_law_changed" = some ⟨2, 4, b_law_changed⟩
  led : T "" "_law_led" = some ⟨2, 4, b_law_led⟩
def hereM (w : List Nat) (i : Int) : Nat := if 0 ≤ i then (w[i.toNat]?).getD 35 else 35
def holdsM (w : List Nat) : Int → List (List Nat) → Bool
  | _, [] => true
  | i, x :: xs => x.contains (hereM w i) && holdsM w (i + 1) xs
def appliesM (r : Rule) (w : List Nat) (p : Nat) : Bool := (r.ch.map (·.1)).contains (hereM w p) && (holdsM w (p - (r.bf.length : Nat)) r.bf && holdsM w (p + 1) r.bh)
def outM (ch : List (Nat × List Nat)) (c : Nat) : List Nat := (ch.lookup c).getD []
def pieceM (r : Rule) (w : List Nat) (p : Nat) : List Nat := if appliesM r w p then outM r.ch (hereM w p) else [hereM w p]
def changedM (r : Rule) (w : List Nat) : List Nat := (List.range w.length).flatMap (pieceM r w)
def ledM (rs : List Rule) (w : List Nat) : List Nat := rs.foldl (fun w r => changedM r w) w
def stagesM : List Rule → List Nat → List (List Nat)
  | [], w => [w]
  | r :: rs, w => w :: stagesM rs (changedM r w)
section
variable {T : Tb} {d : Nat} {h : Hh}
theorem here_in {w : List Nat} {i : Int} (h0 : 0 ≤ i) (h1 : i < w.length) (hw : w.length ≤ line) : o2F .idx h (.str w) (.int i) = some (.str [hereM w i]) := by
  obtain ⟨c, e, e2⟩ := idx_str (h := h) hw h0 h1
  rw [e]
  simp only [hereM, if_pos h0, e2, Option.getD_some]
theorem here_out {w : List Nat} {i : Int} (hi : ¬ (0 ≤ i ∧ i < w.length)) : hereM w i = 35 := by
  unfold hereM
  split
  · rename_i h0
    have : w[i.toNat]? = none := List.getElem?_eq_none (by omega)
    rw [this]; rfl
  · rfl
theorem notin_one {c : Nat} {x : List Nat} : o2F .notin h (.str [c]) (.str x) = some (.bl (!x.contains c)) := rfl
theorem here_expr {C : Calls} {σ : Env} {a b : Nat} {w : List Nat} {i : Int} (ha : σ[a]? = some (some (.str w))) (hb : σ[b]? = some (some (.int i))) (hw : w.length ≤ line) :
    Ok (evE C (.ife (.chn .le .lt (.cst (.int 0)) (.var b) (.o1 .len (.var a))) (.o2 .idx (.var a) (.var b)) (.cst (.str [35]))) σ h) fun v h' => v = .str [hereM w i] ∧ h' = h := by
  refine W.ife (W.chn (W.cst (W.var hb ⟨_, rfl, fun h0 => W.o1 (W.var ha ⟨_, len_str hw, _, rfl, _, rfl, fun h1 => W.o2 (W.var ha (W.var hb ?_)), fun h1 => W.cst ?_⟩), fun h0 => ⟨_, rfl, fun hf => Bool.noConfusion hf, fun _ => W.cst ?_⟩⟩)))
  · simp only [decide_eq_true_eq] at h0 h1
    exact ⟨_, here_in h0 h1 hw, rfl, rfl⟩
  · simp only [decide_eq_true_eq, decide_eq_false_iff_not] at h0 h1
    exact ⟨by rw [here_out (by omega)], rfl⟩
  · simp only [decide_eq_false_iff_not] at h0
    exact ⟨by rw [here_out (by omega)], rfl⟩
theorem slots_hold_ok (hT : T "" "slots_hold" = some ⟨3, 7, b_slots_hold⟩) {w : List Nat} {p : Int} {ss : List (List Nat)} (hw : w.length ≤ line) :
    Ok (callF T (d + 1) "" "slots_hold" [.str w, .int p, .tup (ss.map D.str)] h) fun v h' => v = .bl (holdsM w p ss) ∧ h' = h := by
  refine W.fn hT rfl ?_
  unfold b_slots_hold
  simp only [startD, List.map_cons, List.map_nil, List.cons_append, List.nil_append, List.length_cons, List.length_nil, List.replicate, Nat.reduceAdd, Nat.reduceSub]
  refine W.cons (W.forr (W.enu ?_))
  repeat (first
    | with_reducible refine W.cons ?_ | with_reducible refine W.set ?_ | with_reducible refine W.ret ?_ | with_reducible refine W.cst ?_ | (with_reducible refine W.isVar ?_; refine W.var rfl ?_)
    | (with_reducible refine W.isGetR ?_; refine W.getR rfl (by assumption) rfl ?_) | (with_reducible refine W.isLenR ?_; refine W.lenR rfl (by assumption) ?_) | (with_reducible refine W.isSetR ?_; refine W.setR rfl ?_)
    | with_reducible refine W.o2 ?_ | with_reducible refine W.o1 ?_ | with_reducible refine W.call ?_ | with_reducible refine W.es ?_ | with_reducible refine W.es0 ?_ | with_reducible refine W.nx ?_ | with_reducible refine W.rt ?_ | with_reducible refine W.tup ?_ | with_reducible refine W.lst ?_
    | with_reducible refine W.slice ?_ | with_reducible refine W.val ?_ | with_reducible refine W.rng ?_ | with_reducible refine W.enu ?_ | with_reducible refine W.seti ?_ | with_reducible refine W.ts0 ?_ | with_reducible refine W.ts1 ?_ | with_reducible refine W.cond ?_ | with_reducible refine W.and ?_
    | with_reducible refine W.or ?_ | with_reducible refine W.ife ?_ | with_reducible refine W.nil ?_ | with_reducible refine W.par ?_ | with_reducible refine W.app ?_ | with_reducible refine W.ext ?_
    | (with_reducible refine W.isLt ?_; refine ⟨by simp, ?_⟩) | (with_reducible refine W.isMul ?_; refine ⟨_, W.mulK (by decide), ?_⟩) | (with_reducible refine W.isEq ?_; first | refine ⟨_, W.eqI, ?_⟩ | refine ⟨_, W.eqS, ?_⟩) | (with_reducible refine W.isNe ?_; first | refine ⟨_, W.neI, ?_⟩ | refine ⟨_, W.neS, ?_⟩)
    | (with_reducible refine W.isLf ?_; refine ⟨_, rfl, ?_⟩)
    | (with_reducible refine W.isBr ?_; first | refine ⟨_, rfl, fun _ => ?_, fun hf => Bool.noConfusion hf⟩ | refine ⟨_, rfl, fun hf => Bool.noConfusion hf, fun _ => ?_⟩)
    | (with_reducible refine W.isBr2 ?_; first | refine ⟨_, rfl, fun _ => ?_, fun hf => Bool.noConfusion hf⟩ | refine ⟨_, rfl, fun hf => Bool.noConfusion hf, fun _ => ?_⟩)
    | (with_reducible refine W.isLfS ?_; refine ⟨_, _, (by assumption), rfl, fun hl => ?_⟩))
  refine ⟨_, rfl, fun i σ h' => ∃ o3 o4 o5 o6, σ = [some (.str w), some (.int p), some (.tup (ss.map D.str)), o3, o4, o5, o6] ∧ h' = h ∧ holdsM w p ss = holdsM w (p + (i : Nat)) (ss.drop i), ⟨_, _, _, _, rfl, rfl, by simp⟩, fun _ _ _ _ => wat_nil _ _, ?_, ?_⟩
  · rintro i x σ h' hx ⟨o3, o4, o5, o6, rfl, rfl, hh⟩
    obtain ⟨y, hy, rfl⟩ := enuD_get hx
    rw [List.getElem?_map] at hy
    obtain ⟨x, hx2, rfl⟩ := Option.map_eq_some_iff.mp hy
    obtain ⟨hlt, ex⟩ := List.getElem?_eq_some_iff.mp hx2
    rw [List.drop_eq_getElem_cons hlt, ex, holdsM] at hh
    refine ⟨_, rfl, ?_⟩
    refine W.cons (W.set (W.o2 ?_))
    repeat (first
    | with_reducible refine W.set ?_ | with_reducible refine W.ret ?_ | with_reducible refine W.cst ?_ | (with_reducible refine W.isVar ?_; refine W.var rfl ?_)
    | (with_reducible refine W.isGetR ?_; refine W.getR rfl (by assumption) rfl ?_) | (with_reducible refine W.isLenR ?_; refine W.lenR rfl (by assumption) ?_) | (with_reducible refine W.isSetR ?_; refine W.setR rfl ?_)
    | with_reducible refine W.o2 ?_ | with_reducible refine W.o1 ?_ | with_reducible refine W.call ?_ | with_reducible refine W.es ?_ | with_reducible refine W.es0 ?_ | with_reducible refine W.rt ?_ | with_reducible refine W.tup ?_ | with_reducible refine W.lst ?_
    | with_reducible refine W.slice ?_ | with_reducible refine W.val ?_ | with_reducible refine W.rng ?_ | with_reducible refine W.enu ?_ | with_reducible refine W.seti ?_ | with_reducible refine W.ts0 ?_ | with_reducible refine W.ts1 ?_ | with_reducible refine W.cond ?_ | with_reducible refine W.and ?_
    | with_reducible refine W.or ?_ | with_reducible refine W.ife ?_ | with_reducible refine W.nil ?_ | with_reducible refine W.par ?_ | with_reducible refine W.app ?_ | with_reducible refine W.ext ?_
    | (with_reducible refine W.isLt ?_; refine ⟨by simp, ?_⟩) | (with_reducible refine W.isMul ?_; refine ⟨_, W.mulK (by decide), ?_⟩) | (with_reducible refine W.isEq ?_; first | refine ⟨_, W.eqI, ?_⟩ | refine ⟨_, W.eqS, ?_⟩) | (with_reducible refine W.isNe ?_; first | refine ⟨_, W.neI, ?_⟩ | refine ⟨_, W.neS, ?_⟩)
    | (with_reducible refine W.isLf ?_; refine ⟨_, rfl, ?_⟩)
    | (with_reducible refine W.isBr ?_; first | refine ⟨_, rfl, fun _ => ?_, fun hf => Bool.noConfusion hf⟩ | refine ⟨_, rfl, fun hf => Bool.noConfusion hf, fun _ => ?_⟩)
    | (with_reducible refine W.isBr2 ?_; first | refine ⟨_, rfl, fun _ => ?_, fun hf => Bool.noConfusion hf⟩ | refine ⟨_, rfl, fun hf => Bool.noConfusion hf, fun _ => ?_⟩)
    | (with_reducible refine W.isLfS ?_; refine ⟨_, _, (by assumption), rfl, fun hl => ?_⟩))
    refine W.nx (W.cons (W.set ((here_expr (i := p + ((0 + i : Nat) : Int)) rfl rfl hw).mono fun v h1 q => ?_)))
    obtain ⟨rfl, rfl⟩ := q
    refine ⟨by simp, W.nx (W.cons ?_)⟩
    repeat (first
    | with_reducible refine W.set ?_ | with_reducible refine W.ret ?_ | with_reducible refine W.cst ?_ | (with_reducible refine W.isVar ?_; refine W.var rfl ?_)
    | (with_reducible refine W.isGetR ?_; refine W.getR rfl (by assumption) rfl ?_) | (with_reducible refine W.isLenR ?_; refine W.lenR rfl (by assumption) ?_) | (with_reducible refine W.isSetR ?_; refine W.setR rfl ?_)
    | with_reducible refine W.o2 ?_ | with_reducible refine W.o1 ?_ | with_reducible refine W.call ?_ | with_reducible refine W.es ?_ | with_reducible refine W.es0 ?_ | with_reducible refine W.rt ?_ | with_reducible refine W.tup ?_ | with_reducible refine W.lst ?_
    | with_reducible refine W.slice ?_ | with_reducible refine W.val ?_ | with_reducible refine W.rng ?_ | with_reducible refine W.enu ?_ | with_reducible refine W.seti ?_ | with_reducible refine W.ts0 ?_ | with_reducible refine W.ts1 ?_ | with_reducible refine W.cond ?_ | with_reducible refine W.and ?_
    | with_reducible refine W.or ?_ | with_reducible refine W.ife ?_ | with_reducible refine W.nil ?_ | with_reducible refine W.par ?_ | with_reducible refine W.app ?_ | with_reducible refine W.ext ?_
    | (with_reducible refine W.isLt ?_; refine ⟨by simp, ?_⟩) | (with_reducible refine W.isMul ?_; refine ⟨_, W.mulK (by decide), ?_⟩) | (with_reducible refine W.isEq ?_; first | refine ⟨_, W.eqI, ?_⟩ | refine ⟨_, W.eqS, ?_⟩) | (with_reducible refine W.isNe ?_; first | refine ⟨_, W.neI, ?_⟩ | refine ⟨_, W.neS, ?_⟩)
    | (with_reducible refine W.isLf ?_; refine ⟨_, rfl, ?_⟩)
    | (with_reducible refine W.isBr ?_; first | refine ⟨_, rfl, fun _ => ?_, fun hf => Bool.noConfusion hf⟩ | refine ⟨_, rfl, fun hf => Bool.noConfusion hf, fun _ => ?_⟩)
    | (with_reducible refine W.isBr2 ?_; first | refine ⟨_, rfl, fun _ => ?_, fun hf => Bool.noConfusion hf⟩ | refine ⟨_, rfl, fun hf => Bool.noConfusion hf, fun _ => ?_⟩)
    | (with_reducible refine W.isLfS ?_; refine ⟨_, _, (by assumption), rfl, fun hl => ?_⟩))
    rw [show p + ((0 + i : Nat) : Int) = p + (i : Nat) by omega]
    refine ⟨_, rfl, fun hk => ?_, fun hk => ?_⟩
    · repeat (first
    | with_reducible refine W.cons ?_ | with_reducible refine W.set ?_ | with_reducible refine W.ret ?_ | with_reducible refine W.cst ?_ | (with_reducible refine W.isVar ?_; refine W.var rfl ?_)
    | (with_reducible refine W.isGetR ?_; refine W.getR rfl (by assumption) rfl ?_) | (with_reducible refine W.isLenR ?_; refine W.lenR rfl (by assumption) ?_) | (with_reducible refine W.isSetR ?_; refine W.setR rfl ?_)
    | with_reducible refine W.o2 ?_ | with_reducible refine W.o1 ?_ | with_reducible refine W.call ?_ | with_reducible refine W.es ?_ | with_reducible refine W.es0 ?_ | with_reducible refine W.nx ?_ | with_reducible refine W.rt ?_ | with_reducible refine W.tup ?_ | with_reducible refine W.lst ?_
    | with_reducible refine W.slice ?_ | with_reducible refine W.val ?_ | with_reducible refine W.rng ?_ | with_reducible refine W.enu ?_ | with_reducible refine W.seti ?_ | with_reducible refine W.ts0 ?_ | with_reducible refine W.ts1 ?_ | with_reducible refine W.cond ?_ | with_reducible refine W.and ?_
    | with_reducible refine W.or ?_ | with_reducible refine W.ife ?_ | with_reducible refine W.nil ?_ | with_reducible refine W.par ?_ | with_reducible refine W.app ?_ | with_reducible refine W.ext ?_
    | (with_reducible refine W.isLt ?_; refine ⟨by simp, ?_⟩) | (with_reducible refine W.isMul ?_; refine ⟨_, W.mulK (by decide), ?_⟩) | (with_reducible refine W.isEq ?_; first | refine ⟨_, W.eqI, ?_⟩ | refine ⟨_, W.eqS, ?_⟩) | (with_reducible refine W.isNe ?_; first | refine ⟨_, W.neI, ?_⟩ | refine ⟨_, W.neS, ?_⟩)
    | (with_reducible refine W.isLf ?_; refine ⟨_, rfl, ?_⟩)
    | (with_reducible refine W.isBr ?_; first | refine ⟨_, rfl, fun _ => ?_, fun hf => Bool.noConfusion hf⟩ | refine ⟨_, rfl, fun hf => Bool.noConfusion hf, fun _ => ?_⟩)
    | (with_reducible refine W.isBr2 ?_; first | refine ⟨_, rfl, fun _ => ?_, fun hf => Bool.noConfusion hf⟩ | refine ⟨_, rfl, fun hf => Bool.noConfusion hf, fun _ => ?_⟩)
    | (with_reducible refine W.isLfS ?_; refine ⟨_, _, (by assumption), rfl, fun hl => ?_⟩))
      refine W.en ?_
      rw [fin_self]
      simp only [Bool.not_eq_true'] at hk
      rw [hk, Bool.false_and] at hh
      exact Ok.ok ⟨by rw [hh], rfl⟩
    · simp only [Bool.not_eq_false'] at hk
      rw [hk, Bool.true_and] at hh
      refine W.nil (W.nx (W.nil ⟨_, _, _, _, rfl, rfl, ?_⟩))
      rw [hh]
      congr 1
      omega
  · rintro σ h' ⟨o3, o4, o5, o6, rfl, rfl, hh⟩
    repeat (first
    | with_reducible refine W.cons ?_ | with_reducible refine W.set ?_ | with_reducible refine W.ret ?_ | with_reducible refine W.cst ?_ | (with_reducible refine W.isVar ?_; refine W.var rfl ?_)
    | (with_reducible refine W.isGetR ?_; refine W.getR rfl (by assumption) rfl ?_) | (with_reducible refine W.isLenR ?_; refine W.lenR rfl (by assumption) ?_) | (with_reducible refine W.isSetR ?_; refine W.setR rfl ?_)
    | with_reducible refine W.o2 ?_ | with_reducible refine W.o1 ?_ | with_reducible refine W.call ?_ | with_reducible refine W.es ?_ | with_reducible refine W.es0 ?_ | with_reducible refine W.nx ?_ | with_reducible refine W.rt ?_ | with_reducible refine W.tup ?_ | with_reducible refine W.lst ?_
    | with_reducible refine W.slice ?_ | with_reducible refine W.val ?_ | with_reducible refine W.rng ?_ | with_reducible refine W.enu ?_ | with_reducible refine W.seti ?_ | with_reducible refine W.ts0 ?_ | with_reducible refine W.ts1 ?_ | with_reducible refine W.cond ?_ | with_reducible refine W.and ?_
    | with_reducible refine W.or ?_ | with_reducible refine W.ife ?_ | with_reducible refine W.nil ?_ | with_reducible refine W.par ?_ | with_reducible refine W.app ?_ | with_reducible refine W.ext ?_
    | (with_reducible refine W.isLt ?_; refine ⟨by simp, ?_⟩) | (with_reducible refine W.isMul ?_; refine ⟨_, W.mulK (by decide), ?_⟩) | (with_reducible refine W.isEq ?_; first | refine ⟨_, W.eqI, ?_⟩ | refine ⟨_, W.eqS, ?_⟩) | (with_reducible refine W.isNe ?_; first | refine ⟨_, W.neI, ?_⟩ | refine ⟨_, W.neS, ?_⟩)
    | (with_reducible refine W.isLf ?_; refine ⟨_, rfl, ?_⟩)
    | (with_reducible refine W.isBr ?_; first | refine ⟨_, rfl, fun _ => ?_, fun hf => Bool.noConfusion hf⟩ | refine ⟨_, rfl, fun hf => Bool.noConfusion hf, fun _ => ?_⟩)
    | (with_reducible refine W.isBr2 ?_; first | refine ⟨_, rfl, fun _ => ?_, fun hf => Bool.noConfusion hf⟩ | refine ⟨_, rfl, fun hf => Bool.noConfusion hf, fun _ => ?_⟩)
    | (with_reducible refine W.isLfS ?_; refine ⟨_, _, (by assumption), rfl, fun hl => ?_⟩))
    refine W.en ?_
    rw [fin_self]
    refine Ok.ok ⟨?_, rfl⟩
    rw [hh, enuD_len, List.length_map, List.drop_length, holdsM]
theorem pds_strs {α : Type} (f : α → List Nat) : ∀ xs : List α, pds h deep (xs.map fun x => .str (f x)) = some (xs.map fun x => .str ⟨(f x).toArray⟩)
  | [] => rfl
  | x :: xs => by
    have e : mapO (pd h deep) (xs.map fun x => .str (f x)) = some (xs.map fun x => .str ⟨(f x).toArray⟩) := pds_strs f xs
    simp only [List.map_cons, pds, mapO, pd_str, e]
theorem memF_strs {α : Type} (f : α → List Nat) (a : List Nat) (xs : List α) : memF h (.str a) (xs.map fun x => .str (f x)) = some ((xs.map f).contains a) := by
  unfold memF
  rw [pds_strs, pd_str]
  simp only [Option.some.injEq]
  induction xs with
  | nil => rfl
  | cons x xs ih =>
    rw [List.map_cons, List.any_cons, ih, W.strEq, List.map_cons, List.contains_cons]
    congr 1
    by_cases e : f x = a
    · subst e; simp
    · rw [decide_eq_false e]
      have : ¬ a = f x := fun z => e z.symm
      simp [this]
theorem contains_ones (c : Nat) (cs : List Nat) : (cs.map fun c => [c]).contains [c] = cs.contains c := by
  induction cs with
  | nil => rfl
  | cons b cs ih =>
    rw [List.map_cons, List.contains_cons, List.contains_cons, ih]
    congr 1
    by_cases e : c = b
    · subst e; simp
    · simp [e]
theorem notin_ones {c : Nat} {cs : List Nat} {y : D} (hy : seqs h y = some (cs.map fun c => .str [c])) (hs : ∀ b, y ≠ .str b) : o2F .notin h (.str [c]) y = some (.bl (!cs.contains c)) := by
  have : o2F .notin h (.str [c]) y = (memF h (.str [c]) (cs.map fun c => .str [c])).map fun b => .bl (!b) := by
    cases y <;> first | exact absurd rfl (hs _) | simp only [o2F, hy]
  rw [this, memF_strs (fun c => [c]), contains_ones]
  rfl
theorem isin_ones {c : Nat} {cs : List Nat} {y : D} (hy : seqs h y = some (cs.map fun c => .str [c])) (hs : ∀ b, y ≠ .str b) : o2F .isin h (.str [c]) y = some (.bl (cs.contains c)) := by
  have : o2F .isin h (.str [c]) y = (memF h (.str [c]) (cs.map fun c => .str [c])).map .bl := by
    cases y <;> first | exact absurd rfl (hs _) | simp only [o2F, hy]
  rw [this, memF_strs (fun c => [c]), contains_ones]
  rfl
theorem flat_ones {α : Type} (f : α → D) (g : α → Nat) (xs : List α) (F : D → List D) (hF : ∀ x ∈ xs, F (f x) = [.str [g x]]) : (xs.map f).flatMap F = (xs.map g).map fun c => .str [c] := by
  induction xs with
  | nil => rfl
  | cons x xs ih =>
    rw [List.map_cons, List.flatMap_cons, hF x List.mem_cons_self, ih fun y hy => hF y (List.mem_cons_of_mem _ hy)]
    rfl
/-- what a change begins with -/
def firstF : D → List D
  | .tup (x :: _) => [x]
  | _ => []
theorem firsts (ch : List (Nat × List Nat)) : (chD ch).flatMap firstF = (ch.map (·.1)).map fun c => .str [c] := flat_ones _ _ _ _ fun _ _ => rfl
theorem applies_ok (W1 : WT T) {r : Rule} {w : List Nat} {p : Nat} (hw : w.length ≤ line) (hp : p < w.length) (hc : r.ch.length ≤ 1000) :
    Ok (callF T (d + 2) "" "applies" [ruleD r, .str w, .int p] h) fun v h' => v = .bl (appliesM r w p) ∧ h' = h := by
  refine W.fn W1.applies rfl ?_
  unfold b_applies
  simp only [startD, List.map_cons, List.map_nil, List.cons_append, List.nil_append, List.length_cons, List.length_nil, List.replicate, Nat.reduceAdd, Nat.reduceSub]
  refine W.cons (W.setT (W.var rfl ⟨_, rfl, W.nx (W.cons (W.cond (W.o2 (W.o2 (W.var rfl (W.var rfl ⟨_, here_in (by omega) (by omega) hw, W.compM firstF ?_⟩))))))⟩))
  repeat (first
    | with_reducible refine W.set ?_ | with_reducible refine W.ret ?_ | with_reducible refine W.cst ?_ | (with_reducible refine W.isVar ?_; refine W.var rfl ?_)
    | (with_reducible refine W.isGetR ?_; refine W.getR rfl (by assumption) rfl ?_) | (with_reducible refine W.isLenR ?_; refine W.lenR rfl (by assumption) ?_) | (with_reducible refine W.isSetR ?_; refine W.setR rfl ?_)
    | with_reducible refine W.o2 ?_ | with_reducible refine W.o1 ?_ | with_reducible refine W.call ?_ | with_reducible refine W.es ?_ | with_reducible refine W.es0 ?_ | with_reducible refine W.rt ?_ | with_reducible refine W.tup ?_ | with_reducible refine W.lst ?_
    | with_reducible refine W.slice ?_ | with_reducible refine W.val ?_ | with_reducible refine W.rng ?_ | with_reducible refine W.enu ?_ | with_reducible refine W.seti ?_ | with_reducible refine W.ts0 ?_ | with_reducible refine W.ts1 ?_ | with_reducible refine W.cond ?_ | with_reducible refine W.and ?_
    | with_reducible refine W.or ?_ | with_reducible refine W.ife ?_ | with_reducible refine W.nil ?_ | with_reducible refine W.par ?_ | with_reducible refine W.app ?_ | with_reducible refine W.ext ?_
    | (with_reducible refine W.isLt ?_; refine ⟨by simp, ?_⟩) | (with_reducible refine W.isMul ?_; refine ⟨_, W.mulK (by decide), ?_⟩) | (with_reducible refine W.isEq ?_; first | refine ⟨_, W.eqI, ?_⟩ | refine ⟨_, W.eqS, ?_⟩) | (with_reducible refine W.isNe ?_; first | refine ⟨_, W.neI, ?_⟩ | refine ⟨_, W.neS, ?_⟩)
    | (with_reducible refine W.isLf ?_; refine ⟨_, rfl, ?_⟩)
    | (with_reducible refine W.isBr ?_; first | refine ⟨_, rfl, fun _ => ?_, fun hf => Bool.noConfusion hf⟩ | refine ⟨_, rfl, fun hf => Bool.noConfusion hf, fun _ => ?_⟩)
    | (with_reducible refine W.isBr2 ?_; first | refine ⟨_, rfl, fun _ => ?_, fun hf => Bool.noConfusion hf⟩ | refine ⟨_, rfl, fun hf => Bool.noConfusion hf, fun _ => ?_⟩)
    | (with_reducible refine W.isLfS ?_; refine ⟨_, _, (by assumption), rfl, fun hl => ?_⟩))
  refine ⟨_, rfl, fun x hx => ?_, ?_, ?_⟩
  · obtain ⟨q, _, rfl⟩ := List.mem_map.mp hx
    refine ⟨_, rfl, ?_⟩
    repeat (first
    | with_reducible refine W.cons ?_ | with_reducible refine W.set ?_ | with_reducible refine W.ret ?_ | with_reducible refine W.cst ?_ | (with_reducible refine W.isVar ?_; refine W.var rfl ?_)
    | (with_reducible refine W.isGetR ?_; refine W.getR rfl (by assumption) rfl ?_) | (with_reducible refine W.isLenR ?_; refine W.lenR rfl (by assumption) ?_) | (with_reducible refine W.isSetR ?_; refine W.setR rfl ?_)
    | with_reducible refine W.o2 ?_ | with_reducible refine W.o1 ?_ | with_reducible refine W.call ?_ | with_reducible refine W.es ?_ | with_reducible refine W.es0 ?_ | with_reducible refine W.nx ?_ | with_reducible refine W.rt ?_ | with_reducible refine W.tup ?_ | with_reducible refine W.lst ?_
    | with_reducible refine W.slice ?_ | with_reducible refine W.val ?_ | with_reducible refine W.rng ?_ | with_reducible refine W.enu ?_ | with_reducible refine W.seti ?_ | with_reducible refine W.ts0 ?_ | with_reducible refine W.ts1 ?_ | with_reducible refine W.cond ?_ | with_reducible refine W.and ?_
    | with_reducible refine W.or ?_ | with_reducible refine W.ife ?_ | with_reducible refine W.nil ?_ | with_reducible refine W.par ?_ | with_reducible refine W.app ?_ | with_reducible refine W.ext ?_
    | (with_reducible refine W.isLt ?_; refine ⟨by simp, ?_⟩) | (with_reducible refine W.isMul ?_; refine ⟨_, W.mulK (by decide), ?_⟩) | (with_reducible refine W.isEq ?_; first | refine ⟨_, W.eqI, ?_⟩ | refine ⟨_, W.eqS, ?_⟩) | (with_reducible refine W.isNe ?_; first | refine ⟨_, W.neI, ?_⟩ | refine ⟨_, W.neS, ?_⟩)
    | (with_reducible refine W.isLf ?_; refine ⟨_, rfl, ?_⟩)
    | (with_reducible refine W.isBr ?_; first | refine ⟨_, rfl, fun _ => ?_, fun hf => Bool.noConfusion hf⟩ | refine ⟨_, rfl, fun hf => Bool.noConfusion hf, fun _ => ?_⟩)
    | (with_reducible refine W.isBr2 ?_; first | refine ⟨_, rfl, fun _ => ?_, fun hf => Bool.noConfusion hf⟩ | refine ⟨_, rfl, fun hf => Bool.noConfusion hf, fun _ => ?_⟩)
    | (with_reducible refine W.isLfS ?_; refine ⟨_, _, (by assumption), rfl, fun hl => ?_⟩))
    exact ⟨fun _ => W.var rfl ⟨rfl, rfl⟩, fun hf => Bool.noConfusion hf⟩
  · rw [firsts]
    simp only [List.length_map]
    unfold line
    omega
  · rw [firsts]
    refine ⟨_, notin_ones rfl (fun _ => by simp), _, rfl, fun hk => ?_, fun hk => ?_⟩
    · repeat (first
    | with_reducible refine W.cons ?_ | with_reducible refine W.set ?_ | with_reducible refine W.ret ?_ | with_reducible refine W.cst ?_ | (with_reducible refine W.isVar ?_; refine W.var rfl ?_)
    | (with_reducible refine W.isGetR ?_; refine W.getR rfl (by assumption) rfl ?_) | (with_reducible refine W.isLenR ?_; refine W.lenR rfl (by assumption) ?_) | (with_reducible refine W.isSetR ?_; refine W.setR rfl ?_)
    | with_reducible refine W.o2 ?_ | with_reducible refine W.o1 ?_ | with_reducible refine W.call ?_ | with_reducible refine W.es ?_ | with_reducible refine W.es0 ?_ | with_reducible refine W.nx ?_ | with_reducible refine W.rt ?_ | with_reducible refine W.tup ?_ | with_reducible refine W.lst ?_
    | with_reducible refine W.slice ?_ | with_reducible refine W.val ?_ | with_reducible refine W.rng ?_ | with_reducible refine W.enu ?_ | with_reducible refine W.seti ?_ | with_reducible refine W.ts0 ?_ | with_reducible refine W.ts1 ?_ | with_reducible refine W.cond ?_ | with_reducible refine W.and ?_
    | with_reducible refine W.or ?_ | with_reducible refine W.ife ?_ | with_reducible refine W.nil ?_ | with_reducible refine W.par ?_ | with_reducible refine W.app ?_ | with_reducible refine W.ext ?_
    | (with_reducible refine W.isLt ?_; refine ⟨by simp, ?_⟩) | (with_reducible refine W.isMul ?_; refine ⟨_, W.mulK (by decide), ?_⟩) | (with_reducible refine W.isEq ?_; first | refine ⟨_, W.eqI, ?_⟩ | refine ⟨_, W.eqS, ?_⟩) | (with_reducible refine W.isNe ?_; first | refine ⟨_, W.neI, ?_⟩ | refine ⟨_, W.neS, ?_⟩)
    | (with_reducible refine W.isLf ?_; refine ⟨_, rfl, ?_⟩)
    | (with_reducible refine W.isBr ?_; first | refine ⟨_, rfl, fun _ => ?_, fun hf => Bool.noConfusion hf⟩ | refine ⟨_, rfl, fun hf => Bool.noConfusion hf, fun _ => ?_⟩)
    | (with_reducible refine W.isBr2 ?_; first | refine ⟨_, rfl, fun _ => ?_, fun hf => Bool.noConfusion hf⟩ | refine ⟨_, rfl, fun hf => Bool.noConfusion hf, fun _ => ?_⟩)
    | (with_reducible refine W.isLfS ?_; refine ⟨_, _, (by assumption), rfl, fun hl => ?_⟩))
      refine W.en ?_
      rw [fin_self]
      simp only [Bool.not_eq_true'] at hk
      exact Ok.ok ⟨by simp only [appliesM, hk, Bool.false_and], rfl⟩
    · simp only [Bool.not_eq_false'] at hk
      refine W.nil (W.nx (W.cons (W.ret (W.and ?_))))
      repeat (first
    | with_reducible refine W.set ?_ | with_reducible refine W.ret ?_ | with_reducible refine W.cst ?_ | (with_reducible refine W.isVar ?_; refine W.var rfl ?_)
    | (with_reducible refine W.isGetR ?_; refine W.getR rfl (by assumption) rfl ?_) | (with_reducible refine W.isLenR ?_; refine W.lenR rfl (by assumption) ?_) | (with_reducible refine W.isSetR ?_; refine W.setR rfl ?_)
    | with_reducible refine W.o2 ?_ | with_reducible refine W.o1 ?_ | with_reducible refine W.call ?_ | with_reducible refine W.es ?_ | with_reducible refine W.es0 ?_ | with_reducible refine W.rt ?_ | with_reducible refine W.tup ?_ | with_reducible refine W.lst ?_
    | with_reducible refine W.slice ?_ | with_reducible refine W.val ?_ | with_reducible refine W.rng ?_ | with_reducible refine W.enu ?_ | with_reducible refine W.seti ?_ | with_reducible refine W.ts0 ?_ | with_reducible refine W.ts1 ?_ | with_reducible refine W.cond ?_ | with_reducible refine W.and ?_
    | with_reducible refine W.or ?_ | with_reducible refine W.ife ?_ | with_reducible refine W.nil ?_ | with_reducible refine W.par ?_ | with_reducible refine W.app ?_ | with_reducible refine W.ext ?_
    | (with_reducible refine W.isLt ?_; refine ⟨by simp, ?_⟩) | (with_reducible refine W.isMul ?_; refine ⟨_, W.mulK (by decide), ?_⟩) | (with_reducible refine W.isEq ?_; first | refine ⟨_, W.eqI, ?_⟩ | refine ⟨_, W.eqS, ?_⟩) | (with_reducible refine W.isNe ?_; first | refine ⟨_, W.neI, ?_⟩ | refine ⟨_, W.neS, ?_⟩)
    | (with_reducible refine W.isLf ?_; refine ⟨_, rfl, ?_⟩)
    | (with_reducible refine W.isBr ?_; first | refine ⟨_, rfl, fun _ => ?_, fun hf => Bool.noConfusion hf⟩ | refine ⟨_, rfl, fun hf => Bool.noConfusion hf, fun _ => ?_⟩)
    | (with_reducible refine W.isBr2 ?_; first | refine ⟨_, rfl, fun _ => ?_, fun hf => Bool.noConfusion hf⟩ | refine ⟨_, rfl, fun hf => Bool.noConfusion hf, fun _ => ?_⟩)
    | (with_reducible refine W.isLfS ?_; refine ⟨_, _, (by assumption), rfl, fun hl => ?_⟩))
      refine (slots_hold_ok (d := d) W1.slots_hold hw).mono fun v h1 q => ?_
      obtain ⟨rfl, rfl⟩ := q
      refine ⟨_, rfl, fun h2 => ?_, fun h2 => ?_⟩
      · repeat (first
    | with_reducible refine W.set ?_ | with_reducible refine W.ret ?_ | with_reducible refine W.cst ?_ | (with_reducible refine W.isVar ?_; refine W.var rfl ?_)
    | (with_reducible refine W.isGetR ?_; refine W.getR rfl (by assumption) rfl ?_) | (with_reducible refine W.isLenR ?_; refine W.lenR rfl (by assumption) ?_) | (with_reducible refine W.isSetR ?_; refine W.setR rfl ?_)
    | with_reducible refine W.o2 ?_ | with_reducible refine W.o1 ?_ | with_reducible refine W.call ?_ | with_reducible refine W.es ?_ | with_reducible refine W.es0 ?_ | with_reducible refine W.rt ?_ | with_reducible refine W.tup ?_ | with_reducible refine W.lst ?_
    | with_reducible refine W.slice ?_ | with_reducible refine W.val ?_ | with_reducible refine W.rng ?_ | with_reducible refine W.enu ?_ | with_reducible refine W.seti ?_ | with_reducible refine W.ts0 ?_ | with_reducible refine W.ts1 ?_ | with_reducible refine W.cond ?_ | with_reducible refine W.and ?_
    | with_reducible refine W.or ?_ | with_reducible refine W.ife ?_ | with_reducible refine W.nil ?_ | with_reducible refine W.par ?_ | with_reducible refine W.app ?_ | with_reducible refine W.ext ?_
    | (with_reducible refine W.isLt ?_; refine ⟨by simp, ?_⟩) | (with_reducible refine W.isMul ?_; refine ⟨_, W.mulK (by decide), ?_⟩) | (with_reducible refine W.isEq ?_; first | refine ⟨_, W.eqI, ?_⟩ | refine ⟨_, W.eqS, ?_⟩) | (with_reducible refine W.isNe ?_; first | refine ⟨_, W.neI, ?_⟩ | refine ⟨_, W.neS, ?_⟩)
    | (with_reducible refine W.isLf ?_; refine ⟨_, rfl, ?_⟩)
    | (with_reducible refine W.isBr ?_; first | refine ⟨_, rfl, fun _ => ?_, fun hf => Bool.noConfusion hf⟩ | refine ⟨_, rfl, fun hf => Bool.noConfusion hf, fun _ => ?_⟩)
    | (with_reducible refine W.isBr2 ?_; first | refine ⟨_, rfl, fun _ => ?_, fun hf => Bool.noConfusion hf⟩ | refine ⟨_, rfl, fun hf => Bool.noConfusion hf, fun _ => ?_⟩)
    | (with_reducible refine W.isLfS ?_; refine ⟨_, _, (by assumption), rfl, fun hl => ?_⟩))
        refine (slots_hold_ok (d := d) W1.slots_hold hw).mono fun v h1 q => ?_
        obtain ⟨rfl, rfl⟩ := q
        repeat (first
    | with_reducible refine W.cons ?_ | with_reducible refine W.set ?_ | with_reducible refine W.ret ?_ | with_reducible refine W.cst ?_ | (with_reducible refine W.isVar ?_; refine W.var rfl ?_)
    | (with_reducible refine W.isGetR ?_; refine W.getR rfl (by assumption) rfl ?_) | (with_reducible refine W.isLenR ?_; refine W.lenR rfl (by assumption) ?_) | (with_reducible refine W.isSetR ?_; refine W.setR rfl ?_)
    | with_reducible refine W.o2 ?_ | with_reducible refine W.o1 ?_ | with_reducible refine W.call ?_ | with_reducible refine W.es ?_ | with_reducible refine W.es0 ?_ | with_reducible refine W.nx ?_ | with_reducible refine W.rt ?_ | with_reducible refine W.tup ?_ | with_reducible refine W.lst ?_
    | with_reducible refine W.slice ?_ | with_reducible refine W.val ?_ | with_reducible refine W.rng ?_ | with_reducible refine W.enu ?_ | with_reducible refine W.seti ?_ | with_reducible refine W.ts0 ?_ | with_reducible refine W.ts1 ?_ | with_reducible refine W.cond ?_ | with_reducible refine W.and ?_
    | with_reducible refine W.or ?_ | with_reducible refine W.ife ?_ | with_reducible refine W.nil ?_ | with_reducible refine W.par ?_ | with_reducible refine W.app ?_ | with_reducible refine W.ext ?_
    | (with_reducible refine W.isLt ?_; refine ⟨by simp, ?_⟩) | (with_reducible refine W.isMul ?_; refine ⟨_, W.mulK (by decide), ?_⟩) | (with_reducible refine W.isEq ?_; first | refine ⟨_, W.eqI, ?_⟩ | refine ⟨_, W.eqS, ?_⟩) | (with_reducible refine W.isNe ?_; first | refine ⟨_, W.neI, ?_⟩ | refine ⟨_, W.neS, ?_⟩)
    | (with_reducible refine W.isLf ?_; refine ⟨_, rfl, ?_⟩)
    | (with_reducible refine W.isBr ?_; first | refine ⟨_, rfl, fun _ => ?_, fun hf => Bool.noConfusion hf⟩ | refine ⟨_, rfl, fun hf => Bool.noConfusion hf, fun _ => ?_⟩)
    | (with_reducible refine W.isBr2 ?_; first | refine ⟨_, rfl, fun _ => ?_, fun hf => Bool.noConfusion hf⟩ | refine ⟨_, rfl, fun hf => Bool.noConfusion hf, fun _ => ?_⟩)
    | (with_reducible refine W.isLfS ?_; refine ⟨_, _, (by assumption), rfl, fun hl => ?_⟩))
        refine W.en ?_
        rw [fin_self]
        rw [List.length_map] at h2
        exact Ok.ok ⟨by simp only [appliesM, hk, h2, Bool.true_and], rfl⟩
      · repeat (first
    | with_reducible refine W.cons ?_ | with_reducible refine W.set ?_ | with_reducible refine W.ret ?_ | with_reducible refine W.cst ?_ | (with_reducible refine W.isVar ?_; refine W.var rfl ?_)
    | (with_reducible refine W.isGetR ?_; refine W.getR rfl (by assumption) rfl ?_) | (with_reducible refine W.isLenR ?_; refine W.lenR rfl (by assumption) ?_) | (with_reducible refine W.isSetR ?_; refine W.setR rfl ?_)
    | with_reducible refine W.o2 ?_ | with_reducible refine W.o1 ?_ | with_reducible refine W.call ?_ | with_reducible refine W.es ?_ | with_reducible refine W.es0 ?_ | with_reducible refine W.nx ?_ | with_reducible refine W.rt ?_ | with_reducible refine W.tup ?_ | with_reducible refine W.lst ?_
    | with_reducible refine W.slice ?_ | with_reducible refine W.val ?_ | with_reducible refine W.rng ?_ | with_reducible refine W.enu ?_ | with_reducible refine W.seti ?_ | with_reducible refine W.ts0 ?_ | with_reducible refine W.ts1 ?_ | with_reducible refine W.cond ?_ | with_reducible refine W.and ?_
    | with_reducible refine W.or ?_ | with_reducible refine W.ife ?_ | with_reducible refine W.nil ?_ | with_reducible refine W.par ?_ | with_reducible refine W.app ?_ | with_reducible refine W.ext ?_
    | (with_reducible refine W.isLt ?_; refine ⟨by simp, ?_⟩) | (with_reducible refine W.isMul ?_; refine ⟨_, W.mulK (by decide), ?_⟩) | (with_reducible refine W.isEq ?_; first | refine ⟨_, W.eqI, ?_⟩ | refine ⟨_, W.eqS, ?_⟩) | (with_reducible refine W.isNe ?_; first | refine ⟨_, W.neI, ?_⟩ | refine ⟨_, W.neS, ?_⟩)
    | (with_reducible refine W.isLf ?_; refine ⟨_, rfl, ?_⟩)
    | (with_reducible refine W.isBr ?_; first | refine ⟨_, rfl, fun _ => ?_, fun hf => Bool.noConfusion hf⟩ | refine ⟨_, rfl, fun hf => Bool.noConfusion hf, fun _ => ?_⟩)
    | (with_reducible refine W.isBr2 ?_; first | refine ⟨_, rfl, fun _ => ?_, fun hf => Bool.noConfusion hf⟩ | refine ⟨_, rfl, fun hf => Bool.noConfusion hf, fun _ => ?_⟩)
    | (with_reducible refine W.isLfS ?_; refine ⟨_, _, (by assumption), rfl, fun hl => ?_⟩))
        refine W.en ?_
        rw [fin_self]
        rw [List.length_map] at h2
        exact Ok.ok ⟨by simp only [appliesM, hk, h2, Bool.true_and, Bool.false_and], rfl⟩
/-! ### a rule at all places -/
theorem pairs_ch (ch : List (Nat × List Nat)) : pairsOf (chD ch) = some (ch.map (fun p => .str [p.1]), ch.map fun p => .str p.2) := by
  induction ch with
  | nil => rfl
  | cons p ch ih =>
    show (pairsOf (chD ch)).map _ = _
    rw [ih]
    rfl
theorem nodup_ones {cs : List Nat} (hn : cs.Nodup) : (cs.map fun c => [c]).Nodup := by
  induction cs with
  | nil => exact List.nodup_nil
  | cons c cs ih =>
    rw [List.nodup_cons] at hn
    rw [List.map_cons, List.nodup_cons]
    refine ⟨fun hm => ?_, ih hn.2⟩
    obtain ⟨b, hb, e⟩ := List.mem_map.mp hm
    cases e
    exact hn.1 hb
theorem dict_ch {ch : List (Nat × List Nat)} (hn : (ch.map (·.1)).Nodup) : o1F .dict h (.tup (chD ch)) = some (.dv (ch.map fun p => .str [p.1]) (ch.map fun p => .str p.2)) := by
  simp only [o1F, pairs_ch]
  rw [strs_map (fun p : Nat × List Nat => [p.1])]
  have : (ch.map fun p => [p.1]).Nodup := by
    have := nodup_ones hn
    rwa [List.map_map] at this
  simp only [if_pos this]
theorem key_ch {ch : List (Nat × List Nat)} {c : Nat} (hc : (ch.map (·.1)).contains c = true) : keyAt [c] (ch.map fun p => .str [p.1]) (ch.map fun p => .str p.2) = some (.str (outM ch c)) := by
  induction ch with
  | nil => simp at hc
  | cons p ch ih =>
    rw [List.map_cons, List.map_cons, keyAt, outM, List.lookup_cons]
    by_cases e : p.1 = c
    · subst e
      simp
    · rw [if_neg (by simpa using e)]
      have e2 : (c == p.1) = false := by rw [beq_eq_false_iff_ne]; exact fun z => e z.symm
      rw [e2]
      rw [List.map_cons, List.contains_cons, e2, Bool.false_or] at hc
      exact ih hc
theorem applies_first {r : Rule} {w : List Nat} {p : Nat} (ha : appliesM r w p = true) : (r.ch.map (·.1)).contains (hereM w p) = true := by
  simp only [appliesM, Bool.and_eq_true] at ha
  exact ha.1
theorem range_pieces (f : Nat → List Nat) (n : Nat) (F : D → List D) (hF : ∀ p, p < n → ∀ x, F (.tup [.int ((0 + p : Nat) : Int), x]) = [.str (f p)]) : ∀ (k : Nat) (xs : List D), k + xs.length = n → (enuD k xs).flatMap F = (List.range' k xs.length).map fun p => .str (f p)
  | k, [], _ => rfl
  | k, x :: xs, hk => by
    rw [enuD, List.flatMap_cons, range_pieces f n F hF (k + 1) xs (by rw [List.length_cons] at hk; omega), List.length_cons, List.range'_succ, List.map_cons]
    have := hF k (by rw [List.length_cons] at hk; omega) x
    rw [Nat.zero_add] at this
    rw [this]
    rfl
theorem piece_len {r : Rule} {w : List Nat} {p : Nat} (ho : ∀ q ∈ r.ch, q.2.length ≤ 2) : (pieceM r w p).length ≤ 2 := by
  unfold pieceM
  split
  · unfold outM
    cases e : r.ch.lookup (hereM w p) with
    | none => simp
    | some o =>
      have : ∀ (ch : List (Nat × List Nat)) (c : Nat) (o : List Nat), ch.lookup c = some o → ∃ q ∈ ch, q.2 = o := by
        intro ch c o
        induction ch with
        | nil => intro e; cases e
        | cons q ch ih =>
          intro e
          rw [List.lookup_cons] at e
          split at e
          · cases e; exact ⟨q, List.mem_cons_self, rfl⟩
          · obtain ⟨q', hq, e'⟩ := ih e
            exact ⟨q', List.mem_cons_of_mem _ hq, e'⟩
      obtain ⟨q, hq, rfl⟩ := this _ _ _ e
      exact ho q hq
  · simp
theorem sum_le2 {f : Nat → List Nat} (hf : ∀ p, (f p).length ≤ 2) : ∀ xs : List Nat, ((xs.map f).map List.length).sum ≤ 2 * xs.length
  | [] => by simp
  | x :: xs => by
    have := sum_le2 hf xs
    have := hf x
    simp only [List.map_cons, List.sum_cons, List.length_cons]
    omega
theorem changed_len {r : Rule} {w : List Nat} (ho : ∀ q ∈ r.ch, q.2.length ≤ 2) : (changedM r w).length ≤ 2 * w.length := by
  have := sum_le2 (f := pieceM r w) (fun p => piece_len ho) (List.range w.length)
  rw [List.length_range] at this
  unfold changedM
  rw [List.length_flatMap]
  rwa [List.map_map] at this
/-- a rule that may be used here -/
structure RF (r : Rule) : Prop where
  nd : (r.ch.map (·.1)).Nodup
  len : r.ch.length ≤ 1000
  out : ∀ q ∈ r.ch, q.2.length ≤ 2
theorem changed_ok (W1 : WT T) {r : Rule} {w : List Nat} (hw : w.length ≤ 1000000) (hr : RF r) :
    Ok (callF T (d + 3) "" "changed" [ruleD r, .str w] h) fun v h' => v = .str (changedM r w) ∧ h' = h := by
  have hwl : w.length ≤ line := by unfold line; omega
  refine W.fn W1.changed rfl ?_
  unfold b_changed
  simp only [startD, List.map_cons, List.map_nil, List.cons_append, List.nil_append, List.length_cons, List.length_nil, List.replicate, Nat.reduceAdd, Nat.reduceSub]
  repeat (first
    | with_reducible refine W.cons ?_ | with_reducible refine W.set ?_ | with_reducible refine W.ret ?_ | with_reducible refine W.cst ?_ | (with_reducible refine W.isVar ?_; refine W.var rfl ?_)
    | (with_reducible refine W.isGetR ?_; refine W.getR rfl (by assumption) rfl ?_) | (with_reducible refine W.isLenR ?_; refine W.lenR rfl (by assumption) ?_) | (with_reducible refine W.isSetR ?_; refine W.setR rfl ?_)
    | with_reducible refine W.o2 ?_ | with_reducible refine W.o1 ?_ | with_reducible refine W.call ?_ | with_reducible refine W.es ?_ | with_reducible refine W.es0 ?_ | with_reducible refine W.nx ?_ | with_reducible refine W.rt ?_ | with_reducible refine W.tup ?_ | with_reducible refine W.lst ?_
    | with_reducible refine W.slice ?_ | with_reducible refine W.val ?_ | with_reducible refine W.rng ?_ | with_reducible refine W.enu ?_ | with_reducible refine W.seti ?_ | with_reducible refine W.ts0 ?_ | with_reducible refine W.ts1 ?_ | with_reducible refine W.cond ?_ | with_reducible refine W.and ?_
    | with_reducible refine W.or ?_ | with_reducible refine W.ife ?_ | with_reducible refine W.nil ?_ | with_reducible refine W.par ?_ | with_reducible refine W.app ?_ | with_reducible refine W.ext ?_
    | (with_reducible refine W.isLt ?_; refine ⟨by simp, ?_⟩) | (with_reducible refine W.isMul ?_; refine ⟨_, W.mulK (by decide), ?_⟩) | (with_reducible refine W.isEq ?_; first | refine ⟨_, W.eqI, ?_⟩ | refine ⟨_, W.eqS, ?_⟩) | (with_reducible refine W.isNe ?_; first | refine ⟨_, W.neI, ?_⟩ | refine ⟨_, W.neS, ?_⟩)
    | (with_reducible refine W.isLf ?_; refine ⟨_, rfl, ?_⟩)
    | (with_reducible refine W.isBr ?_; first | refine ⟨_, rfl, fun _ => ?_, fun hf => Bool.noConfusion hf⟩ | refine ⟨_, rfl, fun hf => Bool.noConfusion hf, fun _ => ?_⟩)
    | (with_reducible refine W.isBr2 ?_; first | refine ⟨_, rfl, fun _ => ?_, fun hf => Bool.noConfusion hf⟩ | refine ⟨_, rfl, fun hf => Bool.noConfusion hf, fun _ => ?_⟩)
    | (with_reducible refine W.isLfS ?_; refine ⟨_, _, (by assumption), rfl, fun hl => ?_⟩))
  refine ⟨_, dict_ch hr.nd, ?_⟩
  repeat (first
    | with_reducible refine W.cons ?_ | with_reducible refine W.set ?_ | with_reducible refine W.ret ?_ | with_reducible refine W.cst ?_ | (with_reducible refine W.isVar ?_; refine W.var rfl ?_)
    | (with_reducible refine W.isGetR ?_; refine W.getR rfl (by assumption) rfl ?_) | (with_reducible refine W.isLenR ?_; refine W.lenR rfl (by assumption) ?_) | (with_reducible refine W.isSetR ?_; refine W.setR rfl ?_)
    | with_reducible refine W.o2 ?_ | with_reducible refine W.o1 ?_ | with_reducible refine W.call ?_ | with_reducible refine W.es ?_ | with_reducible refine W.es0 ?_ | with_reducible refine W.nx ?_ | with_reducible refine W.rt ?_ | with_reducible refine W.tup ?_ | with_reducible refine W.lst ?_
    | with_reducible refine W.slice ?_ | with_reducible refine W.val ?_ | with_reducible refine W.rng ?_ | with_reducible refine W.enu ?_ | with_reducible refine W.seti ?_ | with_reducible refine W.ts0 ?_ | with_reducible refine W.ts1 ?_ | with_reducible refine W.cond ?_ | with_reducible refine W.and ?_
    | with_reducible refine W.or ?_ | with_reducible refine W.ife ?_ | with_reducible refine W.nil ?_ | with_reducible refine W.par ?_ | with_reducible refine W.app ?_ | with_reducible refine W.ext ?_
    | (with_reducible refine W.isLt ?_; refine ⟨by simp, ?_⟩) | (with_reducible refine W.isMul ?_; refine ⟨_, W.mulK (by decide), ?_⟩) | (with_reducible refine W.isEq ?_; first | refine ⟨_, W.eqI, ?_⟩ | refine ⟨_, W.eqS, ?_⟩) | (with_reducible refine W.isNe ?_; first | refine ⟨_, W.neI, ?_⟩ | refine ⟨_, W.neS, ?_⟩)
    | (with_reducible refine W.isLf ?_; refine ⟨_, rfl, ?_⟩)
    | (with_reducible refine W.isBr ?_; first | refine ⟨_, rfl, fun _ => ?_, fun hf => Bool.noConfusion hf⟩ | refine ⟨_, rfl, fun hf => Bool.noConfusion hf, fun _ => ?_⟩)
    | (with_reducible refine W.isBr2 ?_; first | refine ⟨_, rfl, fun _ => ?_, fun hf => Bool.noConfusion hf⟩ | refine ⟨_, rfl, fun hf => Bool.noConfusion hf, fun _ => ?_⟩)
    | (with_reducible refine W.isLfS ?_; refine ⟨_, _, (by assumption), rfl, fun hl => ?_⟩))
  refine W.compM (fun x => match x with | .tup [.int p, _] => [.str (pieceM r w p.toNat)] | _ => []) ?_
  refine W.enu ?_
  repeat (first
    | with_reducible refine W.cons ?_ | with_reducible refine W.set ?_ | with_reducible refine W.ret ?_ | with_reducible refine W.cst ?_ | (with_reducible refine W.isVar ?_; refine W.var rfl ?_)
    | (with_reducible refine W.isGetR ?_; refine W.getR rfl (by assumption) rfl ?_) | (with_reducible refine W.isLenR ?_; refine W.lenR rfl (by assumption) ?_) | (with_reducible refine W.isSetR ?_; refine W.setR rfl ?_)
    | with_reducible refine W.o2 ?_ | with_reducible refine W.o1 ?_ | with_reducible refine W.call ?_ | with_reducible refine W.es ?_ | with_reducible refine W.es0 ?_ | with_reducible refine W.nx ?_ | with_reducible refine W.rt ?_ | with_reducible refine W.tup ?_ | with_reducible refine W.lst ?_
    | with_reducible refine W.slice ?_ | with_reducible refine W.val ?_ | with_reducible refine W.rng ?_ | with_reducible refine W.enu ?_ | with_reducible refine W.seti ?_ | with_reducible refine W.ts0 ?_ | with_reducible refine W.ts1 ?_ | with_reducible refine W.cond ?_ | with_reducible refine W.and ?_
    | with_reducible refine W.or ?_ | with_reducible refine W.ife ?_ | with_reducible refine W.nil ?_ | with_reducible refine W.par ?_ | with_reducible refine W.app ?_ | with_reducible refine W.ext ?_
    | (with_reducible refine W.isLt ?_; refine ⟨by simp, ?_⟩) | (with_reducible refine W.isMul ?_; refine ⟨_, W.mulK (by decide), ?_⟩) | (with_reducible refine W.isEq ?_; first | refine ⟨_, W.eqI, ?_⟩ | refine ⟨_, W.eqS, ?_⟩) | (with_reducible refine W.isNe ?_; first | refine ⟨_, W.neI, ?_⟩ | refine ⟨_, W.neS, ?_⟩)
    | (with_reducible refine W.isLf ?_; refine ⟨_, rfl, ?_⟩)
    | (with_reducible refine W.isBr ?_; first | refine ⟨_, rfl, fun _ => ?_, fun hf => Bool.noConfusion hf⟩ | refine ⟨_, rfl, fun hf => Bool.noConfusion hf, fun _ => ?_⟩)
    | (with_reducible refine W.isBr2 ?_; first | refine ⟨_, rfl, fun _ => ?_, fun hf => Bool.noConfusion hf⟩ | refine ⟨_, rfl, fun hf => Bool.noConfusion hf, fun _ => ?_⟩)
    | (with_reducible refine W.isLfS ?_; refine ⟨_, _, (by assumption), rfl, fun hl => ?_⟩))
  have hlen : (w.map fun c => D.str [c]).length = w.length := List.length_map _
  have hpc := range_pieces (pieceM r w) w.length (fun x => match x with | .tup [.int p, _] => [.str (pieceM r w p.toNat)] | _ => []) (fun p _ x => by simp) 0 (w.map fun c => D.str [c]) (by rw [hlen]; omega)
  rw [hlen, ← List.range_eq_range'] at hpc
  refine ⟨_, rfl, fun x hx => ?_, ?_, ?_⟩
  · obtain ⟨i, hi⟩ := List.getElem?_of_mem hx
    obtain ⟨y, hy, rfl⟩ := enuD_get hi
    rw [List.getElem?_map] at hy
    obtain ⟨c, hc, rfl⟩ := Option.map_eq_some_iff.mp hy
    obtain ⟨hlt, ec⟩ := List.getElem?_eq_some_iff.mp hc
    have here : hereM w ((i : Nat) : Int) = c := by
      simp only [hereM, Int.natCast_nonneg, if_true, Int.toNat_natCast, hc, Option.getD_some]
    simp only [Nat.zero_add]
    refine ⟨_, rfl, ?_⟩
    repeat (first
    | with_reducible refine W.cons ?_ | with_reducible refine W.set ?_ | with_reducible refine W.ret ?_ | with_reducible refine W.cst ?_ | (with_reducible refine W.isVar ?_; refine W.var rfl ?_)
    | (with_reducible refine W.isGetR ?_; refine W.getR rfl (by assumption) rfl ?_) | (with_reducible refine W.isLenR ?_; refine W.lenR rfl (by assumption) ?_) | (with_reducible refine W.isSetR ?_; refine W.setR rfl ?_)
    | with_reducible refine W.o2 ?_ | with_reducible refine W.o1 ?_ | with_reducible refine W.call ?_ | with_reducible refine W.es ?_ | with_reducible refine W.es0 ?_ | with_reducible refine W.nx ?_ | with_reducible refine W.rt ?_ | with_reducible refine W.tup ?_ | with_reducible refine W.lst ?_
    | with_reducible refine W.slice ?_ | with_reducible refine W.val ?_ | with_reducible refine W.rng ?_ | with_reducible refine W.enu ?_ | with_reducible refine W.seti ?_ | with_reducible refine W.ts0 ?_ | with_reducible refine W.ts1 ?_ | with_reducible refine W.cond ?_ | with_reducible refine W.and ?_
    | with_reducible refine W.or ?_ | with_reducible refine W.ife ?_ | with_reducible refine W.nil ?_ | with_reducible refine W.par ?_ | with_reducible refine W.app ?_ | with_reducible refine W.ext ?_
    | (with_reducible refine W.isLt ?_; refine ⟨by simp, ?_⟩) | (with_reducible refine W.isMul ?_; refine ⟨_, W.mulK (by decide), ?_⟩) | (with_reducible refine W.isEq ?_; first | refine ⟨_, W.eqI, ?_⟩ | refine ⟨_, W.eqS, ?_⟩) | (with_reducible refine W.isNe ?_; first | refine ⟨_, W.neI, ?_⟩ | refine ⟨_, W.neS, ?_⟩)
    | (with_reducible refine W.isLf ?_; refine ⟨_, rfl, ?_⟩)
    | (with_reducible refine W.isBr ?_; first | refine ⟨_, rfl, fun _ => ?_, fun hf => Bool.noConfusion hf⟩ | refine ⟨_, rfl, fun hf => Bool.noConfusion hf, fun _ => ?_⟩)
    | (with_reducible refine W.isBr2 ?_; first | refine ⟨_, rfl, fun _ => ?_, fun hf => Bool.noConfusion hf⟩ | refine ⟨_, rfl, fun hf => Bool.noConfusion hf, fun _ => ?_⟩)
    | (with_reducible refine W.isLfS ?_; refine ⟨_, _, (by assumption), rfl, fun hl => ?_⟩))
    refine ⟨fun _ => ?_, fun hf => Bool.noConfusion hf⟩
    repeat (first
    | with_reducible refine W.cons ?_ | with_reducible refine W.set ?_ | with_reducible refine W.ret ?_ | with_reducible refine W.cst ?_ | (with_reducible refine W.isVar ?_; refine W.var rfl ?_)
    | (with_reducible refine W.isGetR ?_; refine W.getR rfl (by assumption) rfl ?_) | (with_reducible refine W.isLenR ?_; refine W.lenR rfl (by assumption) ?_) | (with_reducible refine W.isSetR ?_; refine W.setR rfl ?_)
    | with_reducible refine W.o2 ?_ | with_reducible refine W.o1 ?_ | with_reducible refine W.call ?_ | with_reducible refine W.es ?_ | with_reducible refine W.es0 ?_ | with_reducible refine W.nx ?_ | with_reducible refine W.rt ?_ | with_reducible refine W.tup ?_ | with_reducible refine W.lst ?_
    | with_reducible refine W.slice ?_ | with_reducible refine W.val ?_ | with_reducible refine W.rng ?_ | with_reducible refine W.enu ?_ | with_reducible refine W.seti ?_ | with_reducible refine W.ts0 ?_ | with_reducible refine W.ts1 ?_ | with_reducible refine W.cond ?_ | with_reducible refine W.and ?_
    | with_reducible refine W.or ?_ | with_reducible refine W.ife ?_ | with_reducible refine W.nil ?_ | with_reducible refine W.par ?_ | with_reducible refine W.app ?_ | with_reducible refine W.ext ?_
    | (with_reducible refine W.isLt ?_; refine ⟨by simp, ?_⟩) | (with_reducible refine W.isMul ?_; refine ⟨_, W.mulK (by decide), ?_⟩) | (with_reducible refine W.isEq ?_; first | refine ⟨_, W.eqI, ?_⟩ | refine ⟨_, W.eqS, ?_⟩) | (with_reducible refine W.isNe ?_; first | refine ⟨_, W.neI, ?_⟩ | refine ⟨_, W.neS, ?_⟩)
    | (with_reducible refine W.isLf ?_; refine ⟨_, rfl, ?_⟩)
    | (with_reducible refine W.isBr ?_; first | refine ⟨_, rfl, fun _ => ?_, fun hf => Bool.noConfusion hf⟩ | refine ⟨_, rfl, fun hf => Bool.noConfusion hf, fun _ => ?_⟩)
    | (with_reducible refine W.isBr2 ?_; first | refine ⟨_, rfl, fun _ => ?_, fun hf => Bool.noConfusion hf⟩ | refine ⟨_, rfl, fun hf => Bool.noConfusion hf, fun _ => ?_⟩)
    | (with_reducible refine W.isLfS ?_; refine ⟨_, _, (by assumption), rfl, fun hl => ?_⟩))
    refine (applies_ok (d := d) (h := h) W1 (r := r) (w := w) (p := i) hwl hlt hr.len).mono fun v h1 q => ?_
    obtain ⟨rfl, rfl⟩ := q
    refine ⟨_, rfl, fun ha => ?_, fun ha => ?_⟩
    · repeat (first
    | with_reducible refine W.cons ?_ | with_reducible refine W.set ?_ | with_reducible refine W.ret ?_ | with_reducible refine W.cst ?_ | (with_reducible refine W.isVar ?_; refine W.var rfl ?_)
    | (with_reducible refine W.isGetR ?_; refine W.getR rfl (by assumption) rfl ?_) | (with_reducible refine W.isLenR ?_; refine W.lenR rfl (by assumption) ?_) | (with_reducible refine W.isSetR ?_; refine W.setR rfl ?_)
    | with_reducible refine W.o2 ?_ | with_reducible refine W.o1 ?_ | with_reducible refine W.call ?_ | with_reducible refine W.es ?_ | with_reducible refine W.es0 ?_ | with_reducible refine W.nx ?_ | with_reducible refine W.rt ?_ | with_reducible refine W.tup ?_ | with_reducible refine W.lst ?_
    | with_reducible refine W.slice ?_ | with_reducible refine W.val ?_ | with_reducible refine W.rng ?_ | with_reducible refine W.enu ?_ | with_reducible refine W.seti ?_ | with_reducible refine W.ts0 ?_ | with_reducible refine W.ts1 ?_ | with_reducible refine W.cond ?_ | with_reducible refine W.and ?_
    | with_reducible refine W.or ?_ | with_reducible refine W.ife ?_ | with_reducible refine W.nil ?_ | with_reducible refine W.par ?_ | with_reducible refine W.app ?_ | with_reducible refine W.ext ?_
    | (with_reducible refine W.isLt ?_; refine ⟨by simp, ?_⟩) | (with_reducible refine W.isMul ?_; refine ⟨_, W.mulK (by decide), ?_⟩) | (with_reducible refine W.isEq ?_; first | refine ⟨_, W.eqI, ?_⟩ | refine ⟨_, W.eqS, ?_⟩) | (with_reducible refine W.isNe ?_; first | refine ⟨_, W.neI, ?_⟩ | refine ⟨_, W.neS, ?_⟩)
    | (with_reducible refine W.isLf ?_; refine ⟨_, rfl, ?_⟩)
    | (with_reducible refine W.isBr ?_; first | refine ⟨_, rfl, fun _ => ?_, fun hf => Bool.noConfusion hf⟩ | refine ⟨_, rfl, fun hf => Bool.noConfusion hf, fun _ => ?_⟩)
    | (with_reducible refine W.isBr2 ?_; first | refine ⟨_, rfl, fun _ => ?_, fun hf => Bool.noConfusion hf⟩ | refine ⟨_, rfl, fun hf => Bool.noConfusion hf, fun _ => ?_⟩)
    | (with_reducible refine W.isLfS ?_; refine ⟨_, _, (by assumption), rfl, fun hl => ?_⟩))
      have hk := key_ch (applies_first ha)
      rw [here] at hk
      refine ⟨.str (outM r.ch c), ?_, ?_⟩
      · show (match dict h1 (D.fd _ _) with | some (ks, vs) => keyAt [c] ks vs | none => none) = _
        exact hk
      · refine ⟨?_, rfl⟩
        simp only [Int.toNat_natCast, pieceM, ha, if_true, here]
        rfl
    · repeat (first
    | with_reducible refine W.cons ?_ | with_reducible refine W.set ?_ | with_reducible refine W.ret ?_ | with_reducible refine W.cst ?_ | (with_reducible refine W.isVar ?_; refine W.var rfl ?_)
    | (with_reducible refine W.isGetR ?_; refine W.getR rfl (by assumption) rfl ?_) | (with_reducible refine W.isLenR ?_; refine W.lenR rfl (by assumption) ?_) | (with_reducible refine W.isSetR ?_; refine W.setR rfl ?_)
    | with_reducible refine W.o2 ?_ | with_reducible refine W.o1 ?_ | with_reducible refine W.call ?_ | with_reducible refine W.es ?_ | with_reducible refine W.es0 ?_ | with_reducible refine W.nx ?_ | with_reducible refine W.rt ?_ | with_reducible refine W.tup ?_ | with_reducible refine W.lst ?_
    | with_reducible refine W.slice ?_ | with_reducible refine W.val ?_ | with_reducible refine W.rng ?_ | with_reducible refine W.enu ?_ | with_reducible refine W.seti ?_ | with_reducible refine W.ts0 ?_ | with_reducible refine W.ts1 ?_ | with_reducible refine W.cond ?_ | with_reducible refine W.and ?_
    | with_reducible refine W.or ?_ | with_reducible refine W.ife ?_ | with_reducible refine W.nil ?_ | with_reducible refine W.par ?_ | with_reducible refine W.app ?_ | with_reducible refine W.ext ?_
    | (with_reducible refine W.isLt ?_; refine ⟨by simp, ?_⟩) | (with_reducible refine W.isMul ?_; refine ⟨_, W.mulK (by decide), ?_⟩) | (with_reducible refine W.isEq ?_; first | refine ⟨_, W.eqI, ?_⟩ | refine ⟨_, W.eqS, ?_⟩) | (with_reducible refine W.isNe ?_; first | refine ⟨_, W.neI, ?_⟩ | refine ⟨_, W.neS, ?_⟩)
    | (with_reducible refine W.isLf ?_; refine ⟨_, rfl, ?_⟩)
    | (with_reducible refine W.isBr ?_; first | refine ⟨_, rfl, fun _ => ?_, fun hf => Bool.noConfusion hf⟩ | refine ⟨_, rfl, fun hf => Bool.noConfusion hf, fun _ => ?_⟩)
    | (with_reducible refine W.isBr2 ?_; first | refine ⟨_, rfl, fun _ => ?_, fun hf => Bool.noConfusion hf⟩ | refine ⟨_, rfl, fun hf => Bool.noConfusion hf, fun _ => ?_⟩)
    | (with_reducible refine W.isLfS ?_; refine ⟨_, _, (by assumption), rfl, fun hl => ?_⟩))
      refine ⟨?_, rfl⟩
      simp only [Int.toNat_natCast, pieceM, ha, Bool.false_eq_true, if_false, here]
      rfl
  · simp only [hpc, List.length_map, List.length_range]
    unfold line
    omega
  · simp only [hpc]
    refine ⟨_, join_map (pieceM r w) ?_, ?_⟩
    · have := sum_le2 (f := pieceM r w) (fun p => piece_len hr.out) (List.range w.length)
      rw [List.length_range] at this
      unfold line
      omega
    · repeat (first
    | with_reducible refine W.cons ?_ | with_reducible refine W.set ?_ | with_reducible refine W.ret ?_ | with_reducible refine W.cst ?_ | (with_reducible refine W.isVar ?_; refine W.var rfl ?_)
    | (with_reducible refine W.isGetR ?_; refine W.getR rfl (by assumption) rfl ?_) | (with_reducible refine W.isLenR ?_; refine W.lenR rfl (by assumption) ?_) | (with_reducible refine W.isSetR ?_; refine W.setR rfl ?_)
    | with_reducible refine W.o2 ?_ | with_reducible refine W.o1 ?_ | with_reducible refine W.call ?_ | with_reducible refine W.es ?_ | with_reducible refine W.es0 ?_ | with_reducible refine W.nx ?_ | with_reducible refine W.rt ?_ | with_reducible refine W.tup ?_ | with_reducible refine W.lst ?_
    | with_reducible refine W.slice ?_ | with_reducible refine W.val ?_ | with_reducible refine W.rng ?_ | with_reducible refine W.enu ?_ | with_reducible refine W.seti ?_ | with_reducible refine W.ts0 ?_ | with_reducible refine W.ts1 ?_ | with_reducible refine W.cond ?_ | with_reducible refine W.and ?_
    | with_reducible refine W.or ?_ | with_reducible refine W.ife ?_ | with_reducible refine W.nil ?_ | with_reducible refine W.par ?_ | with_reducible refine W.app ?_ | with_reducible refine W.ext ?_
    | (with_reducible refine W.isLt ?_; refine ⟨by simp, ?_⟩) | (with_reducible refine W.isMul ?_; refine ⟨_, W.mulK (by decide), ?_⟩) | (with_reducible refine W.isEq ?_; first | refine ⟨_, W.eqI, ?_⟩ | refine ⟨_, W.eqS, ?_⟩) | (with_reducible refine W.isNe ?_; first | refine ⟨_, W.neI, ?_⟩ | refine ⟨_, W.neS, ?_⟩)
    | (with_reducible refine W.isLf ?_; refine ⟨_, rfl, ?_⟩)
    | (with_reducible refine W.isBr ?_; first | refine ⟨_, rfl, fun _ => ?_, fun hf => Bool.noConfusion hf⟩ | refine ⟨_, rfl, fun hf => Bool.noConfusion hf, fun _ => ?_⟩)
    | (with_reducible refine W.isBr2 ?_; first | refine ⟨_, rfl, fun _ => ?_, fun hf => Bool.noConfusion hf⟩ | refine ⟨_, rfl, fun hf => Bool.noConfusion hf, fun _ => ?_⟩)
    | (with_reducible refine W.isLfS ?_; refine ⟨_, _, (by assumption), rfl, fun hl => ?_⟩))
      refine W.en ?_
      rw [fin_self]
      refine Ok.ok ⟨?_, rfl⟩
      rw [changedM, List.flatMap_def]
theorem led_ok (W1 : WT T) : ∀ {rs : List Rule} {w : List Nat}, w.length * 2 ^ rs.length ≤ 1000000 → (∀ r ∈ rs, RF r) →
    Ok (callF T (d + 4) "" "led" [.tup (rs.map ruleD), .str w] h) fun v h' => v = .str (ledM rs w) ∧ h' = h := by
  intro rs w hw hr
  refine W.fn W1.led rfl ?_
  unfold b_led
  simp only [startD, List.map_cons, List.map_nil, List.cons_append, List.nil_append, List.length_cons, List.length_nil, List.replicate, Nat.reduceAdd, Nat.reduceSub]
  refine W.cons (W.forr (W.val ?_))
  repeat (first
    | with_reducible refine W.cons ?_ | with_reducible refine W.set ?_ | with_reducible refine W.ret ?_ | with_reducible refine W.cst ?_ | (with_reducible refine W.isVar ?_; refine W.var rfl ?_)
    | (with_reducible refine W.isGetR ?_; refine W.getR rfl (by assumption) rfl ?_) | (with_reducible refine W.isLenR ?_; refine W.lenR rfl (by assumption) ?_) | (with_reducible refine W.isSetR ?_; refine W.setR rfl ?_)
    | with_reducible refine W.o2 ?_ | with_reducible refine W.o1 ?_ | with_reducible refine W.call ?_ | with_reducible refine W.es ?_ | with_reducible refine W.es0 ?_ | with_reducible refine W.nx ?_ | with_reducible refine W.rt ?_ | with_reducible refine W.tup ?_ | with_reducible refine W.lst ?_
    | with_reducible refine W.slice ?_ | with_reducible refine W.val ?_ | with_reducible refine W.rng ?_ | with_reducible refine W.enu ?_ | with_reducible refine W.seti ?_ | with_reducible refine W.ts0 ?_ | with_reducible refine W.ts1 ?_ | with_reducible refine W.cond ?_ | with_reducible refine W.and ?_
    | with_reducible refine W.or ?_ | with_reducible refine W.ife ?_ | with_reducible refine W.nil ?_ | with_reducible refine W.par ?_ | with_reducible refine W.app ?_ | with_reducible refine W.ext ?_
    | (with_reducible refine W.isLt ?_; refine ⟨by simp, ?_⟩) | (with_reducible refine W.isMul ?_; refine ⟨_, W.mulK (by decide), ?_⟩) | (with_reducible refine W.isEq ?_; first | refine ⟨_, W.eqI, ?_⟩ | refine ⟨_, W.eqS, ?_⟩) | (with_reducible refine W.isNe ?_; first | refine ⟨_, W.neI, ?_⟩ | refine ⟨_, W.neS, ?_⟩)
    | (with_reducible refine W.isLf ?_; refine ⟨_, rfl, ?_⟩)
    | (with_reducible refine W.isBr ?_; first | refine ⟨_, rfl, fun _ => ?_, fun hf => Bool.noConfusion hf⟩ | refine ⟨_, rfl, fun hf => Bool.noConfusion hf, fun _ => ?_⟩)
    | (with_reducible refine W.isBr2 ?_; first | refine ⟨_, rfl, fun _ => ?_, fun hf => Bool.noConfusion hf⟩ | refine ⟨_, rfl, fun hf => Bool.noConfusion hf, fun _ => ?_⟩)
    | (with_reducible refine W.isLfS ?_; refine ⟨_, _, (by assumption), rfl, fun hl => ?_⟩))
  refine ⟨_, rfl, fun i σ h' => ∃ (u : List Nat) (o : Option D), σ = [some (.tup (rs.map ruleD)), some (.str u), o] ∧ h' = h ∧ i ≤ rs.length ∧ u.length * 2 ^ (rs.length - i) ≤ 1000000 ∧ ledM rs w = ledM (rs.drop i) u, ⟨w, _, rfl, rfl, Nat.zero_le _, by simpa using hw, by simp⟩, fun _ _ _ _ => wat_nil _ _, ?_, ?_⟩
  · rintro i x σ h' hx ⟨u, o, rfl, rfl, hi, hu, he⟩
    rw [List.getElem?_map] at hx
    obtain ⟨r, hr2, rfl⟩ := Option.map_eq_some_iff.mp hx
    obtain ⟨hlt, er⟩ := List.getElem?_eq_some_iff.mp hr2
    have rf := hr r (List.mem_of_getElem? hr2)
    have hp : 2 ^ (rs.length - i) = 2 * 2 ^ (rs.length - (i + 1)) := by
      rw [← Nat.pow_succ']
      congr 1
      omega
    have hpos : 0 < 2 ^ (rs.length - (i + 1)) := Nat.pow_pos (by decide)
    have hul : u.length ≤ 1000000 := by
      rw [hp] at hu
      have : u.length * 1 ≤ u.length * (2 * 2 ^ (rs.length - (i + 1))) := Nat.mul_le_mul_left _ (by omega)
      omega
    refine ⟨_, rfl, ?_⟩
    repeat (first
    | with_reducible refine W.cons ?_ | with_reducible refine W.set ?_ | with_reducible refine W.ret ?_ | with_reducible refine W.cst ?_ | (with_reducible refine W.isVar ?_; refine W.var rfl ?_)
    | (with_reducible refine W.isGetR ?_; refine W.getR rfl (by assumption) rfl ?_) | (with_reducible refine W.isLenR ?_; refine W.lenR rfl (by assumption) ?_) | (with_reducible refine W.isSetR ?_; refine W.setR rfl ?_)
    | with_reducible refine W.o2 ?_ | with_reducible refine W.o1 ?_ | with_reducible refine W.call ?_ | with_reducible refine W.es ?_ | with_reducible refine W.es0 ?_ | with_reducible refine W.nx ?_ | with_reducible refine W.rt ?_ | with_reducible refine W.tup ?_ | with_reducible refine W.lst ?_
    | with_reducible refine W.slice ?_ | with_reducible refine W.val ?_ | with_reducible refine W.rng ?_ | with_reducible refine W.enu ?_ | with_reducible refine W.seti ?_ | with_reducible refine W.ts0 ?_ | with_reducible refine W.ts1 ?_ | with_reducible refine W.cond ?_ | with_reducible refine W.and ?_
    | with_reducible refine W.or ?_ | with_reducible refine W.ife ?_ | with_reducible refine W.nil ?_ | with_reducible refine W.par ?_ | with_reducible refine W.app ?_ | with_reducible refine W.ext ?_
    | (with_reducible refine W.isLt ?_; refine ⟨by simp, ?_⟩) | (with_reducible refine W.isMul ?_; refine ⟨_, W.mulK (by decide), ?_⟩) | (with_reducible refine W.isEq ?_; first | refine ⟨_, W.eqI, ?_⟩ | refine ⟨_, W.eqS, ?_⟩) | (with_reducible refine W.isNe ?_; first | refine ⟨_, W.neI, ?_⟩ | refine ⟨_, W.neS, ?_⟩)
    | (with_reducible refine W.isLf ?_; refine ⟨_, rfl, ?_⟩)
    | (with_reducible refine W.isBr ?_; first | refine ⟨_, rfl, fun _ => ?_, fun hf => Bool.noConfusion hf⟩ | refine ⟨_, rfl, fun hf => Bool.noConfusion hf, fun _ => ?_⟩)
    | (with_reducible refine W.isBr2 ?_; first | refine ⟨_, rfl, fun _ => ?_, fun hf => Bool.noConfusion hf⟩ | refine ⟨_, rfl, fun hf => Bool.noConfusion hf, fun _ => ?_⟩)
    | (with_reducible refine W.isLfS ?_; refine ⟨_, _, (by assumption), rfl, fun hl => ?_⟩))
    refine (changed_ok (d := d) W1 hul rf).mono fun v h1 q => ?_
    obtain ⟨rfl, rfl⟩ := q
    repeat (first
    | with_reducible refine W.cons ?_ | with_reducible refine W.set ?_ | with_reducible refine W.ret ?_ | with_reducible refine W.cst ?_ | (with_reducible refine W.isVar ?_; refine W.var rfl ?_)
    | (with_reducible refine W.isGetR ?_; refine W.getR rfl (by assumption) rfl ?_) | (with_reducible refine W.isLenR ?_; refine W.lenR rfl (by assumption) ?_) | (with_reducible refine W.isSetR ?_; refine W.setR rfl ?_)
    | with_reducible refine W.o2 ?_ | with_reducible refine W.o1 ?_ | with_reducible refine W.call ?_ | with_reducible refine W.es ?_ | with_reducible refine W.es0 ?_ | with_reducible refine W.nx ?_ | with_reducible refine W.rt ?_ | with_reducible refine W.tup ?_ | with_reducible refine W.lst ?_
    | with_reducible refine W.slice ?_ | with_reducible refine W.val ?_ | with_reducible refine W.rng ?_ | with_reducible refine W.enu ?_ | with_reducible refine W.seti ?_ | with_reducible refine W.ts0 ?_ | with_reducible refine W.ts1 ?_ | with_reducible refine W.cond ?_ | with_reducible refine W.and ?_
    | with_reducible refine W.or ?_ | with_reducible refine W.ife ?_ | with_reducible refine W.nil ?_ | with_reducible refine W.par ?_ | with_reducible refine W.app ?_ | with_reducible refine W.ext ?_
    | (with_reducible refine W.isLt ?_; refine ⟨by simp, ?_⟩) | (with_reducible refine W.isMul ?_; refine ⟨_, W.mulK (by decide), ?_⟩) | (with_reducible refine W.isEq ?_; first | refine ⟨_, W.eqI, ?_⟩ | refine ⟨_, W.eqS, ?_⟩) | (with_reducible refine W.isNe ?_; first | refine ⟨_, W.neI, ?_⟩ | refine ⟨_, W.neS, ?_⟩)
    | (with_reducible refine W.isLf ?_; refine ⟨_, rfl, ?_⟩)
    | (with_reducible refine W.isBr ?_; first | refine ⟨_, rfl, fun _ => ?_, fun hf => Bool.noConfusion hf⟩ | refine ⟨_, rfl, fun hf => Bool.noConfusion hf, fun _ => ?_⟩)
    | (with_reducible refine W.isBr2 ?_; first | refine ⟨_, rfl, fun _ => ?_, fun hf => Bool.noConfusion hf⟩ | refine ⟨_, rfl, fun hf => Bool.noConfusion hf, fun _ => ?_⟩)
    | (with_reducible refine W.isLfS ?_; refine ⟨_, _, (by assumption), rfl, fun hl => ?_⟩))
    refine ⟨changedM r u, _, rfl, rfl, hlt, ?_, ?_⟩
    · have hcl := changed_len (r := r) (w := u) rf.out
      have h1 : (changedM r u).length * 2 ^ (rs.length - (i + 1)) ≤ 2 * u.length * 2 ^ (rs.length - (i + 1)) := Nat.mul_le_mul_right _ hcl
      have h2 : 2 * u.length * 2 ^ (rs.length - (i + 1)) = u.length * 2 ^ (rs.length - i) := by rw [hp, Nat.mul_comm 2 u.length, Nat.mul_assoc]
      omega
    · rw [he, List.drop_eq_getElem_cons hlt, er]
      rfl
  · rintro σ h' ⟨u, o, rfl, rfl, hi, hu, he⟩
    repeat (first
    | with_reducible refine W.cons ?_ | with_reducible refine W.set ?_ | with_reducible refine W.ret ?_ | with_reducible refine W.cst ?_ | (with_reducible refine W.isVar ?_; refine W.var rfl ?_)
    | (with_reducible refine W.isGetR ?_; refine W.getR rfl (by assumption) rfl ?_) | (with_reducible refine W.isLenR ?_; refine W.lenR rfl (by assumption) ?_) | (with_reducible refine W.isSetR ?_; refine W.setR rfl ?_)
    | with_reducible refine W.o2 ?_ | with_reducible refine W.o1 ?_ | with_reducible refine W.call ?_ | with_reducible refine W.es ?_ | with_reducible refine W.es0 ?_ | with_reducible refine W.nx ?_ | with_reducible refine W.rt ?_ | with_reducible refine W.tup ?_ | with_reducible refine W.lst ?_
    | with_reducible refine W.slice ?_ | with_reducible refine W.val ?_ | with_reducible refine W.rng ?_ | with_reducible refine W.enu ?_ | with_reducible refine W.seti ?_ | with_reducible refine W.ts0 ?_ | with_reducible refine W.ts1 ?_ | with_reducible refine W.cond ?_ | with_reducible refine W.and ?_
    | with_reducible refine W.or ?_ | with_reducible refine W.ife ?_ | with_reducible refine W.nil ?_ | with_reducible refine W.par ?_ | with_reducible refine W.app ?_ | with_reducible refine W.ext ?_
    | (with_reducible refine W.isLt ?_; refine ⟨by simp, ?_⟩) | (with_reducible refine W.isMul ?_; refine ⟨_, W.mulK (by decide), ?_⟩) | (with_reducible refine W.isEq ?_; first | refine ⟨_, W.eqI, ?_⟩ | refine ⟨_, W.eqS, ?_⟩) | (with_reducible refine W.isNe ?_; first | refine ⟨_, W.neI, ?_⟩ | refine ⟨_, W.neS, ?_⟩)
    | (with_reducible refine W.isLf ?_; refine ⟨_, rfl, ?_⟩)
    | (with_reducible refine W.isBr ?_; first | refine ⟨_, rfl, fun _ => ?_, fun hf => Bool.noConfusion hf⟩ | refine ⟨_, rfl, fun hf => Bool.noConfusion hf, fun _ => ?_⟩)
    | (with_reducible refine W.isBr2 ?_; first | refine ⟨_, rfl, fun _ => ?_, fun hf => Bool.noConfusion hf⟩ | refine ⟨_, rfl, fun hf => Bool.noConfusion hf, fun _ => ?_⟩)
    | (with_reducible refine W.isLfS ?_; refine ⟨_, _, (by assumption), rfl, fun hl => ?_⟩))
    refine W.en ?_
    rw [fin_self]
    refine Ok.ok ⟨?_, rfl⟩
    rw [he, List.length_map, List.drop_length]
    rfl
/-! ### the law's own -/
theorem here_expr2 {C : Calls} {σ : Env} {a b k : Nat} {w : List Nat} {i j : Int} (ha : σ[a]? = some (some (.str w))) (hb : σ[b]? = some (some (.int i))) (hk : σ[k]? = some (some (.int j))) (hw : w.length ≤ line) :
    Ok (evE C (.ife (.and (.o2 .ge (.o2 .add (.var b) (.var k)) (.cst (.int 0))) (.o2 .lt (.o2 .add (.var b) (.var k)) (.o1 .len (.var a)))) (.o2 .idx (.var a) (.o2 .add (.var b) (.var k))) (.cst (.str [35]))) σ h) fun v h' => v = .str [hereM w (i + j)] ∧ h' = h := by
  refine W.ife (W.and (W.o2 (W.o2 (W.var hb (W.var hk ⟨_, rfl, W.cst ⟨_, rfl, _, rfl, fun h0 => W.o2 (W.o2 (W.var hb (W.var hk ⟨_, rfl, W.o1 (W.var ha ⟨_, len_str hw, _, rfl, _, rfl, fun h1 => W.o2 (W.var ha (W.o2 (W.var hb (W.var hk ⟨_, rfl, ?_⟩)))), fun h1 => W.cst ?_⟩)⟩))), fun h0 => ⟨_, rfl, fun hf => Bool.noConfusion hf, fun _ => W.cst ?_⟩⟩⟩)))))
  · simp only [decide_eq_true_eq] at h0 h1
    exact ⟨_, here_in h0 h1 hw, rfl, rfl⟩
  · simp only [decide_eq_true_eq, decide_eq_false_iff_not] at h0 h1
    exact ⟨by rw [here_out (by omega)], rfl⟩
  · simp only [decide_eq_false_iff_not] at h0
    exact ⟨by rw [here_out (by omega)], rfl⟩
theorem law_holds_ok (hT : T "" "_law_holds" = some ⟨3, 5, b_law_holds⟩) {w : List Nat} {p : Int} {ss : List (List Nat)} (hw : w.length ≤ line) (hss : ss.length ≤ 1000) :
    Ok (callF T (d + 1) "" "_law_holds" [.str w, .int p, .tup (ss.map D.str)] h) fun v h' => v = .bl (holdsM w p ss) ∧ h' = h := by
  refine W.fn hT rfl ?_
  unfold b_law_holds
  simp only [startD, List.map_cons, List.map_nil, List.cons_append, List.nil_append, List.length_cons, List.length_nil, List.replicate, Nat.reduceAdd, Nat.reduceSub]
  refine W.cons (W.forr ?_)
  repeat (first
    | with_reducible refine W.cons ?_ | with_reducible refine W.set ?_ | with_reducible refine W.ret ?_ | with_reducible refine W.cst ?_ | (with_reducible refine W.isVar ?_; refine W.var rfl ?_)
    | (with_reducible refine W.isGetR ?_; refine W.getR rfl (by assumption) rfl ?_) | (with_reducible refine W.isLenR ?_; refine W.lenR rfl (by assumption) ?_) | (with_reducible refine W.isSetR ?_; refine W.setR rfl ?_)
    | with_reducible refine W.o2 ?_ | with_reducible refine W.o1 ?_ | with_reducible refine W.call ?_ | with_reducible refine W.es ?_ | with_reducible refine W.es0 ?_ | with_reducible refine W.nx ?_ | with_reducible refine W.rt ?_ | with_reducible refine W.tup ?_ | with_reducible refine W.lst ?_
    | with_reducible refine W.slice ?_ | with_reducible refine W.val ?_ | with_reducible refine W.rng ?_ | with_reducible refine W.enu ?_ | with_reducible refine W.seti ?_ | with_reducible refine W.ts0 ?_ | with_reducible refine W.ts1 ?_ | with_reducible refine W.cond ?_ | with_reducible refine W.and ?_
    | with_reducible refine W.or ?_ | with_reducible refine W.ife ?_ | with_reducible refine W.nil ?_ | with_reducible refine W.par ?_ | with_reducible refine W.app ?_ | with_reducible refine W.ext ?_
    | (with_reducible refine W.isLt ?_; refine ⟨by simp, ?_⟩) | (with_reducible refine W.isMul ?_; refine ⟨_, W.mulK (by decide), ?_⟩) | (with_reducible refine W.isEq ?_; first | refine ⟨_, W.eqI, ?_⟩ | refine ⟨_, W.eqS, ?_⟩) | (with_reducible refine W.isNe ?_; first | refine ⟨_, W.neI, ?_⟩ | refine ⟨_, W.neS, ?_⟩)
    | (with_reducible refine W.isLf ?_; refine ⟨_, rfl, ?_⟩)
    | (with_reducible refine W.isBr ?_; first | refine ⟨_, rfl, fun _ => ?_, fun hf => Bool.noConfusion hf⟩ | refine ⟨_, rfl, fun hf => Bool.noConfusion hf, fun _ => ?_⟩)
    | (with_reducible refine W.isBr2 ?_; first | refine ⟨_, rfl, fun _ => ?_, fun hf => Bool.noConfusion hf⟩ | refine ⟨_, rfl, fun hf => Bool.noConfusion hf, fun _ => ?_⟩)
    | (with_reducible refine W.isLfS ?_; refine ⟨_, _, (by assumption), rfl, fun hl => ?_⟩))
  refine ⟨_, rfl, small_of (by omega) (by rw [List.length_map]; omega), fun i σ h' => ∃ o3 o4, σ = [some (.str w), some (.int p), some (.tup (ss.map D.str)), o3, o4] ∧ h' = h ∧ holdsM w p ss = holdsM w (p + (i : Nat)) (ss.drop i), ⟨_, _, rfl, rfl, by simp⟩, fun _ _ _ _ => wat_nil _ _, ?_, ?_⟩
  · rintro i x σ h' hx ⟨o3, o4, rfl, rfl, hh⟩
    obtain ⟨rfl, hi⟩ := rng_get hx
    rw [List.length_map] at hi
    have hlt : i < ss.length := by omega
    rw [List.drop_eq_getElem_cons hlt, holdsM] at hh
    refine ⟨_, rfl, ?_⟩
    refine W.cons (W.set ((here_expr2 (i := p) (j := 0 + (i : Nat)) rfl rfl rfl hw).mono fun v h1 q => ?_))
    obtain ⟨rfl, rfl⟩ := q
    refine ⟨by simp, W.nx (W.cons ?_)⟩
    repeat (first
    | with_reducible refine W.set ?_ | with_reducible refine W.ret ?_ | with_reducible refine W.cst ?_ | (with_reducible refine W.isVar ?_; refine W.var rfl ?_)
    | (with_reducible refine W.isGetR ?_; refine W.getR rfl (by assumption) rfl ?_) | (with_reducible refine W.isLenR ?_; refine W.lenR rfl (by assumption) ?_) | (with_reducible refine W.isSetR ?_; refine W.setR rfl ?_)
    | with_reducible refine W.o2 ?_ | with_reducible refine W.o1 ?_ | with_reducible refine W.call ?_ | with_reducible refine W.es ?_ | with_reducible refine W.es0 ?_ | with_reducible refine W.rt ?_ | with_reducible refine W.tup ?_ | with_reducible refine W.lst ?_
    | with_reducible refine W.slice ?_ | with_reducible refine W.val ?_ | with_reducible refine W.rng ?_ | with_reducible refine W.enu ?_ | with_reducible refine W.seti ?_ | with_reducible refine W.ts0 ?_ | with_reducible refine W.ts1 ?_ | with_reducible refine W.cond ?_ | with_reducible refine W.and ?_
    | with_reducible refine W.or ?_ | with_reducible refine W.ife ?_ | with_reducible refine W.nil ?_ | with_reducible refine W.par ?_ | with_reducible refine W.app ?_ | with_reducible refine W.ext ?_
    | (with_reducible refine W.isLt ?_; refine ⟨by simp, ?_⟩) | (with_reducible refine W.isMul ?_; refine ⟨_, W.mulK (by decide), ?_⟩) | (with_reducible refine W.isEq ?_; first | refine ⟨_, W.eqI, ?_⟩ | refine ⟨_, W.eqS, ?_⟩) | (with_reducible refine W.isNe ?_; first | refine ⟨_, W.neI, ?_⟩ | refine ⟨_, W.neS, ?_⟩)
    | (with_reducible refine W.isLf ?_; refine ⟨_, rfl, ?_⟩)
    | (with_reducible refine W.isBr ?_; first | refine ⟨_, rfl, fun _ => ?_, fun hf => Bool.noConfusion hf⟩ | refine ⟨_, rfl, fun hf => Bool.noConfusion hf, fun _ => ?_⟩)
    | (with_reducible refine W.isBr2 ?_; first | refine ⟨_, rfl, fun _ => ?_, fun hf => Bool.noConfusion hf⟩ | refine ⟨_, rfl, fun hf => Bool.noConfusion hf, fun _ => ?_⟩)
    | (with_reducible refine W.isLfS ?_; refine ⟨_, _, (by assumption), rfl, fun hl => ?_⟩))
    have e0 : o2F .idx h1 (.tup (ss.map D.str)) (.int (0 + (i : Nat))) = some (.str ss[i]) := by
      obtain ⟨y, e1, e2⟩ := W.atI_some (xs := ss.map D.str) (i := 0 + (i : Nat)) (by omega) (by rw [List.length_map]; omega)
      show atI (ss.map D.str) _ = _
      rw [e1, ← e2, List.getElem?_map, show ((0 : Int) + (i : Nat)).toNat = i by omega, List.getElem?_eq_getElem hlt]
      rfl
    refine ⟨_, e0, ?_⟩
    rw [Int.zero_add]
    refine ⟨_, rfl, _, rfl, fun hk => ?_, fun hk => ?_⟩
    · repeat (first
    | with_reducible refine W.cons ?_ | with_reducible refine W.set ?_ | with_reducible refine W.ret ?_ | with_reducible refine W.cst ?_ | (with_reducible refine W.isVar ?_; refine W.var rfl ?_)
    | (with_reducible refine W.isGetR ?_; refine W.getR rfl (by assumption) rfl ?_) | (with_reducible refine W.isLenR ?_; refine W.lenR rfl (by assumption) ?_) | (with_reducible refine W.isSetR ?_; refine W.setR rfl ?_)
    | with_reducible refine W.o2 ?_ | with_reducible refine W.o1 ?_ | with_reducible refine W.call ?_ | with_reducible refine W.es ?_ | with_reducible refine W.es0 ?_ | with_reducible refine W.nx ?_ | with_reducible refine W.rt ?_ | with_reducible refine W.tup ?_ | with_reducible refine W.lst ?_
    | with_reducible refine W.slice ?_ | with_reducible refine W.val ?_ | with_reducible refine W.rng ?_ | with_reducible refine W.enu ?_ | with_reducible refine W.seti ?_ | with_reducible refine W.ts0 ?_ | with_reducible refine W.ts1 ?_ | with_reducible refine W.cond ?_ | with_reducible refine W.and ?_
    | with_reducible refine W.or ?_ | with_reducible refine W.ife ?_ | with_reducible refine W.nil ?_ | with_reducible refine W.par ?_ | with_reducible refine W.app ?_ | with_reducible refine W.ext ?_
    | (with_reducible refine W.isLt ?_; refine ⟨by simp, ?_⟩) | (with_reducible refine W.isMul ?_; refine ⟨_, W.mulK (by decide), ?_⟩) | (with_reducible refine W.isEq ?_; first | refine ⟨_, W.eqI, ?_⟩ | refine ⟨_, W.eqS, ?_⟩) | (with_reducible refine W.isNe ?_; first | refine ⟨_, W.neI, ?_⟩ | refine ⟨_, W.neS, ?_⟩)
    | (with_reducible refine W.isLf ?_; refine ⟨_, rfl, ?_⟩)
    | (with_reducible refine W.isBr ?_; first | refine ⟨_, rfl, fun _ => ?_, fun hf => Bool.noConfusion hf⟩ | refine ⟨_, rfl, fun hf => Bool.noConfusion hf, fun _ => ?_⟩)
    | (with_reducible refine W.isBr2 ?_; first | refine ⟨_, rfl, fun _ => ?_, fun hf => Bool.noConfusion hf⟩ | refine ⟨_, rfl, fun hf => Bool.noConfusion hf, fun _ => ?_⟩)
    | (with_reducible refine W.isLfS ?_; refine ⟨_, _, (by assumption), rfl, fun hl => ?_⟩))
      refine W.en ?_
      rw [fin_self]
      simp only [Bool.not_eq_true'] at hk
      rw [hk, Bool.false_and] at hh
      exact Ok.ok ⟨by rw [hh], rfl⟩
    · simp only [Bool.not_eq_false'] at hk
      rw [hk, Bool.true_and] at hh
      refine W.nil (W.nx (W.nil ⟨_, _, rfl, rfl, ?_⟩))
      rw [hh]
      congr 1
      omega
  · rintro σ h' ⟨o3, o4, rfl, rfl, hh⟩
    repeat (first
    | with_reducible refine W.cons ?_ | with_reducible refine W.set ?_ | with_reducible refine W.ret ?_ | with_reducible refine W.cst ?_ | (with_reducible refine W.isVar ?_; refine W.var rfl ?_)
    | (with_reducible refine W.isGetR ?_; refine W.getR rfl (by assumption) rfl ?_) | (with_reducible refine W.isLenR ?_; refine W.lenR rfl (by assumption) ?_) | (with_reducible refine W.isSetR ?_; refine W.setR rfl ?_)
    | with_reducible refine W.o2 ?_ | with_reducible refine W.o1 ?_ | with_reducible refine W.call ?_ | with_reducible refine W.es ?_ | with_reducible refine W.es0 ?_ | with_reducible refine W.nx ?_ | with_reducible refine W.rt ?_ | with_reducible refine W.tup ?_ | with_reducible refine W.lst ?_
    | with_reducible refine W.slice ?_ | with_reducible refine W.val ?_ | with_reducible refine W.rng ?_ | with_reducible refine W.enu ?_ | with_reducible refine W.seti ?_ | with_reducible refine W.ts0 ?_ | with_reducible refine W.ts1 ?_ | with_reducible refine W.cond ?_ | with_reducible refine W.and ?_
    | with_reducible refine W.or ?_ | with_reducible refine W.ife ?_ | with_reducible refine W.nil ?_ | with_reducible refine W.par ?_ | with_reducible refine W.app ?_ | with_reducible refine W.ext ?_
    | (with_reducible refine W.isLt ?_; refine ⟨by simp, ?_⟩) | (with_reducible refine W.isMul ?_; refine ⟨_, W.mulK (by decide), ?_⟩) | (with_reducible refine W.isEq ?_; first | refine ⟨_, W.eqI, ?_⟩ | refine ⟨_, W.eqS, ?_⟩) | (with_reducible refine W.isNe ?_; first | refine ⟨_, W.neI, ?_⟩ | refine ⟨_, W.neS, ?_⟩)
    | (with_reducible refine W.isLf ?_; refine ⟨_, rfl, ?_⟩)
    | (with_reducible refine W.isBr ?_; first | refine ⟨_, rfl, fun _ => ?_, fun hf => Bool.noConfusion hf⟩ | refine ⟨_, rfl, fun hf => Bool.noConfusion hf, fun _ => ?_⟩)
    | (with_reducible refine W.isBr2 ?_; first | refine ⟨_, rfl, fun _ => ?_, fun hf => Bool.noConfusion hf⟩ | refine ⟨_, rfl, fun hf => Bool.noConfusion hf, fun _ => ?_⟩)
    | (with_reducible refine W.isLfS ?_; refine ⟨_, _, (by assumption), rfl, fun hl => ?_⟩))
    refine W.en ?_
    rw [fin_self]
    refine Ok.ok ⟨?_, rfl⟩
    rw [hh]
    simp only [rngD, List.length_map, List.length_range]
    rw [show ((ss.length : Int) - 0).toNat = ss.length by omega, List.drop_length, holdsM]
theorem law_applies_ok (W2 : WLT T) {r : Rule} {w : List Nat} {p : Nat} (hw : w.length ≤ line) (hp : p < w.length) (hc : r.ch.length ≤ 1000) (h1 : r.bf.length ≤ 1000) (h2 : r.bh.length ≤ 1000) :
    Ok (callF T (d + 2) "" "_law_applies" [ruleD r, .str w, .int p] h) fun v h' => v = .bl (appliesM r w p) ∧ h' = h := by
  refine W.fn W2.applies rfl ?_
  unfold b_law_applies
  simp only [startD, List.map_cons, List.map_nil, List.cons_append, List.nil_append, List.length_cons, List.length_nil, List.replicate, Nat.reduceAdd, Nat.reduceSub]
  refine W.cons (W.set (W.compM firstF ?_))
  repeat (first
    | with_reducible refine W.cons ?_ | with_reducible refine W.set ?_ | with_reducible refine W.ret ?_ | with_reducible refine W.cst ?_ | (with_reducible refine W.isVar ?_; refine W.var rfl ?_)
    | (with_reducible refine W.isGetR ?_; refine W.getR rfl (by assumption) rfl ?_) | (with_reducible refine W.isLenR ?_; refine W.lenR rfl (by assumption) ?_) | (with_reducible refine W.isSetR ?_; refine W.setR rfl ?_)
    | with_reducible refine W.o2 ?_ | with_reducible refine W.o1 ?_ | with_reducible refine W.call ?_ | with_reducible refine W.es ?_ | with_reducible refine W.es0 ?_ | with_reducible refine W.nx ?_ | with_reducible refine W.rt ?_ | with_reducible refine W.tup ?_ | with_reducible refine W.lst ?_
    | with_reducible refine W.slice ?_ | with_reducible refine W.val ?_ | with_reducible refine W.rng ?_ | with_reducible refine W.enu ?_ | with_reducible refine W.seti ?_ | with_reducible refine W.ts0 ?_ | with_reducible refine W.ts1 ?_ | with_reducible refine W.cond ?_ | with_reducible refine W.and ?_
    | with_reducible refine W.or ?_ | with_reducible refine W.ife ?_ | with_reducible refine W.nil ?_ | with_reducible refine W.par ?_ | with_reducible refine W.app ?_ | with_reducible refine W.ext ?_
    | (with_reducible refine W.isLt ?_; refine ⟨by simp, ?_⟩) | (with_reducible refine W.isMul ?_; refine ⟨_, W.mulK (by decide), ?_⟩) | (with_reducible refine W.isEq ?_; first | refine ⟨_, W.eqI, ?_⟩ | refine ⟨_, W.eqS, ?_⟩) | (with_reducible refine W.isNe ?_; first | refine ⟨_, W.neI, ?_⟩ | refine ⟨_, W.neS, ?_⟩)
    | (with_reducible refine W.isLf ?_; refine ⟨_, rfl, ?_⟩)
    | (with_reducible refine W.isBr ?_; first | refine ⟨_, rfl, fun _ => ?_, fun hf => Bool.noConfusion hf⟩ | refine ⟨_, rfl, fun hf => Bool.noConfusion hf, fun _ => ?_⟩)
    | (with_reducible refine W.isBr2 ?_; first | refine ⟨_, rfl, fun _ => ?_, fun hf => Bool.noConfusion hf⟩ | refine ⟨_, rfl, fun hf => Bool.noConfusion hf, fun _ => ?_⟩)
    | (with_reducible refine W.isLfS ?_; refine ⟨_, _, (by assumption), rfl, fun hl => ?_⟩))
  refine ⟨_, rfl, fun x hx => ?_, ?_, ?_⟩
  · obtain ⟨q, _, rfl⟩ := List.mem_map.mp hx
    refine ⟨_, rfl, ?_⟩
    repeat (first
    | with_reducible refine W.cons ?_ | with_reducible refine W.set ?_ | with_reducible refine W.ret ?_ | with_reducible refine W.cst ?_ | (with_reducible refine W.isVar ?_; refine W.var rfl ?_)
    | (with_reducible refine W.isGetR ?_; refine W.getR rfl (by assumption) rfl ?_) | (with_reducible refine W.isLenR ?_; refine W.lenR rfl (by assumption) ?_) | (with_reducible refine W.isSetR ?_; refine W.setR rfl ?_)
    | with_reducible refine W.o2 ?_ | with_reducible refine W.o1 ?_ | with_reducible refine W.call ?_ | with_reducible refine W.es ?_ | with_reducible refine W.es0 ?_ | with_reducible refine W.nx ?_ | with_reducible refine W.rt ?_ | with_reducible refine W.tup ?_ | with_reducible refine W.lst ?_
    | with_reducible refine W.slice ?_ | with_reducible refine W.val ?_ | with_reducible refine W.rng ?_ | with_reducible refine W.enu ?_ | with_reducible refine W.seti ?_ | with_reducible refine W.ts0 ?_ | with_reducible refine W.ts1 ?_ | with_reducible refine W.cond ?_ | with_reducible refine W.and ?_
    | with_reducible refine W.or ?_ | with_reducible refine W.ife ?_ | with_reducible refine W.nil ?_ | with_reducible refine W.par ?_ | with_reducible refine W.app ?_ | with_reducible refine W.ext ?_
    | (with_reducible refine W.isLt ?_; refine ⟨by simp, ?_⟩) | (with_reducible refine W.isMul ?_; refine ⟨_, W.mulK (by decide), ?_⟩) | (with_reducible refine W.isEq ?_; first | refine ⟨_, W.eqI, ?_⟩ | refine ⟨_, W.eqS, ?_⟩) | (with_reducible refine W.isNe ?_; first | refine ⟨_, W.neI, ?_⟩ | refine ⟨_, W.neS, ?_⟩)
    | (with_reducible refine W.isLf ?_; refine ⟨_, rfl, ?_⟩)
    | (with_reducible refine W.isBr ?_; first | refine ⟨_, rfl, fun _ => ?_, fun hf => Bool.noConfusion hf⟩ | refine ⟨_, rfl, fun hf => Bool.noConfusion hf, fun _ => ?_⟩)
    | (with_reducible refine W.isBr2 ?_; first | refine ⟨_, rfl, fun _ => ?_, fun hf => Bool.noConfusion hf⟩ | refine ⟨_, rfl, fun hf => Bool.noConfusion hf, fun _ => ?_⟩)
    | (with_reducible refine W.isLfS ?_; refine ⟨_, _, (by assumption), rfl, fun hl => ?_⟩))
    exact ⟨fun _ => W.var rfl ⟨rfl, rfl⟩, fun hf => Bool.noConfusion hf⟩
  · rw [firsts]
    simp only [List.length_map]
    unfold line
    omega
  · rw [firsts]
    repeat (first
    | with_reducible refine W.cons ?_ | with_reducible refine W.set ?_ | with_reducible refine W.ret ?_ | with_reducible refine W.cst ?_ | (with_reducible refine W.isVar ?_; refine W.var rfl ?_)
    | (with_reducible refine W.isGetR ?_; refine W.getR rfl (by assumption) rfl ?_) | (with_reducible refine W.isLenR ?_; refine W.lenR rfl (by assumption) ?_) | (with_reducible refine W.isSetR ?_; refine W.setR rfl ?_)
    | with_reducible refine W.o2 ?_ | with_reducible refine W.o1 ?_ | with_reducible refine W.call ?_ | with_reducible refine W.es ?_ | with_reducible refine W.es0 ?_ | with_reducible refine W.nx ?_ | with_reducible refine W.rt ?_ | with_reducible refine W.tup ?_ | with_reducible refine W.lst ?_
    | with_reducible refine W.slice ?_ | with_reducible refine W.val ?_ | with_reducible refine W.rng ?_ | with_reducible refine W.enu ?_ | with_reducible refine W.seti ?_ | with_reducible refine W.ts0 ?_ | with_reducible refine W.ts1 ?_ | with_reducible refine W.cond ?_ | with_reducible refine W.and ?_
    | with_reducible refine W.or ?_ | with_reducible refine W.ife ?_ | with_reducible refine W.nil ?_ | with_reducible refine W.par ?_ | with_reducible refine W.app ?_ | with_reducible refine W.ext ?_
    | (with_reducible refine W.isLt ?_; refine ⟨by simp, ?_⟩) | (with_reducible refine W.isMul ?_; refine ⟨_, W.mulK (by decide), ?_⟩) | (with_reducible refine W.isEq ?_; first | refine ⟨_, W.eqI, ?_⟩ | refine ⟨_, W.eqS, ?_⟩) | (with_reducible refine W.isNe ?_; first | refine ⟨_, W.neI, ?_⟩ | refine ⟨_, W.neS, ?_⟩)
    | (with_reducible refine W.isLf ?_; refine ⟨_, rfl, ?_⟩)
    | (with_reducible refine W.isBr ?_; first | refine ⟨_, rfl, fun _ => ?_, fun hf => Bool.noConfusion hf⟩ | refine ⟨_, rfl, fun hf => Bool.noConfusion hf, fun _ => ?_⟩)
    | (with_reducible refine W.isBr2 ?_; first | refine ⟨_, rfl, fun _ => ?_, fun hf => Bool.noConfusion hf⟩ | refine ⟨_, rfl, fun hf => Bool.noConfusion hf, fun _ => ?_⟩)
    | (with_reducible refine W.isLfS ?_; refine ⟨_, _, (by assumption), rfl, fun hl => ?_⟩))
    refine ⟨_, here_in (by omega) (by omega) hw, ?_⟩
    repeat (first
    | with_reducible refine W.cons ?_ | with_reducible refine W.set ?_ | with_reducible refine W.ret ?_ | with_reducible refine W.cst ?_ | (with_reducible refine W.isVar ?_; refine W.var rfl ?_)
    | (with_reducible refine W.isGetR ?_; refine W.getR rfl (by assumption) rfl ?_) | (with_reducible refine W.isLenR ?_; refine W.lenR rfl (by assumption) ?_) | (with_reducible refine W.isSetR ?_; refine W.setR rfl ?_)
    | with_reducible refine W.o2 ?_ | with_reducible refine W.o1 ?_ | with_reducible refine W.call ?_ | with_reducible refine W.es ?_ | with_reducible refine W.es0 ?_ | with_reducible refine W.nx ?_ | with_reducible refine W.rt ?_ | with_reducible refine W.tup ?_ | with_reducible refine W.lst ?_
    | with_reducible refine W.slice ?_ | with_reducible refine W.val ?_ | with_reducible refine W.rng ?_ | with_reducible refine W.enu ?_ | with_reducible refine W.seti ?_ | with_reducible refine W.ts0 ?_ | with_reducible refine W.ts1 ?_ | with_reducible refine W.cond ?_ | with_reducible refine W.and ?_
    | with_reducible refine W.or ?_ | with_reducible refine W.ife ?_ | with_reducible refine W.nil ?_ | with_reducible refine W.par ?_ | with_reducible refine W.app ?_ | with_reducible refine W.ext ?_
    | (with_reducible refine W.isLt ?_; refine ⟨by simp, ?_⟩) | (with_reducible refine W.isMul ?_; refine ⟨_, W.mulK (by decide), ?_⟩) | (with_reducible refine W.isEq ?_; first | refine ⟨_, W.eqI, ?_⟩ | refine ⟨_, W.eqS, ?_⟩) | (with_reducible refine W.isNe ?_; first | refine ⟨_, W.neI, ?_⟩ | refine ⟨_, W.neS, ?_⟩)
    | (with_reducible refine W.isLf ?_; refine ⟨_, rfl, ?_⟩)
    | (with_reducible refine W.isBr ?_; first | refine ⟨_, rfl, fun _ => ?_, fun hf => Bool.noConfusion hf⟩ | refine ⟨_, rfl, fun hf => Bool.noConfusion hf, fun _ => ?_⟩)
    | (with_reducible refine W.isBr2 ?_; first | refine ⟨_, rfl, fun _ => ?_, fun hf => Bool.noConfusion hf⟩ | refine ⟨_, rfl, fun hf => Bool.noConfusion hf, fun _ => ?_⟩)
    | (with_reducible refine W.isLfS ?_; refine ⟨_, _, (by assumption), rfl, fun hl => ?_⟩))
    refine ⟨_, isin_ones rfl (fun _ => by simp [D.keep]), _, rfl, fun hk => ?_, fun hk => ?_⟩
    · repeat (first
    | with_reducible refine W.set ?_ | with_reducible refine W.ret ?_ | with_reducible refine W.cst ?_ | (with_reducible refine W.isVar ?_; refine W.var rfl ?_)
    | (with_reducible refine W.isGetR ?_; refine W.getR rfl (by assumption) rfl ?_) | (with_reducible refine W.isLenR ?_; refine W.lenR rfl (by assumption) ?_) | (with_reducible refine W.isSetR ?_; refine W.setR rfl ?_)
    | with_reducible refine W.o2 ?_ | with_reducible refine W.o1 ?_ | with_reducible refine W.call ?_ | with_reducible refine W.es ?_ | with_reducible refine W.es0 ?_ | with_reducible refine W.rt ?_ | with_reducible refine W.tup ?_ | with_reducible refine W.lst ?_
    | with_reducible refine W.slice ?_ | with_reducible refine W.val ?_ | with_reducible refine W.rng ?_ | with_reducible refine W.enu ?_ | with_reducible refine W.seti ?_ | with_reducible refine W.ts0 ?_ | with_reducible refine W.ts1 ?_ | with_reducible refine W.cond ?_ | with_reducible refine W.and ?_
    | with_reducible refine W.or ?_ | with_reducible refine W.ife ?_ | with_reducible refine W.nil ?_ | with_reducible refine W.par ?_ | with_reducible refine W.app ?_ | with_reducible refine W.ext ?_
    | (with_reducible refine W.isLt ?_; refine ⟨by simp, ?_⟩) | (with_reducible refine W.isMul ?_; refine ⟨_, W.mulK (by decide), ?_⟩) | (with_reducible refine W.isEq ?_; first | refine ⟨_, W.eqI, ?_⟩ | refine ⟨_, W.eqS, ?_⟩) | (with_reducible refine W.isNe ?_; first | refine ⟨_, W.neI, ?_⟩ | refine ⟨_, W.neS, ?_⟩)
    | (with_reducible refine W.isLf ?_; refine ⟨_, rfl, ?_⟩)
    | (with_reducible refine W.isBr ?_; first | refine ⟨_, rfl, fun _ => ?_, fun hf => Bool.noConfusion hf⟩ | refine ⟨_, rfl, fun hf => Bool.noConfusion hf, fun _ => ?_⟩)
    | (with_reducible refine W.isBr2 ?_; first | refine ⟨_, rfl, fun _ => ?_, fun hf => Bool.noConfusion hf⟩ | refine ⟨_, rfl, fun hf => Bool.noConfusion hf, fun _ => ?_⟩)
    | (with_reducible refine W.isLfS ?_; refine ⟨_, _, (by assumption), rfl, fun hl => ?_⟩))
      refine (law_holds_ok (d := d) W2.holds hw h1).mono fun v h1 q => ?_
      obtain ⟨rfl, rfl⟩ := q
      refine ⟨_, rfl, fun h3 => ?_, fun h3 => ?_⟩
      · repeat (first
    | with_reducible refine W.set ?_ | with_reducible refine W.ret ?_ | with_reducible refine W.cst ?_ | (with_reducible refine W.isVar ?_; refine W.var rfl ?_)
    | (with_reducible refine W.isGetR ?_; refine W.getR rfl (by assumption) rfl ?_) | (with_reducible refine W.isLenR ?_; refine W.lenR rfl (by assumption) ?_) | (with_reducible refine W.isSetR ?_; refine W.setR rfl ?_)
    | with_reducible refine W.o2 ?_ | with_reducible refine W.o1 ?_ | with_reducible refine W.call ?_ | with_reducible refine W.es ?_ | with_reducible refine W.es0 ?_ | with_reducible refine W.rt ?_ | with_reducible refine W.tup ?_ | with_reducible refine W.lst ?_
    | with_reducible refine W.slice ?_ | with_reducible refine W.val ?_ | with_reducible refine W.rng ?_ | with_reducible refine W.enu ?_ | with_reducible refine W.seti ?_ | with_reducible refine W.ts0 ?_ | with_reducible refine W.ts1 ?_ | with_reducible refine W.cond ?_ | with_reducible refine W.and ?_
    | with_reducible refine W.or ?_ | with_reducible refine W.ife ?_ | with_reducible refine W.nil ?_ | with_reducible refine W.par ?_ | with_reducible refine W.app ?_ | with_reducible refine W.ext ?_
    | (with_reducible refine W.isLt ?_; refine ⟨by simp, ?_⟩) | (with_reducible refine W.isMul ?_; refine ⟨_, W.mulK (by decide), ?_⟩) | (with_reducible refine W.isEq ?_; first | refine ⟨_, W.eqI, ?_⟩ | refine ⟨_, W.eqS, ?_⟩) | (with_reducible refine W.isNe ?_; first | refine ⟨_, W.neI, ?_⟩ | refine ⟨_, W.neS, ?_⟩)
    | (with_reducible refine W.isLf ?_; refine ⟨_, rfl, ?_⟩)
    | (with_reducible refine W.isBr ?_; first | refine ⟨_, rfl, fun _ => ?_, fun hf => Bool.noConfusion hf⟩ | refine ⟨_, rfl, fun hf => Bool.noConfusion hf, fun _ => ?_⟩)
    | (with_reducible refine W.isBr2 ?_; first | refine ⟨_, rfl, fun _ => ?_, fun hf => Bool.noConfusion hf⟩ | refine ⟨_, rfl, fun hf => Bool.noConfusion hf, fun _ => ?_⟩)
    | (with_reducible refine W.isLfS ?_; refine ⟨_, _, (by assumption), rfl, fun hl => ?_⟩))
        refine (law_holds_ok (d := d) W2.holds hw h2).mono fun v h1 q => ?_
        obtain ⟨rfl, rfl⟩ := q
        repeat (first
    | with_reducible refine W.cons ?_ | with_reducible refine W.set ?_ | with_reducible refine W.ret ?_ | with_reducible refine W.cst ?_ | (with_reducible refine W.isVar ?_; refine W.var rfl ?_)
    | (with_reducible refine W.isGetR ?_; refine W.getR rfl (by assumption) rfl ?_) | (with_reducible refine W.isLenR ?_; refine W.lenR rfl (by assumption) ?_) | (with_reducible refine W.isSetR ?_; refine W.setR rfl ?_)
    | with_reducible refine W.o2 ?_ | with_reducible refine W.o1 ?_ | with_reducible refine W.call ?_ | with_reducible refine W.es ?_ | with_reducible refine W.es0 ?_ | with_reducible refine W.nx ?_ | with_reducible refine W.rt ?_ | with_reducible refine W.tup ?_ | with_reducible refine W.lst ?_
    | with_reducible refine W.slice ?_ | with_reducible refine W.val ?_ | with_reducible refine W.rng ?_ | with_reducible refine W.enu ?_ | with_reducible refine W.seti ?_ | with_reducible refine W.ts0 ?_ | with_reducible refine W.ts1 ?_ | with_reducible refine W.cond ?_ | with_reducible refine W.and ?_
    | with_reducible refine W.or ?_ | with_reducible refine W.ife ?_ | with_reducible refine W.nil ?_ | with_reducible refine W.par ?_ | with_reducible refine W.app ?_ | with_reducible refine W.ext ?_
    | (with_reducible refine W.isLt ?_; refine ⟨by simp, ?_⟩) | (with_reducible refine W.isMul ?_; refine ⟨_, W.mulK (by decide), ?_⟩) | (with_reducible refine W.isEq ?_; first | refine ⟨_, W.eqI, ?_⟩ | refine ⟨_, W.eqS, ?_⟩) | (with_reducible refine W.isNe ?_; first | refine ⟨_, W.neI, ?_⟩ | refine ⟨_, W.neS, ?_⟩)
    | (with_reducible refine W.isLf ?_; refine ⟨_, rfl, ?_⟩)
    | (with_reducible refine W.isBr ?_; first | refine ⟨_, rfl, fun _ => ?_, fun hf => Bool.noConfusion hf⟩ | refine ⟨_, rfl, fun hf => Bool.noConfusion hf, fun _ => ?_⟩)
    | (with_reducible refine W.isBr2 ?_; first | refine ⟨_, rfl, fun _ => ?_, fun hf => Bool.noConfusion hf⟩ | refine ⟨_, rfl, fun hf => Bool.noConfusion hf, fun _ => ?_⟩)
    | (with_reducible refine W.isLfS ?_; refine ⟨_, _, (by assumption), rfl, fun hl => ?_⟩))
        refine W.en ?_
        rw [fin_self]
        rw [List.length_map] at h3
        exact Ok.ok ⟨by simp only [appliesM, hk, h3, Bool.true_and], rfl⟩
      · repeat (first
    | with_reducible refine W.cons ?_ | with_reducible refine W.set ?_ | with_reducible refine W.ret ?_ | with_reducible refine W.cst ?_ | (with_reducible refine W.isVar ?_; refine W.var rfl ?_)
    | (with_reducible refine W.isGetR ?_; refine W.getR rfl (by assumption) rfl ?_) | (with_reducible refine W.isLenR ?_; refine W.lenR rfl (by assumption) ?_) | (with_reducible refine W.isSetR ?_; refine W.setR rfl ?_)
    | with_reducible refine W.o2 ?_ | with_reducible refine W.o1 ?_ | with_reducible refine W.call ?_ | with_reducible refine W.es ?_ | with_reducible refine W.es0 ?_ | with_reducible refine W.nx ?_ | with_reducible refine W.rt ?_ | with_reducible refine W.tup ?_ | with_reducible refine W.lst ?_
    | with_reducible refine W.slice ?_ | with_reducible refine W.val ?_ | with_reducible refine W.rng ?_ | with_reducible refine W.enu ?_ | with_reducible refine W.seti ?_ | with_reducible refine W.ts0 ?_ | with_reducible refine W.ts1 ?_ | with_reducible refine W.cond ?_ | with_reducible refine W.and ?_
    | with_reducible refine W.or ?_ | with_reducible refine W.ife ?_ | with_reducible refine W.nil ?_ | with_reducible refine W.par ?_ | with_reducible refine W.app ?_ | with_reducible refine W.ext ?_
    | (with_reducible refine W.isLt ?_; refine ⟨by simp, ?_⟩) | (with_reducible refine W.isMul ?_; refine ⟨_, W.mulK (by decide), ?_⟩) | (with_reducible refine W.isEq ?_; first | refine ⟨_, W.eqI, ?_⟩ | refine ⟨_, W.eqS, ?_⟩) | (with_reducible refine W.isNe ?_; first | refine ⟨_, W.neI, ?_⟩ | refine ⟨_, W.neS, ?_⟩)
    | (with_reducible refine W.isLf ?_; refine ⟨_, rfl, ?_⟩)
    | (with_reducible refine W.isBr ?_; first | refine ⟨_, rfl, fun _ => ?_, fun hf => Bool.noConfusion hf⟩ | refine ⟨_, rfl, fun hf => Bool.noConfusion hf, fun _ => ?_⟩)
    | (with_reducible refine W.isBr2 ?_; first | refine ⟨_, rfl, fun _ => ?_, fun hf => Bool.noConfusion hf⟩ | refine ⟨_, rfl, fun hf => Bool.noConfusion hf, fun _ => ?_⟩)
    | (with_reducible refine W.isLfS ?_; refine ⟨_, _, (by assumption), rfl, fun hl => ?_⟩))
        refine W.en ?_
        rw [fin_self]
        rw [List.length_map] at h3
        exact Ok.ok ⟨by simp only [appliesM, hk, h3, Bool.true_and, Bool.false_and], rfl⟩
    · repeat (first
    | with_reducible refine W.cons ?_ | with_reducible refine W.set ?_ | with_reducible refine W.ret ?_ | with_reducible refine W.cst ?_ | (with_reducible refine W.isVar ?_; refine W.var rfl ?_)
    | (with_reducible refine W.isGetR ?_; refine W.getR rfl (by assumption) rfl ?_) | (with_reducible refine W.isLenR ?_; refine W.lenR rfl (by assumption) ?_) | (with_reducible refine W.isSetR ?_; refine W.setR rfl ?_)
    | with_reducible refine W.o2 ?_ | with_reducible refine W.o1 ?_ | with_reducible refine W.call ?_ | with_reducible refine W.es ?_ | with_reducible refine W.es0 ?_ | with_reducible refine W.nx ?_ | with_reducible refine W.rt ?_ | with_reducible refine W.tup ?_ | with_reducible refine W.lst ?_
    | with_reducible refine W.slice ?_ | with_reducible refine W.val ?_ | with_reducible refine W.rng ?_ | with_reducible refine W.enu ?_ | with_reducible refine W.seti ?_ | with_reducible refine W.ts0 ?_ | with_reducible refine W.ts1 ?_ | with_reducible refine W.cond ?_ | with_reducible refine W.and ?_
    | with_reducible refine W.or ?_ | with_reducible refine W.ife ?_ | with_reducible refine W.nil ?_ | with_reducible refine W.par ?_ | with_reducible refine W.app ?_ | with_reducible refine W.ext ?_
    | (with_reducible refine W.isLt ?_; refine ⟨by simp, ?_⟩) | (with_reducible refine W.isMul ?_; refine ⟨_, W.mulK (by decide), ?_⟩) | (with_reducible refine W.isEq ?_; first | refine ⟨_, W.eqI, ?_⟩ | refine ⟨_, W.eqS, ?_⟩) | (with_reducible refine W.isNe ?_; first | refine ⟨_, W.neI, ?_⟩ | refine ⟨_, W.neS, ?_⟩)
    | (with_reducible refine W.isLf ?_; refine ⟨_, rfl, ?_⟩)
    | (with_reducible refine W.isBr ?_; first | refine ⟨_, rfl, fun _ => ?_, fun hf => Bool.noConfusion hf⟩ | refine ⟨_, rfl, fun hf => Bool.noConfusion hf, fun _ => ?_⟩)
    | (with_reducible refine W.isBr2 ?_; first | refine ⟨_, rfl, fun _ => ?_, fun hf => Bool.noConfusion hf⟩ | refine ⟨_, rfl, fun hf => Bool.noConfusion hf, fun _ => ?_⟩)
    | (with_reducible refine W.isLfS ?_; refine ⟨_, _, (by assumption), rfl, fun hl => ?_⟩))
      refine W.en ?_
      rw [fin_self]
      exact Ok.ok ⟨by simp only [appliesM, hk, Bool.false_and], rfl⟩
theorem addS {a b : List Nat} (hl : a.length + b.length ≤ line) : o2F .add h (.str a) (.str b) = some (.str (a ++ b)) := by
  simp only [o2F, if_pos hl]
structure RL (r : Rule) : Prop extends RF r where
  bf : r.bf.length ≤ 1000
  bh : r.bh.length ≤ 1000
theorem law_changed_ok (W2 : WLT T) {r : Rule} {w : List Nat} (hw : w.length ≤ 1000000) (hr : RL r) :
    Ok (callF T (d + 3) "" "_law_changed" [ruleD r, .str w] h) fun v h' => v = .str (changedM r w) ∧ h' = h := by
  have hwl : w.length ≤ line := by unfold line; omega
  refine W.fn W2.changed rfl ?_
  unfold b_law_changed
  simp only [startD, List.map_cons, List.map_nil, List.cons_append, List.nil_append, List.length_cons, List.length_nil, List.replicate, Nat.reduceAdd, Nat.reduceSub]
  refine W.cons (W.set (W.cst ⟨by simp, W.nx (W.cons (W.forr ?_))⟩))
  repeat (first
    | with_reducible refine W.cons ?_ | with_reducible refine W.set ?_ | with_reducible refine W.ret ?_ | with_reducible refine W.cst ?_ | (with_reducible refine W.isVar ?_; refine W.var rfl ?_)
    | (with_reducible refine W.isGetR ?_; refine W.getR rfl (by assumption) rfl ?_) | (with_reducible refine W.isLenR ?_; refine W.lenR rfl (by assumption) ?_) | (with_reducible refine W.isSetR ?_; refine W.setR rfl ?_)
    | with_reducible refine W.o2 ?_ | with_reducible refine W.o1 ?_ | with_reducible refine W.call ?_ | with_reducible refine W.es ?_ | with_reducible refine W.es0 ?_ | with_reducible refine W.nx ?_ | with_reducible refine W.rt ?_ | with_reducible refine W.tup ?_ | with_reducible refine W.lst ?_
    | with_reducible refine W.slice ?_ | with_reducible refine W.val ?_ | with_reducible refine W.rng ?_ | with_reducible refine W.enu ?_ | with_reducible refine W.seti ?_ | with_reducible refine W.ts0 ?_ | with_reducible refine W.ts1 ?_ | with_reducible refine W.cond ?_ | with_reducible refine W.and ?_
    | with_reducible refine W.or ?_ | with_reducible refine W.ife ?_ | with_reducible refine W.nil ?_ | with_reducible refine W.par ?_ | with_reducible refine W.app ?_ | with_reducible refine W.ext ?_
    | (with_reducible refine W.isLt ?_; refine ⟨by simp, ?_⟩) | (with_reducible refine W.isMul ?_; refine ⟨_, W.mulK (by decide), ?_⟩) | (with_reducible refine W.isEq ?_; first | refine ⟨_, W.eqI, ?_⟩ | refine ⟨_, W.eqS, ?_⟩) | (with_reducible refine W.isNe ?_; first | refine ⟨_, W.neI, ?_⟩ | refine ⟨_, W.neS, ?_⟩)
    | (with_reducible refine W.isLf ?_; refine ⟨_, rfl, ?_⟩)
    | (with_reducible refine W.isBr ?_; first | refine ⟨_, rfl, fun _ => ?_, fun hf => Bool.noConfusion hf⟩ | refine ⟨_, rfl, fun hf => Bool.noConfusion hf, fun _ => ?_⟩)
    | (with_reducible refine W.isBr2 ?_; first | refine ⟨_, rfl, fun _ => ?_, fun hf => Bool.noConfusion hf⟩ | refine ⟨_, rfl, fun hf => Bool.noConfusion hf, fun _ => ?_⟩)
    | (with_reducible refine W.isLfS ?_; refine ⟨_, _, (by assumption), rfl, fun hl => ?_⟩))
  refine ⟨_, len_str hwl, _, rfl, small_of (by omega) (by omega), fun i σ h' => ∃ o, σ = [some (ruleD r), some (.str w), some (.str ((List.range i).flatMap (pieceM r w))), o] ∧ h' = h, ⟨_, rfl, rfl⟩, fun _ _ _ _ => wat_nil _ _, ?_, ?_⟩
  · rintro i x σ h' hx ⟨o, rfl, rfl⟩
    obtain ⟨rfl, hi⟩ := rng_get hx
    have hlt : i < w.length := by omega
    rw [Int.zero_add]
    have hin : o2F .idx h' (.str w) (.int (i : Nat)) = some (.str [hereM w (i : Nat)]) := here_in (by omega) (by omega) hwl
    have hbound : ((List.range i).flatMap (pieceM r w)).length + (pieceM r w i).length ≤ line := by
      have := sum_le2 (f := pieceM r w) (fun p => piece_len hr.out) (List.range i)
      rw [List.length_range] at this
      have := piece_len (r := r) (w := w) (p := i) hr.out
      rw [List.length_flatMap]
      rw [List.map_map] at *
      unfold line
      have e : (List.map (fun a => (pieceM r w a).length) (List.range i)).sum = (List.map (List.length ∘ pieceM r w) (List.range i)).sum := rfl
      omega
    have fin : ∀ u, u = pieceM r w i → (List.range (i + 1)).flatMap (pieceM r w) = (List.range i).flatMap (pieceM r w) ++ u := fun u hu => by
      rw [hu, List.range_succ, List.flatMap_append]
      simp
    refine ⟨_, rfl, ?_⟩
    refine W.cons (W.set (W.o2 (W.var rfl (W.ife ?_))))
    repeat (first
    | with_reducible refine W.set ?_ | with_reducible refine W.ret ?_ | with_reducible refine W.cst ?_ | (with_reducible refine W.isVar ?_; refine W.var rfl ?_)
    | (with_reducible refine W.isGetR ?_; refine W.getR rfl (by assumption) rfl ?_) | (with_reducible refine W.isLenR ?_; refine W.lenR rfl (by assumption) ?_) | (with_reducible refine W.isSetR ?_; refine W.setR rfl ?_)
    | with_reducible refine W.o2 ?_ | with_reducible refine W.o1 ?_ | with_reducible refine W.call ?_ | with_reducible refine W.es ?_ | with_reducible refine W.es0 ?_ | with_reducible refine W.rt ?_ | with_reducible refine W.tup ?_ | with_reducible refine W.lst ?_
    | with_reducible refine W.slice ?_ | with_reducible refine W.val ?_ | with_reducible refine W.rng ?_ | with_reducible refine W.enu ?_ | with_reducible refine W.seti ?_ | with_reducible refine W.ts0 ?_ | with_reducible refine W.ts1 ?_ | with_reducible refine W.cond ?_ | with_reducible refine W.and ?_
    | with_reducible refine W.or ?_ | with_reducible refine W.ife ?_ | with_reducible refine W.nil ?_ | with_reducible refine W.par ?_ | with_reducible refine W.app ?_ | with_reducible refine W.ext ?_
    | (with_reducible refine W.isLt ?_; refine ⟨by simp, ?_⟩) | (with_reducible refine W.isMul ?_; refine ⟨_, W.mulK (by decide), ?_⟩) | (with_reducible refine W.isEq ?_; first | refine ⟨_, W.eqI, ?_⟩ | refine ⟨_, W.eqS, ?_⟩) | (with_reducible refine W.isNe ?_; first | refine ⟨_, W.neI, ?_⟩ | refine ⟨_, W.neS, ?_⟩)
    | (with_reducible refine W.isLf ?_; refine ⟨_, rfl, ?_⟩)
    | (with_reducible refine W.isBr ?_; first | refine ⟨_, rfl, fun _ => ?_, fun hf => Bool.noConfusion hf⟩ | refine ⟨_, rfl, fun hf => Bool.noConfusion hf, fun _ => ?_⟩)
    | (with_reducible refine W.isBr2 ?_; first | refine ⟨_, rfl, fun _ => ?_, fun hf => Bool.noConfusion hf⟩ | refine ⟨_, rfl, fun hf => Bool.noConfusion hf, fun _ => ?_⟩)
    | (with_reducible refine W.isLfS ?_; refine ⟨_, _, (by assumption), rfl, fun hl => ?_⟩))
    refine (law_applies_ok (d := d) (h := h') W2 (r := r) (w := w) (p := i) hwl hlt hr.len hr.bf hr.bh).mono fun v h1 q => ?_
    obtain ⟨rfl, rfl⟩ := q
    refine ⟨_, rfl, fun ha => ?_, fun ha => ?_⟩
    · repeat (first
    | with_reducible refine W.set ?_ | with_reducible refine W.ret ?_ | with_reducible refine W.cst ?_ | (with_reducible refine W.isVar ?_; refine W.var rfl ?_)
    | (with_reducible refine W.isGetR ?_; refine W.getR rfl (by assumption) rfl ?_) | (with_reducible refine W.isLenR ?_; refine W.lenR rfl (by assumption) ?_) | (with_reducible refine W.isSetR ?_; refine W.setR rfl ?_)
    | with_reducible refine W.o2 ?_ | with_reducible refine W.o1 ?_ | with_reducible refine W.call ?_ | with_reducible refine W.es ?_ | with_reducible refine W.es0 ?_ | with_reducible refine W.rt ?_ | with_reducible refine W.tup ?_ | with_reducible refine W.lst ?_
    | with_reducible refine W.slice ?_ | with_reducible refine W.val ?_ | with_reducible refine W.rng ?_ | with_reducible refine W.enu ?_ | with_reducible refine W.seti ?_ | with_reducible refine W.ts0 ?_ | with_reducible refine W.ts1 ?_ | with_reducible refine W.cond ?_ | with_reducible refine W.and ?_
    | with_reducible refine W.or ?_ | with_reducible refine W.ife ?_ | with_reducible refine W.nil ?_ | with_reducible refine W.par ?_ | with_reducible refine W.app ?_ | with_reducible refine W.ext ?_
    | (with_reducible refine W.isLt ?_; refine ⟨by simp, ?_⟩) | (with_reducible refine W.isMul ?_; refine ⟨_, W.mulK (by decide), ?_⟩) | (with_reducible refine W.isEq ?_; first | refine ⟨_, W.eqI, ?_⟩ | refine ⟨_, W.eqS, ?_⟩) | (with_reducible refine W.isNe ?_; first | refine ⟨_, W.neI, ?_⟩ | refine ⟨_, W.neS, ?_⟩)
    | (with_reducible refine W.isLf ?_; refine ⟨_, rfl, ?_⟩)
    | (with_reducible refine W.isBr ?_; first | refine ⟨_, rfl, fun _ => ?_, fun hf => Bool.noConfusion hf⟩ | refine ⟨_, rfl, fun hf => Bool.noConfusion hf, fun _ => ?_⟩)
    | (with_reducible refine W.isBr2 ?_; first | refine ⟨_, rfl, fun _ => ?_, fun hf => Bool.noConfusion hf⟩ | refine ⟨_, rfl, fun hf => Bool.noConfusion hf, fun _ => ?_⟩)
    | (with_reducible refine W.isLfS ?_; refine ⟨_, _, (by assumption), rfl, fun hl => ?_⟩))
      refine ⟨_, dict_ch hr.nd, ?_⟩
      repeat (first
    | with_reducible refine W.set ?_ | with_reducible refine W.ret ?_ | with_reducible refine W.cst ?_ | (with_reducible refine W.isVar ?_; refine W.var rfl ?_)
    | (with_reducible refine W.isGetR ?_; refine W.getR rfl (by assumption) rfl ?_) | (with_reducible refine W.isLenR ?_; refine W.lenR rfl (by assumption) ?_) | (with_reducible refine W.isSetR ?_; refine W.setR rfl ?_)
    | with_reducible refine W.o2 ?_ | with_reducible refine W.o1 ?_ | with_reducible refine W.call ?_ | with_reducible refine W.es ?_ | with_reducible refine W.es0 ?_ | with_reducible refine W.rt ?_ | with_reducible refine W.tup ?_ | with_reducible refine W.lst ?_
    | with_reducible refine W.slice ?_ | with_reducible refine W.val ?_ | with_reducible refine W.rng ?_ | with_reducible refine W.enu ?_ | with_reducible refine W.seti ?_ | with_reducible refine W.ts0 ?_ | with_reducible refine W.ts1 ?_ | with_reducible refine W.cond ?_ | with_reducible refine W.and ?_
    | with_reducible refine W.or ?_ | with_reducible refine W.ife ?_ | with_reducible refine W.nil ?_ | with_reducible refine W.par ?_ | with_reducible refine W.app ?_ | with_reducible refine W.ext ?_
    | (with_reducible refine W.isLt ?_; refine ⟨by simp, ?_⟩) | (with_reducible refine W.isMul ?_; refine ⟨_, W.mulK (by decide), ?_⟩) | (with_reducible refine W.isEq ?_; first | refine ⟨_, W.eqI, ?_⟩ | refine ⟨_, W.eqS, ?_⟩) | (with_reducible refine W.isNe ?_; first | refine ⟨_, W.neI, ?_⟩ | refine ⟨_, W.neS, ?_⟩)
    | (with_reducible refine W.isLf ?_; refine ⟨_, rfl, ?_⟩)
    | (with_reducible refine W.isBr ?_; first | refine ⟨_, rfl, fun _ => ?_, fun hf => Bool.noConfusion hf⟩ | refine ⟨_, rfl, fun hf => Bool.noConfusion hf, fun _ => ?_⟩)
    | (with_reducible refine W.isBr2 ?_; first | refine ⟨_, rfl, fun _ => ?_, fun hf => Bool.noConfusion hf⟩ | refine ⟨_, rfl, fun hf => Bool.noConfusion hf, fun _ => ?_⟩)
    | (with_reducible refine W.isLfS ?_; refine ⟨_, _, (by assumption), rfl, fun hl => ?_⟩))
      refine ⟨_, hin, .str (outM r.ch (hereM w (i : Nat))), key_ch (applies_first ha), ?_⟩
      have hp : pieceM r w i = outM r.ch (hereM w (i : Nat)) := by simp only [pieceM, ha, if_true]
      rw [hp] at hbound
      refine ⟨_, addS hbound, by simp, W.nx (W.nil ⟨some (.int (i : Nat)), ?_, rfl⟩)⟩
      rw [fin _ hp.symm]
      rfl
    · repeat (first
    | with_reducible refine W.set ?_ | with_reducible refine W.ret ?_ | with_reducible refine W.cst ?_ | (with_reducible refine W.isVar ?_; refine W.var rfl ?_)
    | (with_reducible refine W.isGetR ?_; refine W.getR rfl (by assumption) rfl ?_) | (with_reducible refine W.isLenR ?_; refine W.lenR rfl (by assumption) ?_) | (with_reducible refine W.isSetR ?_; refine W.setR rfl ?_)
    | with_reducible refine W.o2 ?_ | with_reducible refine W.o1 ?_ | with_reducible refine W.call ?_ | with_reducible refine W.es ?_ | with_reducible refine W.es0 ?_ | with_reducible refine W.rt ?_ | with_reducible refine W.tup ?_ | with_reducible refine W.lst ?_
    | with_reducible refine W.slice ?_ | with_reducible refine W.val ?_ | with_reducible refine W.rng ?_ | with_reducible refine W.enu ?_ | with_reducible refine W.seti ?_ | with_reducible refine W.ts0 ?_ | with_reducible refine W.ts1 ?_ | with_reducible refine W.cond ?_ | with_reducible refine W.and ?_
    | with_reducible refine W.or ?_ | with_reducible refine W.ife ?_ | with_reducible refine W.nil ?_ | with_reducible refine W.par ?_ | with_reducible refine W.app ?_ | with_reducible refine W.ext ?_
    | (with_reducible refine W.isLt ?_; refine ⟨by simp, ?_⟩) | (with_reducible refine W.isMul ?_; refine ⟨_, W.mulK (by decide), ?_⟩) | (with_reducible refine W.isEq ?_; first | refine ⟨_, W.eqI, ?_⟩ | refine ⟨_, W.eqS, ?_⟩) | (with_reducible refine W.isNe ?_; first | refine ⟨_, W.neI, ?_⟩ | refine ⟨_, W.neS, ?_⟩)
    | (with_reducible refine W.isLf ?_; refine ⟨_, rfl, ?_⟩)
    | (with_reducible refine W.isBr ?_; first | refine ⟨_, rfl, fun _ => ?_, fun hf => Bool.noConfusion hf⟩ | refine ⟨_, rfl, fun hf => Bool.noConfusion hf, fun _ => ?_⟩)
    | (with_reducible refine W.isBr2 ?_; first | refine ⟨_, rfl, fun _ => ?_, fun hf => Bool.noConfusion hf⟩ | refine ⟨_, rfl, fun hf => Bool.noConfusion hf, fun _ => ?_⟩)
    | (with_reducible refine W.isLfS ?_; refine ⟨_, _, (by assumption), rfl, fun hl => ?_⟩))
      have hp : pieceM r w i = [hereM w (i : Nat)] := by simp only [pieceM, ha, Bool.false_eq_true, if_false]
      rw [hp] at hbound
      refine ⟨_, hin, ?_⟩
      refine ⟨_, addS hbound, by simp, W.nx (W.nil ⟨some (.int (i : Nat)), ?_, rfl⟩)⟩
      rw [fin _ hp.symm]
      rfl
  · rintro σ h' ⟨o, rfl, rfl⟩
    repeat (first
    | with_reducible refine W.cons ?_ | with_reducible refine W.set ?_ | with_reducible refine W.ret ?_ | with_reducible refine W.cst ?_ | (with_reducible refine W.isVar ?_; refine W.var rfl ?_)
    | (with_reducible refine W.isGetR ?_; refine W.getR rfl (by assumption) rfl ?_) | (with_reducible refine W.isLenR ?_; refine W.lenR rfl (by assumption) ?_) | (with_reducible refine W.isSetR ?_; refine W.setR rfl ?_)
    | with_reducible refine W.o2 ?_ | with_reducible refine W.o1 ?_ | with_reducible refine W.call ?_ | with_reducible refine W.es ?_ | with_reducible refine W.es0 ?_ | with_reducible refine W.nx ?_ | with_reducible refine W.rt ?_ | with_reducible refine W.tup ?_ | with_reducible refine W.lst ?_
    | with_reducible refine W.slice ?_ | with_reducible refine W.val ?_ | with_reducible refine W.rng ?_ | with_reducible refine W.enu ?_ | with_reducible refine W.seti ?_ | with_reducible refine W.ts0 ?_ | with_reducible refine W.ts1 ?_ | with_reducible refine W.cond ?_ | with_reducible refine W.and ?_
    | with_reducible refine W.or ?_ | with_reducible refine W.ife ?_ | with_reducible refine W.nil ?_ | with_reducible refine W.par ?_ | with_reducible refine W.app ?_ | with_reducible refine W.ext ?_
    | (with_reducible refine W.isLt ?_; refine ⟨by simp, ?_⟩) | (with_reducible refine W.isMul ?_; refine ⟨_, W.mulK (by decide), ?_⟩) | (with_reducible refine W.isEq ?_; first | refine ⟨_, W.eqI, ?_⟩ | refine ⟨_, W.eqS, ?_⟩) | (with_reducible refine W.isNe ?_; first | refine ⟨_, W.neI, ?_⟩ | refine ⟨_, W.neS, ?_⟩)
    | (with_reducible refine W.isLf ?_; refine ⟨_, rfl, ?_⟩)
    | (with_reducible refine W.isBr ?_; first | refine ⟨_, rfl, fun _ => ?_, fun hf => Bool.noConfusion hf⟩ | refine ⟨_, rfl, fun hf => Bool.noConfusion hf, fun _ => ?_⟩)
    | (with_reducible refine W.isBr2 ?_; first | refine ⟨_, rfl, fun _ => ?_, fun hf => Bool.noConfusion hf⟩ | refine ⟨_, rfl, fun hf => Bool.noConfusion hf, fun _ => ?_⟩)
    | (with_reducible refine W.isLfS ?_; refine ⟨_, _, (by assumption), rfl, fun hl => ?_⟩))
    refine W.en ?_
    rw [fin_self]
    refine Ok.ok ⟨?_, rfl⟩
    simp only [rngD, List.length_map, List.length_range]
    rw [show ((w.length : Int) - 0).toNat = w.length by omega]
    rfl
theorem law_led_ok (W2 : WLT T) : ∀ {rs : List Rule} {w : List Nat}, w.length * 2 ^ rs.length ≤ 1000000 → (∀ r ∈ rs, RL r) →
    Ok (callF T (d + 4) "" "_law_led" [.tup (rs.map ruleD), .str w] h) fun v h' => v = .str (ledM rs w) ∧ h' = h := by
  intro rs w hw hr
  refine W.fn W2.led rfl ?_
  unfold b_law_led
  simp only [startD, List.map_cons, List.map_nil, List.cons_append, List.nil_append, List.length_cons, List.length_nil, List.replicate, Nat.reduceAdd, Nat.reduceSub]
  refine W.cons (W.set (W.var rfl ⟨by simp, W.nx (W.cons (W.forr (W.val ?_)))⟩))
  repeat (first
    | with_reducible refine W.cons ?_ | with_reducible refine W.set ?_ | with_reducible refine W.ret ?_ | with_reducible refine W.cst ?_ | (with_reducible refine W.isVar ?_; refine W.var rfl ?_)
    | (with_reducible refine W.isGetR ?_; refine W.getR rfl (by assumption) rfl ?_) | (with_reducible refine W.isLenR ?_; refine W.lenR rfl (by assumption) ?_) | (with_reducible refine W.isSetR ?_; refine W.setR rfl ?_)
    | with_reducible refine W.o2 ?_ | with_reducible refine W.o1 ?_ | with_reducible refine W.call ?_ | with_reducible refine W.es ?_ | with_reducible refine W.es0 ?_ | with_reducible refine W.nx ?_ | with_reducible refine W.rt ?_ | with_reducible refine W.tup ?_ | with_reducible refine W.lst ?_
    | with_reducible refine W.slice ?_ | with_reducible refine W.val ?_ | with_reducible refine W.rng ?_ | with_reducible refine W.enu ?_ | with_reducible refine W.seti ?_ | with_reducible refine W.ts0 ?_ | with_reducible refine W.ts1 ?_ | with_reducible refine W.cond ?_ | with_reducible refine W.and ?_
    | with_reducible refine W.or ?_ | with_reducible refine W.ife ?_ | with_reducible refine W.nil ?_ | with_reducible refine W.par ?_ | with_reducible refine W.app ?_ | with_reducible refine W.ext ?_
    | (with_reducible refine W.isLt ?_; refine ⟨by simp, ?_⟩) | (with_reducible refine W.isMul ?_; refine ⟨_, W.mulK (by decide), ?_⟩) | (with_reducible refine W.isEq ?_; first | refine ⟨_, W.eqI, ?_⟩ | refine ⟨_, W.eqS, ?_⟩) | (with_reducible refine W.isNe ?_; first | refine ⟨_, W.neI, ?_⟩ | refine ⟨_, W.neS, ?_⟩)
    | (with_reducible refine W.isLf ?_; refine ⟨_, rfl, ?_⟩)
    | (with_reducible refine W.isBr ?_; first | refine ⟨_, rfl, fun _ => ?_, fun hf => Bool.noConfusion hf⟩ | refine ⟨_, rfl, fun hf => Bool.noConfusion hf, fun _ => ?_⟩)
    | (with_reducible refine W.isBr2 ?_; first | refine ⟨_, rfl, fun _ => ?_, fun hf => Bool.noConfusion hf⟩ | refine ⟨_, rfl, fun hf => Bool.noConfusion hf, fun _ => ?_⟩)
    | (with_reducible refine W.isLfS ?_; refine ⟨_, _, (by assumption), rfl, fun hl => ?_⟩))
  refine ⟨_, rfl, fun i σ h' => ∃ (u : List Nat) (o : Option D), σ = [some (.tup (rs.map ruleD)), some (.str w), some (.str u), o] ∧ h' = h ∧ i ≤ rs.length ∧ u.length * 2 ^ (rs.length - i) ≤ 1000000 ∧ ledM rs w = ledM (rs.drop i) u, ⟨w, _, rfl, rfl, Nat.zero_le _, by simpa using hw, by simp⟩, fun _ _ _ _ => wat_nil _ _, ?_, ?_⟩
  · rintro i x σ h' hx ⟨u, o, rfl, rfl, hi, hu, he⟩
    rw [List.getElem?_map] at hx
    obtain ⟨r, hr2, rfl⟩ := Option.map_eq_some_iff.mp hx
    obtain ⟨hlt, er⟩ := List.getElem?_eq_some_iff.mp hr2
    have rf := hr r (List.mem_of_getElem? hr2)
    have hp : 2 ^ (rs.length - i) = 2 * 2 ^ (rs.length - (i + 1)) := by
      rw [← Nat.pow_succ']
      congr 1
      omega
    have hpos : 0 < 2 ^ (rs.length - (i + 1)) := Nat.pow_pos (by decide)
    have hul : u.length ≤ 1000000 := by
      rw [hp] at hu
      have : u.length * 1 ≤ u.length * (2 * 2 ^ (rs.length - (i + 1))) := Nat.mul_le_mul_left _ (by omega)
      omega
    refine ⟨_, rfl, ?_⟩
    repeat (first
    | with_reducible refine W.cons ?_ | with_reducible refine W.set ?_ | with_reducible refine W.ret ?_ | with_reducible refine W.cst ?_ | (with_reducible refine W.isVar ?_; refine W.var rfl ?_)
    | (with_reducible refine W.isGetR ?_; refine W.getR rfl (by assumption) rfl ?_) | (with_reducible refine W.isLenR ?_; refine W.lenR rfl (by assumption) ?_) | (with_reducible refine W.isSetR ?_; refine W.setR rfl ?_)
    | with_reducible refine W.o2 ?_ | with_reducible refine W.o1 ?_ | with_reducible refine W.call ?_ | with_reducible refine W.es ?_ | with_reducible refine W.es0 ?_ | with_reducible refine W.nx ?_ | with_reducible refine W.rt ?_ | with_reducible refine W.tup ?_ | with_reducible refine W.lst ?_
    | with_reducible refine W.slice ?_ | with_reducible refine W.val ?_ | with_reducible refine W.rng ?_ | with_reducible refine W.enu ?_ | with_reducible refine W.seti ?_ | with_reducible refine W.ts0 ?_ | with_reducible refine W.ts1 ?_ | with_reducible refine W.cond ?_ | with_reducible refine W.and ?_
    | with_reducible refine W.or ?_ | with_reducible refine W.ife ?_ | with_reducible refine W.nil ?_ | with_reducible refine W.par ?_ | with_reducible refine W.app ?_ | with_reducible refine W.ext ?_
    | (with_reducible refine W.isLt ?_; refine ⟨by simp, ?_⟩) | (with_reducible refine W.isMul ?_; refine ⟨_, W.mulK (by decide), ?_⟩) | (with_reducible refine W.isEq ?_; first | refine ⟨_, W.eqI, ?_⟩ | refine ⟨_, W.eqS, ?_⟩) | (with_reducible refine W.isNe ?_; first | refine ⟨_, W.neI, ?_⟩ | refine ⟨_, W.neS, ?_⟩)
    | (with_reducible refine W.isLf ?_; refine ⟨_, rfl, ?_⟩)
    | (with_reducible refine W.isBr ?_; first | refine ⟨_, rfl, fun _ => ?_, fun hf => Bool.noConfusion hf⟩ | refine ⟨_, rfl, fun hf => Bool.noConfusion hf, fun _ => ?_⟩)
    | (with_reducible refine W.isBr2 ?_; first | refine ⟨_, rfl, fun _ => ?_, fun hf => Bool.noConfusion hf⟩ | refine ⟨_, rfl, fun hf => Bool.noConfusion hf, fun _ => ?_⟩)
    | (with_reducible refine W.isLfS ?_; refine ⟨_, _, (by assumption), rfl, fun hl => ?_⟩))
    refine (law_changed_ok (d := d) W2 hul rf).mono fun v h1 q => ?_
    obtain ⟨rfl, rfl⟩ := q
    repeat (first
    | with_reducible refine W.cons ?_ | with_reducible refine W.set ?_ | with_reducible refine W.ret ?_ | with_reducible refine W.cst ?_ | (with_reducible refine W.isVar ?_; refine W.var rfl ?_)
    | (with_reducible refine W.isGetR ?_; refine W.getR rfl (by assumption) rfl ?_) | (with_reducible refine W.isLenR ?_; refine W.lenR rfl (by assumption) ?_) | (with_reducible refine W.isSetR ?_; refine W.setR rfl ?_)
    | with_reducible refine W.o2 ?_ | with_reducible refine W.o1 ?_ | with_reducible refine W.call ?_ | with_reducible refine W.es ?_ | with_reducible refine W.es0 ?_ | with_reducible refine W.nx ?_ | with_reducible refine W.rt ?_ | with_reducible refine W.tup ?_ | with_reducible refine W.lst ?_
    | with_reducible refine W.slice ?_ | with_reducible refine W.val ?_ | with_reducible refine W.rng ?_ | with_reducible refine W.enu ?_ | with_reducible refine W.seti ?_ | with_reducible refine W.ts0 ?_ | with_reducible refine W.ts1 ?_ | with_reducible refine W.cond ?_ | with_reducible refine W.and ?_
    | with_reducible refine W.or ?_ | with_reducible refine W.ife ?_ | with_reducible refine W.nil ?_ | with_reducible refine W.par ?_ | with_reducible refine W.app ?_ | with_reducible refine W.ext ?_
    | (with_reducible refine W.isLt ?_; refine ⟨by simp, ?_⟩) | (with_reducible refine W.isMul ?_; refine ⟨_, W.mulK (by decide), ?_⟩) | (with_reducible refine W.isEq ?_; first | refine ⟨_, W.eqI, ?_⟩ | refine ⟨_, W.eqS, ?_⟩) | (with_reducible refine W.isNe ?_; first | refine ⟨_, W.neI, ?_⟩ | refine ⟨_, W.neS, ?_⟩)
    | (with_reducible refine W.isLf ?_; refine ⟨_, rfl, ?_⟩)
    | (with_reducible refine W.isBr ?_; first | refine ⟨_, rfl, fun _ => ?_, fun hf => Bool.noConfusion hf⟩ | refine ⟨_, rfl, fun hf => Bool.noConfusion hf, fun _ => ?_⟩)
    | (with_reducible refine W.isBr2 ?_; first | refine ⟨_, rfl, fun _ => ?_, fun hf => Bool.noConfusion hf⟩ | refine ⟨_, rfl, fun hf => Bool.noConfusion hf, fun _ => ?_⟩)
    | (with_reducible refine W.isLfS ?_; refine ⟨_, _, (by assumption), rfl, fun hl => ?_⟩))
    refine ⟨changedM r u, _, rfl, rfl, hlt, ?_, ?_⟩
    · have hcl := changed_len (r := r) (w := u) rf.out
      have h1 : (changedM r u).length * 2 ^ (rs.length - (i + 1)) ≤ 2 * u.length * 2 ^ (rs.length - (i + 1)) := Nat.mul_le_mul_right _ hcl
      have h2 : 2 * u.length * 2 ^ (rs.length - (i + 1)) = u.length * 2 ^ (rs.length - i) := by rw [hp, Nat.mul_comm 2 u.length, Nat.mul_assoc]
      omega
    · rw [he, List.drop_eq_getElem_cons hlt, er]
      rfl
  · rintro σ h' ⟨u, o, rfl, rfl, hi, hu, he⟩
    repeat (first
    | with_reducible refine W.cons ?_ | with_reducible refine W.set ?_ | with_reducible refine W.ret ?_ | with_reducible refine W.cst ?_ | (with_reducible refine W.isVar ?_; refine W.var rfl ?_)
    | (with_reducible refine W.isGetR ?_; refine W.getR rfl (by assumption) rfl ?_) | (with_reducible refine W.isLenR ?_; refine W.lenR rfl (by assumption) ?_) | (with_reducible refine W.isSetR ?_; refine W.setR rfl ?_)
    | with_reducible refine W.o2 ?_ | with_reducible refine W.o1 ?_ | with_reducible refine W.call ?_ | with_reducible refine W.es ?_ | with_reducible refine W.es0 ?_ | with_reducible refine W.nx ?_ | with_reducible refine W.rt ?_ | with_reducible refine W.tup ?_ | with_reducible refine W.lst ?_
    | with_reducible refine W.slice ?_ | with_reducible refine W.val ?_ | with_reducible refine W.rng ?_ | with_reducible refine W.enu ?_ | with_reducible refine W.seti ?_ | with_reducible refine W.ts0 ?_ | with_reducible refine W.ts1 ?_ | with_reducible refine W.cond ?_ | with_reducible refine W.and ?_
    | with_reducible refine W.or ?_ | with_reducible refine W.ife ?_ | with_reducible refine W.nil ?_ | with_reducible refine W.par ?_ | with_reducible refine W.app ?_ | with_reducible refine W.ext ?_
    | (with_reducible refine W.isLt ?_; refine ⟨by simp, ?_⟩) | (with_reducible refine W.isMul ?_; refine ⟨_, W.mulK (by decide), ?_⟩) | (with_reducible refine W.isEq ?_; first | refine ⟨_, W.eqI, ?_⟩ | refine ⟨_, W.eqS, ?_⟩) | (with_reducible refine W.isNe ?_; first | refine ⟨_, W.neI, ?_⟩ | refine ⟨_, W.neS, ?_⟩)
    | (with_reducible refine W.isLf ?_; refine ⟨_, rfl, ?_⟩)
    | (with_reducible refine W.isBr ?_; first | refine ⟨_, rfl, fun _ => ?_, fun hf => Bool.noConfusion hf⟩ | refine ⟨_, rfl, fun hf => Bool.noConfusion hf, fun _ => ?_⟩)
    | (with_reducible refine W.isBr2 ?_; first | refine ⟨_, rfl, fun _ => ?_, fun hf => Bool.noConfusion hf⟩ | refine ⟨_, rfl, fun hf => Bool.noConfusion hf, fun _ => ?_⟩)
    | (with_reducible refine W.isLfS ?_; refine ⟨_, _, (by assumption), rfl, fun hl => ?_⟩))
    refine W.en ?_
    rw [fin_self]
    refine Ok.ok ⟨?_, rfl⟩
    rw [he, List.length_map, List.drop_length]
    rfl
/-! ### all words -/
def nextM (s : List Nat) (last : List (List Nat)) : List (List Nat) := last.flatMap fun w => s.map fun c => w ++ [c]
def wordsM (s : List Nat) : Nat → List (List Nat) × List (List Nat)
  | 0 => ([[]], [[]])
  | k + 1 => ((wordsM s k).1 ++ nextM s (wordsM s k).2, nextM s (wordsM s k).2)
theorem next_len (s : List Nat) (l : List (List Nat)) : (nextM s l).length = l.length * s.length := by
  unfold nextM
  induction l with
  | nil => simp
  | cons w l ih => rw [List.flatMap_cons, List.length_append, ih, List.length_map, List.length_cons, Nat.succ_mul, Nat.add_comm]
theorem words_last (s : List Nat) : ∀ k, (wordsM s k).2.length = s.length ^ k
  | 0 => rfl
  | k + 1 => by rw [wordsM, next_len, words_last s k, Nat.pow_succ]
theorem words_each (s : List Nat) : ∀ k, (∀ w ∈ (wordsM s k).2, w.length = k ∧ ∀ c ∈ w, c ∈ s) ∧ (∀ w ∈ (wordsM s k).1, w.length ≤ k ∧ ∀ c ∈ w, c ∈ s)
  | 0 => by simp [wordsM]
  | k + 1 => by
    obtain ⟨h1, h2⟩ := words_each s k
    have h3 : ∀ w ∈ nextM s (wordsM s k).2, w.length = k + 1 ∧ ∀ c ∈ w, c ∈ s := by
      intro w hw
      obtain ⟨u, hu, hw⟩ := List.mem_flatMap.mp hw
      obtain ⟨c, hc, rfl⟩ := List.mem_map.mp hw
      refine ⟨by rw [List.length_append, (h1 u hu).1]; rfl, fun b hb => ?_⟩
      rcases List.mem_append.mp hb with hb | hb
      · exact (h1 u hu).2 b hb
      · rw [List.mem_singleton.mp hb]; exact hc
    refine ⟨h3, fun w hw => ?_⟩
    rcases List.mem_append.mp hw with hw | hw
    · exact ⟨Nat.le_succ_of_le (h2 w hw).1, (h2 w hw).2⟩
    · exact ⟨Nat.le_of_eq (h3 w hw).1, (h3 w hw).2⟩
theorem words_all (s : List Nat) (hs : s.length ≤ 3) : ∀ k, (wordsM s k).1.length ≤ 2 * 3 ^ k
  | 0 => by simp [wordsM]
  | k + 1 => by
    have := words_all s hs k
    have h2 : s.length ^ k ≤ 3 ^ k := Nat.pow_le_pow_left hs k
    have h3 : s.length ^ k * s.length ≤ 3 ^ k * 3 := Nat.mul_le_mul h2 hs
    rw [wordsM]
    simp only [List.length_append, next_len, words_last]
    rw [Nat.pow_succ]
    omega
theorem pow3 {k : Nat} (hk : k ≤ 10) : 3 ^ k ≤ 59049 := Nat.pow_le_pow_right (n := 3) (by decide) hk
theorem fin_mine {xs : List D} {ex : Hh} (hu : D.undAll h.length xs = true) : fin h (h ++ .lst xs :: ex) (.ref h.length) = .ok (.lv xs) h := by
  have hf : freeze (h ++ .lst xs :: ex) h.length (.ref h.length) = .lv xs := by
    simp only [freeze, Nat.lt_irrefl, if_false]
    rw [List.getElem?_append_right (Nat.le_refl _), Nat.sub_self]
    rfl
  rw [fin_drop (by simp) (by rw [hf]; exact hu) ?_, hf, List.take_left']
  · rfl
  · intro l o hl e
    rw [List.getElem?_append_left hl] at e
    exact .inl e
theorem flat_map1 {α : Type} (a b : α → D) (F : D → List D) (hF : ∀ x, F (a x) = [b x]) : ∀ xs : List α, (xs.map a).flatMap F = xs.map b
  | [] => rfl
  | x :: xs => by rw [List.map_cons, List.flatMap_cons, hF, flat_map1 a b F hF xs]; rfl
theorem words_up_to_ok (hT : T "" "words_up_to" = some ⟨2, 7, b_words_up_to⟩) {s : List Nat} {m : Nat} (hs : s.length ≤ 3) (hm : m ≤ 10) :
    Ok (callF T (d + 1) "" "words_up_to" [.str s, .int m] h) fun v h' => v = .lv ((wordsM s m).1.map D.str) ∧ h' = h := by
  refine W.fn hT rfl ?_
  unfold b_words_up_to
  simp only [startD, List.map_cons, List.map_nil, List.cons_append, List.nil_append, List.length_cons, List.length_nil, List.replicate, Nat.reduceAdd, Nat.reduceSub]
  refine W.cons (W.par (W.alcL ?_))
  repeat (first
    | with_reducible refine W.cons ?_ | with_reducible refine W.set ?_ | with_reducible refine W.ret ?_ | with_reducible refine W.cst ?_ | (with_reducible refine W.isVar ?_; refine W.var rfl ?_)
    | (with_reducible refine W.isGetR ?_; refine W.getR rfl (by assumption) rfl ?_) | (with_reducible refine W.isLenR ?_; refine W.lenR rfl (by assumption) ?_) | (with_reducible refine W.isSetR ?_; refine W.setR rfl ?_)
    | with_reducible refine W.o2 ?_ | with_reducible refine W.o1 ?_ | with_reducible refine W.call ?_ | with_reducible refine W.es ?_ | with_reducible refine W.es0 ?_ | with_reducible refine W.nx ?_ | with_reducible refine W.rt ?_ | with_reducible refine W.tup ?_ | with_reducible refine W.lst ?_
    | with_reducible refine W.slice ?_ | with_reducible refine W.val ?_ | with_reducible refine W.rng ?_ | with_reducible refine W.enu ?_ | with_reducible refine W.seti ?_ | with_reducible refine W.ts0 ?_ | with_reducible refine W.ts1 ?_ | with_reducible refine W.cond ?_ | with_reducible refine W.and ?_
    | with_reducible refine W.or ?_ | with_reducible refine W.ife ?_ | with_reducible refine W.nil ?_ | with_reducible refine W.par ?_ | with_reducible refine W.app ?_ | with_reducible refine W.ext ?_
    | (with_reducible refine W.isLt ?_; refine ⟨by simp, ?_⟩) | (with_reducible refine W.isMul ?_; refine ⟨_, W.mulK (by decide), ?_⟩) | (with_reducible refine W.isEq ?_; first | refine ⟨_, W.eqI, ?_⟩ | refine ⟨_, W.eqS, ?_⟩) | (with_reducible refine W.isNe ?_; first | refine ⟨_, W.neI, ?_⟩ | refine ⟨_, W.neS, ?_⟩)
    | (with_reducible refine W.isLf ?_; refine ⟨_, rfl, ?_⟩)
    | (with_reducible refine W.isBr ?_; first | refine ⟨_, rfl, fun _ => ?_, fun hf => Bool.noConfusion hf⟩ | refine ⟨_, rfl, fun hf => Bool.noConfusion hf, fun _ => ?_⟩)
    | (with_reducible refine W.isBr2 ?_; first | refine ⟨_, rfl, fun _ => ?_, fun hf => Bool.noConfusion hf⟩ | refine ⟨_, rfl, fun hf => Bool.noConfusion hf, fun _ => ?_⟩)
    | (with_reducible refine W.isLfS ?_; refine ⟨_, _, (by assumption), rfl, fun hl => ?_⟩))
  refine ⟨_, rfl, ?_⟩
  repeat (first
    | with_reducible refine W.cons ?_ | with_reducible refine W.set ?_ | with_reducible refine W.ret ?_ | with_reducible refine W.cst ?_ | (with_reducible refine W.isVar ?_; refine W.var rfl ?_)
    | (with_reducible refine W.isGetR ?_; refine W.getR rfl (by assumption) rfl ?_) | (with_reducible refine W.isLenR ?_; refine W.lenR rfl (by assumption) ?_) | (with_reducible refine W.isSetR ?_; refine W.setR rfl ?_)
    | with_reducible refine W.o2 ?_ | with_reducible refine W.o1 ?_ | with_reducible refine W.call ?_ | with_reducible refine W.es ?_ | with_reducible refine W.es0 ?_ | with_reducible refine W.nx ?_ | with_reducible refine W.rt ?_ | with_reducible refine W.tup ?_ | with_reducible refine W.lst ?_
    | with_reducible refine W.slice ?_ | with_reducible refine W.val ?_ | with_reducible refine W.rng ?_ | with_reducible refine W.enu ?_ | with_reducible refine W.seti ?_ | with_reducible refine W.ts0 ?_ | with_reducible refine W.ts1 ?_ | with_reducible refine W.cond ?_ | with_reducible refine W.and ?_
    | with_reducible refine W.or ?_ | with_reducible refine W.ife ?_ | with_reducible refine W.nil ?_ | with_reducible refine W.par ?_ | with_reducible refine W.app ?_ | with_reducible refine W.ext ?_
    | (with_reducible refine W.isLt ?_; refine ⟨by simp, ?_⟩) | (with_reducible refine W.isMul ?_; refine ⟨_, W.mulK (by decide), ?_⟩) | (with_reducible refine W.isEq ?_; first | refine ⟨_, W.eqI, ?_⟩ | refine ⟨_, W.eqS, ?_⟩) | (with_reducible refine W.isNe ?_; first | refine ⟨_, W.neI, ?_⟩ | refine ⟨_, W.neS, ?_⟩)
    | (with_reducible refine W.isLf ?_; refine ⟨_, rfl, ?_⟩)
    | (with_reducible refine W.isBr ?_; first | refine ⟨_, rfl, fun _ => ?_, fun hf => Bool.noConfusion hf⟩ | refine ⟨_, rfl, fun hf => Bool.noConfusion hf, fun _ => ?_⟩)
    | (with_reducible refine W.isBr2 ?_; first | refine ⟨_, rfl, fun _ => ?_, fun hf => Bool.noConfusion hf⟩ | refine ⟨_, rfl, fun hf => Bool.noConfusion hf, fun _ => ?_⟩)
    | (with_reducible refine W.isLfS ?_; refine ⟨_, _, (by assumption), rfl, fun hl => ?_⟩))
  refine ⟨⟨by simp, by simp, by decide⟩, W.nx (W.cons (W.forr ?_))⟩
  repeat (first
    | with_reducible refine W.cons ?_ | with_reducible refine W.set ?_ | with_reducible refine W.ret ?_ | with_reducible refine W.cst ?_ | (with_reducible refine W.isVar ?_; refine W.var rfl ?_)
    | (with_reducible refine W.isGetR ?_; refine W.getR rfl (by assumption) rfl ?_) | (with_reducible refine W.isLenR ?_; refine W.lenR rfl (by assumption) ?_) | (with_reducible refine W.isSetR ?_; refine W.setR rfl ?_)
    | with_reducible refine W.o2 ?_ | with_reducible refine W.o1 ?_ | with_reducible refine W.call ?_ | with_reducible refine W.es ?_ | with_reducible refine W.es0 ?_ | with_reducible refine W.nx ?_ | with_reducible refine W.rt ?_ | with_reducible refine W.tup ?_ | with_reducible refine W.lst ?_
    | with_reducible refine W.slice ?_ | with_reducible refine W.val ?_ | with_reducible refine W.rng ?_ | with_reducible refine W.enu ?_ | with_reducible refine W.seti ?_ | with_reducible refine W.ts0 ?_ | with_reducible refine W.ts1 ?_ | with_reducible refine W.cond ?_ | with_reducible refine W.and ?_
    | with_reducible refine W.or ?_ | with_reducible refine W.ife ?_ | with_reducible refine W.nil ?_ | with_reducible refine W.par ?_ | with_reducible refine W.app ?_ | with_reducible refine W.ext ?_
    | (with_reducible refine W.isLt ?_; refine ⟨by simp, ?_⟩) | (with_reducible refine W.isMul ?_; refine ⟨_, W.mulK (by decide), ?_⟩) | (with_reducible refine W.isEq ?_; first | refine ⟨_, W.eqI, ?_⟩ | refine ⟨_, W.eqS, ?_⟩) | (with_reducible refine W.isNe ?_; first | refine ⟨_, W.neI, ?_⟩ | refine ⟨_, W.neS, ?_⟩)
    | (with_reducible refine W.isLf ?_; refine ⟨_, rfl, ?_⟩)
    | (with_reducible refine W.isBr ?_; first | refine ⟨_, rfl, fun _ => ?_, fun hf => Bool.noConfusion hf⟩ | refine ⟨_, rfl, fun hf => Bool.noConfusion hf, fun _ => ?_⟩)
    | (with_reducible refine W.isBr2 ?_; first | refine ⟨_, rfl, fun _ => ?_, fun hf => Bool.noConfusion hf⟩ | refine ⟨_, rfl, fun hf => Bool.noConfusion hf, fun _ => ?_⟩)
    | (with_reducible refine W.isLfS ?_; refine ⟨_, _, (by assumption), rfl, fun hl => ?_⟩))
  refine ⟨_, rfl, small_of (by omega) (by omega), fun i σ h' => ∃ o4 o5 o6, σ = [some (.str s), some (.int m), some (.ref h.length), some (.fz ((wordsM s i).2.map D.str)), o4, o5, o6] ∧ h' = h ++ [.lst ((wordsM s i).1.map D.str)] ∧ i ≤ m, ⟨_, _, _, rfl, rfl, Nat.zero_le _⟩, fun _ _ _ _ => wat_nil _ _, ?_, ?_⟩
  · rintro i x σ h' hx ⟨o4, o5, o6, rfl, rfl, hi⟩
    obtain ⟨rfl, hi2⟩ := rng_get hx
    obtain ⟨he, ha⟩ := words_each s i
    refine ⟨_, rfl, ?_⟩
    refine W.cons (W.set (W.comp2M (fun x => match x with | .str w => s.map fun c => .str (w ++ [c]) | _ => []) (W.val ?_)))
    repeat (first
    | with_reducible refine W.cons ?_ | with_reducible refine W.set ?_ | with_reducible refine W.ret ?_ | with_reducible refine W.cst ?_ | (with_reducible refine W.isVar ?_; refine W.var rfl ?_)
    | (with_reducible refine W.isGetR ?_; refine W.getR rfl (by assumption) rfl ?_) | (with_reducible refine W.isLenR ?_; refine W.lenR rfl (by assumption) ?_) | (with_reducible refine W.isSetR ?_; refine W.setR rfl ?_)
    | with_reducible refine W.o2 ?_ | with_reducible refine W.o1 ?_ | with_reducible refine W.call ?_ | with_reducible refine W.es ?_ | with_reducible refine W.es0 ?_ | with_reducible refine W.nx ?_ | with_reducible refine W.rt ?_ | with_reducible refine W.tup ?_ | with_reducible refine W.lst ?_
    | with_reducible refine W.slice ?_ | with_reducible refine W.val ?_ | with_reducible refine W.rng ?_ | with_reducible refine W.enu ?_ | with_reducible refine W.seti ?_ | with_reducible refine W.ts0 ?_ | with_reducible refine W.ts1 ?_ | with_reducible refine W.cond ?_ | with_reducible refine W.and ?_
    | with_reducible refine W.or ?_ | with_reducible refine W.ife ?_ | with_reducible refine W.nil ?_ | with_reducible refine W.par ?_ | with_reducible refine W.app ?_ | with_reducible refine W.ext ?_
    | (with_reducible refine W.isLt ?_; refine ⟨by simp, ?_⟩) | (with_reducible refine W.isMul ?_; refine ⟨_, W.mulK (by decide), ?_⟩) | (with_reducible refine W.isEq ?_; first | refine ⟨_, W.eqI, ?_⟩ | refine ⟨_, W.eqS, ?_⟩) | (with_reducible refine W.isNe ?_; first | refine ⟨_, W.neI, ?_⟩ | refine ⟨_, W.neS, ?_⟩)
    | (with_reducible refine W.isLf ?_; refine ⟨_, rfl, ?_⟩)
    | (with_reducible refine W.isBr ?_; first | refine ⟨_, rfl, fun _ => ?_, fun hf => Bool.noConfusion hf⟩ | refine ⟨_, rfl, fun hf => Bool.noConfusion hf, fun _ => ?_⟩)
    | (with_reducible refine W.isBr2 ?_; first | refine ⟨_, rfl, fun _ => ?_, fun hf => Bool.noConfusion hf⟩ | refine ⟨_, rfl, fun hf => Bool.noConfusion hf, fun _ => ?_⟩)
    | (with_reducible refine W.isLfS ?_; refine ⟨_, _, (by assumption), rfl, fun hl => ?_⟩))
    have hflat : ((wordsM s i).2.map D.str).flatMap (fun x => match x with | .str w => s.map fun c => D.str (w ++ [c]) | _ => []) = (nextM s (wordsM s i).2).map D.str := by
      unfold nextM
      generalize (wordsM s i).2 = l
      induction l with
      | nil => rfl
      | cons w l ih => rw [List.map_cons, List.flatMap_cons, List.flatMap_cons, List.map_append, ih, List.map_map]; rfl
    have hl1 : (nextM s (wordsM s i).2).length ≤ 3 ^ 11 := by
      rw [next_len, words_last]
      have h2 : s.length ^ i ≤ 3 ^ i := Nat.pow_le_pow_left hs i
      have h3 := pow3 (k := i) (by omega)
      have h4 : s.length ^ i * s.length ≤ 59049 * 3 := Nat.mul_le_mul (by omega) hs
      exact h4
    refine ⟨_, rfl, fun x hx => ?_, ?_, ?_⟩
    · obtain ⟨w, hw, rfl⟩ := List.mem_map.mp hx
      have hwl := (he w hw).1
      refine ⟨_, rfl, ?_⟩
      repeat (first
    | with_reducible refine W.cons ?_ | with_reducible refine W.set ?_ | with_reducible refine W.ret ?_ | with_reducible refine W.cst ?_ | (with_reducible refine W.isVar ?_; refine W.var rfl ?_)
    | (with_reducible refine W.isGetR ?_; refine W.getR rfl (by assumption) rfl ?_) | (with_reducible refine W.isLenR ?_; refine W.lenR rfl (by assumption) ?_) | (with_reducible refine W.isSetR ?_; refine W.setR rfl ?_)
    | with_reducible refine W.o2 ?_ | with_reducible refine W.o1 ?_ | with_reducible refine W.call ?_ | with_reducible refine W.es ?_ | with_reducible refine W.es0 ?_ | with_reducible refine W.nx ?_ | with_reducible refine W.rt ?_ | with_reducible refine W.tup ?_ | with_reducible refine W.lst ?_
    | with_reducible refine W.slice ?_ | with_reducible refine W.val ?_ | with_reducible refine W.rng ?_ | with_reducible refine W.enu ?_ | with_reducible refine W.seti ?_ | with_reducible refine W.ts0 ?_ | with_reducible refine W.ts1 ?_ | with_reducible refine W.cond ?_ | with_reducible refine W.and ?_
    | with_reducible refine W.or ?_ | with_reducible refine W.ife ?_ | with_reducible refine W.nil ?_ | with_reducible refine W.par ?_ | with_reducible refine W.app ?_ | with_reducible refine W.ext ?_
    | (with_reducible refine W.isLt ?_; refine ⟨by simp, ?_⟩) | (with_reducible refine W.isMul ?_; refine ⟨_, W.mulK (by decide), ?_⟩) | (with_reducible refine W.isEq ?_; first | refine ⟨_, W.eqI, ?_⟩ | refine ⟨_, W.eqS, ?_⟩) | (with_reducible refine W.isNe ?_; first | refine ⟨_, W.neI, ?_⟩ | refine ⟨_, W.neS, ?_⟩)
    | (with_reducible refine W.isLf ?_; refine ⟨_, rfl, ?_⟩)
    | (with_reducible refine W.isBr ?_; first | refine ⟨_, rfl, fun _ => ?_, fun hf => Bool.noConfusion hf⟩ | refine ⟨_, rfl, fun hf => Bool.noConfusion hf, fun _ => ?_⟩)
    | (with_reducible refine W.isBr2 ?_; first | refine ⟨_, rfl, fun _ => ?_, fun hf => Bool.noConfusion hf⟩ | refine ⟨_, rfl, fun hf => Bool.noConfusion hf, fun _ => ?_⟩)
    | (with_reducible refine W.isLfS ?_; refine ⟨_, _, (by assumption), rfl, fun hl => ?_⟩))
      refine ⟨rfl, fun _ => W.val (W.var rfl ⟨_, rfl, rfl, fun y => match y with | .str c => [.str (w ++ c)] | _ => [], fun y hy => ?_, ?_⟩), fun hf => Bool.noConfusion hf⟩
      · obtain ⟨c, hc, rfl⟩ := List.mem_map.mp hy
        refine ⟨_, rfl, ?_⟩
        repeat (first
    | with_reducible refine W.cons ?_ | with_reducible refine W.set ?_ | with_reducible refine W.ret ?_ | with_reducible refine W.cst ?_ | (with_reducible refine W.isVar ?_; refine W.var rfl ?_)
    | (with_reducible refine W.isGetR ?_; refine W.getR rfl (by assumption) rfl ?_) | (with_reducible refine W.isLenR ?_; refine W.lenR rfl (by assumption) ?_) | (with_reducible refine W.isSetR ?_; refine W.setR rfl ?_)
    | with_reducible refine W.o2 ?_ | with_reducible refine W.o1 ?_ | with_reducible refine W.call ?_ | with_reducible refine W.es ?_ | with_reducible refine W.es0 ?_ | with_reducible refine W.nx ?_ | with_reducible refine W.rt ?_ | with_reducible refine W.tup ?_ | with_reducible refine W.lst ?_
    | with_reducible refine W.slice ?_ | with_reducible refine W.val ?_ | with_reducible refine W.rng ?_ | with_reducible refine W.enu ?_ | with_reducible refine W.seti ?_ | with_reducible refine W.ts0 ?_ | with_reducible refine W.ts1 ?_ | with_reducible refine W.cond ?_ | with_reducible refine W.and ?_
    | with_reducible refine W.or ?_ | with_reducible refine W.ife ?_ | with_reducible refine W.nil ?_ | with_reducible refine W.par ?_ | with_reducible refine W.app ?_ | with_reducible refine W.ext ?_
    | (with_reducible refine W.isLt ?_; refine ⟨by simp, ?_⟩) | (with_reducible refine W.isMul ?_; refine ⟨_, W.mulK (by decide), ?_⟩) | (with_reducible refine W.isEq ?_; first | refine ⟨_, W.eqI, ?_⟩ | refine ⟨_, W.eqS, ?_⟩) | (with_reducible refine W.isNe ?_; first | refine ⟨_, W.neI, ?_⟩ | refine ⟨_, W.neS, ?_⟩)
    | (with_reducible refine W.isLf ?_; refine ⟨_, rfl, ?_⟩)
    | (with_reducible refine W.isBr ?_; first | refine ⟨_, rfl, fun _ => ?_, fun hf => Bool.noConfusion hf⟩ | refine ⟨_, rfl, fun hf => Bool.noConfusion hf, fun _ => ?_⟩)
    | (with_reducible refine W.isBr2 ?_; first | refine ⟨_, rfl, fun _ => ?_, fun hf => Bool.noConfusion hf⟩ | refine ⟨_, rfl, fun hf => Bool.noConfusion hf, fun _ => ?_⟩)
    | (with_reducible refine W.isLfS ?_; refine ⟨_, _, (by assumption), rfl, fun hl => ?_⟩))
        refine ⟨fun _ => ?_, fun hf => Bool.noConfusion hf⟩
        repeat (first
    | with_reducible refine W.cons ?_ | with_reducible refine W.set ?_ | with_reducible refine W.ret ?_ | with_reducible refine W.cst ?_ | (with_reducible refine W.isVar ?_; refine W.var rfl ?_)
    | (with_reducible refine W.isGetR ?_; refine W.getR rfl (by assumption) rfl ?_) | (with_reducible refine W.isLenR ?_; refine W.lenR rfl (by assumption) ?_) | (with_reducible refine W.isSetR ?_; refine W.setR rfl ?_)
    | with_reducible refine W.o2 ?_ | with_reducible refine W.o1 ?_ | with_reducible refine W.call ?_ | with_reducible refine W.es ?_ | with_reducible refine W.es0 ?_ | with_reducible refine W.nx ?_ | with_reducible refine W.rt ?_ | with_reducible refine W.tup ?_ | with_reducible refine W.lst ?_
    | with_reducible refine W.slice ?_ | with_reducible refine W.val ?_ | with_reducible refine W.rng ?_ | with_reducible refine W.enu ?_ | with_reducible refine W.seti ?_ | with_reducible refine W.ts0 ?_ | with_reducible refine W.ts1 ?_ | with_reducible refine W.cond ?_ | with_reducible refine W.and ?_
    | with_reducible refine W.or ?_ | with_reducible refine W.ife ?_ | with_reducible refine W.nil ?_ | with_reducible refine W.par ?_ | with_reducible refine W.app ?_ | with_reducible refine W.ext ?_
    | (with_reducible refine W.isLt ?_; refine ⟨by simp, ?_⟩) | (with_reducible refine W.isMul ?_; refine ⟨_, W.mulK (by decide), ?_⟩) | (with_reducible refine W.isEq ?_; first | refine ⟨_, W.eqI, ?_⟩ | refine ⟨_, W.eqS, ?_⟩) | (with_reducible refine W.isNe ?_; first | refine ⟨_, W.neI, ?_⟩ | refine ⟨_, W.neS, ?_⟩)
    | (with_reducible refine W.isLf ?_; refine ⟨_, rfl, ?_⟩)
    | (with_reducible refine W.isBr ?_; first | refine ⟨_, rfl, fun _ => ?_, fun hf => Bool.noConfusion hf⟩ | refine ⟨_, rfl, fun hf => Bool.noConfusion hf, fun _ => ?_⟩)
    | (with_reducible refine W.isBr2 ?_; first | refine ⟨_, rfl, fun _ => ?_, fun hf => Bool.noConfusion hf⟩ | refine ⟨_, rfl, fun hf => Bool.noConfusion hf, fun _ => ?_⟩)
    | (with_reducible refine W.isLfS ?_; refine ⟨_, _, (by assumption), rfl, fun hl => ?_⟩))
        exact ⟨_, addS (by simp only [List.length_cons, List.length_nil]; unfold line; omega), rfl, rfl⟩
      · exact flat_map1 _ _ _ (fun _ => rfl) s
    · simp only [hflat, List.length_map]
      unfold line
      omega
    · simp only [hflat]
      refine ⟨by simp, W.nx (W.cons (W.ext (W.var rfl ⟨_, _, rfl, last_get, W.var rfl ⟨_, _, last_get, rfl, ?_, W.nx (W.nil ⟨_, _, _, rfl, ?_, ?_⟩)⟩⟩)))⟩
      · have h1 := words_all s hs i
        have h3 := pow3 (k := i) (by omega)
        simp only [List.length_map]
        unfold line
        omega
      · rw [last_set, wordsM, List.map_append]
      · omega
  · rintro σ h' ⟨o4, o5, o6, rfl, rfl, hi⟩
    simp only [rngD, List.length_map, List.length_range]
    rw [show ((m : Int) - 0).toNat = m by omega]
    repeat (first
    | with_reducible refine W.cons ?_ | with_reducible refine W.set ?_ | with_reducible refine W.ret ?_ | with_reducible refine W.cst ?_ | (with_reducible refine W.isVar ?_; refine W.var rfl ?_)
    | (with_reducible refine W.isGetR ?_; refine W.getR rfl (by assumption) rfl ?_) | (with_reducible refine W.isLenR ?_; refine W.lenR rfl (by assumption) ?_) | (with_reducible refine W.isSetR ?_; refine W.setR rfl ?_)
    | with_reducible refine W.o2 ?_ | with_reducible refine W.o1 ?_ | with_reducible refine W.call ?_ | with_reducible refine W.es ?_ | with_reducible refine W.es0 ?_ | with_reducible refine W.nx ?_ | with_reducible refine W.rt ?_ | with_reducible refine W.tup ?_ | with_reducible refine W.lst ?_
    | with_reducible refine W.slice ?_ | with_reducible refine W.val ?_ | with_reducible refine W.rng ?_ | with_reducible refine W.enu ?_ | with_reducible refine W.seti ?_ | with_reducible refine W.ts0 ?_ | with_reducible refine W.ts1 ?_ | with_reducible refine W.cond ?_ | with_reducible refine W.and ?_
    | with_reducible refine W.or ?_ | with_reducible refine W.ife ?_ | with_reducible refine W.nil ?_ | with_reducible refine W.par ?_ | with_reducible refine W.app ?_ | with_reducible refine W.ext ?_
    | (with_reducible refine W.isLt ?_; refine ⟨by simp, ?_⟩) | (with_reducible refine W.isMul ?_; refine ⟨_, W.mulK (by decide), ?_⟩) | (with_reducible refine W.isEq ?_; first | refine ⟨_, W.eqI, ?_⟩ | refine ⟨_, W.eqS, ?_⟩) | (with_reducible refine W.isNe ?_; first | refine ⟨_, W.neI, ?_⟩ | refine ⟨_, W.neS, ?_⟩)
    | (with_reducible refine W.isLf ?_; refine ⟨_, rfl, ?_⟩)
    | (with_reducible refine W.isBr ?_; first | refine ⟨_, rfl, fun _ => ?_, fun hf => Bool.noConfusion hf⟩ | refine ⟨_, rfl, fun hf => Bool.noConfusion hf, fun _ => ?_⟩)
    | (with_reducible refine W.isBr2 ?_; first | refine ⟨_, rfl, fun _ => ?_, fun hf => Bool.noConfusion hf⟩ | refine ⟨_, rfl, fun hf => Bool.noConfusion hf, fun _ => ?_⟩)
    | (with_reducible refine W.isLfS ?_; refine ⟨_, _, (by assumption), rfl, fun hl => ?_⟩))
    refine W.en ?_
    rw [fin_mine (strs_und _ _ _)]
    exact Ok.ok ⟨rfl, rfl⟩
theorem addL {xs ys : List D} {x y : D} (hx : items h x = some xs) (hy : items h y = some ys) (hnx : ∀ i, x ≠ .int i) (hns : ∀ i, x ≠ .str i) (hnt : ∀ i, x ≠ .tup i) (hl : xs.length + ys.length ≤ line) : o2F .add h x y = some (.lv (xs ++ ys)) := by
  cases x <;> first
    | exact absurd rfl (hnx _)
    | exact absurd rfl (hns _)
    | exact absurd rfl (hnt _)
    | simp only [o2F, hx, hy, if_pos hl]
theorem law_words_ok (hT : T "" "_law_words" = some ⟨2, 8, b_law_words⟩) {s : List Nat} {m : Nat} (hs : s.length ≤ 3) (hm : m ≤ 10) :
    Ok (callF T (d + 1) "" "_law_words" [.str s, .int m] h) fun v h' => v = .fz ((wordsM s m).1.map D.str) ∧ h' = h := by
  refine W.fn hT rfl ?_
  unfold b_law_words
  simp only [startD, List.map_cons, List.map_nil, List.cons_append, List.nil_append, List.length_cons, List.length_nil, List.replicate, Nat.reduceAdd, Nat.reduceSub]
  refine W.cons (W.par ?_)
  repeat (first
    | with_reducible refine W.set ?_ | with_reducible refine W.ret ?_ | with_reducible refine W.cst ?_ | (with_reducible refine W.isVar ?_; refine W.var rfl ?_)
    | (with_reducible refine W.isGetR ?_; refine W.getR rfl (by assumption) rfl ?_) | (with_reducible refine W.isLenR ?_; refine W.lenR rfl (by assumption) ?_) | (with_reducible refine W.isSetR ?_; refine W.setR rfl ?_)
    | with_reducible refine W.o2 ?_ | with_reducible refine W.o1 ?_ | with_reducible refine W.call ?_ | with_reducible refine W.es ?_ | with_reducible refine W.es0 ?_ | with_reducible refine W.rt ?_ | with_reducible refine W.tup ?_ | with_reducible refine W.lst ?_
    | with_reducible refine W.slice ?_ | with_reducible refine W.val ?_ | with_reducible refine W.rng ?_ | with_reducible refine W.enu ?_ | with_reducible refine W.seti ?_ | with_reducible refine W.ts0 ?_ | with_reducible refine W.ts1 ?_ | with_reducible refine W.cond ?_ | with_reducible refine W.and ?_
    | with_reducible refine W.or ?_ | with_reducible refine W.ife ?_ | with_reducible refine W.nil ?_ | with_reducible refine W.par ?_ | with_reducible refine W.app ?_ | with_reducible refine W.ext ?_
    | (with_reducible refine W.isLt ?_; refine ⟨by simp, ?_⟩) | (with_reducible refine W.isMul ?_; refine ⟨_, W.mulK (by decide), ?_⟩) | (with_reducible refine W.isEq ?_; first | refine ⟨_, W.eqI, ?_⟩ | refine ⟨_, W.eqS, ?_⟩) | (with_reducible refine W.isNe ?_; first | refine ⟨_, W.neI, ?_⟩ | refine ⟨_, W.neS, ?_⟩)
    | (with_reducible refine W.isLf ?_; refine ⟨_, rfl, ?_⟩)
    | (with_reducible refine W.isBr ?_; first | refine ⟨_, rfl, fun _ => ?_, fun hf => Bool.noConfusion hf⟩ | refine ⟨_, rfl, fun hf => Bool.noConfusion hf, fun _ => ?_⟩)
    | (with_reducible refine W.isBr2 ?_; first | refine ⟨_, rfl, fun _ => ?_, fun hf => Bool.noConfusion hf⟩ | refine ⟨_, rfl, fun hf => Bool.noConfusion hf, fun _ => ?_⟩)
    | (with_reducible refine W.isLfS ?_; refine ⟨_, _, (by assumption), rfl, fun hl => ?_⟩))
  refine ⟨⟨by simp, by simp, by decide⟩, W.nx (W.cons (W.forr ?_))⟩
  repeat (first
    | with_reducible refine W.cons ?_ | with_reducible refine W.set ?_ | with_reducible refine W.ret ?_ | with_reducible refine W.cst ?_ | (with_reducible refine W.isVar ?_; refine W.var rfl ?_)
    | (with_reducible refine W.isGetR ?_; refine W.getR rfl (by assumption) rfl ?_) | (with_reducible refine W.isLenR ?_; refine W.lenR rfl (by assumption) ?_) | (with_reducible refine W.isSetR ?_; refine W.setR rfl ?_)
    | with_reducible refine W.o2 ?_ | with_reducible refine W.o1 ?_ | with_reducible refine W.call ?_ | with_reducible refine W.es ?_ | with_reducible refine W.es0 ?_ | with_reducible refine W.nx ?_ | with_reducible refine W.rt ?_ | with_reducible refine W.tup ?_ | with_reducible refine W.lst ?_
    | with_reducible refine W.slice ?_ | with_reducible refine W.val ?_ | with_reducible refine W.rng ?_ | with_reducible refine W.enu ?_ | with_reducible refine W.seti ?_ | with_reducible refine W.ts0 ?_ | with_reducible refine W.ts1 ?_ | with_reducible refine W.cond ?_ | with_reducible refine W.and ?_
    | with_reducible refine W.or ?_ | with_reducible refine W.ife ?_ | with_reducible refine W.nil ?_ | with_reducible refine W.par ?_ | with_reducible refine W.app ?_ | with_reducible refine W.ext ?_
    | (with_reducible refine W.isLt ?_; refine ⟨by simp, ?_⟩) | (with_reducible refine W.isMul ?_; refine ⟨_, W.mulK (by decide), ?_⟩) | (with_reducible refine W.isEq ?_; first | refine ⟨_, W.eqI, ?_⟩ | refine ⟨_, W.eqS, ?_⟩) | (with_reducible refine W.isNe ?_; first | refine ⟨_, W.neI, ?_⟩ | refine ⟨_, W.neS, ?_⟩)
    | (with_reducible refine W.isLf ?_; refine ⟨_, rfl, ?_⟩)
    | (with_reducible refine W.isBr ?_; first | refine ⟨_, rfl, fun _ => ?_, fun hf => Bool.noConfusion hf⟩ | refine ⟨_, rfl, fun hf => Bool.noConfusion hf, fun _ => ?_⟩)
    | (with_reducible refine W.isBr2 ?_; first | refine ⟨_, rfl, fun _ => ?_, fun hf => Bool.noConfusion hf⟩ | refine ⟨_, rfl, fun hf => Bool.noConfusion hf, fun _ => ?_⟩)
    | (with_reducible refine W.isLfS ?_; refine ⟨_, _, (by assumption), rfl, fun hl => ?_⟩))
  refine ⟨_, rfl, small_of (by omega) (by omega), fun i σ h' => ∃ o4 o5 o6 o7, σ = [some (.str s), some (.int m), some (.fz ((wordsM s i).1.map D.str)), some (.fz ((wordsM s i).2.map D.str)), o4, o5, o6, o7] ∧ h' = h ∧ i ≤ m, ⟨_, _, _, _, rfl, rfl, Nat.zero_le _⟩, fun _ _ _ _ => wat_nil _ _, ?_, ?_⟩
  · rintro i x σ h' hx ⟨o4, o5, o6, o7, rfl, rfl, hi⟩
    obtain ⟨rfl, hi2⟩ := rng_get hx
    obtain ⟨he, ha⟩ := words_each s i
    have hl1 : (nextM s (wordsM s i).2).length ≤ 3 ^ 11 := by
      rw [next_len, words_last]
      have h2 : s.length ^ i ≤ 3 ^ i := Nat.pow_le_pow_left hs i
      have h3 := pow3 (k := i) (by omega)
      have h4 : s.length ^ i * s.length ≤ 59049 * 3 := Nat.mul_le_mul (by omega) hs
      exact h4
    refine ⟨_, rfl, ?_⟩
    refine W.cons (W.set (W.lst (W.es0 ⟨by simp, W.nx (W.cons (W.forr (W.val (W.var rfl ⟨_, rfl, ?_⟩))))⟩)))
    refine ⟨fun j σ h2 => ∃ o6 o7, σ = [some (.str s), some (.int m), some (.fz ((wordsM s i).1.map D.str)), some (.fz ((wordsM s i).2.map D.str)), some (.int (0 + (i : Nat))), some (.fz ((nextM s ((wordsM s i).2.take j)).map D.str)), o6, o7] ∧ h2 = h', ⟨_, _, rfl, rfl⟩, fun _ _ _ _ => wat_nil _ _, ?_, ?_⟩
    · rintro j x σ h2 hx ⟨o6, o7, rfl, rfl⟩
      rw [List.getElem?_map] at hx
      obtain ⟨w, hw, rfl⟩ := Option.map_eq_some_iff.mp hx
      have hwl := (he w (List.mem_of_getElem? hw)).1
      have hnx : nextM s ((wordsM s i).2.take (j + 1)) = nextM s ((wordsM s i).2.take j) ++ s.map fun c => w ++ [c] := by
        unfold nextM
        rw [List.take_succ, hw, List.flatMap_append]
        simp
      have hl2 : (nextM s ((wordsM s i).2.take j)).length ≤ 3 ^ 11 := by
        refine Nat.le_trans ?_ hl1
        rw [next_len, next_len, List.length_take]
        exact Nat.mul_le_mul_right _ (Nat.min_le_right _ _)
      refine ⟨_, rfl, ?_⟩
      refine W.cons (W.set (W.o2 (W.var rfl (W.compM (fun y => match y with | .str c => [.str (w ++ c)] | _ => []) (W.val (W.var rfl ⟨_, rfl, ?_⟩))))))
      have hfl : (s.map fun c => D.str [c]).flatMap (fun y => match y with | .str c => [.str (w ++ c)] | _ => []) = s.map fun c => D.str (w ++ [c]) := flat_map1 _ _ _ (fun _ => rfl) s
      refine ⟨fun y hy => ?_, ?_, ?_⟩
      · obtain ⟨c, hc, rfl⟩ := List.mem_map.mp hy
        refine ⟨_, rfl, ?_⟩
        repeat (first
    | with_reducible refine W.cons ?_ | with_reducible refine W.set ?_ | with_reducible refine W.ret ?_ | with_reducible refine W.cst ?_ | (with_reducible refine W.isVar ?_; refine W.var rfl ?_)
    | (with_reducible refine W.isGetR ?_; refine W.getR rfl (by assumption) rfl ?_) | (with_reducible refine W.isLenR ?_; refine W.lenR rfl (by assumption) ?_) | (with_reducible refine W.isSetR ?_; refine W.setR rfl ?_)
    | with_reducible refine W.o2 ?_ | with_reducible refine W.o1 ?_ | with_reducible refine W.call ?_ | with_reducible refine W.es ?_ | with_reducible refine W.es0 ?_ | with_reducible refine W.nx ?_ | with_reducible refine W.rt ?_ | with_reducible refine W.tup ?_ | with_reducible refine W.lst ?_
    | with_reducible refine W.slice ?_ | with_reducible refine W.val ?_ | with_reducible refine W.rng ?_ | with_reducible refine W.enu ?_ | with_reducible refine W.seti ?_ | with_reducible refine W.ts0 ?_ | with_reducible refine W.ts1 ?_ | with_reducible refine W.cond ?_ | with_reducible refine W.and ?_
    | with_reducible refine W.or ?_ | with_reducible refine W.ife ?_ | with_reducible refine W.nil ?_ | with_reducible refine W.par ?_ | with_reducible refine W.app ?_ | with_reducible refine W.ext ?_
    | (with_reducible refine W.isLt ?_; refine ⟨by simp, ?_⟩) | (with_reducible refine W.isMul ?_; refine ⟨_, W.mulK (by decide), ?_⟩) | (with_reducible refine W.isEq ?_; first | refine ⟨_, W.eqI, ?_⟩ | refine ⟨_, W.eqS, ?_⟩) | (with_reducible refine W.isNe ?_; first | refine ⟨_, W.neI, ?_⟩ | refine ⟨_, W.neS, ?_⟩)
    | (with_reducible refine W.isLf ?_; refine ⟨_, rfl, ?_⟩)
    | (with_reducible refine W.isBr ?_; first | refine ⟨_, rfl, fun _ => ?_, fun hf => Bool.noConfusion hf⟩ | refine ⟨_, rfl, fun hf => Bool.noConfusion hf, fun _ => ?_⟩)
    | (with_reducible refine W.isBr2 ?_; first | refine ⟨_, rfl, fun _ => ?_, fun hf => Bool.noConfusion hf⟩ | refine ⟨_, rfl, fun hf => Bool.noConfusion hf, fun _ => ?_⟩)
    | (with_reducible refine W.isLfS ?_; refine ⟨_, _, (by assumption), rfl, fun hl => ?_⟩))
        refine ⟨fun _ => ?_, fun hf => Bool.noConfusion hf⟩
        repeat (first
    | with_reducible refine W.cons ?_ | with_reducible refine W.set ?_ | with_reducible refine W.ret ?_ | with_reducible refine W.cst ?_ | (with_reducible refine W.isVar ?_; refine W.var rfl ?_)
    | (with_reducible refine W.isGetR ?_; refine W.getR rfl (by assumption) rfl ?_) | (with_reducible refine W.isLenR ?_; refine W.lenR rfl (by assumption) ?_) | (with_reducible refine W.isSetR ?_; refine W.setR rfl ?_)
    | with_reducible refine W.o2 ?_ | with_reducible refine W.o1 ?_ | with_reducible refine W.call ?_ | with_reducible refine W.es ?_ | with_reducible refine W.es0 ?_ | with_reducible refine W.nx ?_ | with_reducible refine W.rt ?_ | with_reducible refine W.tup ?_ | with_reducible refine W.lst ?_
    | with_reducible refine W.slice ?_ | with_reducible refine W.val ?_ | with_reducible refine W.rng ?_ | with_reducible refine W.enu ?_ | with_reducible refine W.seti ?_ | with_reducible refine W.ts0 ?_ | with_reducible refine W.ts1 ?_ | with_reducible refine W.cond ?_ | with_reducible refine W.and ?_
    | with_reducible refine W.or ?_ | with_reducible refine W.ife ?_ | with_reducible refine W.nil ?_ | with_reducible refine W.par ?_ | with_reducible refine W.app ?_ | with_reducible refine W.ext ?_
    | (with_reducible refine W.isLt ?_; refine ⟨by simp, ?_⟩) | (with_reducible refine W.isMul ?_; refine ⟨_, W.mulK (by decide), ?_⟩) | (with_reducible refine W.isEq ?_; first | refine ⟨_, W.eqI, ?_⟩ | refine ⟨_, W.eqS, ?_⟩) | (with_reducible refine W.isNe ?_; first | refine ⟨_, W.neI, ?_⟩ | refine ⟨_, W.neS, ?_⟩)
    | (with_reducible refine W.isLf ?_; refine ⟨_, rfl, ?_⟩)
    | (with_reducible refine W.isBr ?_; first | refine ⟨_, rfl, fun _ => ?_, fun hf => Bool.noConfusion hf⟩ | refine ⟨_, rfl, fun hf => Bool.noConfusion hf, fun _ => ?_⟩)
    | (with_reducible refine W.isBr2 ?_; first | refine ⟨_, rfl, fun _ => ?_, fun hf => Bool.noConfusion hf⟩ | refine ⟨_, rfl, fun hf => Bool.noConfusion hf, fun _ => ?_⟩)
    | (with_reducible refine W.isLfS ?_; refine ⟨_, _, (by assumption), rfl, fun hl => ?_⟩))
        exact ⟨_, addS (by simp only [List.length_cons, List.length_nil]; unfold line; omega), rfl, rfl⟩
      · simp only [hfl, List.length_map]
        unfold line
        omega
      · simp only [hfl]
        refine ⟨_, addL rfl rfl (fun _ => by simp) (fun _ => by simp) (fun _ => by simp) (by simp only [List.length_map]; unfold line; omega), by simp, W.nx (W.nil ⟨some (.str w), o7, ?_, rfl⟩)⟩
        rw [hnx, List.map_append, List.map_map]
        rfl
    · rintro σ h2 ⟨o6, o7, rfl, rfl⟩
      rw [List.length_map, List.take_length]
      refine W.nx (W.cons (W.par (W.o2 (W.var rfl (W.var rfl ⟨_, addL rfl rfl (fun _ => by simp) (fun _ => by simp) (fun _ => by simp) ?_, W.var rfl ⟨⟨by simp, by simp, by decide⟩, W.nx (W.nil ⟨some (.int (0 + (i : Nat))), some (.fz ((nextM s (wordsM s i).2).map D.str)), o6, o7, ?_, rfl, by omega⟩)⟩⟩)))))
      · have h1 := words_all s hs i
        have h3 := pow3 (k := i) (by omega)
        simp only [List.length_map]
        unfold line
        omega
      · rw [wordsM, List.map_append]
        rfl
  · rintro σ h' ⟨o4, o5, o6, o7, rfl, rfl, hi⟩
    simp only [rngD, List.length_map, List.length_range]
    rw [show ((m : Int) - 0).toNat = m by omega]
    repeat (first
    | with_reducible refine W.cons ?_ | with_reducible refine W.set ?_ | with_reducible refine W.ret ?_ | with_reducible refine W.cst ?_ | (with_reducible refine W.isVar ?_; refine W.var rfl ?_)
    | (with_reducible refine W.isGetR ?_; refine W.getR rfl (by assumption) rfl ?_) | (with_reducible refine W.isLenR ?_; refine W.lenR rfl (by assumption) ?_) | (with_reducible refine W.isSetR ?_; refine W.setR rfl ?_)
    | with_reducible refine W.o2 ?_ | with_reducible refine W.o1 ?_ | with_reducible refine W.call ?_ | with_reducible refine W.es ?_ | with_reducible refine W.es0 ?_ | with_reducible refine W.nx ?_ | with_reducible refine W.rt ?_ | with_reducible refine W.tup ?_ | with_reducible refine W.lst ?_
    | with_reducible refine W.slice ?_ | with_reducible refine W.val ?_ | with_reducible refine W.rng ?_ | with_reducible refine W.enu ?_ | with_reducible refine W.seti ?_ | with_reducible refine W.ts0 ?_ | with_reducible refine W.ts1 ?_ | with_reducible refine W.cond ?_ | with_reducible refine W.and ?_
    | with_reducible refine W.or ?_ | with_reducible refine W.ife ?_ | with_reducible refine W.nil ?_ | with_reducible refine W.par ?_ | with_reducible refine W.app ?_ | with_reducible refine W.ext ?_
    | (with_reducible refine W.isLt ?_; refine ⟨by simp, ?_⟩) | (with_reducible refine W.isMul ?_; refine ⟨_, W.mulK (by decide), ?_⟩) | (with_reducible refine W.isEq ?_; first | refine ⟨_, W.eqI, ?_⟩ | refine ⟨_, W.eqS, ?_⟩) | (with_reducible refine W.isNe ?_; first | refine ⟨_, W.neI, ?_⟩ | refine ⟨_, W.neS, ?_⟩)
    | (with_reducible refine W.isLf ?_; refine ⟨_, rfl, ?_⟩)
    | (with_reducible refine W.isBr ?_; first | refine ⟨_, rfl, fun _ => ?_, fun hf => Bool.noConfusion hf⟩ | refine ⟨_, rfl, fun hf => Bool.noConfusion hf, fun _ => ?_⟩)
    | (with_reducible refine W.isBr2 ?_; first | refine ⟨_, rfl, fun _ => ?_, fun hf => Bool.noConfusion hf⟩ | refine ⟨_, rfl, fun hf => Bool.noConfusion hf, fun _ => ?_⟩)
    | (with_reducible refine W.isLfS ?_; refine ⟨_, _, (by assumption), rfl, fun hl => ?_⟩))
    refine W.en ?_
    rw [fin_self]
    exact Ok.ok ⟨rfl, rfl⟩
theorem stagesM_take (rs : List Rule) (w : List Nat) : stagesM rs w = (List.range (rs.length + 1)).map fun i => ledM (rs.take i) w := by
  induction rs generalizing w with
  | nil => rfl
  | cons r rs ih =>
    rw [stagesM, ih, List.length_cons, List.range_succ_eq_map (n := rs.length + 1), List.map_cons, List.map_map]
    rfl
theorem led_take {rs : List Rule} {i : Nat} {r : Rule} (w : List Nat) (hr : rs[i]? = some r) : ledM (rs.take (i + 1)) w = changedM r (ledM (rs.take i) w) := by
  unfold ledM
  rw [List.take_succ, hr, List.foldl_append]
  rfl
theorem led_len {rs : List Rule} (hr : ∀ r ∈ rs, RF r) (w : List Nat) : (ledM rs w).length ≤ w.length * 2 ^ rs.length := by
  induction rs generalizing w with
  | nil => simp [ledM]
  | cons r rs ih =>
    have h1 := ih (fun x hx => hr x (List.mem_cons_of_mem _ hx)) (changedM r w)
    have h2 := changed_len (w := w) (hr r List.mem_cons_self).out
    have h3 : (changedM r w).length * 2 ^ rs.length ≤ 2 * w.length * 2 ^ rs.length := Nat.mul_le_mul_right _ h2
    show (ledM rs (changedM r w)).length ≤ _
    rw [List.length_cons, Nat.pow_succ]
    have : w.length * (2 ^ rs.length * 2) = 2 * w.length * 2 ^ rs.length := by
      rw [Nat.mul_comm (2 ^ rs.length) 2, ← Nat.mul_assoc, Nat.mul_comm w.length 2]
    omega
theorem led_take_len {rs : List Rule} (hr : ∀ r ∈ rs, RF r) (w : List Nat) (i : Nat) : (ledM (rs.take i) w).length ≤ w.length * 2 ^ rs.length := by
  refine Nat.le_trans (led_len (fun r h => hr r (List.mem_of_mem_take h)) w) ?_
  exact Nat.mul_le_mul_left _ (Nat.pow_le_pow_right (by decide) (by rw [List.length_take]; exact Nat.min_le_right _ _))
theorem stages_ok (W1 : WT T) (hT : T "" "stages" = some ⟨2, 4, b_stages⟩) {rs : List Rule} {w : List Nat} (hw : w.length * 2 ^ rs.length ≤ 1000000) (hr : ∀ r ∈ rs, RF r) (hl : rs.length ≤ 1000) :
    Ok (callF T (d + 4) "" "stages" [.tup (rs.map ruleD), .str w] h) fun v h' => v = .lv ((stagesM rs w).map D.str) ∧ h' = h := by
  refine W.fn hT rfl ?_
  unfold b_stages
  simp only [startD, List.map_cons, List.map_nil, List.cons_append, List.nil_append, List.length_cons, List.length_nil, List.replicate, Nat.reduceAdd, Nat.reduceSub]
  refine W.cons (W.set (W.alcL ?_))
  repeat (first
    | with_reducible refine W.cons ?_ | with_reducible refine W.set ?_ | with_reducible refine W.ret ?_ | with_reducible refine W.cst ?_ | (with_reducible refine W.isVar ?_; refine W.var rfl ?_)
    | (with_reducible refine W.isGetR ?_; refine W.getR rfl (by assumption) rfl ?_) | (with_reducible refine W.isLenR ?_; refine W.lenR rfl (by assumption) ?_) | (with_reducible refine W.isSetR ?_; refine W.setR rfl ?_)
    | with_reducible refine W.o2 ?_ | with_reducible refine W.o1 ?_ | with_reducible refine W.call ?_ | with_reducible refine W.es ?_ | with_reducible refine W.es0 ?_ | with_reducible refine W.nx ?_ | with_reducible refine W.rt ?_ | with_reducible refine W.tup ?_ | with_reducible refine W.lst ?_
    | with_reducible refine W.slice ?_ | with_reducible refine W.val ?_ | with_reducible refine W.rng ?_ | with_reducible refine W.enu ?_ | with_reducible refine W.seti ?_ | with_reducible refine W.ts0 ?_ | with_reducible refine W.ts1 ?_ | with_reducible refine W.cond ?_ | with_reducible refine W.and ?_
    | with_reducible refine W.or ?_ | with_reducible refine W.ife ?_ | with_reducible refine W.nil ?_ | with_reducible refine W.par ?_ | with_reducible refine W.app ?_ | with_reducible refine W.ext ?_
    | (with_reducible refine W.isLt ?_; refine ⟨by simp, ?_⟩) | (with_reducible refine W.isMul ?_; refine ⟨_, W.mulK (by decide), ?_⟩) | (with_reducible refine W.isEq ?_; first | refine ⟨_, W.eqI, ?_⟩ | refine ⟨_, W.eqS, ?_⟩) | (with_reducible refine W.isNe ?_; first | refine ⟨_, W.neI, ?_⟩ | refine ⟨_, W.neS, ?_⟩)
    | (with_reducible refine W.isLf ?_; refine ⟨_, rfl, ?_⟩)
    | (with_reducible refine W.isBr ?_; first | refine ⟨_, rfl, fun _ => ?_, fun hf => Bool.noConfusion hf⟩ | refine ⟨_, rfl, fun hf => Bool.noConfusion hf, fun _ => ?_⟩)
    | (with_reducible refine W.isBr2 ?_; first | refine ⟨_, rfl, fun _ => ?_, fun hf => Bool.noConfusion hf⟩ | refine ⟨_, rfl, fun hf => Bool.noConfusion hf, fun _ => ?_⟩)
    | (with_reducible refine W.isLfS ?_; refine ⟨_, _, (by assumption), rfl, fun hl => ?_⟩))
  refine ⟨_, rfl, by simp, W.nx (W.cons (W.forr (W.val ?_)))⟩
  repeat (first
    | with_reducible refine W.cons ?_ | with_reducible refine W.set ?_ | with_reducible refine W.ret ?_ | with_reducible refine W.cst ?_ | (with_reducible refine W.isVar ?_; refine W.var rfl ?_)
    | (with_reducible refine W.isGetR ?_; refine W.getR rfl (by assumption) rfl ?_) | (with_reducible refine W.isLenR ?_; refine W.lenR rfl (by assumption) ?_) | (with_reducible refine W.isSetR ?_; refine W.setR rfl ?_)
    | with_reducible refine W.o2 ?_ | with_reducible refine W.o1 ?_ | with_reducible refine W.call ?_ | with_reducible refine W.es ?_ | with_reducible refine W.es0 ?_ | with_reducible refine W.nx ?_ | with_reducible refine W.rt ?_ | with_reducible refine W.tup ?_ | with_reducible refine W.lst ?_
    | with_reducible refine W.slice ?_ | with_reducible refine W.val ?_ | with_reducible refine W.rng ?_ | with_reducible refine W.enu ?_ | with_reducible refine W.seti ?_ | with_reducible refine W.ts0 ?_ | with_reducible refine W.ts1 ?_ | with_reducible refine W.cond ?_ | with_reducible refine W.and ?_
    | with_reducible refine W.or ?_ | with_reducible refine W.ife ?_ | with_reducible refine W.nil ?_ | with_reducible refine W.par ?_ | with_reducible refine W.app ?_ | with_reducible refine W.ext ?_
    | (with_reducible refine W.isLt ?_; refine ⟨by simp, ?_⟩) | (with_reducible refine W.isMul ?_; refine ⟨_, W.mulK (by decide), ?_⟩) | (with_reducible refine W.isEq ?_; first | refine ⟨_, W.eqI, ?_⟩ | refine ⟨_, W.eqS, ?_⟩) | (with_reducible refine W.isNe ?_; first | refine ⟨_, W.neI, ?_⟩ | refine ⟨_, W.neS, ?_⟩)
    | (with_reducible refine W.isLf ?_; refine ⟨_, rfl, ?_⟩)
    | (with_reducible refine W.isBr ?_; first | refine ⟨_, rfl, fun _ => ?_, fun hf => Bool.noConfusion hf⟩ | refine ⟨_, rfl, fun hf => Bool.noConfusion hf, fun _ => ?_⟩)
    | (with_reducible refine W.isBr2 ?_; first | refine ⟨_, rfl, fun _ => ?_, fun hf => Bool.noConfusion hf⟩ | refine ⟨_, rfl, fun hf => Bool.noConfusion hf, fun _ => ?_⟩)
    | (with_reducible refine W.isLfS ?_; refine ⟨_, _, (by assumption), rfl, fun hl => ?_⟩))
  refine ⟨_, rfl, fun i σ h' => ∃ (o : Option D), σ = [some (.tup (rs.map ruleD)), some (.str w), some (.ref h.length), o] ∧ h' = h ++ [.lst (((List.range (i + 1)).map fun i => ledM (rs.take i) w).map D.str)] ∧ i ≤ rs.length, ⟨_, rfl, rfl, Nat.zero_le _⟩, fun _ _ _ _ => wat_nil _ _, ?_, ?_⟩
  · rintro i x σ h' hx ⟨o, rfl, rfl, hi⟩
    rw [List.getElem?_map] at hx
    obtain ⟨r, hr2, rfl⟩ := Option.map_eq_some_iff.mp hx
    obtain ⟨hlt, er⟩ := List.getElem?_eq_some_iff.mp hr2
    have rf := hr r (List.mem_of_getElem? hr2)
    have hlen := led_take_len hr w i
    refine ⟨_, rfl, ?_⟩
    refine W.cons (W.app (W.var rfl ⟨_, _, rfl, last_get, ?_⟩))
    repeat (first
    | with_reducible refine W.set ?_ | with_reducible refine W.ret ?_ | with_reducible refine W.cst ?_ | (with_reducible refine W.isVar ?_; refine W.var rfl ?_)
    | (with_reducible refine W.isGetR ?_; refine W.getR rfl (by assumption) rfl ?_) | (with_reducible refine W.isLenR ?_; refine W.lenR rfl (by assumption) ?_) | (with_reducible refine W.isSetR ?_; refine W.setR rfl ?_)
    | with_reducible refine W.o2 ?_ | with_reducible refine W.o1 ?_ | with_reducible refine W.call ?_ | with_reducible refine W.es ?_ | with_reducible refine W.es0 ?_ | with_reducible refine W.rt ?_ | with_reducible refine W.tup ?_ | with_reducible refine W.lst ?_
    | with_reducible refine W.slice ?_ | with_reducible refine W.val ?_ | with_reducible refine W.rng ?_ | with_reducible refine W.enu ?_ | with_reducible refine W.seti ?_ | with_reducible refine W.ts0 ?_ | with_reducible refine W.ts1 ?_ | with_reducible refine W.cond ?_ | with_reducible refine W.and ?_
    | with_reducible refine W.or ?_ | with_reducible refine W.ife ?_ | with_reducible refine W.nil ?_ | with_reducible refine W.par ?_ | with_reducible refine W.app ?_ | with_reducible refine W.ext ?_
    | (with_reducible refine W.isLt ?_; refine ⟨by simp, ?_⟩) | (with_reducible refine W.isMul ?_; refine ⟨_, W.mulK (by decide), ?_⟩) | (with_reducible refine W.isEq ?_; first | refine ⟨_, W.eqI, ?_⟩ | refine ⟨_, W.eqS, ?_⟩) | (with_reducible refine W.isNe ?_; first | refine ⟨_, W.neI, ?_⟩ | refine ⟨_, W.neS, ?_⟩)
    | (with_reducible refine W.isLf ?_; refine ⟨_, rfl, ?_⟩)
    | (with_reducible refine W.isBr ?_; first | refine ⟨_, rfl, fun _ => ?_, fun hf => Bool.noConfusion hf⟩ | refine ⟨_, rfl, fun hf => Bool.noConfusion hf, fun _ => ?_⟩)
    | (with_reducible refine W.isBr2 ?_; first | refine ⟨_, rfl, fun _ => ?_, fun hf => Bool.noConfusion hf⟩ | refine ⟨_, rfl, fun hf => Bool.noConfusion hf, fun _ => ?_⟩)
    | (with_reducible refine W.isLfS ?_; refine ⟨_, _, (by assumption), rfl, fun hl => ?_⟩))
    refine ⟨.str (ledM (rs.take i) w), ?_, ?_⟩
    · show (match seqs (h ++ [_]) (.ref h.length) with | some xs => atI xs (-1) | none => none) = _
      simp only [seqs, items, last_get]
      simp only [atI, ixN, List.length_map, List.length_range]
      rw [if_neg (by decide), if_pos (by omega)]
      simp only [Option.bind_some]
      rw [List.getElem?_map, List.getElem?_map, show ((-1 : Int) + ((i + 1 : Nat) : Int)).toNat = i by omega, List.getElem?_range (by omega)]
      rfl
    · repeat (first
    | with_reducible refine W.set ?_ | with_reducible refine W.ret ?_ | with_reducible refine W.cst ?_ | (with_reducible refine W.isVar ?_; refine W.var rfl ?_)
    | (with_reducible refine W.isGetR ?_; refine W.getR rfl (by assumption) rfl ?_) | (with_reducible refine W.isLenR ?_; refine W.lenR rfl (by assumption) ?_) | (with_reducible refine W.isSetR ?_; refine W.setR rfl ?_)
    | with_reducible refine W.o2 ?_ | with_reducible refine W.o1 ?_ | with_reducible refine W.call ?_ | with_reducible refine W.es ?_ | with_reducible refine W.es0 ?_ | with_reducible refine W.rt ?_ | with_reducible refine W.tup ?_ | with_reducible refine W.lst ?_
    | with_reducible refine W.slice ?_ | with_reducible refine W.val ?_ | with_reducible refine W.rng ?_ | with_reducible refine W.enu ?_ | with_reducible refine W.seti ?_ | with_reducible refine W.ts0 ?_ | with_reducible refine W.ts1 ?_ | with_reducible refine W.cond ?_ | with_reducible refine W.and ?_
    | with_reducible refine W.or ?_ | with_reducible refine W.ife ?_ | with_reducible refine W.nil ?_ | with_reducible refine W.par ?_ | with_reducible refine W.app ?_ | with_reducible refine W.ext ?_
    | (with_reducible refine W.isLt ?_; refine ⟨by simp, ?_⟩) | (with_reducible refine W.isMul ?_; refine ⟨_, W.mulK (by decide), ?_⟩) | (with_reducible refine W.isEq ?_; first | refine ⟨_, W.eqI, ?_⟩ | refine ⟨_, W.eqS, ?_⟩) | (with_reducible refine W.isNe ?_; first | refine ⟨_, W.neI, ?_⟩ | refine ⟨_, W.neS, ?_⟩)
    | (with_reducible refine W.isLf ?_; refine ⟨_, rfl, ?_⟩)
    | (with_reducible refine W.isBr ?_; first | refine ⟨_, rfl, fun _ => ?_, fun hf => Bool.noConfusion hf⟩ | refine ⟨_, rfl, fun hf => Bool.noConfusion hf, fun _ => ?_⟩)
    | (with_reducible refine W.isBr2 ?_; first | refine ⟨_, rfl, fun _ => ?_, fun hf => Bool.noConfusion hf⟩ | refine ⟨_, rfl, fun hf => Bool.noConfusion hf, fun _ => ?_⟩)
    | (with_reducible refine W.isLfS ?_; refine ⟨_, _, (by assumption), rfl, fun hl => ?_⟩))
      refine (changed_ok (d := d) W1 (by omega) rf).mono fun v h1 q => ?_
      obtain ⟨rfl, rfl⟩ := q
      refine ⟨_, last_get, by simp only [List.length_map, List.length_range]; unfold line; omega, W.nx (W.nil ⟨_, rfl, ?_, hlt⟩)⟩
      rw [last_set]
      congr 2
      rw [List.range_succ (n := i + 1), List.map_append, List.map_append]
      simp only [List.map_cons, List.map_nil, led_take w hr2]
      rfl
  · rintro σ h' ⟨o, rfl, rfl, hi⟩
    rw [List.length_map, ← stagesM_take]
    repeat (first
    | with_reducible refine W.cons ?_ | with_reducible refine W.set ?_ | with_reducible refine W.ret ?_ | with_reducible refine W.cst ?_ | (with_reducible refine W.isVar ?_; refine W.var rfl ?_)
    | (with_reducible refine W.isGetR ?_; refine W.getR rfl (by assumption) rfl ?_) | (with_reducible refine W.isLenR ?_; refine W.lenR rfl (by assumption) ?_) | (with_reducible refine W.isSetR ?_; refine W.setR rfl ?_)
    | with_reducible refine W.o2 ?_ | with_reducible refine W.o1 ?_ | with_reducible refine W.call ?_ | with_reducible refine W.es ?_ | with_reducible refine W.es0 ?_ | with_reducible refine W.nx ?_ | with_reducible refine W.rt ?_ | with_reducible refine W.tup ?_ | with_reducible refine W.lst ?_
    | with_reducible refine W.slice ?_ | with_reducible refine W.val ?_ | with_reducible refine W.rng ?_ | with_reducible refine W.enu ?_ | with_reducible refine W.seti ?_ | with_reducible refine W.ts0 ?_ | with_reducible refine W.ts1 ?_ | with_reducible refine W.cond ?_ | with_reducible refine W.and ?_
    | with_reducible refine W.or ?_ | with_reducible refine W.ife ?_ | with_reducible refine W.nil ?_ | with_reducible refine W.par ?_ | with_reducible refine W.app ?_ | with_reducible refine W.ext ?_
    | (with_reducible refine W.isLt ?_; refine ⟨by simp, ?_⟩) | (with_reducible refine W.isMul ?_; refine ⟨_, W.mulK (by decide), ?_⟩) | (with_reducible refine W.isEq ?_; first | refine ⟨_, W.eqI, ?_⟩ | refine ⟨_, W.eqS, ?_⟩) | (with_reducible refine W.isNe ?_; first | refine ⟨_, W.neI, ?_⟩ | refine ⟨_, W.neS, ?_⟩)
    | (with_reducible refine W.isLf ?_; refine ⟨_, rfl, ?_⟩)
    | (with_reducible refine W.isBr ?_; first | refine ⟨_, rfl, fun _ => ?_, fun hf => Bool.noConfusion hf⟩ | refine ⟨_, rfl, fun hf => Bool.noConfusion hf, fun _ => ?_⟩)
    | (with_reducible refine W.isBr2 ?_; first | refine ⟨_, rfl, fun _ => ?_, fun hf => Bool.noConfusion hf⟩ | refine ⟨_, rfl, fun hf => Bool.noConfusion hf, fun _ => ?_⟩)
    | (with_reducible refine W.isLfS ?_; refine ⟨_, _, (by assumption), rfl, fun hl => ?_⟩))
    refine W.en ?_
    rw [fin_mine (strs_und _ _ _)]
    exact Ok.ok ⟨rfl, rfl⟩
end
end Gen
end Sd

/-! K02T: the text of k02, its defs, each as it is turned (printed by mkhead.py). -/
namespace K02
open PySem PySem.Spec PyProof.Rows L2 Sd
def top (i : Nat) : Stmt := PySem.Challenge.pw_soundsled_k02_whole_leading.main.body.getD i (.Pass ⟨0, 0, 0, 0⟩)
/-- slots_hold: 0 word, 1 place, 2 slots, 3 k, 4 slot, 5 at, 6 here -/
def b_slots_hold : List S := [
  (.forr (.t [3, 4]) (.enu (.var 2)) [(.set (.n 5) (.o2 .add (.var 1) (.var 3))), (.set (.n 6) (.ife (.chn .le .lt (.cst (.int 0)) (.var 5) (.o1 .len (.var 0))) (.o2 .idx (.var 0) (.var 5)) (.cst (.str [35])))), (.cond (.o2 .notin (.var 6) (.var 4)) [(.ret (.cst (.bl false)))] [])]),
  (.ret (.cst (.bl true)))]
def d_slots_hold : DefI := ⟨"slots_hold", "slots_hold", top 2, ["word", "place", "slots"], ["word", "place", "slots", "k", "slot", "at", "here"], [], b_slots_hold⟩
/-- applies: 0 rule, 1 word, 2 place, 3 changes, 4 before, 5 behind, 6 one, 7 _ -/
def b_applies : List S := [
  (.set (.t [3, 4, 5]) (.var 0)),
  (.cond (.o2 .notin (.o2 .idx (.var 1) (.var 2)) (.comp [6, 7] (.var 6) (.t [6, 7]) (.val (.var 3)) [])) [(.ret (.cst (.bl false)))] []),
  (.ret (.and (.call "" "slots_hold" [(.var 1), (.o2 .sub (.var 2) (.o1 .len (.var 4))), (.var 4)]) (.call "" "slots_hold" [(.var 1), (.o2 .add (.var 2) (.cst (.int 1))), (.var 5)])))]
def d_applies : DefI := ⟨"applies", "applies", top 3, ["rule", "word", "place"], ["rule", "word", "place", "changes", "before", "behind", "one", "_"], [], b_applies⟩
/-- changed: 0 rule, 1 word, 2 known, 3 place, 4 one -/
def b_changed : List S := [
  (.set (.n 2) (.o1 .dict (.o2 .idx (.var 0) (.cst (.int 0))))),
  (.ret (.o2 .join (.cst (.str [])) (.comp [3, 4] (.ife (.call "" "applies" [(.var 0), (.var 1), (.var 3)]) (.o2 .idx (.var 2) (.var 4)) (.var 4)) (.t [3, 4]) (.enu (.var 1)) [])))]
def d_changed : DefI := ⟨"changed", "changed", top 4, ["rule", "word"], ["rule", "word", "known", "place", "one"], [], b_changed⟩
/-- led: 0 history, 1 word, 2 rule -/
def b_led : List S := [
  (.forr (.n 2) (.val (.var 0)) [(.set (.n 1) (.call "" "changed" [(.var 2), (.var 1)]))]),
  (.ret (.var 1))]
def d_led : DefI := ⟨"led", "led", top 5, ["history", "word"], ["history", "word", "rule"], [], b_led⟩
/-- stages: 0 history, 1 word, 2 found, 3 rule -/
def b_stages : List S := [
  (.set (.n 2) (.alc (.lst [(.var 1)]))),
  (.forr (.n 3) (.val (.var 0)) [(.app (.var 2) (.call "" "changed" [(.var 3), (.o2 .idx (.var 2) (.o1 .neg (.cst (.int 1))))]))]),
  (.ret (.var 2))]
def d_stages : DefI := ⟨"stages", "stages", top 6, ["history", "word"], ["history", "word", "found", "rule"], [2], b_stages⟩
/-- words_up_to: 0 sounds, 1 most, 2 found, 3 last, 4 _, 5 word, 6 one -/
def b_words_up_to : List S := [
  (.par 2 3 (.alc (.lst [(.cst (.str []))])) (.lst [(.cst (.str []))])),
  (.forr (.n 4) (.rng (.var 1)) [(.set (.n 3) (.comp2 [5, 6] (.o2 .add (.var 5) (.var 6)) (.n 5) (.val (.var 3)) [] (.n 6) (.val (.var 0)) [])), (.ext (.var 2) (.var 3))]),
  (.ret (.var 2))]
def d_words_up_to : DefI := ⟨"words_up_to", "words_up_to", top 7, ["sounds", "most"], ["sounds", "most", "found", "last", "_", "word", "one"], [2], b_words_up_to⟩
/-- _law_same: 0 actual, 1 due, 2 k -/
def b_law_same : List S := [
  (.cond (.or (.o1 (.isi .tup) (.var 1)) (.o1 (.isi .lst) (.var 1))) [(.cond (.or (.o2 .ne (.o1 (.isi .tup) (.var 1)) (.o1 (.isi .tup) (.var 0))) (.o2 .ne (.o1 (.isi .lst) (.var 1)) (.o1 (.isi .lst) (.var 0)))) [(.ret (.cst (.bl false)))] []), (.cond (.o2 .ne (.o1 .len (.var 0)) (.o1 .len (.var 1))) [(.ret (.cst (.bl false)))] []), (.ret (.o2 .eq (.o1 .len (.comp [2] (.var 2) (.n 2) (.rng (.o1 .len (.var 1))) [(.o1 .not (.call "" "_law_same" [(.o2 .idx (.var 0) (.var 2)), (.o2 .idx (.var 1) (.var 2))]))])) (.cst (.int 0))))] []),
  (.cond (.o1 .isN (.var 1)) [(.ret (.o1 .isN (.var 0)))] []),
  (.cond (.or (.o1 (.isi .bool) (.var 1)) (.o1 (.isi .bool) (.var 0))) [(.ret (.and (.o1 (.isi .bool) (.var 1)) (.and (.o1 (.isi .bool) (.var 0)) (.o2 .eq (.var 0) (.var 1)))))] []),
  (.cond (.o1 (.isi .int) (.var 1)) [(.ret (.and (.o1 (.isi .int) (.var 0)) (.o2 .eq (.var 0) (.var 1))))] []),
  (.ret (.and (.o1 (.isi .str) (.var 0)) (.o2 .eq (.var 0) (.var 1))))]
def d_law_same : DefI := ⟨"_law_same", "_law_same", top 9, ["actual", "due"], ["actual", "due", "k"], [], b_law_same⟩
/-- _law_pool: 0 script, 1 salt, 2 cell -/
def b_law_pool : List S := [
  (.set (.n 1) (.cst (.int 7))),
  (.forr (.n 2) (.val (.o3 .slice (.var 0) (.cst .non) (.o1 .ofI (.cst (.int 63))))) [(.set (.n 1) (.o2 .mod (.o1 .int (.o2 .add (.o2 .mul (.var 1) (.cst (.int 31))) (.var 2))) (.cst (.int 1000003))))]),
  (.ret (.lst [(.o1 .list (.var 0)), (.cst (.int 0)), (.cst (.int 0)), (.cst (.int 0)), (.var 1)]))]
def d_law_pool : DefI := ⟨"_law_pool", "_law_pool", top 10, ["script"], ["script", "salt", "cell"], [], b_law_pool⟩
/-- _law_spread: 0 cell, 1 blended, 2 whole_sum, 3 k -/
def b_law_spread : List S := [
  (.set (.n 1) (.o2 .mod (.o1 .int (.var 0)) (.cst (.int 2147483647)))),
  (.set (.n 2) (.cst (.int 1))),
  (.forr (.n 3) (.rng (.cst (.int 4))) [(.set (.n 1) (.o2 .mod (.o1 .int (.o2 .add (.o2 .add (.o2 .mul (.var 1) (.cst (.int 48271))) (.cst (.int 12345))) (.var 3))) (.cst (.int 2147483647)))), (.set (.n 2) (.o2 .add (.o2 .mul (.var 2) (.cst (.int 2147483647))) (.var 1)))]),
  (.ret (.var 2))]
def d_law_spread : DefI := ⟨"_law_spread", "_law_spread", top 11, ["cell"], ["cell", "blended", "whole_sum", "k"], [], b_law_spread⟩
/-- _law_draw: 0 pool, 1 many, 2 cell, 3 blended, 4 value -/
def b_law_draw : List S := [
  (.cond (.and (.o2 .le (.o2 .idx (.var 0) (.cst (.int 2))) (.cst (.int 0))) (.o2 .lt (.o2 .idx (.var 0) (.cst (.int 1))) (.o1 .len (.o2 .idx (.var 0) (.cst (.int 0)))))) [(.set (.n 2) (.o2 .idx (.o2 .idx (.var 0) (.cst (.int 0))) (.o2 .idx (.var 0) (.cst (.int 1))))), (.seti (.var 0) (.cst (.int 1)) (.o2 .add (.o2 .idx (.var 0) (.cst (.int 1))) (.cst (.int 1)))), (.seti (.var 0) (.cst (.int 2)) (.var 2)), (.cond (.o2 .lt (.var 2) (.cst (.int 1000000000000000000))) [(.seti (.var 0) (.cst (.int 2)) (.call "" "_law_spread" [(.var 2)]))] [])] []),
  (.seti (.var 0) (.cst (.int 3)) (.o2 .add (.o2 .idx (.var 0) (.cst (.int 3))) (.cst (.int 1)))),
  (.cond (.o2 .le (.o2 .idx (.var 0) (.cst (.int 2))) (.cst (.int 0))) [(.set (.n 3) (.o2 .mod (.o1 .int (.o2 .add (.o2 .add (.o2 .mul (.o2 .idx (.var 0) (.cst (.int 4))) (.cst (.int 48271))) (.o2 .mul (.o2 .idx (.var 0) (.cst (.int 3))) (.cst (.int 69621)))) (.cst (.int 1)))) (.cst (.int 2147483647)))), (.set (.n 3) (.o2 .mod (.o1 .int (.o2 .add (.o2 .mul (.var 3) (.cst (.int 16807))) (.o2 .idx (.var 0) (.cst (.int 3))))) (.cst (.int 2147483629)))), (.ret (.o2 .mod (.o2 .div (.var 3) (.cst (.int 5))) (.var 1)))] []),
  (.set (.n 4) (.o2 .mod (.o1 .int (.o2 .idx (.var 0) (.cst (.int 2)))) (.var 1))),
  (.seti (.var 0) (.cst (.int 2)) (.o2 .div (.o2 .idx (.var 0) (.cst (.int 2))) (.var 1))),
  (.ret (.var 4))]
def d_law_draw : DefI := ⟨"_law_draw", "_law_draw", top 12, ["pool", "many"], ["pool", "many", "cell", "blended", "value"], [], b_law_draw⟩
/-- _law_sounds: 0 pool -/
def b_law_sounds : List S := [
  (.ret (.o2 .idx (.tup [(.cst (.str [97, 98])), (.cst (.str [97, 98, 99])), (.cst (.str [97])), (.cst (.str [97, 98]))]) (.call "" "_law_draw" [(.var 0), (.cst (.int 4))])))]
def d_law_sounds : DefI := ⟨"_law_sounds", "_law_sounds", top 13, ["pool"], ["pool"], [], b_law_sounds⟩
/-- _law_lot: 0 pool, 1 sounds, 2 found, 3 one -/
def b_law_lot : List S := [
  (.set (.n 2) (.o2 .join (.cst (.str [])) (.comp [3] (.var 3) (.n 3) (.val (.var 1)) [(.o2 .eq (.call "" "_law_draw" [(.var 0), (.cst (.int 2))]) (.cst (.int 0)))]))),
  (.ret (.ife (.o2 .ne (.var 2) (.cst (.str []))) (.var 2) (.o2 .idx (.var 1) (.call "" "_law_draw" [(.var 0), (.o1 .len (.var 1))]))))]
def d_law_lot : DefI := ⟨"_law_lot", "_law_lot", top 14, ["pool", "sounds"], ["pool", "sounds", "found", "one"], [], b_law_lot⟩
/-- _law_word: 0 pool, 1 sounds, 2 most, 3 k -/
def b_law_word : List S := [
  (.ret (.o2 .join (.cst (.str [])) (.comp [3] (.o2 .idx (.var 1) (.call "" "_law_draw" [(.var 0), (.o1 .len (.var 1))])) (.n 3) (.rng (.call "" "_law_draw" [(.var 0), (.o2 .add (.var 2) (.cst (.int 1)))])) [])))]
def d_law_word : DefI := ⟨"_law_word", "_law_word", top 15, ["pool", "sounds", "most"], ["pool", "sounds", "most", "k"], [], b_law_word⟩
/-- _law_slots: 0 pool, 1 sounds, 2 edge, 3 found, 4 k -/
def b_law_slots : List S := [
  (.set (.n 3) (.alc (.comp [4] (.call "" "_law_lot" [(.var 0), (.var 1)]) (.n 4) (.rng (.o2 .idx (.tup [(.cst (.int 0)), (.cst (.int 0)), (.cst (.int 1)), (.cst (.int 1)), (.cst (.int 2))]) (.call "" "_law_draw" [(.var 0), (.cst (.int 5))]))) []))),
  (.cond (.and (.o2 .gt (.o1 .len (.var 3)) (.cst (.int 0))) (.o2 .eq (.call "" "_law_draw" [(.var 0), (.cst (.int 4))]) (.cst (.int 0)))) [(.seti (.var 3) (.ife (.o2 .eq (.var 2) (.cst (.int 0))) (.cst (.int 0)) (.o2 .sub (.o1 .len (.var 3)) (.cst (.int 1)))) (.cst (.str [35])))] []),
  (.ret (.o1 .tuple (.var 3)))]
def d_law_slots : DefI := ⟨"_law_slots", "_law_slots", top 16, ["pool", "sounds", "edge"], ["pool", "sounds", "edge", "found", "k"], [3], b_law_slots⟩
/-- _law_law: 0 pool, 1 sounds, 2 changes, 3 one -/
def b_law_law : List S := [
  (.set (.n 2) (.o1 .tuple (.comp [3] (.tup [(.var 3), (.call "" "_law_word" [(.var 0), (.var 1), (.cst (.int 2))])]) (.n 3) (.val (.var 1)) [(.o2 .eq (.call "" "_law_draw" [(.var 0), (.cst (.int 2))]) (.cst (.int 0)))]))),
  (.cond (.o2 .eq (.o1 .len (.var 2)) (.cst (.int 0))) [(.set (.n 2) (.tup [(.tup [(.o2 .idx (.var 1) (.cst (.int 0))), (.call "" "_law_word" [(.var 0), (.var 1), (.cst (.int 2))])])]))] []),
  (.ret (.tup [(.var 2), (.call "" "_law_slots" [(.var 0), (.var 1), (.cst (.int 0))]), (.call "" "_law_slots" [(.var 0), (.var 1), (.cst (.int 1))])]))]
def d_law_law : DefI := ⟨"_law_law", "_law_law", top 17, ["pool", "sounds"], ["pool", "sounds", "changes", "one"], [], b_law_law⟩
/-- _law_history: 0 pool, 1 sounds, 2 most, 3 found, 4 slots, 5 k, 6 law -/
def b_law_history : List S := [
  (.set (.t [3, 4]) (.tup [(.tup []), (.cst (.int 0))])),
  (.forr (.n 5) (.rng (.call "" "_law_draw" [(.var 0), (.o2 .add (.var 2) (.cst (.int 1)))])) [(.set (.n 6) (.call "" "_law_law" [(.var 0), (.var 1)])), (.set (.n 4) (.o2 .add (.o2 .add (.var 4) (.o1 .len (.o2 .idx (.var 6) (.cst (.int 1))))) (.o1 .len (.o2 .idx (.var 6) (.cst (.int 2)))))), (.set (.n 3) (.o2 .add (.var 3) (.ife (.o2 .lt (.var 4) (.cst (.int 5))) (.tup [(.var 6)]) (.tup [(.tup [(.o2 .idx (.var 6) (.cst (.int 0))), (.tup []), (.tup [])])]))))]),
  (.ret (.var 3))]
def d_law_history : DefI := ⟨"_law_history", "_law_history", top 18, ["pool", "sounds", "most"], ["pool", "sounds", "most", "found", "slots", "k", "law"], [], b_law_history⟩
/-- _law_holds: 0 word, 1 at, 2 slots, 3 k, 4 here -/
def b_law_holds : List S := [
  (.forr (.n 3) (.rng (.o1 .len (.var 2))) [(.set (.n 4) (.ife (.and (.o2 .ge (.o2 .add (.var 1) (.var 3)) (.cst (.int 0))) (.o2 .lt (.o2 .add (.var 1) (.var 3)) (.o1 .len (.var 0)))) (.o2 .idx (.var 0) (.o2 .add (.var 1) (.var 3))) (.cst (.str [35])))), (.cond (.o2 .notin (.var 4) (.o2 .idx (.var 2) (.var 3))) [(.ret (.cst (.bl false)))] [])]),
  (.ret (.cst (.bl true)))]
def d_law_holds : DefI := ⟨"_law_holds", "_law_holds", top 19, ["word", "at", "slots"], ["word", "at", "slots", "k", "here"], [], b_law_holds⟩
/-- _law_applies: 0 law, 1 word, 2 at, 3 known, 4 one, 5 out -/
def b_law_applies : List S := [
  (.set (.n 3) (.comp [4, 5] (.var 4) (.t [4, 5]) (.val (.o2 .idx (.var 0) (.cst (.int 0)))) [])),
  (.ret (.and (.o2 .isin (.o2 .idx (.var 1) (.var 2)) (.var 3)) (.and (.call "" "_law_holds" [(.var 1), (.o2 .sub (.var 2) (.o1 .len (.o2 .idx (.var 0) (.cst (.int 1))))), (.o2 .idx (.var 0) (.cst (.int 1)))]) (.call "" "_law_holds" [(.var 1), (.o2 .add (.var 2) (.cst (.int 1))), (.o2 .idx (.var 0) (.cst (.int 2)))]))))]
def d_law_applies : DefI := ⟨"_law_applies", "_law_applies", top 20, ["law", "word", "at"], ["law", "word", "at", "known", "one", "out"], [], b_law_applies⟩
/-- _law_changed: 0 law, 1 word, 2 found, 3 at -/
def b_law_changed : List S := [
  (.set (.n 2) (.cst (.str []))),
  (.forr (.n 3) (.rng (.o1 .len (.var 1))) [(.set (.n 2) (.o2 .add (.var 2) (.ife (.call "" "_law_applies" [(.var 0), (.var 1), (.var 3)]) (.o2 .idx (.o1 .dict (.o2 .idx (.var 0) (.cst (.int 0)))) (.o2 .idx (.var 1) (.var 3))) (.o2 .idx (.var 1) (.var 3)))))]),
  (.ret (.var 2))]
def d_law_changed : DefI := ⟨"_law_changed", "_law_changed", top 21, ["law", "word"], ["law", "word", "found", "at"], [], b_law_changed⟩
/-- _law_led: 0 history, 1 word, 2 found, 3 law -/
def b_law_led : List S := [
  (.set (.n 2) (.var 1)),
  (.forr (.n 3) (.val (.var 0)) [(.set (.n 2) (.call "" "_law_changed" [(.var 3), (.var 2)]))]),
  (.ret (.var 2))]
def d_law_led : DefI := ⟨"_law_led", "_law_led", top 22, ["history", "word"], ["history", "word", "found", "law"], [], b_law_led⟩
/-- _law_words: 0 sounds, 1 most, 2 found, 3 last, 4 k, 5 longer, 6 word, 7 one -/
def b_law_words : List S := [
  (.par 2 3 (.lst [(.cst (.str []))]) (.lst [(.cst (.str []))])),
  (.forr (.n 4) (.rng (.var 1)) [(.set (.n 5) (.lst [])), (.forr (.n 6) (.val (.var 3)) [(.set (.n 5) (.o2 .add (.var 5) (.comp [7] (.o2 .add (.var 6) (.var 7)) (.n 7) (.val (.var 0)) [])))]), (.par 2 3 (.o2 .add (.var 2) (.var 5)) (.var 5))]),
  (.ret (.var 2))]
def d_law_words : DefI := ⟨"_law_words", "_law_words", top 23, ["sounds", "most"], ["sounds", "most", "found", "last", "k", "longer", "word", "one"], [], b_law_words⟩
/-- law: 0 script, 1 pool, 2 sounds, 3 history, 4 one, 5 words, 6 word, 7 due, 8 here, 9 each, 10 at -/
def b_law : List S := [
  (.set (.n 1) (.alc (.call "" "_law_pool" [(.var 0)]))),
  (.set (.n 2) (.call "" "_law_sounds" [(.var 1)])),
  (.set (.n 3) (.call "" "_law_history" [(.var 1), (.var 2), (.cst (.int 3))])),
  (.set (.n 4) (.call "" "_law_law" [(.var 1), (.var 2)])),
  (.set (.n 5) (.call "" "_law_words" [(.var 2), (.cst (.int 4))])),
  (.cond (.o1 .not (.call "" "_law_same" [(.call "" "words_up_to" [(.var 2), (.cst (.int 4))]), (.var 5)])) [(.ret (.cst (.bl false)))] []),
  (.forr (.n 6) (.val (.o2 .add (.o3 .slice (.var 5) (.cst .non) (.o1 .ofI (.cst (.int 60)))) (.lst [(.call "" "_law_word" [(.var 1), (.var 2), (.cst (.int 9))])]))) [(.cond (.o1 .not (.call "" "_law_same" [(.comp [10] (.call "" "applies" [(.var 4), (.var 6), (.var 10)]) (.n 10) (.rng (.o1 .len (.var 6))) []), (.comp [10] (.call "" "_law_applies" [(.var 4), (.var 6), (.var 10)]) (.n 10) (.rng (.o1 .len (.var 6))) [])])) [(.ret (.cst (.bl false)))] []), (.cond (.o1 .not (.call "" "_law_same" [(.lst [(.call "" "changed" [(.var 4), (.var 6)]), (.call "" "led" [(.var 3), (.var 6)])]), (.lst [(.call "" "_law_changed" [(.var 4), (.var 6)]), (.call "" "_law_led" [(.var 3), (.var 6)])])])) [(.ret (.cst (.bl false)))] []), (.par 7 8 (.alc (.lst [(.var 6)])) (.var 6)), (.forr (.n 9) (.val (.var 3)) [(.set (.n 8) (.call "" "_law_changed" [(.var 9), (.var 8)])), (.app (.var 7) (.var 8))]), (.cond (.o1 .not (.call "" "_law_same" [(.call "" "stages" [(.var 3), (.var 6)]), (.var 7)])) [(.ret (.cst (.bl false)))] [])]),
  (.ret (.cst (.bl true)))]
def d_law : DefI := ⟨"law", "law", top 24, ["script"], ["script", "pool", "sounds", "history", "one", "words", "word", "due", "here", "each", "at"], [1, 7], b_law⟩
def L : List DefI := [d_slots_hold, d_applies, d_changed, d_led, d_stages, d_words_up_to, d_law_same, d_law_pool, d_law_spread, d_law_draw, d_law_sounds, d_law_lot, d_law_word, d_law_slots, d_law_law, d_law_history, d_law_holds, d_law_applies, d_law_changed, d_law_led, d_law_words, d_law]
def fns : List (PySem.Str × String) := L.map fun i => (i.x, i.m)
def cons : List (PySem.Str × Sd.D) := [("EDGE", (.str [35]))]
def T : Tb := fun c m => if c = "" then (L.find? fun i => i.m = m).map fun i => ⟨i.ps.length, i.N.length, i.body⟩ else none
theorem t_slots_hold : T "" "slots_hold" = some ⟨3, 7, b_slots_hold⟩ := rfl
theorem t_applies : T "" "applies" = some ⟨3, 8, b_applies⟩ := rfl
theorem t_changed : T "" "changed" = some ⟨2, 5, b_changed⟩ := rfl
theorem t_led : T "" "led" = some ⟨2, 3, b_led⟩ := rfl
theorem t_stages : T "" "stages" = some ⟨2, 4, b_stages⟩ := rfl
theorem t_words_up_to : T "" "words_up_to" = some ⟨2, 7, b_words_up_to⟩ := rfl
theorem t_law_same : T "" "_law_same" = some ⟨2, 3, b_law_same⟩ := rfl
theorem t_law_pool : T "" "_law_pool" = some ⟨1, 3, b_law_pool⟩ := rfl
theorem t_law_spread : T "" "_law_spread" = some ⟨1, 4, b_law_spread⟩ := rfl
theorem t_law_draw : T "" "_law_draw" = some ⟨2, 5, b_law_draw⟩ := rfl
theorem t_law_sounds : T "" "_law_sounds" = some ⟨1, 1, b_law_sounds⟩ := rfl
theorem t_law_lot : T "" "_law_lot" = some ⟨2, 4, b_law_lot⟩ := rfl
theorem t_law_word : T "" "_law_word" = some ⟨3, 4, b_law_word⟩ := rfl
theorem t_law_slots : T "" "_law_slots" = some ⟨3, 5, b_law_slots⟩ := rfl
theorem t_law_law : T "" "_law_law" = some ⟨2, 4, b_law_law⟩ := rfl
theorem t_law_history : T "" "_law_history" = some ⟨3, 7, b_law_history⟩ := rfl
theorem t_law_holds : T "" "_law_holds" = some ⟨3, 5, b_law_holds⟩ := rfl
theorem t_law_applies : T "" "_law_applies" = some ⟨3, 6, b_law_applies⟩ := rfl
theorem t_law_changed : T "" "_law_changed" = some ⟨2, 4, b_law_changed⟩ := rfl
theorem t_law_led : T "" "_law_led" = some ⟨2, 4, b_law_led⟩ := rfl
theorem t_law_words : T "" "_law_words" = some ⟨2, 8, b_law_words⟩ := rfl
theorem t_law : T "" "law" = some ⟨1, 11, b_law⟩ := rfl
theorem ok_slots_hold : d_slots_hold.Ok T fns cons 60 := ⟨⟨rfl, rfl, rfl, by decide +kernel, rfl, by decide +kernel, by decide +kernel⟩, by kernel_rfl, rfl, fun _ _ _ _ _ _ us hl => match us, hl with | [_, _, _], _ => rfl⟩
theorem ok_applies : d_applies.Ok T fns cons 60 := ⟨⟨rfl, rfl, rfl, by decide +kernel, rfl, by decide +kernel, by decide +kernel⟩, by kernel_rfl, rfl, fun _ _ _ _ _ _ us hl => match us, hl with | [_, _, _], _ => rfl⟩
theorem ok_changed : d_changed.Ok T fns cons 60 := ⟨⟨rfl, rfl, rfl, by decide +kernel, rfl, by decide +kernel, by decide +kernel⟩, by kernel_rfl, rfl, fun _ _ _ _ _ _ us hl => match us, hl with | [_, _], _ => rfl⟩
theorem ok_led : d_led.Ok T fns cons 60 := ⟨⟨rfl, rfl, rfl, by decide +kernel, rfl, by decide +kernel, by decide +kernel⟩, by kernel_rfl, rfl, fun _ _ _ _ _ _ us hl => match us, hl with | [_, _], _ => rfl⟩
theorem ok_stages : d_stages.Ok T fns cons 60 := ⟨⟨rfl, rfl, rfl, by decide +kernel, rfl, by decide +kernel, by decide +kernel⟩, by kernel_rfl, rfl, fun _ _ _ _ _ _ us hl => match us, hl with | [_, _], _ => rfl⟩
theorem ok_words_up_to : d_words_up_to.Ok T fns cons 60 := ⟨⟨rfl, rfl, rfl, by decide +kernel, rfl, by decide +kernel, by decide +kernel⟩, by kernel_rfl, rfl, fun _ _ _ _ _ _ us hl => match us, hl with | [_, _], _ => rfl⟩
theorem ok_law_same : d_law_same.Ok T fns cons 60 := ⟨⟨rfl, rfl, rfl, by decide +kernel, rfl, by decide +kernel, by decide +kernel⟩, by kernel_rfl, rfl, fun _ _ _ _ _ _ us hl => match us, hl with | [_, _], _ => rfl⟩
theorem ok_law_pool : d_law_pool.Ok T fns cons 60 := ⟨⟨rfl, rfl, rfl, by decide +kernel, rfl, by decide +kernel, by decide +kernel⟩, by kernel_rfl, rfl, fun _ _ _ _ _ _ us hl => match us, hl with | [_], _ => rfl⟩
theorem ok_law_spread : d_law_spread.Ok T fns cons 60 := ⟨⟨rfl, rfl, rfl, by decide +kernel, rfl, by decide +kernel, by decide +kernel⟩, by kernel_rfl, rfl, fun _ _ _ _ _ _ us hl => match us, hl with | [_], _ => rfl⟩
theorem ok_law_draw : d_law_draw.Ok T fns cons 60 := ⟨⟨rfl, rfl, rfl, by decide +kernel, rfl, by decide +kernel, by decide +kernel⟩, by kernel_rfl, rfl, fun _ _ _ _ _ _ us hl => match us, hl with | [_, _], _ => rfl⟩
theorem ok_law_sounds : d_law_sounds.Ok T fns cons 60 := ⟨⟨rfl, rfl, rfl, by decide +kernel, rfl, by decide +kernel, by decide +kernel⟩, by kernel_rfl, rfl, fun _ _ _ _ _ _ us hl => match us, hl with | [_], _ => rfl⟩
theorem ok_law_lot : d_law_lot.Ok T fns cons 60 := ⟨⟨rfl, rfl, rfl, by decide +kernel, rfl, by decide +kernel, by decide +kernel⟩, by kernel_rfl, rfl, fun _ _ _ _ _ _ us hl => match us, hl with | [_, _], _ => rfl⟩
theorem ok_law_word : d_law_word.Ok T fns cons 60 := ⟨⟨rfl, rfl, rfl, by decide +kernel, rfl, by decide +kernel, by decide +kernel⟩, by kernel_rfl, rfl, fun _ _ _ _ _ _ us hl => match us, hl with | [_, _, _], _ => rfl⟩
theorem ok_law_slots : d_law_slots.Ok T fns cons 60 := ⟨⟨rfl, rfl, rfl, by decide +kernel, rfl, by decide +kernel, by decide +kernel⟩, by kernel_rfl, rfl, fun _ _ _ _ _ _ us hl => match us, hl with | [_, _, _], _ => rfl⟩
theorem ok_law_law : d_law_law.Ok T fns cons 60 := ⟨⟨rfl, rfl, rfl, by decide +kernel, rfl, by decide +kernel, by decide +kernel⟩, by kernel_rfl, rfl, fun _ _ _ _ _ _ us hl => match us, hl with | [_, _], _ => rfl⟩
theorem ok_law_history : d_law_history.Ok T fns cons 60 := ⟨⟨rfl, rfl, rfl, by decide +kernel, rfl, by decide +kernel, by decide +kernel⟩, by kernel_rfl, rfl, fun _ _ _ _ _ _ us hl => match us, hl with | [_, _, _], _ => rfl⟩
theorem ok_law_holds : d_law_holds.Ok T fns cons 60 := ⟨⟨rfl, rfl, rfl, by decide +kernel, rfl, by decide +kernel, by decide +kernel⟩, by kernel_rfl, rfl, fun _ _ _ _ _ _ us hl => match us, hl with | [_, _, _], _ => rfl⟩
theorem ok_law_applies : d_law_applies.Ok T fns cons 60 := ⟨⟨rfl, rfl, rfl, by decide +kernel, rfl, by decide +kernel, by decide +kernel⟩, by kernel_rfl, rfl, fun _ _ _ _ _ _ us hl => match us, hl with | [_, _, _], _ => rfl⟩
theorem ok_law_changed : d_law_changed.Ok T fns cons 60 := ⟨⟨rfl, rfl, rfl, by decide +kernel, rfl, by decide +kernel, by decide +kernel⟩, by kernel_rfl, rfl, fun _ _ _ _ _ _ us hl => match us, hl with | [_, _], _ => rfl⟩
theorem ok_law_led : d_law_led.Ok T fns cons 60 := ⟨⟨rfl, rfl, rfl, by decide +kernel, rfl, by decide +kernel, by decide +kernel⟩, by kernel_rfl, rfl, fun _ _ _ _ _ _ us hl => match us, hl with | [_, _], _ => rfl⟩
theorem ok_law_words : d_law_words.Ok T fns cons 60 := ⟨⟨rfl, rfl, rfl, by decide +kernel, rfl, by decide +kernel, by decide +kernel⟩, by kernel_rfl, rfl, fun _ _ _ _ _ _ us hl => match us, hl with | [_, _], _ => rfl⟩
theorem ok_law : d_law.Ok T fns cons 60 := ⟨⟨rfl, rfl, rfl, by decide +kernel, rfl, by decide +kernel, by decide +kernel⟩, by kernel_rfl, rfl, fun _ _ _ _ _ _ us hl => match us, hl with | [_], _ => rfl⟩
theorem ok_all : ∀ i ∈ L, i.Ok T fns cons 60 := by
  intro i hi
  simp only [L, List.mem_cons, List.not_mem_nil, or_false] at hi
  rcases hi with rfl | rfl | rfl | rfl | rfl | rfl | rfl | rfl | rfl | rfl | rfl | rfl | rfl | rfl | rfl | rfl | rfl | rfl | rfl | rfl | rfl | rfl
  · exact ok_slots_hold
  · exact ok_applies
  · exact ok_changed
  · exact ok_led
  · exact ok_stages
  · exact ok_words_up_to
  · exact ok_law_same
  · exact ok_law_pool
  · exact ok_law_spread
  · exact ok_law_draw
  · exact ok_law_sounds
  · exact ok_law_lot
  · exact ok_law_word
  · exact ok_law_slots
  · exact ok_law_law
  · exact ok_law_history
  · exact ok_law_holds
  · exact ok_law_applies
  · exact ok_law_changed
  · exact ok_law_led
  · exact ok_law_words
  · exact ok_law
end K02

/-! K02L: the law k02, of every script. -/
namespace K02
open Sd Sd.Gen
theorem gt : GT T := ⟨rfl, rfl, rfl, rfl, rfl, rfl, rfl, rfl, rfl, rfl⟩
theorem wt : WT T := ⟨rfl, rfl, rfl, rfl⟩
theorem wlt : WLT T := ⟨rfl, rfl, rfl, rfl⟩
theorem rl_of {s : List Nat} {r : Rule} (hs : Sounds s) (hr : RuleOk s r) : RL r where
  nd := hr.ch.sub.nodup hs.nodup
  len := by
    have := hr.ch.sub.length_le
    have := hs.len
    simp only [List.length_map] at *
    omega
  out := fun q hq => (hr.ch.out q hq).2
  bf := by have := hr.bf.1; omega
  bh := by have := hr.bh.1; omega
theorem fin_bl {h h1 : Hh} {b : Bool} : ∃ h2, fin h h1 (.bl b) = .ok (.bl b) h2 := by
  unfold fin
  split
  · exact ⟨_, rfl⟩
  · split
    · exact ⟨_, rfl⟩
    · exact ⟨_, rfl⟩
theorem rng_flat {n : Nat} (g : Nat → D) (F : D → List D) (hF : ∀ p : Nat, F (.int (0 + (p : Nat))) = [g p]) : (rngD 0 n).flatMap F = (List.range n).map g := by
  unfold rngD
  rw [show ((n : Int) - 0).toNat = n by omega]
  exact flat_map1 _ _ _ hF _
theorem dat_strs (n : Nat) (xs : List (List Nat)) : ∀ x ∈ xs.map D.str, dat n x = true := by
  intro x hx
  obtain ⟨y, _, rfl⟩ := List.mem_map.mp hx
  cases n <;> rfl
/-- the rest of a turn -/
theorem turn {d : Nat} {s w : List Nat} {rs : List Rule} {one : Rule} {h : Hh} {o1 o5 o7 o8 o9 o10 : Option D} {v0 : D} (hw : w.length ≤ 9) (hrs : ∀ r ∈ rs, RL r) (h1 : RL one) (hl : rs.length ≤ 3) {R : Fl → Hh → Prop}
    (hR : ∀ h' o7 o8 o9 o10, R (.nx [some v0, o1, some (.str s), some (.tup (rs.map ruleD)), some (ruleD one), o5, some (.str w), o7, o8, o9, o10]) h') :
    Ok (evSs (callF T 19) [(.cond (.o1 .not (.call "" "_law_same" [(.comp [10] (.call "" "applies" [(.var 4), (.var 6), (.var 10)]) (.n 10) (.rng (.o1 .len (.var 6))) []), (.comp [10] (.call "" "_law_applies" [(.var 4), (.var 6), (.var 10)]) (.n 10) (.rng (.o1 .len (.var 6))) [])])) [(.ret (.cst (.bl false)))] []), (.cond (.o1 .not (.call "" "_law_same" [(.lst [(.call "" "changed" [(.var 4), (.var 6)]), (.call "" "led" [(.var 3), (.var 6)])]), (.lst [(.call "" "_law_changed" [(.var 4), (.var 6)]), (.call "" "_law_led" [(.var 3), (.var 6)])])])) [(.ret (.cst (.bl false)))] []), (.par 7 8 (.alc (.lst [(.var 6)])) (.var 6)), (.forr (.n 9) (.val (.var 3)) [(.set (.n 8) (.call "" "_law_changed" [(.var 9), (.var 8)])), (.app (.var 7) (.var 8))]), (.cond (.o1 .not (.call "" "_law_same" [(.call "" "stages" [(.var 3), (.var 6)]), (.var 7)])) [(.ret (.cst (.bl false)))] [])]
      [some v0, o1, some (.str s), some (.tup (rs.map ruleD)), some (ruleD one), o5, some (.str w), o7, o8, o9, o10] h) R := by
  have hwl : w.length ≤ line := by unfold line; omega
  have hpow : 2 ^ rs.length ≤ 2 ^ 3 := Nat.pow_le_pow_right (n := 2) (by decide) hl
  have hbig : w.length * 2 ^ rs.length ≤ 1000000 := by
    have : w.length * 2 ^ rs.length ≤ 9 * 8 := Nat.mul_le_mul hw hpow
    omega
  have hrf : ∀ r ∈ rs, RF r := fun r hr => (hrs r hr).toRF
  let F : D → List D := fun x => match x with | .int p => [.bl (appliesM one w p.toNat)] | _ => []
  have hF : (rngD 0 w.length).flatMap F = (List.range w.length).map fun p => .bl (appliesM one w p) := rng_flat _ _ fun p => by simp [F]
  refine W.cons (W.cond (W.o1 (W.call (W.es (W.compM F (W.rng (W.o1 (W.var rfl ⟨_, len_str hwl, _, rfl, small_of (by omega) (by omega), fun x hx => ?_, ?_, ?_⟩))))))))
  · obtain ⟨i, hi⟩ := List.getElem?_of_mem hx
    obtain ⟨rfl, hlt⟩ := rng_get hi
    refine ⟨_, rfl, ?_⟩
    repeat (first
    | with_reducible refine W.cons ?_ | with_reducible refine W.set ?_ | with_reducible refine W.ret ?_ | with_reducible refine W.cst ?_ | (with_reducible refine W.isVar ?_; refine W.var rfl ?_)
    | (with_reducible refine W.isGetR ?_; refine W.getR rfl (by assumption) rfl ?_) | (with_reducible refine W.isLenR ?_; refine W.lenR rfl (by assumption) ?_) | (with_reducible refine W.isSetR ?_; refine W.setR rfl ?_)
    | with_reducible refine W.o2 ?_ | with_reducible refine W.o1 ?_ | with_reducible refine W.call ?_ | with_reducible refine W.es ?_ | with_reducible refine W.es0 ?_ | with_reducible refine W.nx ?_ | with_reducible refine W.rt ?_ | with_reducible refine W.tup ?_ | with_reducible refine W.lst ?_
    | with_reducible refine W.slice ?_ | with_reducible refine W.val ?_ | with_reducible refine W.rng ?_ | with_reducible refine W.enu ?_ | with_reducible refine W.seti ?_ | with_reducible refine W.ts0 ?_ | with_reducible refine W.ts1 ?_ | with_reducible refine W.cond ?_ | with_reducible refine W.and ?_
    | with_reducible refine W.or ?_ | with_reducible refine W.ife ?_ | with_reducible refine W.nil ?_ | with_reducible refine W.par ?_ | with_reducible refine W.app ?_ | with_reducible refine W.ext ?_
    | (with_reducible refine W.isLt ?_; refine ⟨by simp, ?_⟩) | (with_reducible refine W.isMul ?_; refine ⟨_, W.mulK (by decide), ?_⟩) | (with_reducible refine W.isEq ?_; first | refine ⟨_, W.eqI, ?_⟩ | refine ⟨_, W.eqS, ?_⟩) | (with_reducible refine W.isNe ?_; first | refine ⟨_, W.neI, ?_⟩ | refine ⟨_, W.neS, ?_⟩)
    | (with_reducible refine W.isLf ?_; refine ⟨_, rfl, ?_⟩)
    | (with_reducible refine W.isBr ?_; first | refine ⟨_, rfl, fun _ => ?_, fun hf => Bool.noConfusion hf⟩ | refine ⟨_, rfl, fun hf => Bool.noConfusion hf, fun _ => ?_⟩)
    | (with_reducible refine W.isBr2 ?_; first | refine ⟨_, rfl, fun _ => ?_, fun hf => Bool.noConfusion hf⟩ | refine ⟨_, rfl, fun hf => Bool.noConfusion hf, fun _ => ?_⟩)
    | (with_reducible refine W.isLfS ?_; refine ⟨_, _, (by assumption), rfl, fun hl => ?_⟩))
    refine ⟨fun _ => ?_, fun hf => Bool.noConfusion hf⟩
    repeat (first
    | with_reducible refine W.cons ?_ | with_reducible refine W.set ?_ | with_reducible refine W.ret ?_ | with_reducible refine W.cst ?_ | (with_reducible refine W.isVar ?_; refine W.var rfl ?_)
    | (with_reducible refine W.isGetR ?_; refine W.getR rfl (by assumption) rfl ?_) | (with_reducible refine W.isLenR ?_; refine W.lenR rfl (by assumption) ?_) | (with_reducible refine W.isSetR ?_; refine W.setR rfl ?_)
    | with_reducible refine W.o2 ?_ | with_reducible refine W.o1 ?_ | with_reducible refine W.call ?_ | with_reducible refine W.es ?_ | with_reducible refine W.es0 ?_ | with_reducible refine W.nx ?_ | with_reducible refine W.rt ?_ | with_reducible refine W.tup ?_ | with_reducible refine W.lst ?_
    | with_reducible refine W.slice ?_ | with_reducible refine W.val ?_ | with_reducible refine W.rng ?_ | with_reducible refine W.enu ?_ | with_reducible refine W.seti ?_ | with_reducible refine W.ts0 ?_ | with_reducible refine W.ts1 ?_ | with_reducible refine W.cond ?_ | with_reducible refine W.and ?_
    | with_reducible refine W.or ?_ | with_reducible refine W.ife ?_ | with_reducible refine W.nil ?_ | with_reducible refine W.par ?_ | with_reducible refine W.app ?_ | with_reducible refine W.ext ?_
    | (with_reducible refine W.isLt ?_; refine ⟨by simp, ?_⟩) | (with_reducible refine W.isMul ?_; refine ⟨_, W.mulK (by decide), ?_⟩) | (with_reducible refine W.isEq ?_; first | refine ⟨_, W.eqI, ?_⟩ | refine ⟨_, W.eqS, ?_⟩) | (with_reducible refine W.isNe ?_; first | refine ⟨_, W.neI, ?_⟩ | refine ⟨_, W.neS, ?_⟩)
    | (with_reducible refine W.isLf ?_; refine ⟨_, rfl, ?_⟩)
    | (with_reducible refine W.isBr ?_; first | refine ⟨_, rfl, fun _ => ?_, fun hf => Bool.noConfusion hf⟩ | refine ⟨_, rfl, fun hf => Bool.noConfusion hf, fun _ => ?_⟩)
    | (with_reducible refine W.isBr2 ?_; first | refine ⟨_, rfl, fun _ => ?_, fun hf => Bool.noConfusion hf⟩ | refine ⟨_, rfl, fun hf => Bool.noConfusion hf, fun _ => ?_⟩)
    | (with_reducible refine W.isLfS ?_; refine ⟨_, _, (by assumption), rfl, fun hl => ?_⟩))
    rw [Int.zero_add]
    refine (applies_ok (d := 17) wt hwl (by omega) h1.len).mono fun v h2 q => ?_
    obtain ⟨rfl, rfl⟩ := q
    exact ⟨by simp [F, D.keep], rfl⟩
  · rw [hF, List.length_map, List.length_range]; exact hwl
  rw [hF]
  refine W.es (W.compM F (W.rng (W.o1 (W.var rfl ⟨_, len_str hwl, _, rfl, small_of (by omega) (by omega), fun x hx => ?_, ?_, ?_⟩))))
  · obtain ⟨i, hi⟩ := List.getElem?_of_mem hx
    obtain ⟨rfl, hlt⟩ := rng_get hi
    refine ⟨_, rfl, ?_⟩
    repeat (first
    | with_reducible refine W.cons ?_ | with_reducible refine W.set ?_ | with_reducible refine W.ret ?_ | with_reducible refine W.cst ?_ | (with_reducible refine W.isVar ?_; refine W.var rfl ?_)
    | (with_reducible refine W.isGetR ?_; refine W.getR rfl (by assumption) rfl ?_) | (with_reducible refine W.isLenR ?_; refine W.lenR rfl (by assumption) ?_) | (with_reducible refine W.isSetR ?_; refine W.setR rfl ?_)
    | with_reducible refine W.o2 ?_ | with_reducible refine W.o1 ?_ | with_reducible refine W.call ?_ | with_reducible refine W.es ?_ | with_reducible refine W.es0 ?_ | with_reducible refine W.nx ?_ | with_reducible refine W.rt ?_ | with_reducible refine W.tup ?_ | with_reducible refine W.lst ?_
    | with_reducible refine W.slice ?_ | with_reducible refine W.val ?_ | with_reducible refine W.rng ?_ | with_reducible refine W.enu ?_ | with_reducible refine W.seti ?_ | with_reducible refine W.ts0 ?_ | with_reducible refine W.ts1 ?_ | with_reducible refine W.cond ?_ | with_reducible refine W.and ?_
    | with_reducible refine W.or ?_ | with_reducible refine W.ife ?_ | with_reducible refine W.nil ?_ | with_reducible refine W.par ?_ | with_reducible refine W.app ?_ | with_reducible refine W.ext ?_
    | (with_reducible refine W.isLt ?_; refine ⟨by simp, ?_⟩) | (with_reducible refine W.isMul ?_; refine ⟨_, W.mulK (by decide), ?_⟩) | (with_reducible refine W.isEq ?_; first | refine ⟨_, W.eqI, ?_⟩ | refine ⟨_, W.eqS, ?_⟩) | (with_reducible refine W.isNe ?_; first | refine ⟨_, W.neI, ?_⟩ | refine ⟨_, W.neS, ?_⟩)
    | (with_reducible refine W.isLf ?_; refine ⟨_, rfl, ?_⟩)
    | (with_reducible refine W.isBr ?_; first | refine ⟨_, rfl, fun _ => ?_, fun hf => Bool.noConfusion hf⟩ | refine ⟨_, rfl, fun hf => Bool.noConfusion hf, fun _ => ?_⟩)
    | (with_reducible refine W.isBr2 ?_; first | refine ⟨_, rfl, fun _ => ?_, fun hf => Bool.noConfusion hf⟩ | refine ⟨_, rfl, fun hf => Bool.noConfusion hf, fun _ => ?_⟩)
    | (with_reducible refine W.isLfS ?_; refine ⟨_, _, (by assumption), rfl, fun hl => ?_⟩))
    refine ⟨fun _ => ?_, fun hf => Bool.noConfusion hf⟩
    repeat (first
    | with_reducible refine W.cons ?_ | with_reducible refine W.set ?_ | with_reducible refine W.ret ?_ | with_reducible refine W.cst ?_ | (with_reducible refine W.isVar ?_; refine W.var rfl ?_)
    | (with_reducible refine W.isGetR ?_; refine W.getR rfl (by assumption) rfl ?_) | (with_reducible refine W.isLenR ?_; refine W.lenR rfl (by assumption) ?_) | (with_reducible refine W.isSetR ?_; refine W.setR rfl ?_)
    | with_reducible refine W.o2 ?_ | with_reducible refine W.o1 ?_ | with_reducible refine W.call ?_ | with_reducible refine W.es ?_ | with_reducible refine W.es0 ?_ | with_reducible refine W.nx ?_ | with_reducible refine W.rt ?_ | with_reducible refine W.tup ?_ | with_reducible refine W.lst ?_
    | with_reducible refine W.slice ?_ | with_reducible refine W.val ?_ | with_reducible refine W.rng ?_ | with_reducible refine W.enu ?_ | with_reducible refine W.seti ?_ | with_reducible refine W.ts0 ?_ | with_reducible refine W.ts1 ?_ | with_reducible refine W.cond ?_ | with_reducible refine W.and ?_
    | with_reducible refine W.or ?_ | with_reducible refine W.ife ?_ | with_reducible refine W.nil ?_ | with_reducible refine W.par ?_ | with_reducible refine W.app ?_ | with_reducible refine W.ext ?_
    | (with_reducible refine W.isLt ?_; refine ⟨by simp, ?_⟩) | (with_reducible refine W.isMul ?_; refine ⟨_, W.mulK (by decide), ?_⟩) | (with_reducible refine W.isEq ?_; first | refine ⟨_, W.eqI, ?_⟩ | refine ⟨_, W.eqS, ?_⟩) | (with_reducible refine W.isNe ?_; first | refine ⟨_, W.neI, ?_⟩ | refine ⟨_, W.neS, ?_⟩)
    | (with_reducible refine W.isLf ?_; refine ⟨_, rfl, ?_⟩)
    | (with_reducible refine W.isBr ?_; first | refine ⟨_, rfl, fun _ => ?_, fun hf => Bool.noConfusion hf⟩ | refine ⟨_, rfl, fun hf => Bool.noConfusion hf, fun _ => ?_⟩)
    | (with_reducible refine W.isBr2 ?_; first | refine ⟨_, rfl, fun _ => ?_, fun hf => Bool.noConfusion hf⟩ | refine ⟨_, rfl, fun hf => Bool.noConfusion hf, fun _ => ?_⟩)
    | (with_reducible refine W.isLfS ?_; refine ⟨_, _, (by assumption), rfl, fun hl => ?_⟩))
    rw [Int.zero_add]
    refine (law_applies_ok (d := 17) wlt hwl (by omega) h1.len h1.bf h1.bh).mono fun v h2 q => ?_
    obtain ⟨rfl, rfl⟩ := q
    exact ⟨by simp [F, D.keep], rfl⟩
  · rw [hF, List.length_map, List.length_range]; exact hwl
  rw [hF]
  repeat (first
    | with_reducible refine W.set ?_ | with_reducible refine W.ret ?_ | with_reducible refine W.cst ?_ | (with_reducible refine W.isVar ?_; refine W.var rfl ?_)
    | (with_reducible refine W.isGetR ?_; refine W.getR rfl (by assumption) rfl ?_) | (with_reducible refine W.isLenR ?_; refine W.lenR rfl (by assumption) ?_) | (with_reducible refine W.isSetR ?_; refine W.setR rfl ?_)
    | with_reducible refine W.o2 ?_ | with_reducible refine W.o1 ?_ | with_reducible refine W.call ?_ | with_reducible refine W.es ?_ | with_reducible refine W.es0 ?_ | with_reducible refine W.rt ?_ | with_reducible refine W.tup ?_ | with_reducible refine W.lst ?_
    | with_reducible refine W.slice ?_ | with_reducible refine W.val ?_ | with_reducible refine W.rng ?_ | with_reducible refine W.enu ?_ | with_reducible refine W.seti ?_ | with_reducible refine W.ts0 ?_ | with_reducible refine W.ts1 ?_ | with_reducible refine W.cond ?_ | with_reducible refine W.and ?_
    | with_reducible refine W.or ?_ | with_reducible refine W.ife ?_ | with_reducible refine W.nil ?_ | with_reducible refine W.par ?_ | with_reducible refine W.app ?_ | with_reducible refine W.ext ?_
    | (with_reducible refine W.isLt ?_; refine ⟨by simp, ?_⟩) | (with_reducible refine W.isMul ?_; refine ⟨_, W.mulK (by decide), ?_⟩) | (with_reducible refine W.isEq ?_; first | refine ⟨_, W.eqI, ?_⟩ | refine ⟨_, W.eqS, ?_⟩) | (with_reducible refine W.isNe ?_; first | refine ⟨_, W.neI, ?_⟩ | refine ⟨_, W.neS, ?_⟩)
    | (with_reducible refine W.isLf ?_; refine ⟨_, rfl, ?_⟩)
    | (with_reducible refine W.isBr ?_; first | refine ⟨_, rfl, fun _ => ?_, fun hf => Bool.noConfusion hf⟩ | refine ⟨_, rfl, fun hf => Bool.noConfusion hf, fun _ => ?_⟩)
    | (with_reducible refine W.isBr2 ?_; first | refine ⟨_, rfl, fun _ => ?_, fun hf => Bool.noConfusion hf⟩ | refine ⟨_, rfl, fun hf => Bool.noConfusion hf, fun _ => ?_⟩)
    | (with_reducible refine W.isLfS ?_; refine ⟨_, _, (by assumption), rfl, fun hl => ?_⟩))
  refine (same_ok (d := 17) (n := 1) gt (.fz ((List.range w.length).map fun p => .bl (appliesM one w p))) ?_).mono fun v h2 q => ?_
  · simp only [dat, Bool.and_eq_true, List.all_eq_true, decide_eq_true_eq, List.length_map, List.length_range]
    refine ⟨fun x hx => ?_, by omega⟩
    obtain ⟨p, _, rfl⟩ := List.mem_map.mp hx
    rfl
  obtain ⟨rfl, rfl⟩ := q
  repeat (first
    | with_reducible refine W.cons ?_ | with_reducible refine W.set ?_ | with_reducible refine W.ret ?_ | with_reducible refine W.cst ?_ | (with_reducible refine W.isVar ?_; refine W.var rfl ?_)
    | (with_reducible refine W.isGetR ?_; refine W.getR rfl (by assumption) rfl ?_) | (with_reducible refine W.isLenR ?_; refine W.lenR rfl (by assumption) ?_) | (with_reducible refine W.isSetR ?_; refine W.setR rfl ?_)
    | with_reducible refine W.o2 ?_ | with_reducible refine W.o1 ?_ | with_reducible refine W.call ?_ | with_reducible refine W.es ?_ | with_reducible refine W.es0 ?_ | with_reducible refine W.nx ?_ | with_reducible refine W.rt ?_ | with_reducible refine W.tup ?_ | with_reducible refine W.lst ?_
    | with_reducible refine W.slice ?_ | with_reducible refine W.val ?_ | with_reducible refine W.rng ?_ | with_reducible refine W.enu ?_ | with_reducible refine W.seti ?_ | with_reducible refine W.ts0 ?_ | with_reducible refine W.ts1 ?_ | with_reducible refine W.cond ?_ | with_reducible refine W.and ?_
    | with_reducible refine W.or ?_ | with_reducible refine W.ife ?_ | with_reducible refine W.nil ?_ | with_reducible refine W.par ?_ | with_reducible refine W.app ?_ | with_reducible refine W.ext ?_
    | (with_reducible refine W.isLt ?_; refine ⟨by simp, ?_⟩) | (with_reducible refine W.isMul ?_; refine ⟨_, W.mulK (by decide), ?_⟩) | (with_reducible refine W.isEq ?_; first | refine ⟨_, W.eqI, ?_⟩ | refine ⟨_, W.eqS, ?_⟩) | (with_reducible refine W.isNe ?_; first | refine ⟨_, W.neI, ?_⟩ | refine ⟨_, W.neS, ?_⟩)
    | (with_reducible refine W.isLf ?_; refine ⟨_, rfl, ?_⟩)
    | (with_reducible refine W.isBr ?_; first | refine ⟨_, rfl, fun _ => ?_, fun hf => Bool.noConfusion hf⟩ | refine ⟨_, rfl, fun hf => Bool.noConfusion hf, fun _ => ?_⟩)
    | (with_reducible refine W.isBr2 ?_; first | refine ⟨_, rfl, fun _ => ?_, fun hf => Bool.noConfusion hf⟩ | refine ⟨_, rfl, fun hf => Bool.noConfusion hf, fun _ => ?_⟩)
    | (with_reducible refine W.isLfS ?_; refine ⟨_, _, (by assumption), rfl, fun hl => ?_⟩))
  refine (changed_ok (d := 16) wt (by omega) h1.toRF).mono fun v h2 q => ?_
  obtain ⟨rfl, rfl⟩ := q
  repeat (first
    | with_reducible refine W.cons ?_ | with_reducible refine W.set ?_ | with_reducible refine W.ret ?_ | with_reducible refine W.cst ?_ | (with_reducible refine W.isVar ?_; refine W.var rfl ?_)
    | (with_reducible refine W.isGetR ?_; refine W.getR rfl (by assumption) rfl ?_) | (with_reducible refine W.isLenR ?_; refine W.lenR rfl (by assumption) ?_) | (with_reducible refine W.isSetR ?_; refine W.setR rfl ?_)
    | with_reducible refine W.o2 ?_ | with_reducible refine W.o1 ?_ | with_reducible refine W.call ?_ | with_reducible refine W.es ?_ | with_reducible refine W.es0 ?_ | with_reducible refine W.nx ?_ | with_reducible refine W.rt ?_ | with_reducible refine W.tup ?_ | with_reducible refine W.lst ?_
    | with_reducible refine W.slice ?_ | with_reducible refine W.val ?_ | with_reducible refine W.rng ?_ | with_reducible refine W.enu ?_ | with_reducible refine W.seti ?_ | with_reducible refine W.ts0 ?_ | with_reducible refine W.ts1 ?_ | with_reducible refine W.cond ?_ | with_reducible refine W.and ?_
    | with_reducible refine W.or ?_ | with_reducible refine W.ife ?_ | with_reducible refine W.nil ?_ | with_reducible refine W.par ?_ | with_reducible refine W.app ?_ | with_reducible refine W.ext ?_
    | (with_reducible refine W.isLt ?_; refine ⟨by simp, ?_⟩) | (with_reducible refine W.isMul ?_; refine ⟨_, W.mulK (by decide), ?_⟩) | (with_reducible refine W.isEq ?_; first | refine ⟨_, W.eqI, ?_⟩ | refine ⟨_, W.eqS, ?_⟩) | (with_reducible refine W.isNe ?_; first | refine ⟨_, W.neI, ?_⟩ | refine ⟨_, W.neS, ?_⟩)
    | (with_reducible refine W.isLf ?_; refine ⟨_, rfl, ?_⟩)
    | (with_reducible refine W.isBr ?_; first | refine ⟨_, rfl, fun _ => ?_, fun hf => Bool.noConfusion hf⟩ | refine ⟨_, rfl, fun hf => Bool.noConfusion hf, fun _ => ?_⟩)
    | (with_reducible refine W.isBr2 ?_; first | refine ⟨_, rfl, fun _ => ?_, fun hf => Bool.noConfusion hf⟩ | refine ⟨_, rfl, fun hf => Bool.noConfusion hf, fun _ => ?_⟩)
    | (with_reducible refine W.isLfS ?_; refine ⟨_, _, (by assumption), rfl, fun hl => ?_⟩))
  refine (led_ok (d := 15) wt hbig hrf).mono fun v h2 q => ?_
  obtain ⟨rfl, rfl⟩ := q
  repeat (first
    | with_reducible refine W.cons ?_ | with_reducible refine W.set ?_ | with_reducible refine W.ret ?_ | with_reducible refine W.cst ?_ | (with_reducible refine W.isVar ?_; refine W.var rfl ?_)
    | (with_reducible refine W.isGetR ?_; refine W.getR rfl (by assumption) rfl ?_) | (with_reducible refine W.isLenR ?_; refine W.lenR rfl (by assumption) ?_) | (with_reducible refine W.isSetR ?_; refine W.setR rfl ?_)
    | with_reducible refine W.o2 ?_ | with_reducible refine W.o1 ?_ | with_reducible refine W.call ?_ | with_reducible refine W.es ?_ | with_reducible refine W.es0 ?_ | with_reducible refine W.nx ?_ | with_reducible refine W.rt ?_ | with_reducible refine W.tup ?_ | with_reducible refine W.lst ?_
    | with_reducible refine W.slice ?_ | with_reducible refine W.val ?_ | with_reducible refine W.rng ?_ | with_reducible refine W.enu ?_ | with_reducible refine W.seti ?_ | with_reducible refine W.ts0 ?_ | with_reducible refine W.ts1 ?_ | with_reducible refine W.cond ?_ | with_reducible refine W.and ?_
    | with_reducible refine W.or ?_ | with_reducible refine W.ife ?_ | with_reducible refine W.nil ?_ | with_reducible refine W.par ?_ | with_reducible refine W.app ?_ | with_reducible refine W.ext ?_
    | (with_reducible refine W.isLt ?_; refine ⟨by simp, ?_⟩) | (with_reducible refine W.isMul ?_; refine ⟨_, W.mulK (by decide), ?_⟩) | (with_reducible refine W.isEq ?_; first | refine ⟨_, W.eqI, ?_⟩ | refine ⟨_, W.eqS, ?_⟩) | (with_reducible refine W.isNe ?_; first | refine ⟨_, W.neI, ?_⟩ | refine ⟨_, W.neS, ?_⟩)
    | (with_reducible refine W.isLf ?_; refine ⟨_, rfl, ?_⟩)
    | (with_reducible refine W.isBr ?_; first | refine ⟨_, rfl, fun _ => ?_, fun hf => Bool.noConfusion hf⟩ | refine ⟨_, rfl, fun hf => Bool.noConfusion hf, fun _ => ?_⟩)
    | (with_reducible refine W.isBr2 ?_; first | refine ⟨_, rfl, fun _ => ?_, fun hf => Bool.noConfusion hf⟩ | refine ⟨_, rfl, fun hf => Bool.noConfusion hf, fun _ => ?_⟩)
    | (with_reducible refine W.isLfS ?_; refine ⟨_, _, (by assumption), rfl, fun hl => ?_⟩))
  refine (law_changed_ok (d := 16) wlt (by omega) h1).mono fun v h2 q => ?_
  obtain ⟨rfl, rfl⟩ := q
  repeat (first
    | with_reducible refine W.cons ?_ | with_reducible refine W.set ?_ | with_reducible refine W.ret ?_ | with_reducible refine W.cst ?_ | (with_reducible refine W.isVar ?_; refine W.var rfl ?_)
    | (with_reducible refine W.isGetR ?_; refine W.getR rfl (by assumption) rfl ?_) | (with_reducible refine W.isLenR ?_; refine W.lenR rfl (by assumption) ?_) | (with_reducible refine W.isSetR ?_; refine W.setR rfl ?_)
    | with_reducible refine W.o2 ?_ | with_reducible refine W.o1 ?_ | with_reducible refine W.call ?_ | with_reducible refine W.es ?_ | with_reducible refine W.es0 ?_ | with_reducible refine W.nx ?_ | with_reducible refine W.rt ?_ | with_reducible refine W.tup ?_ | with_reducible refine W.lst ?_
    | with_reducible refine W.slice ?_ | with_reducible refine W.val ?_ | with_reducible refine W.rng ?_ | with_reducible refine W.enu ?_ | with_reducible refine W.seti ?_ | with_reducible refine W.ts0 ?_ | with_reducible refine W.ts1 ?_ | with_reducible refine W.cond ?_ | with_reducible refine W.and ?_
    | with_reducible refine W.or ?_ | with_reducible refine W.ife ?_ | with_reducible refine W.nil ?_ | with_reducible refine W.par ?_ | with_reducible refine W.app ?_ | with_reducible refine W.ext ?_
    | (with_reducible refine W.isLt ?_; refine ⟨by simp, ?_⟩) | (with_reducible refine W.isMul ?_; refine ⟨_, W.mulK (by decide), ?_⟩) | (with_reducible refine W.isEq ?_; first | refine ⟨_, W.eqI, ?_⟩ | refine ⟨_, W.eqS, ?_⟩) | (with_reducible refine W.isNe ?_; first | refine ⟨_, W.neI, ?_⟩ | refine ⟨_, W.neS, ?_⟩)
    | (with_reducible refine W.isLf ?_; refine ⟨_, rfl, ?_⟩)
    | (with_reducible refine W.isBr ?_; first | refine ⟨_, rfl, fun _ => ?_, fun hf => Bool.noConfusion hf⟩ | refine ⟨_, rfl, fun hf => Bool.noConfusion hf, fun _ => ?_⟩)
    | (with_reducible refine W.isBr2 ?_; first | refine ⟨_, rfl, fun _ => ?_, fun hf => Bool.noConfusion hf⟩ | refine ⟨_, rfl, fun hf => Bool.noConfusion hf, fun _ => ?_⟩)
    | (with_reducible refine W.isLfS ?_; refine ⟨_, _, (by assumption), rfl, fun hl => ?_⟩))
  refine (law_led_ok (d := 15) wlt hbig hrs).mono fun v h2 q => ?_
  obtain ⟨rfl, rfl⟩ := q
  repeat (first
    | with_reducible refine W.cons ?_ | with_reducible refine W.set ?_ | with_reducible refine W.ret ?_ | with_reducible refine W.cst ?_ | (with_reducible refine W.isVar ?_; refine W.var rfl ?_)
    | (with_reducible refine W.isGetR ?_; refine W.getR rfl (by assumption) rfl ?_) | (with_reducible refine W.isLenR ?_; refine W.lenR rfl (by assumption) ?_) | (with_reducible refine W.isSetR ?_; refine W.setR rfl ?_)
    | with_reducible refine W.o2 ?_ | with_reducible refine W.o1 ?_ | with_reducible refine W.call ?_ | with_reducible refine W.es ?_ | with_reducible refine W.es0 ?_ | with_reducible refine W.nx ?_ | with_reducible refine W.rt ?_ | with_reducible refine W.tup ?_ | with_reducible refine W.lst ?_
    | with_reducible refine W.slice ?_ | with_reducible refine W.val ?_ | with_reducible refine W.rng ?_ | with_reducible refine W.enu ?_ | with_reducible refine W.seti ?_ | with_reducible refine W.ts0 ?_ | with_reducible refine W.ts1 ?_ | with_reducible refine W.cond ?_ | with_reducible refine W.and ?_
    | with_reducible refine W.or ?_ | with_reducible refine W.ife ?_ | with_reducible refine W.nil ?_ | with_reducible refine W.par ?_ | with_reducible refine W.app ?_ | with_reducible refine W.ext ?_
    | (with_reducible refine W.isLt ?_; refine ⟨by simp, ?_⟩) | (with_reducible refine W.isMul ?_; refine ⟨_, W.mulK (by decide), ?_⟩) | (with_reducible refine W.isEq ?_; first | refine ⟨_, W.eqI, ?_⟩ | refine ⟨_, W.eqS, ?_⟩) | (with_reducible refine W.isNe ?_; first | refine ⟨_, W.neI, ?_⟩ | refine ⟨_, W.neS, ?_⟩)
    | (with_reducible refine W.isLf ?_; refine ⟨_, rfl, ?_⟩)
    | (with_reducible refine W.isBr ?_; first | refine ⟨_, rfl, fun _ => ?_, fun hf => Bool.noConfusion hf⟩ | refine ⟨_, rfl, fun hf => Bool.noConfusion hf, fun _ => ?_⟩)
    | (with_reducible refine W.isBr2 ?_; first | refine ⟨_, rfl, fun _ => ?_, fun hf => Bool.noConfusion hf⟩ | refine ⟨_, rfl, fun hf => Bool.noConfusion hf, fun _ => ?_⟩)
    | (with_reducible refine W.isLfS ?_; refine ⟨_, _, (by assumption), rfl, fun hl => ?_⟩))
  refine (same_ok (d := 17) (n := 1) gt (.fz [.str (changedM one w), .str (ledM rs w)]) rfl).mono fun v h2 q => ?_
  obtain ⟨rfl, rfl⟩ := q
  repeat (first
    | with_reducible refine W.cons ?_ | with_reducible refine W.set ?_ | with_reducible refine W.ret ?_ | with_reducible refine W.cst ?_ | (with_reducible refine W.isVar ?_; refine W.var rfl ?_)
    | (with_reducible refine W.isGetR ?_; refine W.getR rfl (by assumption) rfl ?_) | (with_reducible refine W.isLenR ?_; refine W.lenR rfl (by assumption) ?_) | (with_reducible refine W.isSetR ?_; refine W.setR rfl ?_)
    | with_reducible refine W.o2 ?_ | with_reducible refine W.o1 ?_ | with_reducible refine W.call ?_ | with_reducible refine W.es ?_ | with_reducible refine W.es0 ?_ | with_reducible refine W.nx ?_ | with_reducible refine W.rt ?_ | with_reducible refine W.tup ?_ | with_reducible refine W.lst ?_
    | with_reducible refine W.slice ?_ | with_reducible refine W.val ?_ | with_reducible refine W.rng ?_ | with_reducible refine W.enu ?_ | with_reducible refine W.seti ?_ | with_reducible refine W.ts0 ?_ | with_reducible refine W.ts1 ?_ | with_reducible refine W.cond ?_ | with_reducible refine W.and ?_
    | with_reducible refine W.or ?_ | with_reducible refine W.ife ?_ | with_reducible refine W.nil ?_ | with_reducible refine W.par ?_ | with_reducible refine W.app ?_ | with_reducible refine W.ext ?_
    | (with_reducible refine W.isLt ?_; refine ⟨by simp, ?_⟩) | (with_reducible refine W.isMul ?_; refine ⟨_, W.mulK (by decide), ?_⟩) | (with_reducible refine W.isEq ?_; first | refine ⟨_, W.eqI, ?_⟩ | refine ⟨_, W.eqS, ?_⟩) | (with_reducible refine W.isNe ?_; first | refine ⟨_, W.neI, ?_⟩ | refine ⟨_, W.neS, ?_⟩)
    | (with_reducible refine W.isLf ?_; refine ⟨_, rfl, ?_⟩)
    | (with_reducible refine W.isBr ?_; first | refine ⟨_, rfl, fun _ => ?_, fun hf => Bool.noConfusion hf⟩ | refine ⟨_, rfl, fun hf => Bool.noConfusion hf, fun _ => ?_⟩)
    | (with_reducible refine W.isBr2 ?_; first | refine ⟨_, rfl, fun _ => ?_, fun hf => Bool.noConfusion hf⟩ | refine ⟨_, rfl, fun hf => Bool.noConfusion hf, fun _ => ?_⟩)
    | (with_reducible refine W.isLfS ?_; refine ⟨_, _, (by assumption), rfl, fun hl => ?_⟩))
  refine W.alcL ?_
  repeat (first
    | with_reducible refine W.cons ?_ | with_reducible refine W.set ?_ | with_reducible refine W.ret ?_ | with_reducible refine W.cst ?_ | (with_reducible refine W.isVar ?_; refine W.var rfl ?_)
    | (with_reducible refine W.isGetR ?_; refine W.getR rfl (by assumption) rfl ?_) | (with_reducible refine W.isLenR ?_; refine W.lenR rfl (by assumption) ?_) | (with_reducible refine W.isSetR ?_; refine W.setR rfl ?_)
    | with_reducible refine W.o2 ?_ | with_reducible refine W.o1 ?_ | with_reducible refine W.call ?_ | with_reducible refine W.es ?_ | with_reducible refine W.es0 ?_ | with_reducible refine W.nx ?_ | with_reducible refine W.rt ?_ | with_reducible refine W.tup ?_ | with_reducible refine W.lst ?_
    | with_reducible refine W.slice ?_ | with_reducible refine W.val ?_ | with_reducible refine W.rng ?_ | with_reducible refine W.enu ?_ | with_reducible refine W.seti ?_ | with_reducible refine W.ts0 ?_ | with_reducible refine W.ts1 ?_ | with_reducible refine W.cond ?_ | with_reducible refine W.and ?_
    | with_reducible refine W.or ?_ | with_reducible refine W.ife ?_ | with_reducible refine W.nil ?_ | with_reducible refine W.par ?_ | with_reducible refine W.app ?_ | with_reducible refine W.ext ?_
    | (with_reducible refine W.isLt ?_; refine ⟨by simp, ?_⟩) | (with_reducible refine W.isMul ?_; refine ⟨_, W.mulK (by decide), ?_⟩) | (with_reducible refine W.isEq ?_; first | refine ⟨_, W.eqI, ?_⟩ | refine ⟨_, W.eqS, ?_⟩) | (with_reducible refine W.isNe ?_; first | refine ⟨_, W.neI, ?_⟩ | refine ⟨_, W.neS, ?_⟩)
    | (with_reducible refine W.isLf ?_; refine ⟨_, rfl, ?_⟩)
    | (with_reducible refine W.isBr ?_; first | refine ⟨_, rfl, fun _ => ?_, fun hf => Bool.noConfusion hf⟩ | refine ⟨_, rfl, fun hf => Bool.noConfusion hf, fun _ => ?_⟩)
    | (with_reducible refine W.isBr2 ?_; first | refine ⟨_, rfl, fun _ => ?_, fun hf => Bool.noConfusion hf⟩ | refine ⟨_, rfl, fun hf => Bool.noConfusion hf, fun _ => ?_⟩)
    | (with_reducible refine W.isLfS ?_; refine ⟨_, _, (by assumption), rfl, fun hl => ?_⟩))
  refine ⟨_, rfl, ?_⟩
  repeat (first
    | with_reducible refine W.cons ?_ | with_reducible refine W.set ?_ | with_reducible refine W.ret ?_ | with_reducible refine W.cst ?_ | (with_reducible refine W.isVar ?_; refine W.var rfl ?_)
    | (with_reducible refine W.isGetR ?_; refine W.getR rfl (by assumption) rfl ?_) | (with_reducible refine W.isLenR ?_; refine W.lenR rfl (by assumption) ?_) | (with_reducible refine W.isSetR ?_; refine W.setR rfl ?_)
    | with_reducible refine W.o2 ?_ | with_reducible refine W.o1 ?_ | with_reducible refine W.call ?_ | with_reducible refine W.es ?_ | with_reducible refine W.es0 ?_ | with_reducible refine W.nx ?_ | with_reducible refine W.rt ?_ | with_reducible refine W.tup ?_ | with_reducible refine W.lst ?_
    | with_reducible refine W.slice ?_ | with_reducible refine W.val ?_ | with_reducible refine W.rng ?_ | with_reducible refine W.enu ?_ | with_reducible refine W.seti ?_ | with_reducible refine W.ts0 ?_ | with_reducible refine W.ts1 ?_ | with_reducible refine W.cond ?_ | with_reducible refine W.and ?_
    | with_reducible refine W.or ?_ | with_reducible refine W.ife ?_ | with_reducible refine W.nil ?_ | with_reducible refine W.par ?_ | with_reducible refine W.app ?_ | with_reducible refine W.ext ?_
    | (with_reducible refine W.isLt ?_; refine ⟨by simp, ?_⟩) | (with_reducible refine W.isMul ?_; refine ⟨_, W.mulK (by decide), ?_⟩) | (with_reducible refine W.isEq ?_; first | refine ⟨_, W.eqI, ?_⟩ | refine ⟨_, W.eqS, ?_⟩) | (with_reducible refine W.isNe ?_; first | refine ⟨_, W.neI, ?_⟩ | refine ⟨_, W.neS, ?_⟩)
    | (with_reducible refine W.isLf ?_; refine ⟨_, rfl, ?_⟩)
    | (with_reducible refine W.isBr ?_; first | refine ⟨_, rfl, fun _ => ?_, fun hf => Bool.noConfusion hf⟩ | refine ⟨_, rfl, fun hf => Bool.noConfusion hf, fun _ => ?_⟩)
    | (with_reducible refine W.isBr2 ?_; first | refine ⟨_, rfl, fun _ => ?_, fun hf => Bool.noConfusion hf⟩ | refine ⟨_, rfl, fun hf => Bool.noConfusion hf, fun _ => ?_⟩)
    | (with_reducible refine W.isLfS ?_; refine ⟨_, _, (by assumption), rfl, fun hl => ?_⟩))
  refine ⟨⟨by simp, by simp, by decide⟩, ?_⟩
  repeat (first
    | with_reducible refine W.cons ?_ | with_reducible refine W.set ?_ | with_reducible refine W.ret ?_ | with_reducible refine W.cst ?_ | (with_reducible refine W.isVar ?_; refine W.var rfl ?_)
    | (with_reducible refine W.isGetR ?_; refine W.getR rfl (by assumption) rfl ?_) | (with_reducible refine W.isLenR ?_; refine W.lenR rfl (by assumption) ?_) | (with_reducible refine W.isSetR ?_; refine W.setR rfl ?_)
    | with_reducible refine W.o2 ?_ | with_reducible refine W.o1 ?_ | with_reducible refine W.call ?_ | with_reducible refine W.es ?_ | with_reducible refine W.es0 ?_ | with_reducible refine W.nx ?_ | with_reducible refine W.rt ?_ | with_reducible refine W.tup ?_ | with_reducible refine W.lst ?_
    | with_reducible refine W.slice ?_ | with_reducible refine W.val ?_ | with_reducible refine W.rng ?_ | with_reducible refine W.enu ?_ | with_reducible refine W.seti ?_ | with_reducible refine W.ts0 ?_ | with_reducible refine W.ts1 ?_ | with_reducible refine W.cond ?_ | with_reducible refine W.and ?_
    | with_reducible refine W.or ?_ | with_reducible refine W.ife ?_ | with_reducible refine W.nil ?_ | with_reducible refine W.par ?_ | with_reducible refine W.app ?_ | with_reducible refine W.ext ?_
    | (with_reducible refine W.isLt ?_; refine ⟨by simp, ?_⟩) | (with_reducible refine W.isMul ?_; refine ⟨_, W.mulK (by decide), ?_⟩) | (with_reducible refine W.isEq ?_; first | refine ⟨_, W.eqI, ?_⟩ | refine ⟨_, W.eqS, ?_⟩) | (with_reducible refine W.isNe ?_; first | refine ⟨_, W.neI, ?_⟩ | refine ⟨_, W.neS, ?_⟩)
    | (with_reducible refine W.isLf ?_; refine ⟨_, rfl, ?_⟩)
    | (with_reducible refine W.isBr ?_; first | refine ⟨_, rfl, fun _ => ?_, fun hf => Bool.noConfusion hf⟩ | refine ⟨_, rfl, fun hf => Bool.noConfusion hf, fun _ => ?_⟩)
    | (with_reducible refine W.isBr2 ?_; first | refine ⟨_, rfl, fun _ => ?_, fun hf => Bool.noConfusion hf⟩ | refine ⟨_, rfl, fun hf => Bool.noConfusion hf, fun _ => ?_⟩)
    | (with_reducible refine W.isLfS ?_; refine ⟨_, _, (by assumption), rfl, fun hl => ?_⟩))
  refine W.forr (W.val ?_)
  repeat (first
    | with_reducible refine W.cons ?_ | with_reducible refine W.set ?_ | with_reducible refine W.ret ?_ | with_reducible refine W.cst ?_ | (with_reducible refine W.isVar ?_; refine W.var rfl ?_)
    | (with_reducible refine W.isGetR ?_; refine W.getR rfl (by assumption) rfl ?_) | (with_reducible refine W.isLenR ?_; refine W.lenR rfl (by assumption) ?_) | (with_reducible refine W.isSetR ?_; refine W.setR rfl ?_)
    | with_reducible refine W.o2 ?_ | with_reducible refine W.o1 ?_ | with_reducible refine W.call ?_ | with_reducible refine W.es ?_ | with_reducible refine W.es0 ?_ | with_reducible refine W.nx ?_ | with_reducible refine W.rt ?_ | with_reducible refine W.tup ?_ | with_reducible refine W.lst ?_
    | with_reducible refine W.slice ?_ | with_reducible refine W.val ?_ | with_reducible refine W.rng ?_ | with_reducible refine W.enu ?_ | with_reducible refine W.seti ?_ | with_reducible refine W.ts0 ?_ | with_reducible refine W.ts1 ?_ | with_reducible refine W.cond ?_ | with_reducible refine W.and ?_
    | with_reducible refine W.or ?_ | with_reducible refine W.ife ?_ | with_reducible refine W.nil ?_ | with_reducible refine W.par ?_ | with_reducible refine W.app ?_ | with_reducible refine W.ext ?_
    | (with_reducible refine W.isLt ?_; refine ⟨by simp, ?_⟩) | (with_reducible refine W.isMul ?_; refine ⟨_, W.mulK (by decide), ?_⟩) | (with_reducible refine W.isEq ?_; first | refine ⟨_, W.eqI, ?_⟩ | refine ⟨_, W.eqS, ?_⟩) | (with_reducible refine W.isNe ?_; first | refine ⟨_, W.neI, ?_⟩ | refine ⟨_, W.neS, ?_⟩)
    | (with_reducible refine W.isLf ?_; refine ⟨_, rfl, ?_⟩)
    | (with_reducible refine W.isBr ?_; first | refine ⟨_, rfl, fun _ => ?_, fun hf => Bool.noConfusion hf⟩ | refine ⟨_, rfl, fun hf => Bool.noConfusion hf, fun _ => ?_⟩)
    | (with_reducible refine W.isBr2 ?_; first | refine ⟨_, rfl, fun _ => ?_, fun hf => Bool.noConfusion hf⟩ | refine ⟨_, rfl, fun hf => Bool.noConfusion hf, fun _ => ?_⟩)
    | (with_reducible refine W.isLfS ?_; refine ⟨_, _, (by assumption), rfl, fun hl => ?_⟩))
  refine ⟨_, rfl, fun i σ h' => ∃ o9, σ = [some v0, o1, some (.str s), some (.tup (rs.map ruleD)), some (ruleD one), o5, some (.str w), some (.ref h2.length), some (.str (ledM (rs.take i) w)), o9, o10] ∧ h' = h2 ++ [.lst (((List.range (i + 1)).map fun i => ledM (rs.take i) w).map D.str)] ∧ i ≤ rs.length, ⟨_, rfl, rfl, Nat.zero_le _⟩, fun _ _ _ _ => wat_nil _ _, ?_, ?_⟩
  · rintro i x σ h' hx ⟨o9, rfl, rfl, hi⟩
    rw [List.getElem?_map] at hx
    obtain ⟨r, hr2, rfl⟩ := Option.map_eq_some_iff.mp hx
    obtain ⟨hlt, er⟩ := List.getElem?_eq_some_iff.mp hr2
    have rf := hrs r (List.mem_of_getElem? hr2)
    have hlen := led_take_len hrf w i
    refine ⟨_, rfl, ?_⟩
    repeat (first
    | with_reducible refine W.cons ?_ | with_reducible refine W.set ?_ | with_reducible refine W.ret ?_ | with_reducible refine W.cst ?_ | (with_reducible refine W.isVar ?_; refine W.var rfl ?_)
    | (with_reducible refine W.isGetR ?_; refine W.getR rfl (by assumption) rfl ?_) | (with_reducible refine W.isLenR ?_; refine W.lenR rfl (by assumption) ?_) | (with_reducible refine W.isSetR ?_; refine W.setR rfl ?_)
    | with_reducible refine W.o2 ?_ | with_reducible refine W.o1 ?_ | with_reducible refine W.call ?_ | with_reducible refine W.es ?_ | with_reducible refine W.es0 ?_ | with_reducible refine W.nx ?_ | with_reducible refine W.rt ?_ | with_reducible refine W.tup ?_ | with_reducible refine W.lst ?_
    | with_reducible refine W.slice ?_ | with_reducible refine W.val ?_ | with_reducible refine W.rng ?_ | with_reducible refine W.enu ?_ | with_reducible refine W.seti ?_ | with_reducible refine W.ts0 ?_ | with_reducible refine W.ts1 ?_ | with_reducible refine W.cond ?_ | with_reducible refine W.and ?_
    | with_reducible refine W.or ?_ | with_reducible refine W.ife ?_ | with_reducible refine W.nil ?_ | with_reducible refine W.par ?_ | with_reducible refine W.app ?_ | with_reducible refine W.ext ?_
    | (with_reducible refine W.isLt ?_; refine ⟨by simp, ?_⟩) | (with_reducible refine W.isMul ?_; refine ⟨_, W.mulK (by decide), ?_⟩) | (with_reducible refine W.isEq ?_; first | refine ⟨_, W.eqI, ?_⟩ | refine ⟨_, W.eqS, ?_⟩) | (with_reducible refine W.isNe ?_; first | refine ⟨_, W.neI, ?_⟩ | refine ⟨_, W.neS, ?_⟩)
    | (with_reducible refine W.isLf ?_; refine ⟨_, rfl, ?_⟩)
    | (with_reducible refine W.isBr ?_; first | refine ⟨_, rfl, fun _ => ?_, fun hf => Bool.noConfusion hf⟩ | refine ⟨_, rfl, fun hf => Bool.noConfusion hf, fun _ => ?_⟩)
    | (with_reducible refine W.isBr2 ?_; first | refine ⟨_, rfl, fun _ => ?_, fun hf => Bool.noConfusion hf⟩ | refine ⟨_, rfl, fun hf => Bool.noConfusion hf, fun _ => ?_⟩)
    | (with_reducible refine W.isLfS ?_; refine ⟨_, _, (by assumption), rfl, fun hl => ?_⟩))
    refine (law_changed_ok (d := 16) wlt (by omega) rf).mono fun v h3 q => ?_
    obtain ⟨rfl, rfl⟩ := q
    refine ⟨by simp, W.nx (W.cons (W.app (W.var rfl ⟨_, _, rfl, last_get, W.var rfl ⟨_, last_get, by simp only [List.length_map, List.length_range]; unfold line; omega, W.nx (W.nil ⟨some (ruleD r), ?_, ?_, hlt⟩)⟩⟩)))⟩
    · rw [led_take w hr2]
      rfl
    · rw [last_set]
      congr 2
      rw [List.range_succ (n := i + 1), List.map_append, List.map_append]
      simp only [List.map_cons, List.map_nil, led_take w hr2]
      rfl
  · rintro σ h' ⟨o9, rfl, rfl, hi⟩
    rw [List.length_map, ← stagesM_take]
    repeat (first
    | with_reducible refine W.cons ?_ | with_reducible refine W.set ?_ | with_reducible refine W.ret ?_ | with_reducible refine W.cst ?_ | (with_reducible refine W.isVar ?_; refine W.var rfl ?_)
    | (with_reducible refine W.isGetR ?_; refine W.getR rfl (by assumption) rfl ?_) | (with_reducible refine W.isLenR ?_; refine W.lenR rfl (by assumption) ?_) | (with_reducible refine W.isSetR ?_; refine W.setR rfl ?_)
    | with_reducible refine W.o2 ?_ | with_reducible refine W.o1 ?_ | with_reducible refine W.call ?_ | with_reducible refine W.es ?_ | with_reducible refine W.es0 ?_ | with_reducible refine W.nx ?_ | with_reducible refine W.rt ?_ | with_reducible refine W.tup ?_ | with_reducible refine W.lst ?_
    | with_reducible refine W.slice ?_ | with_reducible refine W.val ?_ | with_reducible refine W.rng ?_ | with_reducible refine W.enu ?_ | with_reducible refine W.seti ?_ | with_reducible refine W.ts0 ?_ | with_reducible refine W.ts1 ?_ | with_reducible refine W.cond ?_ | with_reducible refine W.and ?_
    | with_reducible refine W.or ?_ | with_reducible refine W.ife ?_ | with_reducible refine W.nil ?_ | with_reducible refine W.par ?_ | with_reducible refine W.app ?_ | with_reducible refine W.ext ?_
    | (with_reducible refine W.isLt ?_; refine ⟨by simp, ?_⟩) | (with_reducible refine W.isMul ?_; refine ⟨_, W.mulK (by decide), ?_⟩) | (with_reducible refine W.isEq ?_; first | refine ⟨_, W.eqI, ?_⟩ | refine ⟨_, W.eqS, ?_⟩) | (with_reducible refine W.isNe ?_; first | refine ⟨_, W.neI, ?_⟩ | refine ⟨_, W.neS, ?_⟩)
    | (with_reducible refine W.isLf ?_; refine ⟨_, rfl, ?_⟩)
    | (with_reducible refine W.isBr ?_; first | refine ⟨_, rfl, fun _ => ?_, fun hf => Bool.noConfusion hf⟩ | refine ⟨_, rfl, fun hf => Bool.noConfusion hf, fun _ => ?_⟩)
    | (with_reducible refine W.isBr2 ?_; first | refine ⟨_, rfl, fun _ => ?_, fun hf => Bool.noConfusion hf⟩ | refine ⟨_, rfl, fun hf => Bool.noConfusion hf, fun _ => ?_⟩)
    | (with_reducible refine W.isLfS ?_; refine ⟨_, _, (by assumption), rfl, fun hl => ?_⟩))
    refine (stages_ok (d := 15) wt rfl hbig hrf (by omega)).mono fun v h3 q => ?_
    obtain ⟨rfl, rfl⟩ := q
    repeat (first
    | with_reducible refine W.cons ?_ | with_reducible refine W.set ?_ | with_reducible refine W.ret ?_ | with_reducible refine W.cst ?_ | (with_reducible refine W.isVar ?_; refine W.var rfl ?_)
    | (with_reducible refine W.isGetR ?_; refine W.getR rfl (by assumption) rfl ?_) | (with_reducible refine W.isLenR ?_; refine W.lenR rfl (by assumption) ?_) | (with_reducible refine W.isSetR ?_; refine W.setR rfl ?_)
    | with_reducible refine W.o2 ?_ | with_reducible refine W.o1 ?_ | with_reducible refine W.call ?_ | with_reducible refine W.es ?_ | with_reducible refine W.es0 ?_ | with_reducible refine W.nx ?_ | with_reducible refine W.rt ?_ | with_reducible refine W.tup ?_ | with_reducible refine W.lst ?_
    | with_reducible refine W.slice ?_ | with_reducible refine W.val ?_ | with_reducible refine W.rng ?_ | with_reducible refine W.enu ?_ | with_reducible refine W.seti ?_ | with_reducible refine W.ts0 ?_ | with_reducible refine W.ts1 ?_ | with_reducible refine W.cond ?_ | with_reducible refine W.and ?_
    | with_reducible refine W.or ?_ | with_reducible refine W.ife ?_ | with_reducible refine W.nil ?_ | with_reducible refine W.par ?_ | with_reducible refine W.app ?_ | with_reducible refine W.ext ?_
    | (with_reducible refine W.isLt ?_; refine ⟨by simp, ?_⟩) | (with_reducible refine W.isMul ?_; refine ⟨_, W.mulK (by decide), ?_⟩) | (with_reducible refine W.isEq ?_; first | refine ⟨_, W.eqI, ?_⟩ | refine ⟨_, W.eqS, ?_⟩) | (with_reducible refine W.isNe ?_; first | refine ⟨_, W.neI, ?_⟩ | refine ⟨_, W.neS, ?_⟩)
    | (with_reducible refine W.isLf ?_; refine ⟨_, rfl, ?_⟩)
    | (with_reducible refine W.isBr ?_; first | refine ⟨_, rfl, fun _ => ?_, fun hf => Bool.noConfusion hf⟩ | refine ⟨_, rfl, fun hf => Bool.noConfusion hf, fun _ => ?_⟩)
    | (with_reducible refine W.isBr2 ?_; first | refine ⟨_, rfl, fun _ => ?_, fun hf => Bool.noConfusion hf⟩ | refine ⟨_, rfl, fun hf => Bool.noConfusion hf, fun _ => ?_⟩)
    | (with_reducible refine W.isLfS ?_; refine ⟨_, _, (by assumption), rfl, fun hl => ?_⟩))
    refine (same_ref (d := 17) (n := 0) gt (dat_strs 0 _) ?_ last_get).mono fun v h3 q => ?_
    · rw [List.length_map, stagesM_take, List.length_map, List.length_range]; omega
    obtain ⟨rfl, rfl⟩ := q
    repeat (first
    | with_reducible refine W.cons ?_ | with_reducible refine W.set ?_ | with_reducible refine W.ret ?_ | with_reducible refine W.cst ?_ | (with_reducible refine W.isVar ?_; refine W.var rfl ?_)
    | (with_reducible refine W.isGetR ?_; refine W.getR rfl (by assumption) rfl ?_) | (with_reducible refine W.isLenR ?_; refine W.lenR rfl (by assumption) ?_) | (with_reducible refine W.isSetR ?_; refine W.setR rfl ?_)
    | with_reducible refine W.o2 ?_ | with_reducible refine W.o1 ?_ | with_reducible refine W.call ?_ | with_reducible refine W.es ?_ | with_reducible refine W.es0 ?_ | with_reducible refine W.nx ?_ | with_reducible refine W.rt ?_ | with_reducible refine W.tup ?_ | with_reducible refine W.lst ?_
    | with_reducible refine W.slice ?_ | with_reducible refine W.val ?_ | with_reducible refine W.rng ?_ | with_reducible refine W.enu ?_ | with_reducible refine W.seti ?_ | with_reducible refine W.ts0 ?_ | with_reducible refine W.ts1 ?_ | with_reducible refine W.cond ?_ | with_reducible refine W.and ?_
    | with_reducible refine W.or ?_ | with_reducible refine W.ife ?_ | with_reducible refine W.nil ?_ | with_reducible refine W.par ?_ | with_reducible refine W.app ?_ | with_reducible refine W.ext ?_
    | (with_reducible refine W.isLt ?_; refine ⟨by simp, ?_⟩) | (with_reducible refine W.isMul ?_; refine ⟨_, W.mulK (by decide), ?_⟩) | (with_reducible refine W.isEq ?_; first | refine ⟨_, W.eqI, ?_⟩ | refine ⟨_, W.eqS, ?_⟩) | (with_reducible refine W.isNe ?_; first | refine ⟨_, W.neI, ?_⟩ | refine ⟨_, W.neS, ?_⟩)
    | (with_reducible refine W.isLf ?_; refine ⟨_, rfl, ?_⟩)
    | (with_reducible refine W.isBr ?_; first | refine ⟨_, rfl, fun _ => ?_, fun hf => Bool.noConfusion hf⟩ | refine ⟨_, rfl, fun hf => Bool.noConfusion hf, fun _ => ?_⟩)
    | (with_reducible refine W.isBr2 ?_; first | refine ⟨_, rfl, fun _ => ?_, fun hf => Bool.noConfusion hf⟩ | refine ⟨_, rfl, fun hf => Bool.noConfusion hf, fun _ => ?_⟩)
    | (with_reducible refine W.isLfS ?_; refine ⟨_, _, (by assumption), rfl, fun hl => ?_⟩))
    exact hR _ _ _ _ _
theorem holds_plain (ns : List Int) : ∃ h', callF T 20 "" "law" [.fz (ns.map .int)] [] = .ok (.bl true) h' := by
  have main : Ok (callF T (19 + 1) "" "law" [.fz (ns.map .int)] []) fun v _ => v = .bl true := by
    refine W.fn t_law rfl ?_
    unfold b_law
    simp only [startD, List.map_cons, List.map_nil, List.cons_append, List.nil_append, List.length_cons, List.length_nil, List.replicate, Nat.reduceAdd, Nat.reduceSub]
    refine W.cons (W.set (W.alcL ?_))
    repeat (first
    | with_reducible refine W.cons ?_ | with_reducible refine W.set ?_ | with_reducible refine W.ret ?_ | with_reducible refine W.cst ?_ | (with_reducible refine W.isVar ?_; refine W.var rfl ?_)
    | (with_reducible refine W.isGetR ?_; refine W.getR rfl (by assumption) rfl ?_) | (with_reducible refine W.isLenR ?_; refine W.lenR rfl (by assumption) ?_) | (with_reducible refine W.isSetR ?_; refine W.setR rfl ?_)
    | with_reducible refine W.o2 ?_ | with_reducible refine W.o1 ?_ | with_reducible refine W.call ?_ | with_reducible refine W.es ?_ | with_reducible refine W.es0 ?_ | with_reducible refine W.nx ?_ | with_reducible refine W.rt ?_ | with_reducible refine W.tup ?_ | with_reducible refine W.lst ?_
    | with_reducible refine W.slice ?_ | with_reducible refine W.val ?_ | with_reducible refine W.rng ?_ | with_reducible refine W.enu ?_ | with_reducible refine W.seti ?_ | with_reducible refine W.ts0 ?_ | with_reducible refine W.ts1 ?_ | with_reducible refine W.cond ?_ | with_reducible refine W.and ?_
    | with_reducible refine W.or ?_ | with_reducible refine W.ife ?_ | with_reducible refine W.nil ?_ | with_reducible refine W.par ?_ | with_reducible refine W.app ?_ | with_reducible refine W.ext ?_
    | (with_reducible refine W.isLt ?_; refine ⟨by simp, ?_⟩) | (with_reducible refine W.isMul ?_; refine ⟨_, W.mulK (by decide), ?_⟩) | (with_reducible refine W.isEq ?_; first | refine ⟨_, W.eqI, ?_⟩ | refine ⟨_, W.eqS, ?_⟩) | (with_reducible refine W.isNe ?_; first | refine ⟨_, W.neI, ?_⟩ | refine ⟨_, W.neS, ?_⟩)
    | (with_reducible refine W.isLf ?_; refine ⟨_, rfl, ?_⟩)
    | (with_reducible refine W.isBr ?_; first | refine ⟨_, rfl, fun _ => ?_, fun hf => Bool.noConfusion hf⟩ | refine ⟨_, rfl, fun hf => Bool.noConfusion hf, fun _ => ?_⟩)
    | (with_reducible refine W.isBr2 ?_; first | refine ⟨_, rfl, fun _ => ?_, fun hf => Bool.noConfusion hf⟩ | refine ⟨_, rfl, fun hf => Bool.noConfusion hf, fun _ => ?_⟩)
    | (with_reducible refine W.isLfS ?_; refine ⟨_, _, (by assumption), rfl, fun hl => ?_⟩))
    refine (pool_ok (d := 18) gt ns).mono fun v h1 q => ?_
    obtain ⟨rfl, xs, rfl, hp⟩ := q
    refine ⟨xs, rfl, by simp, W.nx ?_⟩
    have a0 : At 0 ([] ++ [Ob.lst xs]) ([] ++ [Ob.lst xs]) := At.start rfl hp
    repeat (first
    | with_reducible refine W.cons ?_ | with_reducible refine W.set ?_ | with_reducible refine W.ret ?_ | with_reducible refine W.cst ?_ | (with_reducible refine W.isVar ?_; refine W.var rfl ?_)
    | (with_reducible refine W.isGetR ?_; refine W.getR rfl (by assumption) rfl ?_) | (with_reducible refine W.isLenR ?_; refine W.lenR rfl (by assumption) ?_) | (with_reducible refine W.isSetR ?_; refine W.setR rfl ?_)
    | with_reducible refine W.o2 ?_ | with_reducible refine W.o1 ?_ | with_reducible refine W.call ?_ | with_reducible refine W.es ?_ | with_reducible refine W.es0 ?_ | with_reducible refine W.nx ?_ | with_reducible refine W.rt ?_ | with_reducible refine W.tup ?_ | with_reducible refine W.lst ?_
    | with_reducible refine W.slice ?_ | with_reducible refine W.val ?_ | with_reducible refine W.rng ?_ | with_reducible refine W.enu ?_ | with_reducible refine W.seti ?_ | with_reducible refine W.ts0 ?_ | with_reducible refine W.ts1 ?_ | with_reducible refine W.cond ?_ | with_reducible refine W.and ?_
    | with_reducible refine W.or ?_ | with_reducible refine W.ife ?_ | with_reducible refine W.nil ?_ | with_reducible refine W.par ?_ | with_reducible refine W.app ?_ | with_reducible refine W.ext ?_
    | (with_reducible refine W.isLt ?_; refine ⟨by simp, ?_⟩) | (with_reducible refine W.isMul ?_; refine ⟨_, W.mulK (by decide), ?_⟩) | (with_reducible refine W.isEq ?_; first | refine ⟨_, W.eqI, ?_⟩ | refine ⟨_, W.eqS, ?_⟩) | (with_reducible refine W.isNe ?_; first | refine ⟨_, W.neI, ?_⟩ | refine ⟨_, W.neS, ?_⟩)
    | (with_reducible refine W.isLf ?_; refine ⟨_, rfl, ?_⟩)
    | (with_reducible refine W.isBr ?_; first | refine ⟨_, rfl, fun _ => ?_, fun hf => Bool.noConfusion hf⟩ | refine ⟨_, rfl, fun hf => Bool.noConfusion hf, fun _ => ?_⟩)
    | (with_reducible refine W.isBr2 ?_; first | refine ⟨_, rfl, fun _ => ?_, fun hf => Bool.noConfusion hf⟩ | refine ⟨_, rfl, fun hf => Bool.noConfusion hf, fun _ => ?_⟩)
    | (with_reducible refine W.isLfS ?_; refine ⟨_, _, (by assumption), rfl, fun hl => ?_⟩))
    refine (sounds_ok (d := 16) gt a0).mono fun v h1 q => ?_
    obtain ⟨⟨s, rfl, hs⟩, a1⟩ := q
    have hs3 := hs.len
    repeat (first
    | with_reducible refine W.cons ?_ | with_reducible refine W.set ?_ | with_reducible refine W.ret ?_ | with_reducible refine W.cst ?_ | (with_reducible refine W.isVar ?_; refine W.var rfl ?_)
    | (with_reducible refine W.isGetR ?_; refine W.getR rfl (by assumption) rfl ?_) | (with_reducible refine W.isLenR ?_; refine W.lenR rfl (by assumption) ?_) | (with_reducible refine W.isSetR ?_; refine W.setR rfl ?_)
    | with_reducible refine W.o2 ?_ | with_reducible refine W.o1 ?_ | with_reducible refine W.call ?_ | with_reducible refine W.es ?_ | with_reducible refine W.es0 ?_ | with_reducible refine W.nx ?_ | with_reducible refine W.rt ?_ | with_reducible refine W.tup ?_ | with_reducible refine W.lst ?_
    | with_reducible refine W.slice ?_ | with_reducible refine W.val ?_ | with_reducible refine W.rng ?_ | with_reducible refine W.enu ?_ | with_reducible refine W.seti ?_ | with_reducible refine W.ts0 ?_ | with_reducible refine W.ts1 ?_ | with_reducible refine W.cond ?_ | with_reducible refine W.and ?_
    | with_reducible refine W.or ?_ | with_reducible refine W.ife ?_ | with_reducible refine W.nil ?_ | with_reducible refine W.par ?_ | with_reducible refine W.app ?_ | with_reducible refine W.ext ?_
    | (with_reducible refine W.isLt ?_; refine ⟨by simp, ?_⟩) | (with_reducible refine W.isMul ?_; refine ⟨_, W.mulK (by decide), ?_⟩) | (with_reducible refine W.isEq ?_; first | refine ⟨_, W.eqI, ?_⟩ | refine ⟨_, W.eqS, ?_⟩) | (with_reducible refine W.isNe ?_; first | refine ⟨_, W.neI, ?_⟩ | refine ⟨_, W.neS, ?_⟩)
    | (with_reducible refine W.isLf ?_; refine ⟨_, rfl, ?_⟩)
    | (with_reducible refine W.isBr ?_; first | refine ⟨_, rfl, fun _ => ?_, fun hf => Bool.noConfusion hf⟩ | refine ⟨_, rfl, fun hf => Bool.noConfusion hf, fun _ => ?_⟩)
    | (with_reducible refine W.isBr2 ?_; first | refine ⟨_, rfl, fun _ => ?_, fun hf => Bool.noConfusion hf⟩ | refine ⟨_, rfl, fun hf => Bool.noConfusion hf, fun _ => ?_⟩)
    | (with_reducible refine W.isLfS ?_; refine ⟨_, _, (by assumption), rfl, fun hl => ?_⟩))
    refine (history_ok (d := 13) gt a1 hs.ne (by omega) (by decide) (by decide)).mono fun v h2 q => ?_
    obtain ⟨⟨rs, rfl, hrs, hrl⟩, a2⟩ := q
    repeat (first
    | with_reducible refine W.cons ?_ | with_reducible refine W.set ?_ | with_reducible refine W.ret ?_ | with_reducible refine W.cst ?_ | (with_reducible refine W.isVar ?_; refine W.var rfl ?_)
    | (with_reducible refine W.isGetR ?_; refine W.getR rfl (by assumption) rfl ?_) | (with_reducible refine W.isLenR ?_; refine W.lenR rfl (by assumption) ?_) | (with_reducible refine W.isSetR ?_; refine W.setR rfl ?_)
    | with_reducible refine W.o2 ?_ | with_reducible refine W.o1 ?_ | with_reducible refine W.call ?_ | with_reducible refine W.es ?_ | with_reducible refine W.es0 ?_ | with_reducible refine W.nx ?_ | with_reducible refine W.rt ?_ | with_reducible refine W.tup ?_ | with_reducible refine W.lst ?_
    | with_reducible refine W.slice ?_ | with_reducible refine W.val ?_ | with_reducible refine W.rng ?_ | with_reducible refine W.enu ?_ | with_reducible refine W.seti ?_ | with_reducible refine W.ts0 ?_ | with_reducible refine W.ts1 ?_ | with_reducible refine W.cond ?_ | with_reducible refine W.and ?_
    | with_reducible refine W.or ?_ | with_reducible refine W.ife ?_ | with_reducible refine W.nil ?_ | with_reducible refine W.par ?_ | with_reducible refine W.app ?_ | with_reducible refine W.ext ?_
    | (with_reducible refine W.isLt ?_; refine ⟨by simp, ?_⟩) | (with_reducible refine W.isMul ?_; refine ⟨_, W.mulK (by decide), ?_⟩) | (with_reducible refine W.isEq ?_; first | refine ⟨_, W.eqI, ?_⟩ | refine ⟨_, W.eqS, ?_⟩) | (with_reducible refine W.isNe ?_; first | refine ⟨_, W.neI, ?_⟩ | refine ⟨_, W.neS, ?_⟩)
    | (with_reducible refine W.isLf ?_; refine ⟨_, rfl, ?_⟩)
    | (with_reducible refine W.isBr ?_; first | refine ⟨_, rfl, fun _ => ?_, fun hf => Bool.noConfusion hf⟩ | refine ⟨_, rfl, fun hf => Bool.noConfusion hf, fun _ => ?_⟩)
    | (with_reducible refine W.isBr2 ?_; first | refine ⟨_, rfl, fun _ => ?_, fun hf => Bool.noConfusion hf⟩ | refine ⟨_, rfl, fun hf => Bool.noConfusion hf, fun _ => ?_⟩)
    | (with_reducible refine W.isLfS ?_; refine ⟨_, _, (by assumption), rfl, fun hl => ?_⟩))
    refine (law_ok (d := 14) gt a2 hs.ne (by omega)).mono fun v h3 q => ?_
    obtain ⟨⟨one, rfl, h1⟩, a3⟩ := q
    repeat (first
    | with_reducible refine W.cons ?_ | with_reducible refine W.set ?_ | with_reducible refine W.ret ?_ | with_reducible refine W.cst ?_ | (with_reducible refine W.isVar ?_; refine W.var rfl ?_)
    | (with_reducible refine W.isGetR ?_; refine W.getR rfl (by assumption) rfl ?_) | (with_reducible refine W.isLenR ?_; refine W.lenR rfl (by assumption) ?_) | (with_reducible refine W.isSetR ?_; refine W.setR rfl ?_)
    | with_reducible refine W.o2 ?_ | with_reducible refine W.o1 ?_ | with_reducible refine W.call ?_ | with_reducible refine W.es ?_ | with_reducible refine W.es0 ?_ | with_reducible refine W.nx ?_ | with_reducible refine W.rt ?_ | with_reducible refine W.tup ?_ | with_reducible refine W.lst ?_
    | with_reducible refine W.slice ?_ | with_reducible refine W.val ?_ | with_reducible refine W.rng ?_ | with_reducible refine W.enu ?_ | with_reducible refine W.seti ?_ | with_reducible refine W.ts0 ?_ | with_reducible refine W.ts1 ?_ | with_reducible refine W.cond ?_ | with_reducible refine W.and ?_
    | with_reducible refine W.or ?_ | with_reducible refine W.ife ?_ | with_reducible refine W.nil ?_ | with_reducible refine W.par ?_ | with_reducible refine W.app ?_ | with_reducible refine W.ext ?_
    | (with_reducible refine W.isLt ?_; refine ⟨by simp, ?_⟩) | (with_reducible refine W.isMul ?_; refine ⟨_, W.mulK (by decide), ?_⟩) | (with_reducible refine W.isEq ?_; first | refine ⟨_, W.eqI, ?_⟩ | refine ⟨_, W.eqS, ?_⟩) | (with_reducible refine W.isNe ?_; first | refine ⟨_, W.neI, ?_⟩ | refine ⟨_, W.neS, ?_⟩)
    | (with_reducible refine W.isLf ?_; refine ⟨_, rfl, ?_⟩)
    | (with_reducible refine W.isBr ?_; first | refine ⟨_, rfl, fun _ => ?_, fun hf => Bool.noConfusion hf⟩ | refine ⟨_, rfl, fun hf => Bool.noConfusion hf, fun _ => ?_⟩)
    | (with_reducible refine W.isBr2 ?_; first | refine ⟨_, rfl, fun _ => ?_, fun hf => Bool.noConfusion hf⟩ | refine ⟨_, rfl, fun hf => Bool.noConfusion hf, fun _ => ?_⟩)
    | (with_reducible refine W.isLfS ?_; refine ⟨_, _, (by assumption), rfl, fun hl => ?_⟩))
    refine (law_words_ok (d := 18) rfl (m := 4) hs3 (by decide)).mono fun v h4 q => ?_
    obtain ⟨rfl, rfl⟩ := q
    have hwl := words_all s hs3 4
    obtain ⟨_, hwe⟩ := words_each s 4
    repeat (first
    | with_reducible refine W.cons ?_ | with_reducible refine W.set ?_ | with_reducible refine W.ret ?_ | with_reducible refine W.cst ?_ | (with_reducible refine W.isVar ?_; refine W.var rfl ?_)
    | (with_reducible refine W.isGetR ?_; refine W.getR rfl (by assumption) rfl ?_) | (with_reducible refine W.isLenR ?_; refine W.lenR rfl (by assumption) ?_) | (with_reducible refine W.isSetR ?_; refine W.setR rfl ?_)
    | with_reducible refine W.o2 ?_ | with_reducible refine W.o1 ?_ | with_reducible refine W.call ?_ | with_reducible refine W.es ?_ | with_reducible refine W.es0 ?_ | with_reducible refine W.nx ?_ | with_reducible refine W.rt ?_ | with_reducible refine W.tup ?_ | with_reducible refine W.lst ?_
    | with_reducible refine W.slice ?_ | with_reducible refine W.val ?_ | with_reducible refine W.rng ?_ | with_reducible refine W.enu ?_ | with_reducible refine W.seti ?_ | with_reducible refine W.ts0 ?_ | with_reducible refine W.ts1 ?_ | with_reducible refine W.cond ?_ | with_reducible refine W.and ?_
    | with_reducible refine W.or ?_ | with_reducible refine W.ife ?_ | with_reducible refine W.nil ?_ | with_reducible refine W.par ?_ | with_reducible refine W.app ?_ | with_reducible refine W.ext ?_
    | (with_reducible refine W.isLt ?_; refine ⟨by simp, ?_⟩) | (with_reducible refine W.isMul ?_; refine ⟨_, W.mulK (by decide), ?_⟩) | (with_reducible refine W.isEq ?_; first | refine ⟨_, W.eqI, ?_⟩ | refine ⟨_, W.eqS, ?_⟩) | (with_reducible refine W.isNe ?_; first | refine ⟨_, W.neI, ?_⟩ | refine ⟨_, W.neS, ?_⟩)
    | (with_reducible refine W.isLf ?_; refine ⟨_, rfl, ?_⟩)
    | (with_reducible refine W.isBr ?_; first | refine ⟨_, rfl, fun _ => ?_, fun hf => Bool.noConfusion hf⟩ | refine ⟨_, rfl, fun hf => Bool.noConfusion hf, fun _ => ?_⟩)
    | (with_reducible refine W.isBr2 ?_; first | refine ⟨_, rfl, fun _ => ?_, fun hf => Bool.noConfusion hf⟩ | refine ⟨_, rfl, fun hf => Bool.noConfusion hf, fun _ => ?_⟩)
    | (with_reducible refine W.isLfS ?_; refine ⟨_, _, (by assumption), rfl, fun hl => ?_⟩))
    refine (words_up_to_ok (d := 18) rfl (m := 4) hs3 (by decide)).mono fun v h5 q => ?_
    obtain ⟨rfl, rfl⟩ := q
    repeat (first
    | with_reducible refine W.cons ?_ | with_reducible refine W.set ?_ | with_reducible refine W.ret ?_ | with_reducible refine W.cst ?_ | (with_reducible refine W.isVar ?_; refine W.var rfl ?_)
    | (with_reducible refine W.isGetR ?_; refine W.getR rfl (by assumption) rfl ?_) | (with_reducible refine W.isLenR ?_; refine W.lenR rfl (by assumption) ?_) | (with_reducible refine W.isSetR ?_; refine W.setR rfl ?_)
    | with_reducible refine W.o2 ?_ | with_reducible refine W.o1 ?_ | with_reducible refine W.call ?_ | with_reducible refine W.es ?_ | with_reducible refine W.es0 ?_ | with_reducible refine W.nx ?_ | with_reducible refine W.rt ?_ | with_reducible refine W.tup ?_ | with_reducible refine W.lst ?_
    | with_reducible refine W.slice ?_ | with_reducible refine W.val ?_ | with_reducible refine W.rng ?_ | with_reducible refine W.enu ?_ | with_reducible refine W.seti ?_ | with_reducible refine W.ts0 ?_ | with_reducible refine W.ts1 ?_ | with_reducible refine W.cond ?_ | with_reducible refine W.and ?_
    | with_reducible refine W.or ?_ | with_reducible refine W.ife ?_ | with_reducible refine W.nil ?_ | with_reducible refine W.par ?_ | with_reducible refine W.app ?_ | with_reducible refine W.ext ?_
    | (with_reducible refine W.isLt ?_; refine ⟨by simp, ?_⟩) | (with_reducible refine W.isMul ?_; refine ⟨_, W.mulK (by decide), ?_⟩) | (with_reducible refine W.isEq ?_; first | refine ⟨_, W.eqI, ?_⟩ | refine ⟨_, W.eqS, ?_⟩) | (with_reducible refine W.isNe ?_; first | refine ⟨_, W.neI, ?_⟩ | refine ⟨_, W.neS, ?_⟩)
    | (with_reducible refine W.isLf ?_; refine ⟨_, rfl, ?_⟩)
    | (with_reducible refine W.isBr ?_; first | refine ⟨_, rfl, fun _ => ?_, fun hf => Bool.noConfusion hf⟩ | refine ⟨_, rfl, fun hf => Bool.noConfusion hf, fun _ => ?_⟩)
    | (with_reducible refine W.isBr2 ?_; first | refine ⟨_, rfl, fun _ => ?_, fun hf => Bool.noConfusion hf⟩ | refine ⟨_, rfl, fun hf => Bool.noConfusion hf, fun _ => ?_⟩)
    | (with_reducible refine W.isLfS ?_; refine ⟨_, _, (by assumption), rfl, fun hl => ?_⟩))
    refine (same_ok (d := 17) (n := 1) gt (.fz ((wordsM s 4).1.map D.str)) ?_).mono fun v h5 q => ?_
    · simp only [dat, Bool.and_eq_true, List.all_eq_true, decide_eq_true_eq, List.length_map]
      exact ⟨dat_strs 0 _, by omega⟩
    obtain ⟨rfl, rfl⟩ := q
    repeat (first
    | with_reducible refine W.cons ?_ | with_reducible refine W.set ?_ | with_reducible refine W.ret ?_ | with_reducible refine W.cst ?_ | (with_reducible refine W.isVar ?_; refine W.var rfl ?_)
    | (with_reducible refine W.isGetR ?_; refine W.getR rfl (by assumption) rfl ?_) | (with_reducible refine W.isLenR ?_; refine W.lenR rfl (by assumption) ?_) | (with_reducible refine W.isSetR ?_; refine W.setR rfl ?_)
    | with_reducible refine W.o2 ?_ | with_reducible refine W.o1 ?_ | with_reducible refine W.call ?_ | with_reducible refine W.es ?_ | with_reducible refine W.es0 ?_ | with_reducible refine W.nx ?_ | with_reducible refine W.rt ?_ | with_reducible refine W.tup ?_ | with_reducible refine W.lst ?_
    | with_reducible refine W.slice ?_ | with_reducible refine W.val ?_ | with_reducible refine W.rng ?_ | with_reducible refine W.enu ?_ | with_reducible refine W.seti ?_ | with_reducible refine W.ts0 ?_ | with_reducible refine W.ts1 ?_ | with_reducible refine W.cond ?_ | with_reducible refine W.and ?_
    | with_reducible refine W.or ?_ | with_reducible refine W.ife ?_ | with_reducible refine W.nil ?_ | with_reducible refine W.par ?_ | with_reducible refine W.app ?_ | with_reducible refine W.ext ?_
    | (with_reducible refine W.isLt ?_; refine ⟨by simp, ?_⟩) | (with_reducible refine W.isMul ?_; refine ⟨_, W.mulK (by decide), ?_⟩) | (with_reducible refine W.isEq ?_; first | refine ⟨_, W.eqI, ?_⟩ | refine ⟨_, W.eqS, ?_⟩) | (with_reducible refine W.isNe ?_; first | refine ⟨_, W.neI, ?_⟩ | refine ⟨_, W.neS, ?_⟩)
    | (with_reducible refine W.isLf ?_; refine ⟨_, rfl, ?_⟩)
    | (with_reducible refine W.isBr ?_; first | refine ⟨_, rfl, fun _ => ?_, fun hf => Bool.noConfusion hf⟩ | refine ⟨_, rfl, fun hf => Bool.noConfusion hf, fun _ => ?_⟩)
    | (with_reducible refine W.isBr2 ?_; first | refine ⟨_, rfl, fun _ => ?_, fun hf => Bool.noConfusion hf⟩ | refine ⟨_, rfl, fun hf => Bool.noConfusion hf, fun _ => ?_⟩)
    | (with_reducible refine W.isLfS ?_; refine ⟨_, _, (by assumption), rfl, fun hl => ?_⟩))
    refine W.forr (W.val (W.o2 ?_))
    repeat (first
    | with_reducible refine W.cons ?_ | with_reducible refine W.set ?_ | with_reducible refine W.ret ?_ | with_reducible refine W.cst ?_ | (with_reducible refine W.isVar ?_; refine W.var rfl ?_)
    | (with_reducible refine W.isGetR ?_; refine W.getR rfl (by assumption) rfl ?_) | (with_reducible refine W.isLenR ?_; refine W.lenR rfl (by assumption) ?_) | (with_reducible refine W.isSetR ?_; refine W.setR rfl ?_)
    | with_reducible refine W.o2 ?_ | with_reducible refine W.o1 ?_ | with_reducible refine W.call ?_ | with_reducible refine W.es ?_ | with_reducible refine W.es0 ?_ | with_reducible refine W.nx ?_ | with_reducible refine W.rt ?_ | with_reducible refine W.tup ?_ | with_reducible refine W.lst ?_
    | with_reducible refine W.slice ?_ | with_reducible refine W.val ?_ | with_reducible refine W.rng ?_ | with_reducible refine W.enu ?_ | with_reducible refine W.seti ?_ | with_reducible refine W.ts0 ?_ | with_reducible refine W.ts1 ?_ | with_reducible refine W.cond ?_ | with_reducible refine W.and ?_
    | with_reducible refine W.or ?_ | with_reducible refine W.ife ?_ | with_reducible refine W.nil ?_ | with_reducible refine W.par ?_ | with_reducible refine W.app ?_ | with_reducible refine W.ext ?_
    | (with_reducible refine W.isLt ?_; refine ⟨by simp, ?_⟩) | (with_reducible refine W.isMul ?_; refine ⟨_, W.mulK (by decide), ?_⟩) | (with_reducible refine W.isEq ?_; first | refine ⟨_, W.eqI, ?_⟩ | refine ⟨_, W.eqS, ?_⟩) | (with_reducible refine W.isNe ?_; first | refine ⟨_, W.neI, ?_⟩ | refine ⟨_, W.neS, ?_⟩)
    | (with_reducible refine W.isLf ?_; refine ⟨_, rfl, ?_⟩)
    | (with_reducible refine W.isBr ?_; first | refine ⟨_, rfl, fun _ => ?_, fun hf => Bool.noConfusion hf⟩ | refine ⟨_, rfl, fun hf => Bool.noConfusion hf, fun _ => ?_⟩)
    | (with_reducible refine W.isBr2 ?_; first | refine ⟨_, rfl, fun _ => ?_, fun hf => Bool.noConfusion hf⟩ | refine ⟨_, rfl, fun hf => Bool.noConfusion hf, fun _ => ?_⟩)
    | (with_reducible refine W.isLfS ?_; refine ⟨_, _, (by assumption), rfl, fun hl => ?_⟩))
    refine (word_ok (d := 16) gt a3 hs.ne (by omega) (by decide) (by decide)).mono fun v h6 q => ?_
    obtain ⟨⟨w, rfl, hw1, hw2⟩, a4⟩ := q
    repeat (first
    | with_reducible refine W.cons ?_ | with_reducible refine W.set ?_ | with_reducible refine W.ret ?_ | with_reducible refine W.cst ?_ | (with_reducible refine W.isVar ?_; refine W.var rfl ?_)
    | (with_reducible refine W.isGetR ?_; refine W.getR rfl (by assumption) rfl ?_) | (with_reducible refine W.isLenR ?_; refine W.lenR rfl (by assumption) ?_) | (with_reducible refine W.isSetR ?_; refine W.setR rfl ?_)
    | with_reducible refine W.o2 ?_ | with_reducible refine W.o1 ?_ | with_reducible refine W.call ?_ | with_reducible refine W.es ?_ | with_reducible refine W.es0 ?_ | with_reducible refine W.nx ?_ | with_reducible refine W.rt ?_ | with_reducible refine W.tup ?_ | with_reducible refine W.lst ?_
    | with_reducible refine W.slice ?_ | with_reducible refine W.val ?_ | with_reducible refine W.rng ?_ | with_reducible refine W.enu ?_ | with_reducible refine W.seti ?_ | with_reducible refine W.ts0 ?_ | with_reducible refine W.ts1 ?_ | with_reducible refine W.cond ?_ | with_reducible refine W.and ?_
    | with_reducible refine W.or ?_ | with_reducible refine W.ife ?_ | with_reducible refine W.nil ?_ | with_reducible refine W.par ?_ | with_reducible refine W.app ?_ | with_reducible refine W.ext ?_
    | (with_reducible refine W.isLt ?_; refine ⟨by simp, ?_⟩) | (with_reducible refine W.isMul ?_; refine ⟨_, W.mulK (by decide), ?_⟩) | (with_reducible refine W.isEq ?_; first | refine ⟨_, W.eqI, ?_⟩ | refine ⟨_, W.eqS, ?_⟩) | (with_reducible refine W.isNe ?_; first | refine ⟨_, W.neI, ?_⟩ | refine ⟨_, W.neS, ?_⟩)
    | (with_reducible refine W.isLf ?_; refine ⟨_, rfl, ?_⟩)
    | (with_reducible refine W.isBr ?_; first | refine ⟨_, rfl, fun _ => ?_, fun hf => Bool.noConfusion hf⟩ | refine ⟨_, rfl, fun hf => Bool.noConfusion hf, fun _ => ?_⟩)
    | (with_reducible refine W.isBr2 ?_; first | refine ⟨_, rfl, fun _ => ?_, fun hf => Bool.noConfusion hf⟩ | refine ⟨_, rfl, fun hf => Bool.noConfusion hf, fun _ => ?_⟩)
    | (with_reducible refine W.isLfS ?_; refine ⟨_, _, (by assumption), rfl, fun hl => ?_⟩))
    have hcut : Sd.cut ((wordsM s 4).1.map D.str) none (some 60) = ((wordsM s 4).1.take 60).map D.str := by
      simp only [Sd.cut, Sd.sIx, List.drop_zero, Nat.sub_zero, List.length_map]
      rw [if_neg (by decide), ← List.map_take]
      congr 1
      rw [show ((60 : Int).toNat) = 60 from rfl, List.take_eq_take_iff]
      omega
    refine ⟨_, addL rfl rfl (fun _ => by simp) (fun _ => by simp) (fun _ => by simp) (by
      rw [hcut]
      simp only [List.length_map, List.length_take, List.length_cons, List.length_nil]
      unfold line
      omega), _, rfl, ?_⟩
    rw [hcut]
    have hall : ∀ (i : Nat) (x : Sd.D), (((wordsM s 4).1.take 60).map D.str ++ [D.str w])[i]? = some x → ∃ u : List Nat, x = D.str u ∧ u.length ≤ 9 := by
      intro i x hx
      rcases List.mem_append.mp (List.mem_of_getElem? hx) with hm | hm
      · obtain ⟨u, hu, rfl⟩ := List.mem_map.mp hm
        exact ⟨u, rfl, by have := (hwe u (List.mem_of_mem_take hu)).1; omega⟩
      · rw [List.mem_singleton.mp hm]
        exact ⟨w, rfl, by omega⟩
    refine ⟨fun i σ h' => ∃ o6 o7 o8 o9 o10, σ = [some (.fz (ns.map .int)), some (.ref 0), some (.str s), some (.tup (rs.map ruleD)), some (ruleD one), some (.fz ((wordsM s 4).1.map D.str)), o6, o7, o8, o9, o10], ⟨_, _, _, _, _, rfl⟩, fun _ _ _ _ => wat_nil _ _, ?_, ?_⟩
    · rintro i x σ h' hx ⟨o6, o7, o8, o9, o10, rfl⟩
      obtain ⟨u, rfl, hu⟩ := hall i x hx
      refine ⟨_, rfl, ?_⟩
      exact turn (d := 0) hu (fun r hr => rl_of hs (hrs r hr)) (rl_of hs h1) (by omega) fun _ _ _ _ _ => ⟨_, _, _, _, _, rfl⟩
    · rintro σ h' ⟨o6, o7, o8, o9, o10, rfl⟩
      repeat (first
    | with_reducible refine W.cons ?_ | with_reducible refine W.set ?_ | with_reducible refine W.ret ?_ | with_reducible refine W.cst ?_ | (with_reducible refine W.isVar ?_; refine W.var rfl ?_)
    | (with_reducible refine W.isGetR ?_; refine W.getR rfl (by assumption) rfl ?_) | (with_reducible refine W.isLenR ?_; refine W.lenR rfl (by assumption) ?_) | (with_reducible refine W.isSetR ?_; refine W.setR rfl ?_)
    | with_reducible refine W.o2 ?_ | with_reducible refine W.o1 ?_ | with_reducible refine W.call ?_ | with_reducible refine W.es ?_ | with_reducible refine W.es0 ?_ | with_reducible refine W.nx ?_ | with_reducible refine W.rt ?_ | with_reducible refine W.tup ?_ | with_reducible refine W.lst ?_
    | with_reducible refine W.slice ?_ | with_reducible refine W.val ?_ | with_reducible refine W.rng ?_ | with_reducible refine W.enu ?_ | with_reducible refine W.seti ?_ | with_reducible refine W.ts0 ?_ | with_reducible refine W.ts1 ?_ | with_reducible refine W.cond ?_ | with_reducible refine W.and ?_
    | with_reducible refine W.or ?_ | with_reducible refine W.ife ?_ | with_reducible refine W.nil ?_ | with_reducible refine W.par ?_ | with_reducible refine W.app ?_ | with_reducible refine W.ext ?_
    | (with_reducible refine W.isLt ?_; refine ⟨by simp, ?_⟩) | (with_reducible refine W.isMul ?_; refine ⟨_, W.mulK (by decide), ?_⟩) | (with_reducible refine W.isEq ?_; first | refine ⟨_, W.eqI, ?_⟩ | refine ⟨_, W.eqS, ?_⟩) | (with_reducible refine W.isNe ?_; first | refine ⟨_, W.neI, ?_⟩ | refine ⟨_, W.neS, ?_⟩)
    | (with_reducible refine W.isLf ?_; refine ⟨_, rfl, ?_⟩)
    | (with_reducible refine W.isBr ?_; first | refine ⟨_, rfl, fun _ => ?_, fun hf => Bool.noConfusion hf⟩ | refine ⟨_, rfl, fun hf => Bool.noConfusion hf, fun _ => ?_⟩)
    | (with_reducible refine W.isBr2 ?_; first | refine ⟨_, rfl, fun _ => ?_, fun hf => Bool.noConfusion hf⟩ | refine ⟨_, rfl, fun hf => Bool.noConfusion hf, fun _ => ?_⟩)
    | (with_reducible refine W.isLfS ?_; refine ⟨_, _, (by assumption), rfl, fun hl => ?_⟩))
      refine W.en ?_
      obtain ⟨h2, e⟩ := fin_bl (h := []) (h1 := h') (b := true)
      exact ⟨_, _, e, rfl⟩
  obtain ⟨v, h', e, rfl⟩ := main
  exact ⟨h', e⟩
end K02

/-! K02H: the head of k02: the run of the top, the facts, the law's end (printed by mkhead.py). -/
namespace K02
open PySem PySem.Spec PyProof.Rows L2 Sd
def dd (i : DefI) : He.DefD := ⟨(i.x, none), i.x, i.x, defArgs i.st, defBody i.st, defScope i.st, [], []⟩
def fn : List He.DefD := L.map dd
def fa : List He.Fa := [.glo "slots_hold", .glo "applies", .glo "changed", .glo "led", .glo "stages", .glo "words_up_to", .glo "_law_same", .glo "_law_pool", .glo "_law_spread", .glo "_law_draw", .glo "_law_sounds", .glo "_law_lot", .glo "_law_word", .glo "_law_slots", .glo "_law_law", .glo "_law_history", .glo "_law_holds", .glo "_law_applies", .glo "_law_changed", .glo "_law_led", .glo "_law_words", .glo "law", .free "len", .free "int", .free "str", .free "tuple", .free "list", .free "all", .free "any", .free "dict", .free "sum", .free "min", .free "max", .free "isinstance", .free "range", .free "enumerate", .free "zip", .free "sorted", .free "set", .free "repr", .free "bool", .str "EDGE" "#"]
abbrev R : PySem.W.OpenRow := PySem.W.OpenLaw.row PySem.Challenge.rw_soundsled_k02_whole_leading
abbrev hk : PySem.W.Hook := He.hookD 4 fa fn
def ob (s : PySem.W.SharedT) : He.AlD := He.obsDG 4 fa fn (HandSHeadRun.getT s)
theorem ob_eq (s : PySem.W.SharedT) : ob s = hk.obs s.abs := He.obsDG_eq (HandSHeadRun.getT_eq s)
def loose : List PySem.Str := (["slots_hold", "applies", "changed", "led", "stages", "words_up_to", "_law_same", "_law_pool", "_law_spread", "_law_draw", "_law_sounds", "_law_lot", "_law_word", "_law_slots", "_law_law", "_law_history", "_law_holds", "_law_applies", "_law_changed", "_law_led", "_law_words", "EDGE"] : List PySem.Str)
theorem run (w : World) : HandSHeadRun.RunEq R (PySem.W.view R.prog [24]) hk ob 6000 loose w := by
  intro os
  kernel_rfl
theorem facts {P : Program} {w : World} {K : PySem.W.Frag} {h : Heap} {mg : PySem.Str → Option Value} {f : Addr} (hlaw : ∀ ns : List Int, ns.length ≤ 63 → ∃ h', callF T 20 "" "law" [.fz (ns.map .int)] [] = .ok (.bl true) h')
    (X : K.In h) (G : h.Ns mainGlobals mg) (hfa : mg ("law" : PySem.Str) = some (.ref f)) (c : He.SaysD fa fn K) :
    ∃ fd : FuncData, (∀ (s : Shared) (v : Value), BindsTo s fd ⟨[v], []⟩ [("script", v)]) ∧ ∀ base : Heap, K.In base → base.Ns mainGlobals mg → FnOk P w K mg base CX0 20 f fd ["script"] (spEnd K) := by
  have hfree : ∀ x ∈ bnames, (L.map fun i => (i.x, i.m)).lookup x = none → mg x = none := by
    intro x hx hl
    simp only [bnames, List.mem_cons, List.not_mem_nil, or_false] at hx
    rcases hx with rfl | rfl | rfl | rfl | rfl | rfl | rfl | rfl | rfl | rfl | rfl | rfl | rfl | rfl | rfl | rfl | rfl | rfl | rfl
    · exact He.free_ok X G (c.fact 22 (f := .free "len") rfl)
    · exact He.free_ok X G (c.fact 23 (f := .free "int") rfl)
    · exact He.free_ok X G (c.fact 24 (f := .free "str") rfl)
    · exact He.free_ok X G (c.fact 25 (f := .free "tuple") rfl)
    · exact He.free_ok X G (c.fact 26 (f := .free "list") rfl)
    · exact He.free_ok X G (c.fact 27 (f := .free "all") rfl)
    · exact He.free_ok X G (c.fact 28 (f := .free "any") rfl)
    · exact He.free_ok X G (c.fact 29 (f := .free "dict") rfl)
    · exact He.free_ok X G (c.fact 30 (f := .free "sum") rfl)
    · exact He.free_ok X G (c.fact 31 (f := .free "min") rfl)
    · exact He.free_ok X G (c.fact 32 (f := .free "max") rfl)
    · exact He.free_ok X G (c.fact 33 (f := .free "isinstance") rfl)
    · exact He.free_ok X G (c.fact 34 (f := .free "range") rfl)
    · exact He.free_ok X G (c.fact 35 (f := .free "enumerate") rfl)
    · exact He.free_ok X G (c.fact 36 (f := .free "zip") rfl)
    · exact He.free_ok X G (c.fact 37 (f := .free "sorted") rfl)
    · exact He.free_ok X G (c.fact 38 (f := .free "set") rfl)
    · exact He.free_ok X G (c.fact 39 (f := .free "repr") rfl)
    · exact He.free_ok X G (c.fact 40 (f := .free "bool") rfl)
  have hcon : ∀ x d, cons.lookup x = some d → ∃ u v, mg x = some u ∧ RelV v u ∧ KD ⟨K, fun _ => none, []⟩ d v := by
    intro x d hx
    simp only [cons] at hx
    rw [List.lookup_cons] at hx
    split at hx
    · rename_i hn
      cases hx
      obtain rfl := eq_of_beq hn
      obtain ⟨t, e⟩ := He.str_ok X G (c.fact 41 (f := .str "EDGE" "#") rfl)
      exact ⟨_, .str "#", e, ⟨t, rfl⟩, KD.strE (by decide +kernel)⟩
    cases hx
  have hf : ∀ i ∈ L, ∃ f fd, mg i.x = some (.ref f) ∧ i.fn K f fd := by
    intro i hi
    simp only [L, List.mem_cons, List.not_mem_nil, or_false] at hi
    rcases hi with rfl | rfl | rfl | rfl | rfl | rfl | rfl | rfl | rfl | rfl | rfl | rfl | rfl | rfl | rfl | rfl | rfl | rfl | rfl | rfl | rfl | rfl
    · obtain ⟨fd, F⟩ := c.def_ 0 (d := dd d_slots_hold) rfl
      exact ⟨_, fd, He.glo_ok X G (c.fact 0 (f := .glo "slots_hold") rfl), F⟩
    · obtain ⟨fd, F⟩ := c.def_ 1 (d := dd d_applies) rfl
      exact ⟨_, fd, He.glo_ok X G (c.fact 1 (f := .glo "applies") rfl), F⟩
    · obtain ⟨fd, F⟩ := c.def_ 2 (d := dd d_changed) rfl
      exact ⟨_, fd, He.glo_ok X G (c.fact 2 (f := .glo "changed") rfl), F⟩
    · obtain ⟨fd, F⟩ := c.def_ 3 (d := dd d_led) rfl
      exact ⟨_, fd, He.glo_ok X G (c.fact 3 (f := .glo "led") rfl), F⟩
    · obtain ⟨fd, F⟩ := c.def_ 4 (d := dd d_stages) rfl
      exact ⟨_, fd, He.glo_ok X G (c.fact 4 (f := .glo "stages") rfl), F⟩
    · obtain ⟨fd, F⟩ := c.def_ 5 (d := dd d_words_up_to) rfl
      exact ⟨_, fd, He.glo_ok X G (c.fact 5 (f := .glo "words_up_to") rfl), F⟩
    · obtain ⟨fd, F⟩ := c.def_ 6 (d := dd d_law_same) rfl
      exact ⟨_, fd, He.glo_ok X G (c.fact 6 (f := .glo "_law_same") rfl), F⟩
    · obtain ⟨fd, F⟩ := c.def_ 7 (d := dd d_law_pool) rfl
      exact ⟨_, fd, He.glo_ok X G (c.fact 7 (f := .glo "_law_pool") rfl), F⟩
    · obtain ⟨fd, F⟩ := c.def_ 8 (d := dd d_law_spread) rfl
      exact ⟨_, fd, He.glo_ok X G (c.fact 8 (f := .glo "_law_spread") rfl), F⟩
    · obtain ⟨fd, F⟩ := c.def_ 9 (d := dd d_law_draw) rfl
      exact ⟨_, fd, He.glo_ok X G (c.fact 9 (f := .glo "_law_draw") rfl), F⟩
    · obtain ⟨fd, F⟩ := c.def_ 10 (d := dd d_law_sounds) rfl
      exact ⟨_, fd, He.glo_ok X G (c.fact 10 (f := .glo "_law_sounds") rfl), F⟩
    · obtain ⟨fd, F⟩ := c.def_ 11 (d := dd d_law_lot) rfl
      exact ⟨_, fd, He.glo_ok X G (c.fact 11 (f := .glo "_law_lot") rfl), F⟩
    · obtain ⟨fd, F⟩ := c.def_ 12 (d := dd d_law_word) rfl
      exact ⟨_, fd, He.glo_ok X G (c.fact 12 (f := .glo "_law_word") rfl), F⟩
    · obtain ⟨fd, F⟩ := c.def_ 13 (d := dd d_law_slots) rfl
      exact ⟨_, fd, He.glo_ok X G (c.fact 13 (f := .glo "_law_slots") rfl), F⟩
    · obtain ⟨fd, F⟩ := c.def_ 14 (d := dd d_law_law) rfl
      exact ⟨_, fd, He.glo_ok X G (c.fact 14 (f := .glo "_law_law") rfl), F⟩
    · obtain ⟨fd, F⟩ := c.def_ 15 (d := dd d_law_history) rfl
      exact ⟨_, fd, He.glo_ok X G (c.fact 15 (f := .glo "_law_history") rfl), F⟩
    · obtain ⟨fd, F⟩ := c.def_ 16 (d := dd d_law_holds) rfl
      exact ⟨_, fd, He.glo_ok X G (c.fact 16 (f := .glo "_law_holds") rfl), F⟩
    · obtain ⟨fd, F⟩ := c.def_ 17 (d := dd d_law_applies) rfl
      exact ⟨_, fd, He.glo_ok X G (c.fact 17 (f := .glo "_law_applies") rfl), F⟩
    · obtain ⟨fd, F⟩ := c.def_ 18 (d := dd d_law_changed) rfl
      exact ⟨_, fd, He.glo_ok X G (c.fact 18 (f := .glo "_law_changed") rfl), F⟩
    · obtain ⟨fd, F⟩ := c.def_ 19 (d := dd d_law_led) rfl
      exact ⟨_, fd, He.glo_ok X G (c.fact 19 (f := .glo "_law_led") rfl), F⟩
    · obtain ⟨fd, F⟩ := c.def_ 20 (d := dd d_law_words) rfl
      exact ⟨_, fd, He.glo_ok X G (c.fact 20 (f := .glo "_law_words") rfl), F⟩
    · obtain ⟨fd, F⟩ := c.def_ 21 (d := dd d_law) rfl
      exact ⟨_, fd, He.glo_ok X G (c.fact 21 (f := .glo "law") rfl), F⟩
  obtain ⟨fd, F⟩ := c.def_ 21 (d := dd d_law) rfl
  have e := hfa.symm.trans (He.glo_ok X G (c.fact 21 (f := .glo "law") rfl))
  cases e
  have b := FunD.bindsA (ps := ["script"]) F fun _ _ _ _ _ _ us hl => match us, hl with | [_], _ => rfl
  refine ⟨fd, fun s v => b s [v] rfl, fun base _ _ => ?_⟩
  have W := wf_all (G := ⟨K, fun _ => none, []⟩) (P := P) (w := w) (mg := mg) (base := base) (T := T) (L := L) (cons := cons) hfree hcon ok_all hf 19
  exact (fn_step W ok_law F).imp fun vs H Q E hs => sp_end hlaw hs
end K02
open PySem PySem.W PySem.Calls PyProof.Rows
theorem K02.holds (hlaw : ∀ ns : List Int, ns.length ≤ 63 → ∃ h', Sd.callF K02.T 20 "" "law" [.fz (ns.map .int)] [] = .ok (.bl true) h') : PySem.Challenge.rw_soundsled_k02_whole_leading.Holds := by
  w_on; o_law
  refine HandSHeadRun.head_any (r := OpenLaw.row PySem.Challenge.rw_soundsled_k02_whole_leading) (q := view (OpenLaw.row PySem.Challenge.rw_soundsled_k02_whole_leading).prog [24]) (H := K02.hk) (ob := K02.ob) (M := 6000) (loose := K02.loose) (d := HandSHeadRun.topDef (OpenLaw.row PySem.Challenge.rw_soundsled_k02_whole_leading).prog 24) (kwd := []) K02.ob_eq
    (by kernel_rfl) (fun s => by kernel_rfl) K02.run (by kernel_rfl) (by kernel_rfl) (by kernel_rfl) (by rfl) (by first | assumption | decide +kernel) (by decide +kernel) ⟨rfl, rfl, rfl, rfl, rfl, by decide +kernel⟩ ?hw ?hc
  case hw => w_witness2
  case hc =>
    refine L2.walk_ofE (l := PySem.Challenge.rw_soundsled_k02_whole_leading) (n := 63) (k := 20) (x := "script") (CX := L2.CX0) rfl (by decide) (by kernel_rfl) ⟨rfl, by decide, by decide⟩ ?F (fun _ _ _ _ z => z)
    intro w mg fa h Y G hmg0
    obtain ⟨K, KX, c⟩ := Y
    have hmg : mg ("law" : PySem.Str) = some (.ref fa) := by
      have e : (HandSHeadRun.topDef (OpenLaw.row PySem.Challenge.rw_soundsled_k02_whole_leading).prog 24).name = ("law" : PySem.Str) := by kernel_rfl
      rw [← e]
      exact hmg0
    obtain ⟨fd, hb, hF⟩ := K02.facts (P := (PySem.Challenge.rw_soundsled_k02_whole_leading).prog) (w := w) hlaw KX G hmg c
    exact ⟨K, fd, Sd.spEnd K, KX, hb, fun H a ns hl _ hS => ⟨a, ns, rfl, hl, hS, fun _ => rfl⟩, hF⟩

theorem PySem.Challenge.cw_soundsled_k02_whole_leading_holds : PySem.Challenge.rw_soundsled_k02_whole_leading.Holds := by
  exact K02.holds fun ns _ => K02.holds_plain ns
