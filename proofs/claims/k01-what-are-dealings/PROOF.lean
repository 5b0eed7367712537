import PyProof.Rows.All
import Wide.All
import OpenK.AllK
import Wide.FinOn
import KE.KStateDown
import HandS.Base
import HandS.Call
import HandS.List
import HandS.Comp
import HandS.Dict
import HandS.Iter
import HandS.Text
import HandS.Words
import HandS.WordsList
import HandS.Exc
import HandS.WordsExc
import HandS.TupAny
import HandS.Defaults
import HandS.ExcOwn
import HandS.CallSlots
import HandS.Style
import HandS.Deep
import PyProof.Rows.IntBool
import HandS.NoneIn
import PyProof.StrLawsIn
import HandS.IsInst
import HandS.More
import PyProof.ZipIter
import KE.GoesEnumKw
import HandS.Zip
import PyProof.ReprReads
import PyProof.ReprRoads
import PyProof.StrLawsRepr
import HandS.RaiseMore
import HandS.HeadEnd
import HandS.SetTxt0
import HandS.SetFor
import HandS.Set
import HandS.Strs
import HandS.Ends
import HandS.Head0
import HandS.Head1
import HandS.Head2
import HandS.HeadHook1
import HandS.HeadHook2
import PyProof.ReprBulk
import PyProof.FitsInt
import HandS.Head4
import PySem.Challenge.RW_historyjudge_k01_what_are_dealings
section
/-! Mir: plain mirrors of the program's defs. Data without addresses; a small heap for what is changed in place. No Python here. -/
set_option linter.all false
set_option autoImplicit false
namespace Mir

/-- a text, by its code points -/
abbrev Cs := List Nat

/-- a value. lst, dct, obj: things that nobody changes any more; ref: a thing of the small heap; scr: the script -/
inductive Val where
  | non
  | bl (b : Bool)
  | int (i : Int)
  | str (s : Cs)
  | tup (xs : List Val)
  | lst (xs : List Val)
  | dct (kvs : List (Val × Val))
  | obj (c : String) (fs : List (String × Val))
  | ref (i : Nat)
  | fn (n : String)
  | scr (ns : List Int)
  deriving Inhabited

/-- a thing of the small heap: a list, a dict (its keys ints and texts; or tuples of these), an instance -/
inductive MO where
  | lst (xs : List Val)
  | dk (kvs : List (Val × Val))
  | dt (kvs : List (Val × Val))
  | ins (c : String) (fs : List (String × Val))
  deriving Inhabited

abbrev Hm := List MO
abbrev Env := List (Option Val)

/-- an exception: its class, its fields -/
structure Exc where
  c : String
  fs : List (String × Val)

/-- how an expression ends -/
inductive R (α : Type) where
  | ok (a : α) (h : Hm)
  | err (e : Exc) (h : Hm)
  | bad

def R.bind {α β : Type} (r : R α) (k : α → Hm → R β) : R β := match r with
  | .ok a h => k a h
  | .err e h => .err e h
  | .bad => .bad
@[simp] theorem R.bind_ok {α β : Type} (a : α) (h : Hm) (k : α → Hm → R β) : (R.ok a h).bind k = k a h := rfl
@[simp] theorem R.bind_err {α β : Type} (e : Exc) (h : Hm) (k : α → Hm → R β) : (R.err e h).bind k = .err e h := rfl
@[simp] theorem R.bind_bad {α β : Type} (k : α → Hm → R β) : (R.bad).bind k = .bad := rfl

/-- .. where nothing may be raised -/
def R.bindN {α β : Type} (r : R α) (k : α → Hm → R β) : R β := match r with
  | .ok a h => k a h
  | .err _ _ => .bad
  | .bad => .bad
@[simp] theorem R.bindN_ok {α β : Type} (a : α) (h : Hm) (k : α → Hm → R β) : (R.ok a h).bindN k = k a h := rfl
@[simp] theorem R.bindN_err {α β : Type} (e : Exc) (h : Hm) (k : α → Hm → R β) : (R.err e h).bindN k = .bad := rfl
@[simp] theorem R.bindN_bad {α β : Type} (k : α → Hm → R β) : (R.bad).bindN k = .bad := rfl

/-- how a def that touches no heap ends -/
inductive P where
  | ok (v : Val)
  | err (e : Exc)
  | bad

/-- how a statement ends -/
inductive SR where
  | nx (env : Env) (h : Hm)
  | rt (v : Val) (h : Hm)
  | bk (env : Env) (h : Hm)
  | ct (env : Env) (h : Hm)
  | er (e : Exc) (env : Env) (h : Hm)
  | bad

/-- an expression's end in a statement -/
def R.st {α : Type} (r : R α) (env : Env) (k : α → Hm → SR) : SR := match r with
  | .ok a h => k a h
  | .err e h => .er e env h
  | .bad => .bad
@[simp] theorem R.st_ok {α : Type} (a : α) (h : Hm) (env : Env) (k : α → Hm → SR) : (R.ok a h).st env k = k a h := rfl
@[simp] theorem R.st_err {α : Type} (e : Exc) (h : Hm) (env : Env) (k : α → Hm → SR) : (R.err e h).st env k = .er e env h := rfl
@[simp] theorem R.st_bad {α : Type} (env : Env) (k : α → Hm → SR) : (R.bad : R α).st env k = .bad := rfl
/-- a statement's end ahead of another one -/
def SR.sq (r : SR) (k : Env → Hm → SR) : SR := match r with
  | .nx env h => k env h
  | .rt v h => .rt v h
  | .bk env h => .bk env h
  | .ct env h => .ct env h
  | .er e env h => .er e env h
  | .bad => .bad
@[simp] theorem SR.sq_nx (env : Env) (h : Hm) (k : Env → Hm → SR) : (SR.nx env h).sq k = k env h := rfl
@[simp] theorem SR.sq_rt (v : Val) (h : Hm) (k : Env → Hm → SR) : (SR.rt v h).sq k = .rt v h := rfl
@[simp] theorem SR.sq_bk (env : Env) (h : Hm) (k : Env → Hm → SR) : (SR.bk env h).sq k = .bk env h := rfl
@[simp] theorem SR.sq_ct (env : Env) (h : Hm) (k : Env → Hm → SR) : (SR.ct env h).sq k = .ct env h := rfl
@[simp] theorem SR.sq_er (e : Exc) (env : Env) (h : Hm) (k : Env → Hm → SR) : (SR.er e env h).sq k = .er e env h := rfl
@[simp] theorem SR.sq_bad (k : Env → Hm → SR) : SR.bad.sq k = .bad := rfl
/-- a loop's turn ahead of the next one -/
def SR.tn (r : SR) (k : Env → Hm → SR) : SR := match r with
  | .nx env h => k env h
  | .rt v h => .rt v h
  | .bk env h => .nx env h
  | .ct env h => k env h
  | .er e env h => .er e env h
  | .bad => .bad
@[simp] theorem SR.tn_nx (env : Env) (h : Hm) (k : Env → Hm → SR) : (SR.nx env h).tn k = k env h := rfl
@[simp] theorem SR.tn_rt (v : Val) (h : Hm) (k : Env → Hm → SR) : (SR.rt v h).tn k = .rt v h := rfl
@[simp] theorem SR.tn_bk (env : Env) (h : Hm) (k : Env → Hm → SR) : (SR.bk env h).tn k = .nx env h := rfl
@[simp] theorem SR.tn_ct (env : Env) (h : Hm) (k : Env → Hm → SR) : (SR.ct env h).tn k = k env h := rfl
@[simp] theorem SR.tn_er (e : Exc) (env : Env) (h : Hm) (k : Env → Hm → SR) : (SR.er e env h).tn k = .er e env h := rfl
@[simp] theorem SR.tn_bad (k : Env → Hm → SR) : SR.bad.tn k = .bad := rfl
/-- a target's end in a statement, in a list's making -/
def gS (r : Option (Env × Hm)) (k : Env → Hm → SR) : SR := match r with
  | some p => k p.1 p.2
  | none => .bad
def gR {α : Type} (r : Option (Env × Hm)) (k : Env → Hm → R α) : R α := match r with
  | some p => k p.1 p.2
  | none => .bad
def gO (r : Option (Env × Hm)) (k : Env → Hm → Option (Env × Hm)) : Option (Env × Hm) := match r with
  | some p => k p.1 p.2
  | none => none
@[simp] theorem gS_some (p : Env × Hm) (k : Env → Hm → SR) : gS (some p) k = k p.1 p.2 := rfl
@[simp] theorem gS_none (k : Env → Hm → SR) : gS none k = .bad := rfl
@[simp] theorem gR_some {α : Type} (p : Env × Hm) (k : Env → Hm → R α) : gR (some p) k = k p.1 p.2 := rfl
@[simp] theorem gR_none {α : Type} (k : Env → Hm → R α) : gR none k = .bad := rfl
@[simp] theorem gO_some (p : Env × Hm) (k : Env → Hm → Option (Env × Hm)) : gO (some p) k = k p.1 p.2 := rfl
@[simp] theorem gO_none (k : Env → Hm → Option (Env × Hm)) : gO none k = none := rfl

abbrev E := Env → Hm → R Val
abbrev Es := Env → Hm → R (List Val)
abbrev T := Env → Hm → R Bool
abbrev S := Env → Hm → SR
/-- a target -/
abbrev G := Val → Env → Hm → Option (Env × Hm)
/-- what a loop walks: the items as they stand at its start, and what has to hold at each turn (that a list of the heap is as it was) -/
abbrev I := Env → Hm → R (List Val × (Hm → Bool))
abbrev Fn := List Val → Hm → R Val
abbrev PFn := List Val → P

/-- the machine's longest line -/
def line : Nat := 16777216

/-! ### values -/
mutual
/-- no thing of the heap in it -/
@[simp] def pureV : Val → Bool
  | .tup xs => pureL xs
  | .lst xs => pureL xs
  | .dct kvs => pureKV kvs
  | .obj _ fs => pureF fs
  | .ref _ => false
  | .non => true
  | .bl _ => true
  | .int _ => true
  | .str _ => true
  | .fn _ => true
  | .scr _ => true
@[simp] def pureL : List Val → Bool
  | [] => true
  | x :: xs => pureV x && pureL xs
@[simp] def pureKV : List (Val × Val) → Bool
  | [] => true
  | (k, v) :: r => pureV k && pureV v && pureKV r
@[simp] def pureF : List (String × Val) → Bool
  | [] => true
  | (_, v) :: r => pureV v && pureF r
end
mutual
/-- all things of the heap in it are below n -/
@[simp] def below (n : Nat) : Val → Bool
  | .tup xs => belowL n xs
  | .lst xs => belowL n xs
  | .dct kvs => belowKV n kvs
  | .obj _ fs => belowF n fs
  | .ref i => decide (i < n)
  | .non => true
  | .bl _ => true
  | .int _ => true
  | .str _ => true
  | .fn _ => true
  | .scr _ => true
@[simp] def belowL (n : Nat) : List Val → Bool
  | [] => true
  | x :: xs => below n x && belowL n xs
@[simp] def belowKV (n : Nat) : List (Val × Val) → Bool
  | [] => true
  | (k, v) :: r => below n k && below n v && belowKV n r
@[simp] def belowF (n : Nat) : List (String × Val) → Bool
  | [] => true
  | (_, v) :: r => below n v && belowF n r
end
@[simp] def belowO (n : Nat) : MO → Bool
  | .lst xs => belowL n xs
  | .dk kvs => belowKV n kvs
  | .dt kvs => belowKV n kvs
  | .ins _ fs => belowF n fs

def mapO {α β : Type} (f : α → Option β) : List α → Option (List β)
  | [] => some []
  | x :: xs => match f x, mapO f xs with
    | some y, some ys => some (y :: ys)
    | _, _ => none
/-- the heap's things from n on laid fast; d: how deep it may go -/
def frz (n : Nat) (h : Hm) : Nat → Val → Option Val
  | 0, v => if pureV v then some v else none
  | d + 1, v => if pureV v then some v else match v with
    | .tup xs => (mapO (frz n h d) xs).map .tup
    | .lst xs => (mapO (frz n h d) xs).map .lst
    | .dct kvs => (mapO (fun kv => match frz n h d kv.1, frz n h d kv.2 with | some k, some v => some (k, v) | _, _ => none) kvs).map .dct
    | .obj c fs => (mapO (fun kv => (frz n h d kv.2).map fun v => (kv.1, v)) fs).map (.obj c)
    | .ref i => if i < n then some (.ref i) else match h[i]? with
      | some (.lst xs) => (mapO (frz n h d) xs).map .lst
      | some (.dk kvs) => (mapO (fun kv => match frz n h d kv.1, frz n h d kv.2 with | some k, some v => some (k, v) | _, _ => none) kvs).map .dct
      | some (.ins c fs) => (mapO (fun kv => (frz n h d kv.2).map fun v => (kv.1, v)) fs).map (.obj c)
      | _ => none
    | _ => none
/-- as deep as it goes here -/
def deepest : Nat := 12

/-! ### whole numbers, truths -/
def toI : Val → Option Int
  | .int i => some i
  | .bl b => some (if b then 1 else 0)
  | _ => none
@[simp] theorem toI_int (i : Int) : toI (.int i) = some i := rfl

/-- an answer that touches no heap -/
def ofO (h : Hm) : Option Val → R Val
  | some v => .ok v h
  | none => .bad
@[simp] theorem ofO_some (h : Hm) (v : Val) : ofO h (some v) = .ok v h := rfl
@[simp] theorem ofO_none (h : Hm) : ofO h none = .bad := rfl

/-! ### operators -/
def b2i (b : Bool) : Int := if b then 1 else 0
/-- a list's items, by its place in the heap or as it is -/
def asL (h : Hm) : Val → Option (List Val)
  | .lst xs => some xs
  | .ref i => match h[i]? with
    | some (.lst xs) => some xs
    | _ => none
  | _ => none
@[simp] theorem asL_lst (h : Hm) (xs : List Val) : asL h (.lst xs) = some xs := rfl
def vAdd (h : Hm) : Val → Val → Option Val
  | .int i, .int j => some (.int (i + j))
  | .int i, .bl k => some (.int (i + b2i k))
  | .bl k, .int i => some (.int (b2i k + i))
  | .str s, .str t => if s.length + t.length ≤ line then some (.str (s ++ t)) else none
  | .tup xs, .tup ys => if xs.length + ys.length ≤ line then some (.tup (xs ++ ys)) else none
  | x, y => match asL h x, asL h y with
    | some xs, some ys => if xs.length + ys.length ≤ line then some (.lst (xs ++ ys)) else none
    | _, _ => none
def vSub : Val → Val → Option Val
  | .int i, .int j => some (.int (i - j))
  | .int i, .bl k => some (.int (i - b2i k))
  | .bl k, .int i => some (.int (b2i k - i))
  | _, _ => none
def small (i : Int) : Bool := decide (i.natAbs < 18446744073709551616)
def vMul : Val → Val → Option Val
  | .int i, .int j => if small i || small j then some (.int (i * j)) else none
  | _, _ => none
def vDiv : Val → Val → Option Val
  | .int i, .int j => if 0 < j ∧ j < 1073741824 then some (.int (i / j)) else none
  | _, _ => none
def vMod : Val → Val → Option Val
  | .int i, .int j => if 0 < j then some (.int (i % j)) else none
  | _, _ => none
def vPow : Val → Val → Option Val
  | .int i, .int j => if 0 ≤ j ∧ j ≤ 1000000 ∧ i.natAbs < 2 ^ 64 then some (.int (i ^ j.toNat)) else none
  | _, _ => none
def vLt : Val → Val → Option Val
  | .int i, .int j => some (.bl (decide (i < j)))
  | .str s, .str t => some (.bl (decide (s < t)))
  | _, _ => none
def vLe : Val → Val → Option Val
  | .int i, .int j => some (.bl (decide (i ≤ j)))
  | _, _ => none
def vGt : Val → Val → Option Val
  | .int i, .int j => some (.bl (decide (j < i)))
  | _, _ => none
def vGe : Val → Val → Option Val
  | .int i, .int j => some (.bl (decide (j ≤ i)))
  | _, _ => none
/-- plain data, not too deep -/
def isD : Nat → Val → Bool
  | _, .non => true
  | _, .bl _ => true
  | _, .int _ => true
  | _, .str _ => true
  | k + 1, .tup xs => xs.all (isD k)
  | k + 1, .lst xs => xs.all (isD k)
  | _, _ => false
mutual
/-- == of plain data -/
def eqv : Val → Val → Bool
  | .non, .non => true
  | .bl a, .bl b => a == b
  | .bl a, .int j => (if a then 1 else 0) == j
  | .int i, .bl b => i == (if b then 1 else 0)
  | .int i, .int j => i == j
  | .str x, .str y => x == y
  | .lst xs, .lst ys => eqvL xs ys
  | .tup xs, .tup ys => eqvL xs ys
  | _, _ => false
def eqvL : List Val → List Val → Bool
  | [], [] => true
  | x :: xs, y :: ys => eqv x y && eqvL xs ys
  | _, _ => false
end
def vEq (h : Hm) (x y : Val) : Option Val := match frz 0 h deepest x, frz 0 h deepest y with
  | some a, some b => if isD 60 a && isD 60 b then some (.bl (eqv a b)) else none
  | _, _ => none
def vNe (h : Hm) (x y : Val) : Option Val := match frz 0 h deepest x, frz 0 h deepest y with
  | some a, some b => if isD 60 a && isD 60 b then some (.bl (!eqv a b)) else none
  | _, _ => none
def isNon : Val → Bool
  | .non => true
  | _ => false
/-- is None; is True, is False -/
def vIs : Val → Val → Option Val
  | x, .non => some (.bl (isNon x))
  | .bl a, .bl b => some (.bl (decide (a = b)))
  | _, _ => none
def vIsNot : Val → Val → Option Val
  | x, .non => some (.bl (!isNon x))
  | .bl a, .bl b => some (.bl (!decide (a = b)))
  | _, _ => none
def isF : Val → Bool
  | .non => true
  | .bl _ => true
  | .int _ => true
  | .str _ => true
  | _ => false
/-- a dict's pair by its key -/
def kEq : Val → Val → Bool
  | .int i, .int j => i == j
  | .str s, .str t => s == t
  | .tup xs, .tup ys => eqvL xs ys
  | _, _ => false
def dGet (kvs : List (Val × Val)) (k : Val) : Option Val := (kvs.find? fun kv => kEq kv.1 k).map (·.2)
def isK : Val → Bool
  | .int _ => true
  | .str _ => true
  | _ => false
def isKT : Val → Bool
  | .tup xs => xs.all isK
  | _ => false
/-- a dict's pairs, where k may be a key of it -/
def asD (h : Hm) (k : Val) : Val → Option (List (Val × Val))
  | .ref i => match h[i]? with
    | some (.dk kvs) => if isK k then some kvs else none
    | some (.dt kvs) => if isKT k then some kvs else none
    | _ => none
  | _ => none
/-- x in y -/
def vIn (h : Hm) (x y : Val) : Option Bool := match y with
  | .str t => (match x with
    | .str [c] => some (decide (c ∈ t))
    | _ => none)
  | .tup ys => if isF x && ys.all isF then some (ys.any fun z => eqv z x) else none
  | y => match asD h x y with
    | some kvs => some (dGet kvs x).isSome
    | none => (match asL h y, frz 0 h deepest x with
      | some ys, some x => if isD 50 x && ys.all (isD 50) then some (ys.any fun z => eqv z x) else none
      | _, _ => none)
def vInB (h : Hm) (x y : Val) : Option Val := (vIn h x y).map .bl
def vNotIn (h : Hm) (x y : Val) : Option Val := (vIn h x y).map fun b => .bl (!b)

/-! ### expressions -/
def eV (i : Nat) : E := fun env h => match env[i]? with
  | some (some x) => .ok x h
  | _ => .bad
def eC (v : Val) : E := fun _ h => .ok v h
/-- an operator upon two values, no heap -/
def eOp (g : Val → Val → Option Val) (a b : E) : E := fun env h => (a env h).bind fun x h1 => (b env h1).bind fun y h2 => ofO h2 (g x y)
/-- an operator upon two values that looks at the heap -/
def eOpH (g : Hm → Val → Val → Option Val) (a b : E) : E := fun env h => (a env h).bind fun x h1 => (b env h1).bind fun y h2 => ofO h2 (g h2 x y)
def eUn (g : Val → Option Val) (a : E) : E := fun env h => (a env h).bind fun x h1 => ofO h1 (g x)
def eUnH (g : Hm → Val → Option Val) (a : E) : E := fun env h => (a env h).bind fun x h1 => ofO h1 (g h1 x)
/-- a test's value -/
def eIf (t : T) (a b : E) : E := fun env h => (t env h).bind fun c h1 => if c then a env h1 else b env h1
/-- a and b, a or b, not a, of truths -/
def eAnd (a b : E) : E := fun env h => (a env h).bind fun x h1 => match x with
  | .bl c => if c then b env h1 else .ok (.bl false) h1
  | _ => .bad
def eOr (a b : E) : E := fun env h => (a env h).bind fun x h1 => match x with
  | .bl c => if c then .ok (.bl true) h1 else b env h1
  | _ => .bad
def eNot (a : E) : E := fun env h => (a env h).bind fun x h1 => match x with
  | .bl c => .ok (.bl (!c)) h1
  | _ => .bad
/-- a op b op' c -/
def eChain (g g' : Val → Val → Option Val) (a b c : E) : E := fun env h => (a env h).bind fun x h1 => (b env h1).bind fun y h2 => match g x y with
  | some (.bl true) => (c env h2).bind fun z h3 => ofO h3 (g' y z)
  | some (.bl false) => .ok (.bl false) h2
  | _ => .bad

/-! ### subscripts, slices -/
def atI {α : Type} (xs : List α) (i : Int) : Option α := if 0 ≤ i then xs[i.toNat]? else if -(xs.length : Int) ≤ i then xs[(i + xs.length).toNat]? else none
/-- x[i]: a list's, a tuple's, a text's -/
def vIx (h : Hm) (x y : Val) : Option Val := match y with
  | .int i => (match x with
    | .tup xs => atI xs i
    | .str s => if s.length ≤ line then (atI s i).map fun c => .str [c] else none
    | x => match asL h x with
      | some xs => atI xs i
      | none => none)
  | _ => none
/-- d[k] -/
def vGet (h : Hm) (x y : Val) : Option Val := match asD h y x with
  | some kvs => dGet kvs y
  | none => none
abbrev O := Env → Hm → R (Option Int)
def oN : O := fun _ h => .ok none h
def oE (a : E) : O := fun env h => (a env h).bind fun x h1 => match x with
  | .int i => .ok (some i) h1
  | _ => .bad
/-- a slice's ends in so many -/
def sIx (n d : Nat) : Option Int → Nat
  | none => d
  | some i => if i < 0 then (i + n).toNat else min i.toNat n
def cut {α : Type} (xs : List α) (lo hi : Option Int) : List α := (xs.drop (sIx xs.length 0 lo)).take (sIx xs.length xs.length hi - sIx xs.length 0 lo)
def asS (h : Hm) : Val → Option (List Val)
  | .scr ns => some (ns.map .int)
  | x => asL h x
def vSl (x : Val) (lo hi : Option Int) : Option Val := match x with
  | .tup xs => some (.tup (cut xs lo hi))
  | .str s => if s.length ≤ line then some (.str (cut s lo hi)) else none
  | _ => none
/-- x[lo:hi]: a tuple's, a text's -/
def eSl (a : E) (lo hi : O) : E := fun env h => (a env h).bind fun x h1 => (lo env h1).bind fun l h2 => (hi env h2).bind fun u h3 => ofO h3 (vSl x l u)
/-- x[lo:hi]: a list's, a new list -/
def lSl (a : E) (lo hi : O) : Es := fun env h => (a env h).bind fun x h1 => (lo env h1).bind fun l h2 => (hi env h2).bind fun u h3 => match asS h3 x with
  | some xs => .ok (cut xs l u) h3
  | none => .bad
/-- xs[::-1]: a list's -/
def lRev (a : E) : Es := fun env h => (a env h).bind fun x h1 => match asS h1 x with
  | some xs => .ok xs.reverse h1
  | none => .bad

/-! ### built-ins by values -/
def eB (g : Hm → List Val → Option Val) (r : Es) : E := fun env h => (r env h).bind fun xs h1 => ofO h1 (g h1 xs)
def lO (h : Hm) : Option (List Val) → R (List Val)
  | some ys => .ok ys h
  | none => .bad
@[simp] theorem lO_some (h : Hm) (ys : List Val) : lO h (some ys) = .ok ys h := rfl
@[simp] theorem lO_none (h : Hm) : lO h none = .bad := rfl
def lB (g : Hm → List Val → Option (List Val)) (r : Es) : Es := fun env h => (r env h).bind fun xs h1 => lO h1 (g h1 xs)
def bLen (h : Hm) : List Val → Option Val
  | [.str s] => if s.length ≤ line then some (.int s.length) else none
  | [.tup xs] => some (.int xs.length)
  | [.lst xs] => some (.int xs.length)
  | [.ref i] => (match h[i]? with
    | some (.lst xs) => some (.int xs.length)
    | some (.dk kvs) => some (.int kvs.length)
    | _ => none)
  | _ => none
def bList (h : Hm) : List Val → Option (List Val)
  | [.tup xs] => some xs
  | [x] => asS h x
  | _ => none
def bTuple (h : Hm) : List Val → Option Val
  | [.tup xs] => some (.tup xs)
  | [x] => (asL h x).map .tup
  | _ => none
def intsO : List Val → Option (List Int)
  | [] => some []
  | .int i :: r => (intsO r).map (i :: ·)
  | _ => none
def strsO : List Val → Option (List Cs)
  | [] => some []
  | .str i :: r => (strsO r).map (i :: ·)
  | _ => none
def blsO : List Val → Option (List Bool)
  | [] => some []
  | .bl i :: r => (blsO r).map (i :: ·)
  | _ => none
def bSum (h : Hm) : List Val → Option Val
  | [x] => ((asL h x).bind intsO).map fun ns => .int ns.sum
  | _ => none
def maxL : Int → List Int → Int
  | m, [] => m
  | m, x :: r => maxL (if m < x then x else m) r
def minL : Int → List Int → Int
  | m, [] => m
  | m, x :: r => minL (if x < m then x else m) r
def bMax (h : Hm) : List Val → Option Val
  | [x] => (match (asL h x).bind intsO with
    | some (m :: r) => some (.int (maxL m r))
    | _ => none)
  | [.int i, .int j] => some (.int (if j > i then j else i))
  | _ => none
def bMin (h : Hm) : List Val → Option Val
  | [x] => (match (asL h x).bind intsO with
    | some (m :: r) => some (.int (minL m r))
    | _ => none)
  | [.int i, .int j] => some (.int (if j < i then j else i))
  | _ => none
def bAll (h : Hm) : List Val → Option Val
  | [x] => ((asL h x).bind blsO).map fun bs => .bl (bs.all id)
  | _ => none
def bAny (h : Hm) : List Val → Option Val
  | [x] => ((asL h x).bind blsO).map fun bs => .bl (bs.any id)
  | _ => none
def bInt (_ : Hm) : List Val → Option Val
  | [.int i] => some (.int i)
  | [.bl b] => some (.int (if b then 1 else 0))
  | _ => none
/-- sorted, put in one by one -/
def ins {α : Type} (le : α → α → Bool) (x : α) : List α → List α
  | [] => [x]
  | y :: r => if le x y then x :: y :: r else y :: ins le x r
def srt {α : Type} (le : α → α → Bool) : List α → List α
  | [] => []
  | x :: r => ins le x (srt le r)
def leI (i j : Int) : Bool := decide (i ≤ j)
def leS (s t : Cs) : Bool := !decide (t < s)
def bSorted (h : Hm) : List Val → Option (List Val)
  | [x] => (match asL h x with
    | some xs => (match intsO xs with
      | some ns => if ns.length < 64 then some ((srt leI ns).map .int) else none
      | none => (match strsO xs with
        | some ss => if ss.length < 64 then some ((srt leS ss).map .str) else none
        | none => none))
    | none => none)
  | _ => none
def kindOf (h : Hm) : Val → Option String
  | .non => some "NoneType"
  | .bl _ => some "bool"
  | .int _ => some "int"
  | .str _ => some "str"
  | .tup _ => some "tuple"
  | .lst _ => some "list"
  | .dct _ => some "dict"
  | .ref i => (match h[i]? with
    | some (.lst _) => some "list"
    | some (.dk _) => some "dict"
    | some (.dt _) => some "dict"
    | _ => none)
  | _ => none
/-- isinstance of a built-in type -/
def kit (a b : String) : Bool := a == b || (a == "bool" && b == "int") || b == "object"
def bIsi (T : String) (h : Hm) : List Val → Option Val
  | [x] => (kindOf h x).map fun a => .bl (kit a T)
  | _ => none
/-- what is walked: range(n), range(a, b) -/
def rng (lo : Int) (n : Nat) : List Val := (List.range n).map fun (i : Nat) => .int (lo + i)
def near (i : Int) : Bool := decide (i.natAbs < 4611686018427387904)
def iRange1 (a : E) : I := fun env h => (a env h).bind fun x h1 => match x with
  | .int n => if near n then .ok (rng 0 n.toNat, fun _ => true) h1 else .bad
  | _ => .bad
def iRange2 (a b : E) : I := fun env h => (a env h).bind fun x h1 => (b env h1).bind fun y h2 => match x, y with
  | .int i, .int j => if near i && near j then .ok (rng i (j - i).toNat, fun _ => true) h2 else .bad
  | _, _ => .bad
/-- a text's signs -/
def iStr (a : E) : I := fun env h => (a env h).bind fun x h1 => match x with
  | .str s => .ok (s.map fun c => .str [c], fun _ => true) h1
  | _ => .bad
/-- a list of the heap, the same at each turn -/
def sameL (i : Nat) (n : Nat) (xs : List Val) (h : Hm) : Bool := match h[i]? with
  | some (.lst ys) => decide (ys.length = xs.length)
  | _ => false

/-! ### methods of lists, dicts, texts -/
def rM (h : Hm) : Option (Val × Hm) → R Val
  | some p => .ok p.1 p.2
  | none => .bad
@[simp] theorem rM_some (h : Hm) (p : Val × Hm) : rM h (some p) = .ok p.1 p.2 := rfl
@[simp] theorem rM_none (h : Hm) : rM h none = .bad := rfl
/-- o.m(..): ty looks at o ahead of the arguments -/
def eM (ty : Hm → Val → Bool) (g : Hm → Val → List Val → Option (Val × Hm)) (o : E) (r : Es) : E := fun env h => (o env h).bind fun x h1 => if ty h1 x then (r env h1).bind fun xs h2 => rM h2 (g h2 x xs) else .bad
def tyL (h : Hm) (x : Val) : Bool := (asL h x).isSome
def tyS (_ : Hm) : Val → Bool
  | .str _ => true
  | _ => false
def tyD (h : Hm) : Val → Bool
  | .ref i => (match h[i]? with
    | some (.dk _) => true
    | some (.dt _) => true
    | _ => false)
  | _ => false
/-- a list of the heap is put otherwise -/
def onL (h : Hm) (x : Val) (g : List Val → Option (Val × List Val)) : Option (Val × Hm) := match x with
  | .ref i => (match h[i]? with
    | some (.lst xs) => (match g xs with
      | some p => if p.2.length ≤ line then some (p.1, h.set i (.lst p.2)) else none
      | none => none)
    | _ => none)
  | _ => none
def mAppend (h : Hm) (x : Val) : List Val → Option (Val × Hm)
  | [y] => onL h x fun xs => some (.non, xs ++ [y])
  | _ => none
def mInsert (h : Hm) (x : Val) : List Val → Option (Val × Hm)
  | [.int k, y] => if 0 ≤ k ∧ k < 2 ^ 63 then onL h x fun xs => some (.non, xs.take k.toNat ++ [y] ++ xs.drop k.toNat) else none
  | _ => none
def mPop (h : Hm) (x : Val) : List Val → Option (Val × Hm)
  | [] => onL h x fun xs => (xs[xs.length - 1]?).map fun y => (y, xs.dropLast)
  | _ => none
def mPopAt (h : Hm) (x : Val) : List Val → Option (Val × Hm)
  | [.int k] => if 0 ≤ k ∧ k < 2 ^ 63 then onL h x fun xs => (xs[k.toNat]?).map fun y => (y, xs.eraseIdx k.toNat) else none
  | _ => none
def mExtend (h : Hm) (x : Val) : List Val → Option (Val × Hm)
  | [y] => (match asL h y with
    | some ys => onL h x fun xs => some (.non, xs ++ ys)
    | none => none)
  | _ => none
def joinC (sep : Cs) : List Cs → Cs
  | [] => []
  | [x] => x
  | x :: y :: r => x ++ sep ++ joinC sep (y :: r)
def mJoin (h : Hm) (x : Val) : List Val → Option (Val × Hm)
  | [y] => (match x, (match y with | .tup ys => some ys | y => asL h y) with
    | .str sep, some ys => (match strsO ys with
      | some ss => if (ss.map (·.length)).sum + ss.length * sep.length ≤ 16777216 then some (.str (joinC sep ss), h) else none
      | none => none)
    | _, _ => none)
  | _ => none
/-- d.pop(k), there -/
def dDrop (kvs : List (Val × Val)) (k : Val) : List (Val × Val) := kvs.filter fun kv => !kEq kv.1 k
def dPut (kvs : List (Val × Val)) (k v : Val) : List (Val × Val) :=
  if (kvs.any fun kv => kEq kv.1 k) then kvs.map fun kv => if kEq kv.1 k then (kv.1, v) else kv else kvs ++ [(k, v)]
def mDPop (h : Hm) (x : Val) : List Val → Option (Val × Hm)
  | [k] => (match x with
    | .ref i => (match h[i]? with
      | some (.dk kvs) => if isK k then (dGet kvs k).map fun v => (v, h.set i (.dk (dDrop kvs k))) else none
      | _ => none)
    | _ => none)
  | _ => none
/-- o[i] = v -/
def setL (h : Hm) (x y v : Val) : Option Hm := match x, y with
  | .ref r, .int i => (match h[r]? with
    | some (.lst xs) => if 0 ≤ i ∧ i < xs.length then some (h.set r (.lst (xs.set i.toNat v))) else none
    | _ => none)
  | _, _ => none
def setD (h : Hm) (x k v : Val) : Option Hm := match x with
  | .ref r => (match h[r]? with
    | some (.dk kvs) => if isK k ∧ kvs.length < line then some (h.set r (.dk (dPut kvs k v))) else none
    | _ => none)
  | _ => none
/-- a new dict of the heap, its keys ints and texts -/
def aDK : E := fun _ h => .ok (.ref h.length) (h ++ [.dk []])
/-- .. of pairs (dict(..)) -/
def pairsO : List Val → Option (List (Val × Val))
  | [] => some []
  | .tup [k, v] :: r => if isK k then (pairsO r).map ((k, v) :: ·) else none
  | _ => none
def dMerge (kvs more : List (Val × Val)) : List (Val × Val) := more.foldl (fun acc kv => dPut acc kv.1 kv.2) kvs
def aDict (a : E) : E := fun env h => (a env h).bind fun x h1 => match (asL h1 x).bind pairsO with
  | some kvs => .ok (.ref h1.length) (h1 ++ [.dk (dMerge [] kvs)])
  | none => .bad
/-- sorted(d), its keys texts; ints -/
def bSortedD (h : Hm) : List Val → Option (List Val)
  | [.ref i] => (match h[i]? with
    | some (.dk kvs) => (match strsO (kvs.map (·.1)) with
      | some ss => if ss.length < 64 ∧ ss.all (fun s => s.all (· < 0x110000)) = true then some ((srt leS ss).map .str) else none
      | none => none)
    | _ => none)
  | _ => none

/-! ### tests -/
def tV (a : E) : T := fun env h => (a env h).bind fun x h1 => match x with
  | .bl c => .ok c h1
  | _ => .bad
def tAnd (a b : T) : T := fun env h => (a env h).bind fun c h1 => if c then b env h1 else .ok false h1
def tOr (a b : T) : T := fun env h => (a env h).bind fun c h1 => if c then .ok true h1 else b env h1
def tNot (a : T) : T := fun env h => (a env h).bind fun c h1 => .ok (!c) h1

/-! ### several -/
def esNil : Es := fun _ h => .ok [] h
def esCons (a : E) (r : Es) : Es := fun env h => (a env h).bind fun x h1 => (r env h1).bind fun xs h2 => .ok (x :: xs) h2
def eTup (r : Es) : E := fun env h => (r env h).bind fun xs h1 => if xs.length ≤ line then .ok (.tup xs) h1 else .bad
/-- a new list; fL: as a thing that nobody changes; aL: as a thing of the heap -/
def lLst (r : Es) : Es := fun env h => (r env h).bind fun xs h1 => if xs.length ≤ line then .ok xs h1 else .bad
def fL (r : Es) : E := fun env h => (r env h).bind fun xs h1 => .ok (.lst xs) h1
def aL (r : Es) : E := fun env h => (r env h).bind fun xs h1 => .ok (.ref h1.length) (h1 ++ [.lst xs])

/-! ### calls -/
def eP (f : PFn) (r : Es) : E := fun env h => (r env h).bind fun xs h1 => match f xs with
  | .ok v => .ok v h1
  | .err e => .err e h1
  | .bad => .bad
def eF (f : Fn) (r : Es) : E := fun env h => (r env h).bind fun xs h1 => f xs h1

/-! ### what is walked -/
def iFast (a : E) : I := fun env h => (a env h).bind fun x h1 => match x with
  | .tup xs => .ok (xs, fun _ => true) h1
  | .lst xs => .ok (xs, fun _ => true) h1
  | .scr ns => .ok (ns.map .int, fun _ => true) h1
  | _ => .bad

/-! ### statements -/
def sNil : S := fun env h => .nx env h
def sSeq (a b : S) : S := fun env h => (a env h).sq b
def sE (a : E) : S := fun env h => (a env h).st env fun _ h1 => .nx env h1
def sRet (a : E) : S := fun env h => (a env h).st env fun v h1 => .rt v h1
def sIf (t : T) (a b : S) : S := fun env h => (t env h).st env fun c h1 => if c then a env h1 else b env h1
def sAsg (g : G) (a : E) : S := fun env h => (a env h).st env fun v h1 => gS (g v env h1) fun env1 h2 => .nx env1 h2
/-- o[i] = v: v first -/
def sPut (g : Hm → Val → Val → Val → Option Hm) (o i e : E) : S := fun env h => (e env h).st env fun v h1 => (o env h1).st env fun x h2 => (i env h2).st env fun y h3 => match g h3 x y v with
  | some h4 => .nx env h4
  | none => .bad
def gN (i : Nat) : G := fun v env h => some (env.set i (some v), h)
def gNs : List G → List Val → Env → Hm → Option (Env × Hm)
  | [], [], env, h => some (env, h)
  | g :: gs, v :: vs, env, h => gO (g v env h) fun env1 h1 => gNs gs vs env1 h1
  | _, _, _, _ => none
/-- a, b = ..: of a tuple -/
def gT (gs : List G) : G := fun v env h => match v with
  | .tup xs => gNs gs xs env h
  | _ => none
def sBrk : S := fun env h => .bk env h
def sCt : S := fun env h => .ct env h

def forGo (chk : Hm → Bool) (g : G) (b : S) : List Val → Env → Hm → SR
  | [], env, h => if chk h then .nx env h else .bad
  | x :: xs, env, h => if chk h then gS (g x env h) fun env1 h1 => (b env1 h1).tn fun env2 h2 => forGo chk g b xs env2 h2 else .bad
def sFor (it : I) (g : G) (b : S) : S := fun env h => (it env h).st env fun p h1 => forGo p.2 g b p.1 env h1
def whGo (t : T) (b : S) : Nat → Env → Hm → SR
  | 0, _, _ => .bad
  | n + 1, env, h => (t env h).st env fun c h1 => if c then (b env h1).tn fun env2 h2 => whGo t b n env2 h2 else .nx env h1
/-- a while, of at most n turns -/
def sWhile (n : Nat) (t : T) (b : S) : S := whGo t b n

/-! ### a list made by a comprehension -/
def wipe (env : Env) : List Nat → Env
  | [] => env
  | i :: is => wipe (env.set i none) is
def lcGo (chk : Hm → Bool) (g : G) (t : T) (e : E) (env : Env) : List Val → List Val → Hm → R (List Val)
  | [], acc, h => if chk h then .ok acc h else .bad
  | x :: xs, acc, h => if chk h then gR (g x env h) fun env1 h1 => (t env1 h1).bindN fun c h2 =>
      if c then (e env1 h2).bindN fun y h3 => if acc.length < line then lcGo chk g t e env xs (acc ++ [y]) h3 else .bad else lcGo chk g t e env xs acc h2
    else .bad
def lC (vs : List Nat) (it : I) (g : G) (t : T) (e : E) : Es := fun env h => (it env h).bind fun p h1 => lcGo p.2 g t e (wipe env vs) p.1 [] h1
def tYes : T := fun _ h => .ok true h

/-! ### defs -/
/-- the frame at a call: n names, the parameters first -/
def frame (n : Nat) (xs : List Val) : Env := xs.map some ++ List.replicate (n - xs.length) none
/-- a def that is handed no thing of the heap, and hands back none -/
def defP (np n : Nat) (b : S) : PFn := fun xs => if xs.length = np ∧ pureL xs = true then (match b (frame n xs) [] with
  | .rt v h => (match frz 0 h deepest v with
    | some v => .ok v
    | none => .bad)
  | .nx _ _ => .ok .non
  | .er e _ h => if pureF e.fs then .err e else .bad
  | _ => .bad) else .bad
/-- a def upon things of the heap; the things that it makes are gone behind it -/
def cutH (n : Nat) (h : Hm) (v : Val) : R Val := match frz n h deepest v with
  | some v => if (h.take n).all (belowO n) then .ok v (h.take n) else .bad
  | none => .bad
def defS (np n : Nat) (b : S) : Fn := fun xs h => if xs.length = np then (match b (frame n xs) h with
  | .rt v h1 => cutH h.length h1 v
  | .nx _ h1 => cutH h.length h1 .non
  | .er e _ h1 => if pureF e.fs && (h1.take h.length).all (belowO h.length) then .err e (h1.take h.length) else .bad
  | _ => .bad) else .bad
/-- .. they stay -/
def defA (np n : Nat) (b : S) : Fn := fun xs h => if xs.length = np then (match b (frame n xs) h with
  | .rt v h1 => .ok v h1
  | .nx _ h1 => .ok .non h1
  | .er e _ h1 => .err e h1
  | _ => .bad) else .bad
end Mir
end

section
set_option linter.all false
set_option autoImplicit false
/-! Mir2: more forms. -/
namespace Mir
/-- zip(a, b, strict=True) of two lists that nobody changes, of one length -/
def zipV (xs ys : List Val) : List Val := (xs.zip ys).map fun p => .tup [p.1, p.2]
def iZipS (r : Es) : I := fun env h => (r env h).bind fun vs h1 => match vs with
  | [.lst xs, .lst ys] => if xs.length = ys.length then .ok (zipV xs ys, fun _ => true) h1 else .bad
  | _ => .bad
/-- x == (), x == [] of a tuple, a list of anything -/
def isE (h : Hm) : Val → Val → Option Bool
  | .tup xs, .tup [] => some xs.isEmpty
  | .tup _, _ => none
  | x, y => match asL h x, asL h y with
    | some xs, some [] => some xs.isEmpty
    | _, _ => none
def vEqE (h : Hm) (x y : Val) : Option Val := (isE h x y).map .bl
def vNeE (h : Hm) (x y : Val) : Option Val := (isE h x y).map fun b => .bl (!b)
def vNeg : Val → Option Val
  | .int i => some (.int (-i))
  | _ => none
/-- {}, {k: v} that nobody changes -/
def fDK : E := fun _ h => .ok (.dct []) h
def fD1 (k v : E) : E := fun env h => (k env h).bind fun x h1 => (v env h1).bind fun y h2 => if isK x then .ok (.dct [(x, y)]) h2 else .bad
/-- xs[::-1] of a tuple -/
def vRevT : Val → Option Val
  | .tup xs => some (.tup xs.reverse)
  | _ => none
/-- sorted(set(..)) of texts -/
def dd : List Cs → List Cs → List Cs
  | l, [] => l
  | l, k :: r => dd (if k ∈ l then l else k :: l) r
def bSortSet (h : Hm) : List Val → Option (List Val)
  | [x] => (match (asL h x).bind strsO with
    | some ss => if ss.length < 64 then some ((srt leS (dd [] ss)).map .str) else none
    | none => none)
  | _ => none
/-- a, b = x, y -/
def sSw2 (i j : Nat) (r : Es) : S := fun env h => (r env h).st env fun xs h1 => match xs with
  | [x, y] => .nx ((env.set i (some x)).set j (some y)) h1
  | _ => .bad
def sSw3 (i j l : Nat) (r : Es) : S := fun env h => (r env h).st env fun xs h1 => match xs with
  | [x, y, z] => .nx (((env.set i (some x)).set j (some y)).set l (some z)) h1
  | _ => .bad
end Mir
end

section
set_option linter.all false
set_option Elab.async false
set_option maxRecDepth 100000
set_option maxHeartbeats 1000000
/-! Sim: a mirror's run is what the machine does. The relation of values, heaps, frames. -/
namespace Sim
open PySem L2
abbrev Val := Mir.Val
abbrev MO := Mir.MO
abbrev Hm := Mir.Hm

/-- where the mirror's things stand: Z the addresses of things that nobody changes, ρ those of the small heap -/
structure View where
  Z : Addr → Prop
  ρ : Nat → Addr

/-- the text's own things -/
structure Gam where
  K : PySem.W.Frag
  cls : String → Addr → Prop
  fnv : String → V → Prop

def toS (s : Mir.Cs) : Str := ⟨s.toArray⟩
def keyV : Key → Val
  | .inl i => .int i
  | .inr x => .str x.cps.toList

/-- a written tuple -/
def KTup (K : PySem.W.Frag) (a : Addr) (xs : List V) : Prop :=
  ∃ (o : Obj) (its : Array Value) (n : Nat), K.lookup a = some o ∧ o.cls = .type "tuple" ∧ o.data = .seq its n ∧ its.size ≤ sizeLine ∧ Vals xs its.toList
/-- the script -/
def ScrAt (Γ : Gam) (G : View) (H : Hp) (a : Addr) (xs : List V) : Prop := (G.Z a ∧ Rd H a (.lst xs)) ∨
  ∃ (o : Obj) (its : Array Value) (n : Nat), Γ.K.lookup a = some o ∧ o.cls = .type "list" ∧ o.dict = none ∧ o.data = .seq its n ∧ its.size ≤ sizeLine ∧ Vals xs its.toList
theorem ScrAt.sq {Γ : Gam} {G : View} {H : Hp} {a : Addr} {xs : List V} (s : ScrAt Γ G H a xs) : SqL Γ.K H a xs := s.elim (fun s => .inl s.2) .inr
def TupAt (Γ : Gam) (G : View) (H : Hp) (a : Addr) (xs : List V) : Prop := (G.Z a ∧ H a = some (.tup xs)) ∨ KTup Γ.K a xs

mutual
inductive RV (Γ : Gam) (G : View) (n : Nat) (H : Hp) : V → Val → Prop
  | non : RV Γ G n H .non .non
  | bl (b : Bool) : RV Γ G n H (.bl b) (.bl b)
  | int (i : Int) : RV Γ G n H (.int i) (.int i)
  | str (s : Mir.Cs) : s.all (· < 0x110000) = true → RV Γ G n H (.str (toS s)) (.str s)
  | tup {a : Addr} {vs : List V} {xs : List Val} : TupAt Γ G H a vs → RVs Γ G n H vs xs → RV Γ G n H (.ref a) (.tup xs)
  | lst {a : Addr} {vs : List V} {xs : List Val} : G.Z a → H a = some (.lst vs) → RVs Γ G n H vs xs → RV Γ G n H (.ref a) (.lst xs)
  | dk {a : Addr} {kvs : List (Key × V)} {ys : List (Val × Val)} : G.Z a → H a = some (.dK kvs) → RKs Γ G n H kvs ys → RV Γ G n H (.ref a) (.dct ys)
  | dt {a : Addr} {kvs : List (List Key × V)} {ys : List (Val × Val)} : G.Z a → H a = some (.dT kvs) → RTs Γ G n H kvs ys → RV Γ G n H (.ref a) (.dct ys)
  | obj {a C dx : Addr} {fs : List (Str × V)} {c : String} {ys : List (String × Val)} : G.Z a → H a = some (.ins C dx fs) → Γ.cls c C → RFs Γ G n H fs ys → RV Γ G n H (.ref a) (.obj c ys)
  | ref (i : Nat) : i < n → RV Γ G n H (.ref (G.ρ i)) (.ref i)
  | fn {f : String} {v : V} : Γ.fnv f v → RV Γ G n H v (.fn f)
  | scr {a : Addr} {ns : List Int} : ScrAt Γ G H a (ns.map V.int) → RV Γ G n H (.ref a) (.scr ns)
inductive RVs (Γ : Gam) (G : View) (n : Nat) (H : Hp) : List V → List Val → Prop
  | nil : RVs Γ G n H [] []
  | cons {v : V} {x : Val} {vs : List V} {xs : List Val} : RV Γ G n H v x → RVs Γ G n H vs xs → RVs Γ G n H (v :: vs) (x :: xs)
inductive RKs (Γ : Gam) (G : View) (n : Nat) (H : Hp) : List (Key × V) → List (Val × Val) → Prop
  | nil : RKs Γ G n H [] []
  | cons {k : Key} {v : V} {x : Val} {vs : List (Key × V)} {xs : List (Val × Val)} : RV Γ G n H v x → RKs Γ G n H vs xs → RKs Γ G n H ((k, v) :: vs) ((keyV k, x) :: xs)
inductive RTs (Γ : Gam) (G : View) (n : Nat) (H : Hp) : List (List Key × V) → List (Val × Val) → Prop
  | nil : RTs Γ G n H [] []
  | cons {k : List Key} {v : V} {x : Val} {vs : List (List Key × V)} {xs : List (Val × Val)} : RV Γ G n H v x → RTs Γ G n H vs xs → RTs Γ G n H ((k, v) :: vs) ((.tup (k.map keyV), x) :: xs)
inductive RFs (Γ : Gam) (G : View) (n : Nat) (H : Hp) : List (Str × V) → List (String × Val) → Prop
  | nil : RFs Γ G n H [] []
  | cons {f : String} {v : V} {x : Val} {vs : List (Str × V)} {xs : List (String × Val)} : RV Γ G n H v x → RFs Γ G n H vs xs → RFs Γ G n H ((Str.ofString f, v) :: vs) ((f, x) :: xs)
end

inductive RO (Γ : Gam) (G : View) (n : Nat) (H : Hp) : HO → MO → Prop
  | lst {vs : List V} {xs : List Val} : RVs Γ G n H vs xs → RO Γ G n H (.lst vs) (.lst xs)
  | dk {kvs : List (Key × V)} {ys : List (Val × Val)} : RKs Γ G n H kvs ys → RO Γ G n H (.dK kvs) (.dk ys)
  | dt {kvs : List (List Key × V)} {ys : List (Val × Val)} : RTs Γ G n H kvs ys → RO Γ G n H (.dT kvs) (.dt ys)
  | ins {C dx : Addr} {fs : List (Str × V)} {c : String} {ys : List (String × Val)} : Γ.cls c C → RFs Γ G n H fs ys → RO Γ G n H (.ins C dx fs) (.ins c ys)

structure RH (Γ : Gam) (G : View) (h : Hm) (H : Hp) : Prop where
  zd : ∀ a, G.Z a → H a ≠ none
  zr : ∀ i, i < h.length → ¬ G.Z (G.ρ i)
  inj : ∀ i j, i < h.length → j < h.length → G.ρ i = G.ρ j → i = j
  ob : ∀ i o, h[i]? = some o → ∃ u, H (G.ρ i) = some u ∧ RO Γ G h.length H u o

/-- what a step leaves -/
structure Ext (G : View) (n : Nat) (H : Hp) (G' : View) (n' : Nat) (H' : Hp) : Prop where
  z : ∀ a, G.Z a → G'.Z a
  r : ∀ i, i < n → G'.ρ i = G.ρ i
  le : n ≤ n'
  fr : ∀ a o, H a = some o → (∀ i, i < n → a ≠ G.ρ i) → H' a = some o
  dm : ∀ a, H a ≠ none → H' a ≠ none
  zn : ∀ a, G'.Z a → G.Z a ∨ H a = none
  rn : ∀ i, n ≤ i → i < n' → H (G'.ρ i) = none

section
variable {Γ : Gam} {G G1 G2 : View} {n n1 n2 : Nat} {H H1 H2 : Hp} {h h1 h2 : Hm}
theorem Ext.refl (G : View) (n : Nat) (H : Hp) : Ext G n H G n H :=
  ⟨fun _ z => z, fun _ _ => rfl, Nat.le_refl _, fun _ _ e _ => e, fun _ e => e, fun _ z => .inl z, fun i a b => absurd (Nat.lt_of_lt_of_le b a) (Nat.lt_irrefl _)⟩
theorem Ext.trans (x : Ext G n H G1 n1 H1) (y : Ext G1 n1 H1 G2 n2 H2) : Ext G n H G2 n2 H2 := by
  refine ⟨fun a z => y.z a (x.z a z), fun i hi => (y.r i (Nat.lt_of_lt_of_le hi x.le)).trans (x.r i hi), Nat.le_trans x.le y.le, fun a o e hn => ?_, fun a e => y.dm a (x.dm a e), fun a z => ?_, fun i h1 h2 => ?_⟩
  · refine y.fr a o (x.fr a o e hn) fun i hi => ?_
    by_cases c : i < n
    · rw [x.r i c]
      exact hn i c
    · intro q
      have := x.rn i (Nat.le_of_not_lt c) hi
      rw [← q, e] at this
      cases this
  · rcases y.zn a z with z1 | z1
    · exact x.zn a z1
    · refine .inr ?_
      cases q : H a with
      | none => rfl
      | some o => exact absurd z1 (x.dm a (by rw [q]; intro k; cases k))
  · by_cases c : i < n1
    · rw [y.r i c]
      exact x.rn i h1 c
    · have q := y.rn i (Nat.le_of_not_lt c) h2
      cases q2 : H (G2.ρ i) with
      | none => rfl
      | some o => exact absurd q (x.dm _ (by rw [q2]; intro k; cases k))
/-- what nobody changes is as it was -/
theorem Ext.zk (x : Ext G n H G1 n1 H1) (zr : ∀ i, i < n → ¬ G.Z (G.ρ i)) {a : Addr} {o : HO} (z : G.Z a) (e : H a = some o) : H1 a = some o :=
  x.fr a o e fun i hi q => zr i hi (q ▸ z)

/-- all that a value leans on is as it was -/
structure Up (G : View) (n : Nat) (H : Hp) (G' : View) (n' : Nat) (H' : Hp) : Prop where
  z : ∀ a, G.Z a → G'.Z a
  k : ∀ a o, G.Z a → H a = some o → H' a = some o
  r : ∀ i, i < n → G'.ρ i = G.ρ i
  le : n ≤ n'
theorem Ext.up (x : Ext G n H G1 n1 H1) (zr : ∀ i, i < n → ¬ G.Z (G.ρ i)) : Up G n H G1 n1 H1 := ⟨x.z, fun _ _ z e => x.zk zr z e, x.r, x.le⟩
theorem TupAt.mono (x : Up G n H G1 n1 H1) {a : Addr} {vs : List V} (t : TupAt Γ G H a vs) : TupAt Γ G1 H1 a vs := by
  rcases t with ⟨z, e⟩ | t
  · exact .inl ⟨x.z a z, x.k _ _ z e⟩
  · exact .inr t
mutual
theorem RV.mono (x : Up G n H G1 n1 H1) {v : V} {y : Val} (r : RV Γ G n H v y) : RV Γ G1 n1 H1 v y := by
  cases r with
  | non => exact .non
  | bl b => exact .bl b
  | int i => exact .int i
  | str s h => exact .str s h
  | tup t r => exact .tup (t.mono x) (RVs.mono x r)
  | lst z e r => exact .lst (x.z _ z) (x.k _ _ z e) (RVs.mono x r)
  | dk z e r => exact .dk (x.z _ z) (x.k _ _ z e) (RKs.mono x r)
  | dt z e r => exact .dt (x.z _ z) (x.k _ _ z e) (RTs.mono x r)
  | obj z e c r => exact .obj (x.z _ z) (x.k _ _ z e) c (RFs.mono x r)
  | ref i hi =>
    rw [← x.r i hi]
    exact .ref i (Nat.lt_of_lt_of_le hi x.le)
  | fn e => exact .fn e
  | scr s =>
    rcases s with ⟨z, s⟩ | s
    · refine .scr (.inl ⟨x.z _ z, ?_⟩)
      rcases s with s | ⟨o, s⟩
      · exact .inl (x.k _ _ z s)
      · exact .inr ⟨o, x.k _ _ z s⟩
    · exact .scr (.inr s)
theorem RVs.mono (x : Up G n H G1 n1 H1) {v : List V} {y : List Val} (r : RVs Γ G n H v y) : RVs Γ G1 n1 H1 v y := by
  cases r with
  | nil => exact .nil
  | cons r s => exact .cons (RV.mono x r) (RVs.mono x s)
theorem RKs.mono (x : Up G n H G1 n1 H1) {v : List (Key × V)} {y : List (Val × Val)} (r : RKs Γ G n H v y) : RKs Γ G1 n1 H1 v y := by
  cases r with
  | nil => exact .nil
  | cons r s => exact .cons (RV.mono x r) (RKs.mono x s)
theorem RTs.mono (x : Up G n H G1 n1 H1) {v : List (List Key × V)} {y : List (Val × Val)} (r : RTs Γ G n H v y) : RTs Γ G1 n1 H1 v y := by
  cases r with
  | nil => exact .nil
  | cons r s => exact .cons (RV.mono x r) (RTs.mono x s)
theorem RFs.mono (x : Up G n H G1 n1 H1) {v : List (Str × V)} {y : List (String × Val)} (r : RFs Γ G n H v y) : RFs Γ G1 n1 H1 v y := by
  cases r with
  | nil => exact .nil
  | cons r s => exact .cons (RV.mono x r) (RFs.mono x s)
end
theorem RO.mono (x : Up G n H G1 n1 H1) {u : HO} {o : MO} (r : RO Γ G n H u o) : RO Γ G1 n1 H1 u o := by
  cases r with
  | lst r => exact .lst (r.mono x)
  | dk r => exact .dk (r.mono x)
  | dt r => exact .dt (r.mono x)
  | ins c r => exact .ins c (r.mono x)
theorem RV.ext (r : RH Γ G h H) (x : Ext G h.length H G1 n1 H1) {v : V} {y : Val} (rv : RV Γ G h.length H v y) : RV Γ G1 n1 H1 v y := rv.mono (x.up r.zr)
theorem RVs.ext (r : RH Γ G h H) (x : Ext G h.length H G1 n1 H1) {v : List V} {y : List Val} (rv : RVs Γ G h.length H v y) : RVs Γ G1 n1 H1 v y := rv.mono (x.up r.zr)
theorem RVs.length {v : List V} {y : List Val} (r : RVs Γ G n H v y) : v.length = y.length := by
  induction y generalizing v with
  | nil => cases r; rfl
  | cons y ys ih => cases r with | cons _ r => simp [ih r]
theorem RVs.get {v : List V} {y : List Val} (r : RVs Γ G n H v y) {i : Nat} {a : Val} (e : y[i]? = some a) : ∃ b, v[i]? = some b ∧ RV Γ G n H b a := by
  induction y generalizing v i with
  | nil => simp at e
  | cons y ys ih =>
    cases r with
    | cons r0 r =>
      cases i with
      | zero =>
        simp at e
        subst e
        exact ⟨_, rfl, r0⟩
      | succ i =>
        simp at e
        obtain ⟨b, h1, h2⟩ := ih r e
        exact ⟨b, by simpa using h1, h2⟩
theorem RVs.app {v w : List V} {x y : List Val} (r : RVs Γ G n H v x) (s : RVs Γ G n H w y) : RVs Γ G n H (v ++ w) (x ++ y) := by
  induction x generalizing v with
  | nil => cases r; exact s
  | cons x xs ih => cases r with | cons r0 r => exact .cons r0 (ih r)
theorem RVs.take {v : List V} {x : List Val} (k : Nat) (r : RVs Γ G n H v x) : RVs Γ G n H (v.take k) (x.take k) := by
  induction x generalizing v k with
  | nil => cases r; simpa using RVs.nil
  | cons x xs ih =>
    cases r with
    | cons r0 r =>
      cases k with
      | zero => exact .nil
      | succ k => exact .cons r0 (ih k r)
theorem RVs.drop {v : List V} {x : List Val} (k : Nat) (r : RVs Γ G n H v x) : RVs Γ G n H (v.drop k) (x.drop k) := by
  induction x generalizing v k with
  | nil => cases r; simpa using RVs.nil
  | cons x xs ih =>
    cases r with
    | cons r0 r =>
      cases k with
      | zero => exact .cons r0 r
      | succ k => exact ih k r
theorem RVs.rev {v : List V} {x : List Val} (r : RVs Γ G n H v x) : RVs Γ G n H v.reverse x.reverse := by
  induction x generalizing v with
  | nil => cases r; simpa using RVs.nil
  | cons x xs ih =>
    cases r with
    | cons r0 r =>
      rw [List.reverse_cons, List.reverse_cons]
      exact (ih r).app (.cons r0 .nil)
theorem RVs.set {v : List V} {x : List Val} {a : V} {b : Val} (k : Nat) (r : RVs Γ G n H v x) (q : RV Γ G n H a b) : RVs Γ G n H (v.set k a) (x.set k b) := by
  induction x generalizing v k with
  | nil => cases r; exact .nil
  | cons x xs ih =>
    cases r with
    | cons r0 r =>
      cases k with
      | zero => exact .cons q r
      | succ k => exact .cons r0 (ih k r)
theorem RVs.ints {v : List V} {is : List Int} (r : RVs Γ G n H v (is.map .int)) : v = is.map V.int := by
  induction is generalizing v with
  | nil => cases r; rfl
  | cons i is ih =>
    cases r with
    | cons r0 r =>
      cases r0
      rw [ih r]
      rfl
theorem RVs.of_ints (is : List Int) : RVs Γ G n H (is.map V.int) (is.map .int) := by
  induction is with
  | nil => exact .nil
  | cons i is ih => exact .cons (.int i) ih

/-- new things that nobody changes; the rest as it was -/
theorem ext_new {Z' : Addr → Prop} (r : RH Γ G h H) (sm : Same H H1) (z : ∀ a, G.Z a → Z' a) (zz : ∀ a, Z' a → G.Z a ∨ H a = none) : Ext G h.length H ⟨Z', G.ρ⟩ h.length H1 :=
  ⟨z, fun _ _ => rfl, Nat.le_refl _, fun a o e _ => sm a o e, (fun a e => by
    cases q : H a with
    | none => exact absurd q e
    | some o =>
      rw [sm a o q]
      intro k
      cases k), zz, fun i a b => absurd (Nat.lt_of_lt_of_le b a) (Nat.lt_irrefl _)⟩
theorem rh_new {Z' : Addr → Prop} (r : RH Γ G h H) (sm : Same H H1) (z : ∀ a, G.Z a → Z' a) (zz : ∀ a, Z' a → G.Z a ∨ H a = none) (zd : ∀ a, Z' a → H1 a ≠ none) : RH Γ ⟨Z', G.ρ⟩ h H1 := by
  refine ⟨zd, fun i hi q => ?_, r.inj, fun i o e => ?_⟩
  · have hi' : ∃ o, h[i]? = some o := ⟨h[i], List.getElem?_eq_getElem hi⟩
    obtain ⟨o, ho⟩ := hi'
    obtain ⟨u, e, _⟩ := r.ob i o ho
    rcases zz _ q with q | q
    · exact r.zr i hi q
    · rw [e] at q
      cases q
  · obtain ⟨u, e, ro⟩ := r.ob i o e
    exact ⟨u, sm _ _ e, ro.mono ((ext_new r sm z zz).up r.zr)⟩
/-- a step that leaves all as it was -/
theorem rh_same (r : RH Γ G h H) (sm : Same H H1) : Ext G h.length H G h.length H1 ∧ RH Γ G h H1 :=
  ⟨ext_new r sm (fun _ z => z) (fun _ z => .inl z), rh_new r sm (fun _ z => z) (fun _ z => .inl z) (fun a z q => by
    have := r.zd a z
    cases k : H a with
    | none => exact this k
    | some o =>
      rw [sm a o k] at q
      cases q)⟩
/-- one new thing that nobody changes -/
theorem new_z {p : Addr} {u : HO} (r : RH Γ G h H) (hp : H p = none) :
    Ext G h.length H ⟨fun a => G.Z a ∨ a = p, G.ρ⟩ h.length (upd H p u) ∧ RH Γ ⟨fun a => G.Z a ∨ a = p, G.ρ⟩ h (upd H p u) := by
  have sm : Same H (upd H p u) := fun b o e => by
    rw [upd_ne (ne_of_none e hp)]
    exact e
  refine ⟨ext_new r sm (fun _ z => .inl z) fun a z => z.elim .inl fun e => .inr (e ▸ hp), rh_new r sm (fun _ z => .inl z) (fun a z => z.elim .inl fun e => .inr (e ▸ hp)) fun a z q => ?_⟩
  rcases z with z | rfl
  · cases k : H a with
    | none => exact r.zd a z k
    | some o =>
      rw [sm a o k] at q
      cases q
  · rw [upd_same] at q
    cases q
/-- one new thing of the small heap -/
theorem new_r {p : Addr} {u : HO} {o : MO} (r : RH Γ G h H) (hp : H p = none) (sm : Same H H1) (e : H1 p = some u)
    (ro : ∀ G', Ext G h.length H G' (h.length + 1) H1 → G'.ρ h.length = p → RO Γ G' (h.length + 1) H1 u o) :
    ∃ G', Ext G h.length H G' (h ++ [o]).length H1 ∧ RH Γ G' (h ++ [o]) H1 ∧ G'.ρ h.length = p := by
  have en : (h ++ [o]).length = h.length + 1 := by simp
  rw [en]
  let G' : View := ⟨G.Z, fun i => if i = h.length then p else G.ρ i⟩
  have r1 : ∀ i, i < h.length → G'.ρ i = G.ρ i := fun i hi => if_neg (Nat.ne_of_lt hi)
  have rl : G'.ρ h.length = p := if_pos rfl
  have some_at : ∀ i, i < h.length → ∃ u, H (G.ρ i) = some u := fun i hi => by
    obtain ⟨u, e, _⟩ := r.ob i h[i] (List.getElem?_eq_getElem hi)
    exact ⟨u, e⟩
  have dm : ∀ a, H a ≠ none → H1 a ≠ none := fun a q => by
    cases k : H a with
    | none => exact absurd k q
    | some o =>
      rw [sm a o k]
      intro z
      cases z
  have x : Ext G h.length H G' (h.length + 1) H1 := by
    refine ⟨fun _ z => z, r1, Nat.le_succ _, fun a o e _ => sm a o e, dm, fun _ z => .inl z, fun i h1 h2 => ?_⟩
    have : i = h.length := Nat.le_antisymm (Nat.le_of_lt_succ h2) h1
    rw [this, rl]
    exact hp
  refine ⟨G', x, ⟨fun a z => dm a (r.zd a z), fun i hi q => ?_, fun i j hi hj q => ?_, fun i o' e' => ?_⟩, rl⟩
  · rw [en] at hi
    by_cases c : i < h.length
    · rw [r1 i c] at q
      exact r.zr i c q
    · have : i = h.length := Nat.le_antisymm (Nat.le_of_lt_succ hi) (Nat.le_of_not_lt c)
      rw [this, rl] at q
      exact r.zd p q hp
  · rw [en] at hi hj
    by_cases c : i < h.length
    · by_cases d : j < h.length
      · rw [r1 i c, r1 j d] at q
        exact r.inj i j c d q
      · have : j = h.length := Nat.le_antisymm (Nat.le_of_lt_succ hj) (Nat.le_of_not_lt d)
        rw [r1 i c, this, rl] at q
        obtain ⟨u, k⟩ := some_at i c
        rw [q, hp] at k
        cases k
    · have ei : i = h.length := Nat.le_antisymm (Nat.le_of_lt_succ hi) (Nat.le_of_not_lt c)
      by_cases d : j < h.length
      · rw [r1 j d, ei, rl] at q
        obtain ⟨u, k⟩ := some_at j d
        rw [← q, hp] at k
        cases k
      · rw [ei]
        exact Nat.le_antisymm (Nat.le_of_not_lt d) (Nat.le_of_lt_succ hj)
  · rw [en]
    by_cases c : i < h.length
    · rw [List.getElem?_append_left c] at e'
      obtain ⟨u, e1, ro1⟩ := r.ob i o' e'
      rw [r1 i c]
      exact ⟨u, sm _ _ e1, ro1.mono (x.up r.zr)⟩
    · rw [List.getElem?_append_right (Nat.le_of_not_lt c)] at e'
      have hi : i - h.length = 0 := by
        cases k : i - h.length with
        | zero => rfl
        | succ m =>
          rw [k] at e'
          simp at e'
      have : i = h.length := by omega
      rw [hi] at e'
      simp at e'
      subst e'
      rw [this, rl]
      exact ⟨u, e, ro G' x rl⟩
/-- a thing of the small heap is changed -/
theorem set_r {i : Nat} {u : HO} {o : MO} (r : RH Γ G h H) (hi : i < h.length) (ro : RO Γ G h.length H u o) :
    Ext G h.length H G (h.set i o).length (upd H (G.ρ i) u) ∧ RH Γ G (h.set i o) (upd H (G.ρ i) u) := by
  rw [List.length_set]
  have dm : ∀ a, H a ≠ none → upd H (G.ρ i) u a ≠ none := fun a q => by
    by_cases c : a = G.ρ i
    · rw [c, upd_same]
      intro k
      cases k
    · rw [upd_ne c]
      exact q
  have x : Ext G h.length H G h.length (upd H (G.ρ i) u) :=
    ⟨fun _ z => z, fun _ _ => rfl, Nat.le_refl _, fun a o e hn => by rw [upd_ne (hn i hi)]; exact e, dm, fun _ z => .inl z, fun j a b => absurd (Nat.lt_of_lt_of_le b a) (Nat.lt_irrefl _)⟩
  refine ⟨x, fun a z => dm a (r.zd a z), fun j hj => r.zr j (by simpa using hj), fun j k hj hk => r.inj j k (by simpa using hj) (by simpa using hk), fun j o' e => ?_⟩
  rw [List.length_set]
  by_cases c : j = i
  · subst c
    rw [List.getElem?_set_self hi] at e
    cases e
    exact ⟨u, upd_same, ro.mono (x.up r.zr)⟩
  · rw [List.getElem?_set_ne (fun q => c q.symm)] at e
    obtain ⟨u', e1, ro1⟩ := r.ob j o' e
    have hj : j < h.length := (List.getElem?_eq_some_iff.mp e).1
    refine ⟨u', ?_, ro1.mono (x.up r.zr)⟩
    rw [upd_ne fun q => c (r.inj j i hj hi q)]
    exact e1
end
end Sim
end

section
set_option linter.all false
set_option Elab.async false
set_option maxRecDepth 100000
set_option maxHeartbeats 1000000
/-! Sim: the judgements, and the rules of expressions, tests, statements, loops, comprehensions, defs. -/
namespace Sim
open PySem L2

/-- a frame's names: what the mirror knows of them -/
def RE (Γ : Gam) (G : View) (n : Nat) (H : Hp) (σ : St) (env : Mir.Env) : Prop :=
  σ.length = env.length ∧ ∀ (i : Nat) (x : Val), env[i]? = some (some x) → ∃ v, σ[i]? = some (some v) ∧ RV Γ G n H v x
/-- an exception -/
def RX (Γ : Gam) (G : View) (n : Nat) (H : Hp) (cls : Value) (d : Option Addr) (e : Mir.Exc) : Prop :=
  ∃ C, cls = .ref C ∧ Γ.cls e.c C ∧ (e.fs = [] ∨ ∃ dx fs, d = some dx ∧ G.Z dx ∧ H dx = some (.xd fs) ∧ RFs Γ G n H fs e.fs)

section
variable {Γ : Gam} {G G1 G2 : View} {n n1 n2 : Nat} {H H1 H2 : Hp} {h h1 h2 : Hm} {σ : St} {env : Mir.Env}
theorem RE.mono (x : Ext G n H G1 n1 H1) (zr : ∀ i, i < n → ¬ G.Z (G.ρ i)) (r : RE Γ G n H σ env) : RE Γ G1 n1 H1 σ env :=
  ⟨r.1, fun i y e => let ⟨v, e1, rv⟩ := r.2 i y e; ⟨v, e1, rv.mono (x.up zr)⟩⟩
theorem RE.ext (q : RH Γ G h H) (x : Ext G h.length H G1 n1 H1) (r : RE Γ G h.length H σ env) : RE Γ G1 n1 H1 σ env := r.mono x q.zr
theorem RE.set {i : Nat} {v : V} {x : Val} (r : RE Γ G n H σ env) (rv : RV Γ G n H v x) : RE Γ G n H (σ.set i (some v)) (env.set i (some x)) := by
  refine ⟨by rw [List.length_set, List.length_set]; exact r.1, fun j y e => ?_⟩
  by_cases c : j = i
  · subst c
    have hj : j < env.length := by
      have := (List.getElem?_eq_some_iff.mp e).1
      simpa using this
    rw [List.getElem?_set_self hj] at e
    cases e
    exact ⟨v, List.getElem?_set_self (r.1 ▸ hj), rv⟩
  · rw [List.getElem?_set_ne (fun q => c q.symm)] at e
    obtain ⟨w, e1, rw⟩ := r.2 j y e
    exact ⟨w, by rw [List.getElem?_set_ne (fun q => c q.symm)]; exact e1, rw⟩
theorem RE.setN {i : Nat} {w : Option V} (r : RE Γ G n H σ env) : RE Γ G n H (σ.set i w) (env.set i none) := by
  refine ⟨by rw [List.length_set, List.length_set]; exact r.1, fun j y e => ?_⟩
  by_cases c : j = i
  · subst c
    have hj : j < env.length := by
      have := (List.getElem?_eq_some_iff.mp e).1
      simpa using this
    rw [List.getElem?_set_self hj] at e
    cases e
  · rw [List.getElem?_set_ne (fun q => c q.symm)] at e
    obtain ⟨w, e1, rw⟩ := r.2 j y e
    exact ⟨w, by rw [List.getElem?_set_ne (fun q => c q.symm)]; exact e1, rw⟩
/-- a step's new σ agrees where the mirror knows nothing new -/
theorem wipe_len (env : Mir.Env) : ∀ vs : List Nat, (Mir.wipe env vs).length = env.length := by
  intro vs
  induction vs generalizing env with
  | nil => rfl
  | cons i is ih => rw [Mir.wipe, ih, List.length_set]
theorem setnone_comm {α : Type} (l : List (Option α)) (i j : Nat) : (l.set i none).set j none = (l.set j none).set i none := by
  by_cases c : i = j
  · rw [c]
  · rw [List.set_comm _ _ c]
theorem wipeM_set (env : Mir.Env) (i : Nat) : ∀ vs : List Nat, Mir.wipe (env.set i none) vs = (Mir.wipe env vs).set i none := by
  intro vs
  induction vs generalizing env with
  | nil => rfl
  | cons j is ih => rw [Mir.wipe, Mir.wipe, setnone_comm, ih]
theorem RE.wipe (r : RE Γ G n H σ env) : ∀ vs : List Nat, RE Γ G n H (L2.wipe σ vs) (Mir.wipe env vs) := by
  intro vs
  induction vs with
  | nil => exact r
  | cons i is ih =>
    rw [L2.wipe, Mir.wipe, wipeM_set]
    exact ih.setN
theorem wipe_set {σ : St} {i : Nat} {x : Option V} : ∀ {vs : List Nat}, i ∈ vs → L2.wipe (σ.set i x) vs = L2.wipe σ vs := by
  intro vs
  induction vs with
  | nil => intro h; simp at h
  | cons j is ih =>
    intro hm
    show (L2.wipe (σ.set i x) is).set j none = (L2.wipe σ is).set j none
    by_cases c : i ∈ is
    · rw [ih c]
    · have e : i = j := by
        rcases List.mem_cons.mp hm with e | e
        · exact e
        · exact absurd e c
      subst e
      have : ∀ (ks : List Nat), i ∉ ks → L2.wipe (σ.set i x) ks = (L2.wipe σ ks).set i x := by
        intro ks
        induction ks with
        | nil => intro _; rfl
        | cons k ks ih2 =>
          intro hk
          show (L2.wipe (σ.set i x) ks).set k none = ((L2.wipe σ ks).set k none).set i x
          rw [ih2 fun q => hk (List.mem_cons_of_mem _ q), List.set_comm _ _ (fun q => hk (by rw [q]; exact List.mem_cons_self))]
      rw [this is c, List.set_set]
end

/-! ### how a run ends, told of the machine -/
def okR {α : Type} (Γ : Gam) (W : WX) (σ : St) (G : View) (h : Hm) (H : Hp) (r : Mir.R α) (K : α → Hm → View → Hp → Prop) : Prop := match r with
  | .ok x h' => ∀ G' H', Ext G h.length H G' h'.length H' → RH Γ G' h' H' → K x h' G' H'
  | .err e h' => ∀ G' H' cls d, Ext G h.length H G' h'.length H' → RH Γ G' h' H' → RX Γ G' h'.length H' cls d e → W cls d σ H'
  | .bad => False
section
variable {α β : Type} {Γ : Gam} {W : WX} {σ : St} {G : View} {h : Hm} {H : Hp}
theorem okR.mono {r : Mir.R α} {K K' : α → Hm → View → Hp → Prop} (q : okR Γ W σ G h H r K)
    (f : ∀ x h' G' H', Ext G h.length H G' h'.length H' → RH Γ G' h' H' → K x h' G' H' → K' x h' G' H') : okR Γ W σ G h H r K' := by
  cases r with
  | ok x h' => exact fun G' H' e rh => f x h' G' H' e rh (q G' H' e rh)
  | err e h' => exact q
  | bad => exact q
theorem okR.bind {r : Mir.R α} {k : α → Hm → Mir.R β} {K : β → Hm → View → Hp → Prop} (q : okR Γ W σ G h H (r.bind k) K) :
    okR Γ W σ G h H r fun x h1 G1 H1 => okR Γ W σ G1 h1 H1 (k x h1) K := by
  cases r with
  | ok x h1 =>
    intro G1 H1 e1 rh1
    have q' : okR Γ W σ G h H (k x h1) K := q
    revert q'
    cases k x h1 with
    | ok y h2 => exact fun q' G2 H2 e2 rh2 => q' G2 H2 (e1.trans e2) rh2
    | err e h2 => exact fun q' G2 H2 cls d e2 rh2 rx => q' G2 H2 cls d (e1.trans e2) rh2 rx
    | bad => exact fun q' => q'
  | err e h1 => exact q
  | bad => exact q
/-- what has run already -/
theorem okR.here {x : α} {h' : Hm} {K : α → Hm → View → Hp → Prop} {G' : View} {H' : Hp} (q : okR Γ W σ G h H (.ok x h') K) (e : Ext G h.length H G' h'.length H') (rh : RH Γ G' h' H') : K x h' G' H' := q G' H' e rh
theorem okR.now {x : α} {K : α → Hm → View → Hp → Prop} (q : okR Γ W σ G h H (.ok x h) K) (rh : RH Γ G h H) : K x h G H := q G H (Ext.refl _ _ _) rh
end

abbrev KV1 (Γ : Gam) (Q : VK) : Val → Hm → View → Hp → Prop := fun x h' G' H' => ∀ v, RV Γ G' h'.length H' v x → Q v H'
def rdE (Γ : Gam) (W : WX) (f : Mir.E) : TE := fun σ H Q => ∃ G env h, RH Γ G h H ∧ RE Γ G h.length H σ env ∧ okR Γ W σ G h H (f env h) (KV1 Γ Q)
def rdT (Γ : Gam) (W : WX) (f : Mir.T) : TT := fun σ H Q => ∃ G env h, RH Γ G h H ∧ RE Γ G h.length H σ env ∧ okR Γ W σ G h H (f env h) fun c _ _ H' => Q c H'
def rdA (Γ : Gam) (W : WX) (f : Mir.Es) : TA := fun σ H Q => ∃ G env h, RH Γ G h H ∧ RE Γ G h.length H σ env ∧ okR Γ W σ G h H (f env h) fun xs h' G' H' => ∀ vs, RVs Γ G' h'.length H' vs xs → Q vs H'
/-- a new list, not yet anybody's -/
def rdL (Γ : Gam) (W : WX) (f : Mir.Es) : TE := fun σ H Q => ∃ G env h, RH Γ G h H ∧ RE Γ G h.length H σ env ∧ okR Γ W σ G h H (f env h) fun xs h' G' H' =>
  ∀ p vs, H' p = some (.lst vs) → H p = none → ¬ G'.Z p → (∀ i, i < h'.length → p ≠ G'.ρ i) → RVs Γ G' h'.length H' vs xs → Q (.ref p) H'
abbrev SimE (Γ : Gam) (X : Cx) (W : WX) (e : Expr) (f : Mir.E) : Prop := PE X e (rdE Γ W f)
abbrev SimT (Γ : Gam) (X : Cx) (W : WX) (e : Expr) (f : Mir.T) : Prop := PT X e (rdT Γ W f)
abbrev SimW (Γ : Gam) (X : Cx) (W : WX) (e : Expr) (f : Mir.T) : Prop := PW X e (rdT Γ W f)
abbrev SimA (Γ : Gam) (X : Cx) (W : WX) (es : List Expr) (f : Mir.Es) : Prop := PA X es (rdA Γ W f)
abbrev SimL (Γ : Gam) (X : Cx) (W : WX) (e : Expr) (f : Mir.Es) : Prop := PE X e (rdL Γ W f)

theorem weakE {X : Cx} {e : Expr} {t t' : TE} (p : PE X e t) (q : ∀ σ H Q, t' σ H Q → t σ H Q) : PE X e t' := ⟨fun pins s σ H Q I k => p.run pins s σ H Q I (q σ H Q k)⟩
theorem weakT {X : Cx} {e : Expr} {t t' : TT} (p : PT X e t) (q : ∀ σ H Q, t' σ H Q → t σ H Q) : PT X e t' := ⟨fun pins s σ H Q I k => p.run pins s σ H Q I (q σ H Q k)⟩
theorem weakW {X : Cx} {e : Expr} {t t' : TT} (p : PW X e t) (q : ∀ σ H Q, t' σ H Q → t σ H Q) : PW X e t' := ⟨fun wh pins s σ H Q I k => p.run wh pins s σ H Q I (q σ H Q k)⟩
theorem weakA {X : Cx} {es : List Expr} {t t' : TA} (p : PA X es t) (q : ∀ σ H Q, t' σ H Q → t σ H Q) : PA X es t' := ⟨fun pos pins s σ H Q I k => p.run pos pins s σ H Q I (q σ H Q k)⟩
theorem weakS {X : Cx} {st : Stmt} {t t' : TS} (p : PS X st t) (q : ∀ D σ H, t' D σ H → t D σ H) : PS X st t' := ⟨fun pins s σ H D I k => p.run pins s σ H D I (q D σ H k)⟩
theorem weakSs {X : Cx} {st : List Stmt} {t t' : TS} (p : PSs X st t) (q : ∀ D σ H, t' D σ H → t D σ H) : PSs X st t' := ⟨fun pins s σ H D I k => p.run pins s σ H D I (q D σ H k)⟩

section
variable {Γ : Gam} {X : Cx} {W : WX} {a b c e : Expr} {fa fb fc : Mir.E} {pos : Pos}
/-- an expression as a part of another one -/
theorem run1 {σ : St} {G : View} {env : Mir.Env} {h : Hm} {H : Hp} {β : Type} {k : Val → Hm → Mir.R β} {K : β → Hm → View → Hp → Prop} {Q : VK} (rh : RH Γ G h H) (re : RE Γ G h.length H σ env)
    (q : okR Γ W σ G h H ((fa env h).bind k) K)
    (f : ∀ x h1 G1 H1 v, Ext G h.length H G1 h1.length H1 → RH Γ G1 h1 H1 → RE Γ G1 h1.length H1 σ env → RV Γ G1 h1.length H1 v x → okR Γ W σ G1 h1 H1 (k x h1) K → Q v H1) : rdE Γ W fa σ H Q :=
  ⟨G, env, h, rh, re, q.bind.mono fun x h1 G1 H1 e1 rh1 q1 v rv => f x h1 G1 H1 v e1 rh1 (re.ext rh e1) rv q1⟩

/-! ### names, constants -/
theorem sV (i : Nat) (h : PE X a (tVar i)) : SimE Γ X W a (Mir.eV i) := by
  refine weakE h fun σ H Q ⟨G, env, h, rh, re, q⟩ => ?_
  unfold Mir.eV at q
  cases k : env[i]? with
  | none => rw [k] at q; exact q.elim
  | some o =>
    cases o with
    | none => rw [k] at q; exact q.elim
    | some x =>
      rw [k] at q
      obtain ⟨v, e1, rv⟩ := re.2 i x k
      exact ⟨v, e1, q.now rh v rv⟩
theorem sC {v : V} {x : Val} (h : PE X a (tC v)) (r : ∀ G n H, RV Γ G n H v x) : SimE Γ X W a (Mir.eC x) := by
  refine weakE h fun σ H Q ⟨G, env, h, rh, re, q⟩ => ?_
  exact q.now rh v (r _ _ _)
theorem sInt {i : Int} {j} : SimE Γ X W (.Constant (.int i) j pos) (Mir.eC (.int i)) := sC pe_int fun _ _ _ => .int i
theorem sBl {i : Bool} {j} : SimE Γ X W (.Constant (.bool i) j pos) (Mir.eC (.bl i)) := sC pe_bl fun _ _ _ => .bl i
theorem sNon {j} : SimE Γ X W (.Constant .none j pos) (Mir.eC .non) := sC pe_non fun _ _ _ => .non
theorem sStr {x : Str} {s : Mir.Cs} {j} (e : x = toS s := by decide +kernel) (h : s.all (· < 0x110000) = true := by decide +kernel) : SimE Γ X W (.Constant (.str x) j pos) (Mir.eC (.str s)) := sC pe_str fun _ _ _ => e ▸ .str s h

/-! ### operators by values -/
/-- what an operator gives of two values -/
def rd2 (Γ : Gam) (g : Hm → Val → Val → Option Val) : R2 := fun x y H Q => ∃ G h a b, RH Γ G h H ∧ RV Γ G h.length H x a ∧ RV Γ G h.length H y b ∧ ∃ z, g h a b = some z ∧
  ∀ G' H' v, Ext G h.length H G' h.length H' → RH Γ G' h H' → RV Γ G' h.length H' v z → Q v H'
theorem ofO_ok {σ : St} {G : View} {h : Hm} {H : Hp} {o : Option Val} {Q : VK} (q : okR Γ W σ G h H (Mir.ofO h o) (KV1 Γ Q)) :
    ∃ z, o = some z ∧ ∀ G' H' v, Ext G h.length H G' h.length H' → RH Γ G' h H' → RV Γ G' h.length H' v z → Q v H' := by
  cases o with
  | none => exact q.elim
  | some z => exact ⟨z, rfl, fun G' H' v e rh rv => q G' H' e rh v rv⟩
theorem sOpH {t : R2 → TE → TE → TE} {g : Hm → Val → Val → Option Val} (p : PE X e (tOp (rd2 Γ g) (rdE Γ W fa) (rdE Γ W fb))) : SimE Γ X W e (Mir.eOpH g fa fb) := by
  refine weakE p fun σ H Q ⟨G, env, h, rh, re, q⟩ => ?_
  refine run1 rh re q fun x h1 G1 H1 v e1 rh1 re1 rv q1 => run1 rh1 re1 q1 fun y h2 G2 H2 w e2 rh2 re2 rw q2 => ?_
  obtain ⟨z, ez, k⟩ := ofO_ok q2
  exact ⟨G2, h2, x, y, rh2, rv.ext rh1 e2, rw, z, ez, k⟩
theorem sBinH {op : Operator} {g : Hm → Val → Val → Option Val} (o : OpR X (binaryOp op) (rd2 Γ g)) (ha : SimE Γ X W a fa) (hb : SimE Γ X W b fb) : SimE Γ X W (.BinOp a op b pos) (Mir.eOpH g fa fb) :=
  sOpH (t := tOp) (pe_op o ha hb)
theorem sBin {op : Operator} {g : Val → Val → Option Val} (o : OpR X (binaryOp op) (rd2 Γ fun _ => g)) (ha : SimE Γ X W a fa) (hb : SimE Γ X W b fb) : SimE Γ X W (.BinOp a op b pos) (Mir.eOp g fa fb) := sBinH o ha hb
theorem sCmpH {op : CmpOp} {g : Hm → Val → Val → Option Val} (o : OpR X (compareOp op) (rd2 Γ g)) (ha : SimE Γ X W a fa) (hb : SimE Γ X W b fb) (hm : behindInMarks op b = false) : SimE Γ X W (.Compare a [op] [b] pos) (Mir.eOpH g fa fb) :=
  sOpH (t := tOp) (pe_cmpR o ha hb hm)
theorem sCmp {op : CmpOp} {g : Val → Val → Option Val} (o : OpR X (compareOp op) (rd2 Γ fun _ => g)) (ha : SimE Γ X W a fa) (hb : SimE Γ X W b fb) (hm : behindInMarks op b = false) : SimE Γ X W (.Compare a [op] [b] pos) (Mir.eOp g fa fb) := sCmpH o ha hb hm
theorem stCmpH {op : CmpOp} {g : Hm → Val → Val → Option Val} (o : OpR X (compareOp op) (rd2 Γ g)) (ha : SimE Γ X W a fa) (hb : SimE Γ X W b fb) (hm : behindInMarks op b = false) : SimT Γ X W (.Compare a [op] [b] pos) (Mir.tV (Mir.eOpH g fa fb)) := by
  refine weakT (pt_cmpR o ha hb hm) fun σ H Q ⟨G, env, h, rh, re, q⟩ => ?_
  have q' : okR Γ W σ G h H ((fa env h).bind fun x h1 => (fb env h1).bind fun y h2 => (Mir.ofO h2 (g h2 x y)).bind fun z h3 => match z with | .bl c => .ok c h3 | _ => .bad) (fun c _ _ H' => Q c H') := by
    have e : Mir.tV (Mir.eOpH g fa fb) env h = ((fa env h).bind fun x h1 => (fb env h1).bind fun y h2 => (Mir.ofO h2 (g h2 x y)).bind fun z h3 => match z with | .bl c => .ok c h3 | _ => .bad) := by
      unfold Mir.tV Mir.eOpH
      cases fa env h with
      | ok x h1 =>
        show ((fb env h1).bind _).bind _ = (fb env h1).bind _
        cases fb env h1 <;> rfl
      | err _ _ => rfl
      | bad => rfl
    rw [e] at q
    exact q
  refine run1 rh re q' fun x h1 G1 H1 v e1 rh1 re1 rv q1 => run1 rh1 re1 q1 fun y h2 G2 H2 w e2 rh2 re2 rw q2 => ?_
  cases o : g h2 x y with
  | none => rw [o] at q2; exact q2.elim
  | some z =>
    rw [o] at q2
    refine ⟨G2, h2, x, y, rh2, rv.ext rh1 e2, rw, z, o, fun G' H' u e3 rh3 ru => ?_⟩
    cases z with
    | bl c =>
      cases ru
      exact ⟨c, rfl, q2 G' H' e3 rh3⟩
    | _ => exact q2.elim
theorem stCmp {op : CmpOp} {g : Val → Val → Option Val} (o : OpR X (compareOp op) (rd2 Γ fun _ => g)) (ha : SimE Γ X W a fa) (hb : SimE Γ X W b fb) (hm : behindInMarks op b = false) : SimT Γ X W (.Compare a [op] [b] pos) (Mir.tV (Mir.eOp g fa fb)) := stCmpH o ha hb hm
/-- a op b op' c -/
theorem chain_imp {g g' : Val → Val → Option Val} {σ : St} {H : Hp} {Q : VK} (q0 : rdE Γ W (Mir.eChain g g' fa fb fc) σ H Q) : tChain (rd2 Γ fun _ => g) (rd2 Γ fun _ => g') (rdE Γ W fa) (rdE Γ W fb) (rdE Γ W fc) σ H Q := by
  obtain ⟨G, env, h, rh, re, q⟩ := q0
  refine run1 rh re q fun x h1 G1 H1 v e1 rh1 re1 rv q1 => run1 rh1 re1 q1 fun y h2 G2 H2 w e2 rh2 re2 rw q2 => ?_
  cases k : g x y with
  | none => rw [k] at q2; exact q2.elim
  | some z =>
    rw [k] at q2
    refine ⟨G2, h2, x, y, rh2, rv.ext rh1 e2, rw, z, k, fun G3 H3 u e3 rh3 ru => ?_⟩
    cases z with
    | bl d =>
      cases ru
      cases d with
      | true =>
        refine ⟨true, rfl, iteT ?_⟩
        have q3 : okR Γ W σ G3 h2 H3 ((fc env h2).bind fun z h3 => Mir.ofO h3 (g' y z)) (KV1 Γ Q) := by
          have q2' : okR Γ W σ G2 h2 H2 ((fc env h2).bind fun z h3 => Mir.ofO h3 (g' y z)) (KV1 Γ Q) := q2
          revert q2'
          cases (fc env h2).bind fun z h3 => Mir.ofO h3 (g' y z) with
          | ok y h2 => exact fun q' G2 H2 e2 rh2 => q' G2 H2 (e3.trans e2) rh2
          | err e h2 => exact fun q' G2 H2 cls d e2 rh2 rx => q' G2 H2 cls d (e3.trans e2) rh2 rx
          | bad => exact fun q' => q'
        refine run1 rh3 (re2.ext rh2 e3) q3 fun zc h4 G4 H4 wc e4 rh4 re4 rwc q4 => ?_
        obtain ⟨z, ez, k⟩ := ofO_ok q4
        exact ⟨G4, h4, y, zc, rh4, (rw.ext rh2 e3).ext rh3 e4, rwc, z, ez, k⟩
      | false =>
        exact ⟨false, rfl, iteF (q2 G3 H3 e3 rh3 _ (.bl false))⟩
    | _ => exact q2.elim

theorem sChain {op op' : CmpOp} {g g' : Val → Val → Option Val} (o : OpR X (compareOp op) (rd2 Γ fun _ => g)) (o' : OpR X (compareOp op') (rd2 Γ fun _ => g')) (p : PE X e (tChain (rd2 Γ fun _ => g) (rd2 Γ fun _ => g') (rdE Γ W fa) (rdE Γ W fb) (rdE Γ W fc))) :
    SimE Γ X W e (Mir.eChain g g' fa fb fc) := weakE p fun _ _ _ q => chain_imp q
theorem tV_imp {σ : St} {H : Hp} {Q : Bool → Hp → Prop} (q : rdT Γ W (Mir.tV fa) σ H Q) : rdE Γ W fa σ H fun x H' => ∃ k, x = .bl k ∧ Q k H' := by
  obtain ⟨G, env, h, rh, re, q⟩ := q
  refine run1 rh re q fun x h1 G1 H1 v e1 rh1 re1 rv q1 => ?_
  cases x with
  | bl c =>
    cases rv
    exact ⟨c, rfl, q1.now rh1⟩
  | _ => exact q1.elim
theorem stCh {op op' : CmpOp} {g g' : Val → Val → Option Val} (o : OpR X (compareOp op) (rd2 Γ fun _ => g)) (o' : OpR X (compareOp op') (rd2 Γ fun _ => g')) (ha : SimE Γ X W a fa) (hb : SimE Γ X W b fb) (hc : SimE Γ X W c fc)
    (hm : lastMarks [op, op'] [b, c] = false := by with_unfolding_all rfl) : SimT Γ X W (.Compare a [op, op'] [b, c] pos) (Mir.tV (Mir.eChain g g' fa fb fc)) := weakT (pt_chain o o' ha hb hc hm) fun _ _ _ q => chain_imp (tV_imp q)

/-! ### tests -/
theorem stV (p : SimE Γ X W a fa) (he : ∀ whole, isTrue a X.env whole = (do let v ← whole; standAt a.pos; holding [v] (truthy v)) := by intro _; rfl) : SimT Γ X W a (Mir.tV fa) := by
  refine weakT (pt_val p he) fun σ H Q ⟨G, env, h, rh, re, q⟩ => ?_
  refine run1 rh re q fun x h1 G1 H1 v e1 rh1 re1 rv q1 => ?_
  cases x with
  | bl c =>
    cases rv
    exact ⟨c, rfl, q1.now rh1⟩
  | _ => exact q1.elim
variable {tA tB : Mir.T}
theorem runT {σ : St} {G : View} {env : Mir.Env} {h : Hm} {H : Hp} {β : Type} {k : Bool → Hm → Mir.R β} {K : β → Hm → View → Hp → Prop} {Q : Bool → Hp → Prop} (rh : RH Γ G h H) (re : RE Γ G h.length H σ env)
    (q : okR Γ W σ G h H ((tA env h).bind k) K)
    (f : ∀ x h1 G1 H1, Ext G h.length H G1 h1.length H1 → RH Γ G1 h1 H1 → RE Γ G1 h1.length H1 σ env → okR Γ W σ G1 h1 H1 (k x h1) K → Q x H1) : rdT Γ W tA σ H Q :=
  ⟨G, env, h, rh, re, q.bind.mono fun x h1 G1 H1 e1 rh1 q1 => f x h1 G1 H1 e1 rh1 (re.ext rh e1) q1⟩
theorem stAnd1 (p : SimT Γ X W a tA) : SimW Γ X W (.BoolOp .And [a] pos) tA := pw_and1 p
theorem stOr1 (p : SimT Γ X W a tA) : SimW Γ X W (.BoolOp .Or [a] pos) tA := pw_or1 p
theorem stAnd {rest : List Expr} (p : SimT Γ X W a tA) (r : SimW Γ X W (.BoolOp .And (b :: rest) pos) tB) : SimW Γ X W (.BoolOp .And (a :: b :: rest) pos) (Mir.tAnd tA tB) := by
  refine weakW (pw_and p r) fun σ H Q ⟨G, env, h, rh, re, q⟩ => ?_
  refine runT rh re q fun x h1 G1 H1 e1 rh1 re1 q1 => ?_
  cases x with
  | true => exact iteT ⟨G1, env, h1, rh1, re1, q1⟩
  | false => exact iteF (q1.now rh1)
theorem stOr {rest : List Expr} (p : SimT Γ X W a tA) (r : SimW Γ X W (.BoolOp .Or (b :: rest) pos) tB) : SimW Γ X W (.BoolOp .Or (a :: b :: rest) pos) (Mir.tOr tA tB) := by
  refine weakW (pw_or p r) fun σ H Q ⟨G, env, h, rh, re, q⟩ => ?_
  refine runT rh re q fun x h1 G1 H1 e1 rh1 re1 q1 => ?_
  cases x with
  | true => exact iteT (q1.now rh1)
  | false => exact iteF ⟨G1, env, h1, rh1, re1, q1⟩
theorem stW (p : SimW Γ X W a tA) : SimT Γ X W a tA := p.pt
theorem stNot (p : SimT Γ X W a tA) : SimT Γ X W (.UnaryOp .Not a pos) (Mir.tNot tA) := by
  refine weakT (pt_not p) fun σ H Q ⟨G, env, h, rh, re, q⟩ => ?_
  exact runT rh re q fun x h1 G1 H1 e1 rh1 re1 q1 => q1.now rh1
/-! ### and, or, not of truths; if else -/
theorem sOne {op} (p : SimE Γ X W a fa) : SimE Γ X W (.BoolOp op [a] pos) fa := pe_one p
theorem sAnd {rest : List Expr} (p : SimE Γ X W a fa) (r : SimE Γ X W (.BoolOp .And (b :: rest) pos) fb) : SimE Γ X W (.BoolOp .And (a :: b :: rest) pos) (Mir.eAnd fa fb) := by
  refine weakE (pe_and p r) fun σ H Q ⟨G, env, h, rh, re, q⟩ => ?_
  refine run1 rh re q fun x h1 G1 H1 v e1 rh1 re1 rv q1 => ?_
  cases x with
  | bl c =>
    cases rv
    refine ⟨c, rfl, ?_⟩
    cases c with
    | true => exact iteT ⟨G1, env, h1, rh1, re1, q1⟩
    | false => exact iteF (q1.now rh1 _ (.bl false))
  | _ => exact q1.elim
theorem sOr {rest : List Expr} (p : SimE Γ X W a fa) (r : SimE Γ X W (.BoolOp .Or (b :: rest) pos) fb) : SimE Γ X W (.BoolOp .Or (a :: b :: rest) pos) (Mir.eOr fa fb) := by
  refine weakE (pe_or p r) fun σ H Q ⟨G, env, h, rh, re, q⟩ => ?_
  refine run1 rh re q fun x h1 G1 H1 v e1 rh1 re1 rv q1 => ?_
  cases x with
  | bl c =>
    cases rv
    refine ⟨c, rfl, ?_⟩
    cases c with
    | true => exact iteT (q1.now rh1 _ (.bl true))
    | false => exact iteF ⟨G1, env, h1, rh1, re1, q1⟩
  | _ => exact q1.elim
theorem sNot (p : SimE Γ X W a fa) : SimE Γ X W (.UnaryOp .Not a pos) (Mir.eNot fa) := by
  refine weakE (pe_not p) fun σ H Q ⟨G, env, h, rh, re, q⟩ => ?_
  refine run1 rh re q fun x h1 G1 H1 v e1 rh1 re1 rv q1 => ?_
  cases x with
  | bl c =>
    cases rv
    exact ⟨c, rfl, q1.now rh1 _ (.bl _)⟩
  | _ => exact q1.elim
theorem sIfE (t : SimT Γ X W c tA) (p : SimE Γ X W a fa) (r : SimE Γ X W b fb) : SimE Γ X W (.IfExp c a b pos) (Mir.eIf tA fa fb) := by
  refine weakE (pe_ifExp t p r) fun σ H Q ⟨G, env, h, rh, re, q⟩ => ?_
  refine runT rh re q fun x h1 G1 H1 e1 rh1 re1 q1 => ?_
  cases x with
  | true => exact iteT ⟨G1, env, h1, rh1, re1, q1⟩
  | false => exact iteF ⟨G1, env, h1, rh1, re1, q1⟩
/-! ### several; tuples, lists -/
variable {es : List Expr} {fs : Mir.Es}
theorem saNil : SimA Γ X W [] Mir.esNil := weakA pa_nil fun σ H Q ⟨G, env, h, rh, re, q⟩ => q.now rh [] .nil
theorem saCons (p : SimE Γ X W a fa) (r : SimA Γ X W es fs) (hs : starEach (a :: es) X.env = (false, eval a X.env) :: starEach es X.env := by rfl) : SimA Γ X W (a :: es) (Mir.esCons fa fs) := by
  refine weakA (pa_cons p r hs) fun σ H Q ⟨G, env, h, rh, re, q⟩ => ?_
  refine run1 rh re q fun x h1 G1 H1 v e1 rh1 re1 rv q1 => ?_
  exact ⟨G1, env, h1, rh1, re1, q1.bind.mono fun xs h2 G2 H2 e2 rh2 q2 vs rvs => q2.now rh2 _ (.cons (rv.ext rh1 e2) rvs)⟩
theorem runA {σ : St} {G : View} {env : Mir.Env} {h : Hm} {H : Hp} {β : Type} {k : List Val → Hm → Mir.R β} {K : β → Hm → View → Hp → Prop} {Q : List V → Hp → Prop} (rh : RH Γ G h H) (re : RE Γ G h.length H σ env)
    (q : okR Γ W σ G h H ((fs env h).bind k) K)
    (f : ∀ x h1 G1 H1 v, Ext G h.length H G1 h1.length H1 → RH Γ G1 h1 H1 → RE Γ G1 h1.length H1 σ env → RVs Γ G1 h1.length H1 v x → okR Γ W σ G1 h1 H1 (k x h1) K → Q v H1) : rdA Γ W fs σ H Q :=
  ⟨G, env, h, rh, re, q.bind.mono fun x h1 G1 H1 e1 rh1 q1 v rv => f x h1 G1 H1 v e1 rh1 (re.ext rh e1) rv q1⟩
theorem line_eq : Mir.line = sizeLine := by rw [sizeLine_eq]; rfl
theorem sTup {x1} (p : SimA Γ X W es fs) : SimE Γ X W (.Tuple es x1 pos) (Mir.eTup fs) := by
  refine weakE (pe_tup p) fun σ H Q ⟨G, env, h, rh, re, q⟩ => ?_
  refine runA rh re q fun x h1 G1 H1 v e1 rh1 re1 rv q1 => ?_
  by_cases z : x.length ≤ Mir.line
  · rw [if_pos z] at q1
    refine ⟨by rw [rv.length, ← line_eq]; exact z, fun p hp => ?_⟩
    obtain ⟨e2, rh2⟩ := new_z (u := .tup v) rh1 hp
    exact q1 _ _ e2 rh2 _ (.tup (.inl ⟨.inr rfl, upd_same⟩) (rv.ext rh1 e2))
  · rw [if_neg z] at q1
    exact q1.elim
/-- a new list comes: what is left to say where it is laid -/
theorem lay_new {σ : St} {G : View} {h : Hm} {H H0 : Hp} {xs : List Val} {vs : List V} {Q : VK} {r : Mir.R (List Val)} (rh : RH Γ G h H) (rv : RVs Γ G h.length H vs xs)
    (k : ∀ G' H', Ext G h.length H G' h.length H' → RH Γ G' h H' → ∀ p vs, H' p = some (.lst vs) → H p = none → ¬ G'.Z p → (∀ i, i < h.length → p ≠ G'.ρ i) → RVs Γ G' h.length H' vs xs → Q (.ref p) H') :
    ∀ p, H p = none → Q (.ref p) (upd H p (.lst vs)) := fun p hp => by
  obtain ⟨e2, rh2⟩ := rh_same (H1 := upd H p (.lst vs)) rh fun b o e => by
    rw [upd_ne (ne_of_none e hp)]
    exact e
  refine k _ _ e2 rh2 p vs upd_same hp (fun z => rh.zd p z hp) (fun i hi q => ?_) (rv.ext rh e2)
  obtain ⟨u, e, _⟩ := rh.ob i h[i] (List.getElem?_eq_getElem hi)
  rw [← q, hp] at e
  cases e
theorem slLst (p : SimA Γ X W es fs) : SimL Γ X W (.List es pos) (Mir.lLst fs) := by
  refine weakE (pe_lst p) fun σ H Q ⟨G, env, h, rh, re, q⟩ => ?_
  refine runA rh re q fun x h1 G1 H1 v e1 rh1 re1 rv q1 => ?_
  by_cases z : x.length ≤ Mir.line
  · rw [if_pos z] at q1
    refine ⟨by rw [rv.length, ← line_eq]; exact z, ?_⟩
    refine lay_new (σ := σ) (H0 := H) (r := .bad) rh1 rv fun G' H' e' rh' p vs k1 k2 k3 k4 k5 => ?_
    refine q1 G' H' e' rh' p vs k1 ?_ k3 k4 k5
    cases o : H p with
    | none => rfl
    | some u => exact absurd k2 (e1.dm p (by rw [o]; intro z; cases z))
  · rw [if_neg z] at q1
    exact q1.elim
/-- nobody changes it any more -/
theorem add_z {G0 G : View} {n0 : Nat} {h : Hm} {H0 H : Hp} {p : Addr} {o : HO} (e : Ext G0 n0 H0 G h.length H) (rh : RH Γ G h H) (hp : H p = some o) (h0 : H0 p = none) (hr : ∀ i, i < h.length → p ≠ G.ρ i) :
    Ext G0 n0 H0 ⟨fun a => G.Z a ∨ a = p, G.ρ⟩ h.length H ∧ RH Γ ⟨fun a => G.Z a ∨ a = p, G.ρ⟩ h H ∧ Up G h.length H ⟨fun a => G.Z a ∨ a = p, G.ρ⟩ h.length H := by
  have u : Up G h.length H ⟨fun a => G.Z a ∨ a = p, G.ρ⟩ h.length H := ⟨fun _ z => .inl z, fun _ _ _ e => e, fun _ _ => rfl, Nat.le_refl _⟩
  refine ⟨⟨fun a z => .inl (e.z a z), e.r, e.le, e.fr, e.dm, fun a z => z.elim (e.zn a) fun q => .inr (q ▸ h0), e.rn⟩, ⟨fun a z => z.elim (rh.zd a) fun q => ?_, fun i hi z => z.elim (rh.zr i hi) fun q => hr i hi q.symm, rh.inj, fun i o k => ?_⟩, u⟩
  · rw [q, hp]
    intro k
    cases k
  · obtain ⟨w, e1, ro⟩ := rh.ob i o k
    exact ⟨w, e1, ro.mono u⟩
/-- it is a thing of the small heap -/
theorem add_r {G0 G : View} {n0 : Nat} {h : Hm} {H0 H : Hp} {p : Addr} {w : HO} {o : MO} (e : Ext G0 n0 H0 G h.length H) (rh : RH Γ G h H) (hp : H p = some w) (h0 : H0 p = none) (hz : ¬ G.Z p) (hr : ∀ i, i < h.length → p ≠ G.ρ i)
    (ro : RO Γ G h.length H w o) :
    ∃ G', Ext G0 n0 H0 G' (h ++ [o]).length H ∧ RH Γ G' (h ++ [o]) H ∧ Up G h.length H G' (h ++ [o]).length H ∧ G'.ρ h.length = p := by
  have en : (h ++ [o]).length = h.length + 1 := by simp
  rw [en]
  have r1 : ∀ i, i < h.length → (if i = h.length then p else G.ρ i) = G.ρ i := fun i hi => if_neg (Nat.ne_of_lt hi)
  have u : Up G h.length H ⟨G.Z, fun i => if i = h.length then p else G.ρ i⟩ (h.length + 1) H := ⟨fun _ z => z, fun _ _ _ e => e, r1, Nat.le_succ _⟩
  refine ⟨⟨G.Z, fun i => if i = h.length then p else G.ρ i⟩, ⟨e.z, fun i hi => (r1 i (Nat.lt_of_lt_of_le hi e.le)).trans (e.r i hi), Nat.le_succ_of_le e.le, e.fr, e.dm, e.zn, fun i h1 h2 => ?_⟩, ⟨rh.zd, fun i hi => ?_, fun i j hi hj q => ?_, fun i o' e' => ?_⟩, u, if_pos rfl⟩
  · show H0 (if i = h.length then p else G.ρ i) = none
    by_cases c : i = h.length
    · rw [if_pos c]
      exact h0
    · rw [if_neg c]
      exact e.rn i h1 (by omega)
  · rw [en] at hi
    show ¬ G.Z (if i = h.length then p else G.ρ i)
    by_cases c : i = h.length
    · rw [if_pos c]
      exact hz
    · rw [if_neg c]
      exact rh.zr i (by omega)
  · rw [en] at hi hj
    have q : (if i = h.length then p else G.ρ i) = (if j = h.length then p else G.ρ j) := q
    by_cases c : i = h.length
    · by_cases d : j = h.length
      · rw [c, d]
      · rw [if_pos c, if_neg d] at q
        exact absurd q (hr j (by omega))
    · by_cases d : j = h.length
      · rw [if_neg c, if_pos d] at q
        exact absurd q.symm (hr i (by omega))
      · rw [if_neg c, if_neg d] at q
        exact rh.inj i j (by omega) (by omega) q
  · rw [en]
    by_cases c : i < h.length
    · rw [List.getElem?_append_left c] at e'
      obtain ⟨w', e1, ro1⟩ := rh.ob i o' e'
      refine ⟨w', ?_, ro1.mono u⟩
      show H (if i = h.length then p else G.ρ i) = _
      rw [r1 i c]
      exact e1
    · rw [List.getElem?_append_right (Nat.le_of_not_lt c)] at e'
      have hi : i - h.length = 0 := by
        cases k : i - h.length with
        | zero => rfl
        | succ m =>
          rw [k] at e'
          simp at e'
      have ei : i = h.length := by omega
      rw [hi] at e'
      simp at e'
      subst e'
      refine ⟨w, ?_, ro.mono u⟩
      show H (if i = h.length then p else G.ρ i) = _
      rw [if_pos ei]
      exact hp
/-- a new list that nobody changes -/
theorem fL_imp {σ : St} {H : Hp} {Q : VK} (q : rdE Γ W (Mir.fL fs) σ H Q) : rdL Γ W fs σ H Q := by
  obtain ⟨G, env, h, rh, re, q⟩ := q
  refine ⟨G, env, h, rh, re, ?_⟩
  unfold Mir.fL at q
  revert q
  cases fs env h with
  | ok xs h1 =>
    intro q G1 H1 e1 rh1 p vs k1 k2 k3 k4 k5
    obtain ⟨e2, rh2, u2⟩ := add_z e1 rh1 k1 k2 k4
    exact q _ H1 e2 rh2 _ (.lst (.inr rfl) k1 (k5.mono u2))
  | err e h1 => exact fun q => q
  | bad => exact fun q => q
theorem sF (p : SimL Γ X W a fs) : SimE Γ X W a (Mir.fL fs) := weakE p fun _ _ _ q => fL_imp q
/-- a new list of the small heap -/
theorem aL_imp {σ : St} {H : Hp} {Q : VK} (q : rdE Γ W (Mir.aL fs) σ H Q) : rdL Γ W fs σ H Q := by
  obtain ⟨G, env, h, rh, re, q⟩ := q
  refine ⟨G, env, h, rh, re, ?_⟩
  unfold Mir.aL at q
  revert q
  cases fs env h with
  | ok xs h1 =>
    intro q G1 H1 e1 rh1 p vs k1 k2 k3 k4 k5
    obtain ⟨G2, e2, rh2, u2, ep⟩ := add_r e1 rh1 k1 k2 k3 k4 (.lst k5)
    have r : RV Γ G2 (h1 ++ [Mir.MO.lst xs]).length H1 (.ref (G2.ρ h1.length)) (.ref h1.length) := .ref _ (by simp)
    rw [ep] at r
    exact q _ H1 e2 rh2 _ r
  | err e h1 => exact fun q => q
  | bad => exact fun q => q
theorem sA (p : SimL Γ X W a fs) : SimE Γ X W a (Mir.aL fs) := weakE p fun _ _ _ q => aL_imp q

/-! ### statements -/
/-- a target: ts the slots that it may set -/
def okG (Γ : Gam) (ts : List Nat) (σ : St) (G : View) (h : Hm) (H : Hp) (r : Option (Mir.Env × Hm)) (Q : St → Hp → Prop) : Prop := match r with
  | some (env', h') => ∀ G' H' σ', Ext G h.length H G' h'.length H' → RH Γ G' h' H' → RE Γ G' h'.length H' σ' env' → (∀ vs, (∀ i ∈ ts, i ∈ vs) → L2.wipe σ' vs = L2.wipe σ vs) → Q σ' H'
  | none => False
def rdG (Γ : Gam) (ts : List Nat) (g : Mir.G) : TG := fun v σ H Q => ∃ G env h x, RH Γ G h H ∧ RE Γ G h.length H σ env ∧ RV Γ G h.length H v x ∧ okG Γ ts σ G h H (g x env h) Q
def rdGs (Γ : Gam) (ts : List Nat) (gs : List Mir.G) : TGs := fun us σ H Q => ∃ G env h xs, RH Γ G h H ∧ RE Γ G h.length H σ env ∧ RVs Γ G h.length H us xs ∧ okG Γ ts σ G h H (Mir.gNs gs xs env h) Q
def okS (Γ : Gam) (W : WX) (G : View) (h : Hm) (H : Hp) (r : Mir.SR) (D : Ends) : Prop := match r with
  | .nx env' h' => ∀ G' H' σ', Ext G h.length H G' h'.length H' → RH Γ G' h' H' → RE Γ G' h'.length H' σ' env' → D.nx σ' H'
  | .rt x h' => ∀ G' H' v, Ext G h.length H G' h'.length H' → RH Γ G' h' H' → RV Γ G' h'.length H' v x → D.rt v H'
  | .bk env' h' => ∀ G' H' σ', Ext G h.length H G' h'.length H' → RH Γ G' h' H' → RE Γ G' h'.length H' σ' env' → D.bk σ' H'
  | .ct env' h' => ∀ G' H' σ', Ext G h.length H G' h'.length H' → RH Γ G' h' H' → RE Γ G' h'.length H' σ' env' → D.ct σ' H'
  | .er e env' h' => ∀ G' H' σ' cls d, Ext G h.length H G' h'.length H' → RH Γ G' h' H' → RE Γ G' h'.length H' σ' env' → RX Γ G' h'.length H' cls d e → W cls d σ' H'
  | .bad => False
def rdS (Γ : Gam) (W : WX) (f : Mir.S) : TS := fun D σ H => ∃ G env h, RH Γ G h H ∧ RE Γ G h.length H σ env ∧ okS Γ W G h H (f env h) D
abbrev SimG (Γ : Gam) (X : Cx) (ts : List Nat) (e : Expr) (g : Mir.G) : Prop := PG X e (rdG Γ ts g)
abbrev SimGs (Γ : Gam) (X : Cx) (ts : List Nat) (es : List Expr) (g : List Mir.G) : Prop := PGs X es (rdGs Γ ts g)
abbrev SimS (Γ : Gam) (X : Cx) (W : WX) (s : Stmt) (f : Mir.S) : Prop := PS X s (rdS Γ W f)
abbrev SimB (Γ : Gam) (X : Cx) (W : WX) (s : List Stmt) (f : Mir.S) : Prop := PSs X s (rdS Γ W f)

theorem okS.ext {G G1 : View} {h h1 : Hm} {H H1 : Hp} {r : Mir.SR} {D : Ends} (q : okS Γ W G h H r D) (e : Ext G h.length H G1 h1.length H1) : okS Γ W G1 h1 H1 r D := by
  cases r with
  | nx env h' => exact fun G' H' σ' e' => q G' H' σ' (e.trans e')
  | rt x h' => exact fun G' H' σ' e' => q G' H' σ' (e.trans e')
  | bk env h' => exact fun G' H' σ' e' => q G' H' σ' (e.trans e')
  | ct env h' => exact fun G' H' σ' e' => q G' H' σ' (e.trans e')
  | er x env h' => exact fun G' H' σ' cls d e' => q G' H' σ' cls d (e.trans e')
  | bad => exact q
theorem weakG {X : Cx} {e : Expr} {t t' : TG} (p : PG X e t) (q : ∀ v σ H Q, t' v σ H Q → t v σ H Q) : PG X e t' := ⟨fun pins s σ H v u Q I r k => p.run pins s σ H v u Q I r (q v σ H Q k)⟩
theorem weakGs {X : Cx} {e : List Expr} {t t' : TGs} (p : PGs X e t) (q : ∀ v σ H Q, t' v σ H Q → t v σ H Q) : PGs X e t' := ⟨fun pins s σ H v u Q I r k => p.run pins s σ H v u Q I r (q v σ H Q k)⟩

theorem okG.now {ts : List Nat} {σ σ' : St} {G : View} {h : Hm} {H : Hp} {env' : Mir.Env} {Q : St → Hp → Prop} (q : okG Γ ts σ G h H (some (env', h)) Q) (rh : RH Γ G h H) (re : RE Γ G h.length H σ' env')
    (w : ∀ vs, (∀ i ∈ ts, i ∈ vs) → L2.wipe σ' vs = L2.wipe σ vs) : Q σ' H := q G H σ' (Ext.refl _ _ _) rh re w
theorem sgN (i : Nat) (h : PG X a (gName i)) : SimG Γ X [i] a (Mir.gN i) := by
  refine weakG h fun v σ H Q ⟨G, env, h, x, rh, re, rv, q⟩ => ?_
  exact okG.now q rh (re.set rv) fun vs hv => wipe_set (hv i (by simp))
theorem sgNil : SimGs Γ X [] [] [] := by
  refine weakGs pgs_nil fun v σ H Q ⟨G, env, h, xs, rh, re, rv, q⟩ => ?_
  cases rv with
  | nil => exact ⟨rfl, okG.now q rh re fun _ _ => rfl⟩
  | cons _ _ => exact q.elim
theorem sgCons {ts us : List Nat} {g : Mir.G} {gs : List Mir.G} (p : SimG Γ X ts a g) (r : SimGs Γ X us es gs)
    (hs : (assignEach (a :: es) X.env).map (·.2) = assign a X.env :: (assignEach es X.env).map (·.2) := by rfl) : SimGs Γ X (ts ++ us) (a :: es) (g :: gs) := by
  refine weakGs (pgs_cons p r hs) fun v σ H Q ⟨G, env, h, xs, rh, re, rv, q⟩ => ?_
  cases rv with
  | nil => exact q.elim
  | @cons v x vs xs r0 rs =>
    refine ⟨_, _, rfl, G, env, h, _, rh, re, r0, ?_⟩
    have q' : okG Γ (ts ++ us) σ G h H (Mir.gO (g x env h) fun env1 h1 => Mir.gNs gs xs env1 h1) Q := q
    revert q'
    cases g x env h with
    | none => exact fun q => q.elim
    | some p =>
      obtain ⟨env1, h1⟩ := p
      intro q' G1 H1 σ1 e1 rh1 re1 w1
      refine ⟨G1, env1, h1, xs, rh1, re1, rs.ext rh e1, ?_⟩
      revert q'
      show okG Γ (ts ++ us) σ G h H (Mir.gNs gs xs env1 h1) Q → _
      cases Mir.gNs gs xs env1 h1 with
      | none => exact fun q => q.elim
      | some p => exact fun q G2 H2 σ2 e2 rh2 re2 w2 => q G2 H2 σ2 (e1.trans e2) rh2 re2 fun vs hv => (w2 vs fun i hi => hv i (List.mem_append_right _ hi)).trans (w1 vs fun i hi => hv i (List.mem_append_left _ hi))
theorem TupAt.sq {Γ : Gam} {G : View} {H : Hp} {a : Addr} {xs : List V} (t : TupAt Γ G H a xs) : SqT Γ.K H a xs := t.elim (fun t => .inl (.inl t.2)) .inr
theorem sgT {ts : List Nat} {gs : List Mir.G} {k : Nat} {n : Nat} (hK : X.K = Γ.K) (hc : X.calm = true) (p : SimGs Γ X ts es gs) (hn : gs.length = n := by rfl)
    (hl : (assignEach es X.env).length = n := by rfl) (hst : (assignEach es X.env).findIdx? (·.1) = none := by rfl) : SimG Γ X ts (.Tuple es k pos) (Mir.gT gs) := by
  refine weakG (pg_tup hc p hl hst) fun v σ H Q ⟨G, env, h, x, rh, re, rv, q⟩ => ?_
  cases rv with
  | @tup a vs xs t r =>
    have q' : okG Γ ts σ G h H (Mir.gNs gs xs env h) Q := q
    refine ⟨a, vs, rfl, hK ▸ t.sq, ?_, G, env, h, xs, rh, re, r, q'⟩
    have : ∀ (gs : List Mir.G) (xs : List Val) (env : Mir.Env) (h0 : Hm), (Mir.gNs gs xs env h0) ≠ none → xs.length = gs.length := by
      intro gs
      induction gs with
      | nil =>
        intro xs env h0 k
        cases xs with
        | nil => rfl
        | cons x xs => exact absurd rfl k
      | cons g gs ih =>
        intro xs env h0 k
        cases xs with
        | nil => exact absurd rfl k
        | cons x xs =>
          simp only [Mir.gNs] at k
          cases e : g x env h0 with
          | none => rw [e] at k; exact absurd rfl k
          | some p =>
            rw [e] at k
            simp only [List.length_cons, ih xs p.1 p.2 k]
    rw [r.length, ← hn]
    refine this gs xs env h fun e => ?_
    rw [e] at q'
    exact q'.elim
  | _ => exact q.elim
/-! blocks -/
theorem sbNil : SimB Γ X W [] Mir.sNil := weakSs pss_nil fun D σ H ⟨G, env, h, rh, re, q⟩ => q G H σ (Ext.refl _ _ _) rh re
theorem sbCons {st : Stmt} {rest : List Stmt} {f g : Mir.S} (p : SimS Γ X W st f) (r : SimB Γ X W rest g) : SimB Γ X W (st :: rest) (Mir.sSeq f g) := by
  refine weakSs (pss_cons p r) fun D σ H ⟨G, env, h, rh, re, q⟩ => ⟨G, env, h, rh, re, ?_⟩
  have q' : okS Γ W G h H ((f env h).sq g) D := q
  revert q'
  cases f env h with
  | nx env1 h1 => exact fun q G1 H1 σ1 e1 rh1 re1 => ⟨G1, env1, h1, rh1, re1, okS.ext q e1⟩
  | rt x h' => exact fun q => q
  | bk env h' => exact fun q => q
  | ct env h' => exact fun q => q
  | er x env h' => exact fun q => q
  | bad => exact fun q => q
theorem sbOne {st : Stmt} {f : Mir.S} (p : SimS Γ X W st f) : SimB Γ X W [st] f := pss_one p
theorem okRS {α : Type} {σ : St} {G : View} {env : Mir.Env} {h : Hm} {H : Hp} {r : Mir.R α} {k : α → Hm → Mir.SR} {D : Ends} {K : α → Hm → View → Hp → Prop} (rh : RH Γ G h H) (re : RE Γ G h.length H σ env)
    (q : okS Γ W G h H (r.st env k) D)
    (f : ∀ x h1 G1 H1, Ext G h.length H G1 h1.length H1 → RH Γ G1 h1 H1 → RE Γ G1 h1.length H1 σ env → okS Γ W G1 h1 H1 (k x h1) D → okS Γ W G h H (k x h1) D → K x h1 G1 H1) : okR Γ W σ G h H r K := by
  cases r with
  | ok x h1 => exact fun G1 H1 e1 rh1 => f x h1 G1 H1 e1 rh1 (re.ext rh e1) (okS.ext q e1) q
  | err e h1 => exact fun G1 H1 cls d e1 rh1 rx => q G1 H1 σ cls d e1 rh1 (re.ext rh e1) rx
  | bad => exact q
theorem ssE (p : SimE Γ X W a fa) (hs : swapsWith a none pos.line X.env = pure false := by rfl) : SimS Γ X W (.Expr a pos) (Mir.sE fa) := by
  refine weakS (ps_expr p hs) fun D σ H ⟨G, env, h, rh, re, q⟩ => ⟨G, env, h, rh, re, ?_⟩
  exact okRS (k := fun _ h1 => .nx env h1) rh re q fun x h1 G1 H1 e1 rh1 re1 q1 _ v rv => q1 G1 H1 σ (Ext.refl _ _ _) rh1 re1
theorem ssRet (p : SimE Γ X W a fa) : SimS Γ X W (.Return (some a) pos) (Mir.sRet fa) := by
  refine weakS (ps_ret p) fun D σ H ⟨G, env, h, rh, re, q⟩ => ⟨G, env, h, rh, re, ?_⟩
  exact okRS (k := fun v h1 => .rt v h1) rh re q fun x h1 G1 H1 e1 rh1 re1 q1 _ v rv => q1 G1 H1 v (Ext.refl _ _ _) rh1 rv
theorem ssIf {u v : List Stmt} {f g : Mir.S} (t : SimT Γ X W c tA) (p : SimB Γ X W u f) (r : SimB Γ X W v g) : SimS Γ X W (.If c u v pos) (Mir.sIf tA f g) := by
  refine weakS (ps_if t p r) fun D σ H ⟨G, env, h, rh, re, q⟩ => ⟨G, env, h, rh, re, ?_⟩
  refine okRS (k := fun (c : Bool) h1 => if c then f env h1 else g env h1) rh re q fun x h1 G1 H1 e1 rh1 re1 q1 _ => ?_
  cases x with
  | true => exact iteT ⟨G1, env, h1, rh1, re1, q1⟩
  | false => exact iteF ⟨G1, env, h1, rh1, re1, q1⟩
theorem okGS {ts : List Nat} {σ : St} {G : View} {h : Hm} {H : Hp} {r : Option (Mir.Env × Hm)} {D : Ends} (q : okS Γ W G h H (Mir.gS r fun env1 h2 => .nx env1 h2) D) : okG Γ ts σ G h H r D.nx := by
  cases r with
  | none => exact q
  | some p => exact fun G' H' σ' e rh re _ => q G' H' σ' e rh re
theorem asg_imp {ts : List Nat} {g : Mir.G} {D : Ends} {σ : St} {H : Hp} (q : rdS Γ W (Mir.sAsg g fa) D σ H) : rdE Γ W fa σ H fun x H1 => rdG Γ ts g x σ H1 D.nx := by
  obtain ⟨G, env, h, rh, re, q⟩ := q
  refine ⟨G, env, h, rh, re, ?_⟩
  refine okRS (k := fun v h1 => Mir.gS (g v env h1) fun env1 h2 => .nx env1 h2) rh re q fun x h1 G1 H1 e1 rh1 re1 q1 _ v rv => ?_
  exact ⟨G1, env, h1, x, rh1, re1, rv, okGS q1⟩
theorem gN_imp {i : Nat} {v : V} {σ : St} {H : Hp} {Q : St → Hp → Prop} (q : rdG Γ [i] (Mir.gN i) v σ H Q) : gName i v σ H Q := by
  obtain ⟨G, env, h, x, rh, re, rv, q⟩ := q
  exact okG.now q rh (re.set rv) fun vs hv => wipe_set (hv i (by simp))
theorem ssAsg {ts : List Nat} {tg : Expr} {g : Mir.G} (p : SimE Γ X W a fa) (r : SimG Γ X ts tg g) (hs : swapsWithSole [tg] a pos.line X.env = pure false := by rfl) (hw : swappedStores [tg] a X.env = pure none := by rfl)
    (h1 : (assignEach [tg] X.env).map (·.2) = [assign tg X.env] := by rfl) : SimS Γ X W (.Assign [tg] a pos) (Mir.sAsg g fa) := by
  refine weakS (ps_asg p r hs hw h1) fun D σ H ⟨G, env, h, rh, re, q⟩ => ⟨G, env, h, rh, re, ?_⟩
  refine okRS (k := fun v h1 => Mir.gS (g v env h1) fun env1 h2 => .nx env1 h2) rh re q fun x h1 G1 H1 e1 rh1 re1 q1 _ v rv => ?_
  exact ⟨G1, env, h1, x, rh1, re1, rv, okGS q1⟩
end
end Sim
end

section
set_option linter.all false
set_option Elab.async false
set_option maxRecDepth 100000
set_option maxHeartbeats 1000000
/-! Sim: loops, comprehensions, defs and their calls. -/
namespace Sim
open PySem L2

/-- what is walked, told by its items -/
structure GoodJ (Γ : Gam) (G0 : View) (n0 : Nat) (H0 : Hp) (J : It) (items : List Val) (chk : Hm → Bool) : Prop where
  go : ∀ (i : Nat) (a : Val) (G : View) (h : Hm) (H : Hp), items[i]? = some a → Ext G0 n0 H0 G h.length H → RH Γ G h H → chk h = true →
    J.go i H ∧ ∀ x H', J.yld i H x H' → ∃ G', Ext G h.length H G' h.length H' ∧ RH Γ G' h H' ∧ RV Γ G' h.length H' x a
  stop : ∀ (G : View) (h : Hm) (H : Hp), Ext G0 n0 H0 G h.length H → RH Γ G h H → chk h = true → J.stop items.length H
def rdI (Γ : Gam) (W : WX) (f : Mir.I) : TI := fun σ H R => ∃ G env h, RH Γ G h H ∧ RE Γ G h.length H σ env ∧ okR Γ W σ G h H (f env h) fun p h' G' H' => ∀ J, GoodJ Γ G' h'.length H' J p.1 p.2 → R J H'
abbrev SimI (Γ : Gam) (X : Cx) (W : WX) (tg iter : Expr) (f : Mir.I) : Prop := PI X tg iter (rdI Γ W f)
theorem weakI {X : Cx} {tg e : Expr} {t t' : TI} (p : PI X tg e t) (q : ∀ σ H Q, t' σ H Q → t σ H Q) : PI X tg e t' := ⟨fun pins s σ H Q I k => p.run pins s σ H Q I (q σ H Q k)⟩

section
variable {Γ : Gam} {X : Cx} {W : WX} {a b c e tg iter : Expr} {fa fb fc : Mir.E} {tA : Mir.T} {pos : Pos}

theorem good_tup {G : View} {h : Hm} {H : Hp} {K : PySem.W.Frag} (hK : K = Γ.K) {p : Addr} {vs : List V} {xs : List Val} (rh : RH Γ G h H) (t : TupAt Γ G H p vs) (r : RVs Γ G h.length H vs xs) : GoodJ Γ G h.length H (Itt K p) xs (fun _ => true) := by
  subst hK
  refine ⟨fun i y G1 h1 H1 ei e1 rh1 _ => ?_, fun G1 h1 H1 e1 rh1 _ => ?_⟩
  · obtain ⟨v, ev, rv⟩ := r.get ei
    have t1 := t.mono (e1.up rh.zr)
    refine ⟨⟨vs, v, t1.sq, ev⟩, fun x H' y => ?_⟩
    obtain ⟨rfl, hy⟩ := y
    have : x = v := Option.some.inj ((hy vs t1.sq).symm.trans ev)
    subst this
    exact ⟨G1, Ext.refl _ _ _, rh1, rv.ext rh e1⟩
  · exact ⟨vs, (t.mono (e1.up rh.zr)).sq, by rw [r.length]; exact Nat.le_refl _⟩
theorem good_lst {G : View} {h : Hm} {H : Hp} {K : PySem.W.Frag} (hK : K = Γ.K) {p : Addr} {vs : List V} {xs : List Val} (rh : RH Γ G h H) (t : G.Z p ∧ H p = some (.lst vs)) (r : RVs Γ G h.length H vs xs) : GoodJ Γ G h.length H (Itl K p) xs (fun _ => true) := by
  subst hK
  have sq : ∀ G1 h1 H1, Ext G h.length H G1 h1 H1 → SqL Γ.K H1 p vs := fun G1 h1 H1 e1 => SqL.of (e1.zk rh.zr t.1 t.2)
  have inj : ∀ {H1 : Hp} {ys}, H1 p = some (.lst vs) → SqL Γ.K H1 p ys → True := fun _ _ => trivial
  refine ⟨fun i y G1 h1 H1 ei e1 rh1 _ => ?_, fun G1 h1 H1 e1 rh1 _ => ?_⟩
  · obtain ⟨v, ev, rv⟩ := r.get ei
    refine ⟨⟨vs, v, sq _ _ _ e1, ev⟩, fun x H' y => ?_⟩
    obtain ⟨rfl, hy⟩ := y
    have : x = v := Option.some.inj ((hy vs (sq _ _ _ e1)).symm.trans ev)
    subst this
    exact ⟨G1, Ext.refl _ _ _, rh1, rv.ext rh e1⟩
  · exact ⟨vs, sq _ _ _ e1, by rw [r.length]; exact Nat.le_refl _⟩
theorem good_scr {G : View} {h : Hm} {H : Hp} {K : PySem.W.Frag} (hK : K = Γ.K) {p : Addr} {ns : List Int} (rh : RH Γ G h H) (t : ScrAt Γ G H p (ns.map V.int)) : GoodJ Γ G h.length H (Itl K p) (ns.map .int) (fun _ => true) := by
  subst hK
  have sq : ∀ G1 h1 H1, Ext G h.length H G1 h1 H1 → SqL Γ.K H1 p (ns.map V.int) := fun G1 h1 H1 e1 => by
    have r : RV Γ G h.length H (.ref p) (.scr ns) := .scr t
    have r2 := r.ext rh e1
    cases r2 with
    | scr s => exact s.sq
  refine ⟨fun i y G1 h1 H1 ei e1 rh1 _ => ?_, fun G1 h1 H1 e1 rh1 _ => ?_⟩
  · obtain ⟨v, ev, rv⟩ := (RVs.of_ints (Γ := Γ) (G := G) (n := h.length) (H := H) ns).get ei
    refine ⟨⟨_, v, sq _ _ _ e1, ev⟩, fun x H' y => ?_⟩
    obtain ⟨rfl, hy⟩ := y
    have : x = v := Option.some.inj ((hy _ (sq _ _ _ e1)).symm.trans ev)
    subst this
    exact ⟨G1, Ext.refl _ _ _, rh1, rv.ext rh e1⟩
  · exact ⟨_, sq _ _ _ e1, by simp⟩
/-- a tuple, a list that nobody changes, the script -/
theorem siFast (hK : X.K = Γ.K) (p : SimE Γ X W a fa) : SimI Γ X W tg a (Mir.iFast fa) := by
  refine ⟨fun pins s σ H R I ⟨G, env, h, rh, re, q⟩ => ?_⟩
  have lay : ∀ (s1 : Shared) (H1 : Hp) (J : It) (tn : Nat → Heap → Prop) (o : Obj), Inv X pins σ H1 s1 → Turn X.prog X.w X.K tg J [s1.heap.objs.size] s1.heap.objs.size tn → tn 0 (s1.heap.push o) → R J H1 →
      PIE X pins σ tg R (.ref s1.heap.objs.size) { s1 with heap := s1.heap.push o } := fun s1 H1 J tn o I1 T st r => pi_one (tk := s1.toks) I1 o T st r
  refine thn (p.run pins s σ H (fun v H1 => ∃ a, v = .ref a ∧ (((∃ xs, SqL X.K H1 a xs) ∧ R (Itl X.K a) H1) ∨ ((∃ xs, SqT X.K H1 a xs) ∧ R (Itt X.K a) H1))) I ?_) fun v s1 ⟨x, H1, I1, r1, q1⟩ => ?_
  · refine run1 rh re q fun x h1 G1 H1 v e1 rh1 re1 rv q1 => ?_
    cases rv with
    | tup t r =>
      exact ⟨_, rfl, .inr ⟨⟨_, hK ▸ t.sq⟩, q1.now rh1 _ (good_tup hK rh1 t r)⟩⟩
    | lst z e r =>
      exact ⟨_, rfl, .inl ⟨⟨_, SqL.of e⟩, q1.now rh1 _ (good_lst hK rh1 ⟨z, e⟩ r)⟩⟩
    | scr s => exact ⟨_, rfl, .inl ⟨⟨_, hK ▸ s.sq⟩, q1.now rh1 _ (good_scr hK rh1 s)⟩⟩
    | _ => exact q1.elim
  · obtain ⟨a, rfl, q1⟩ := q1
    cases r1
    rcases q1 with ⟨⟨xs, hq⟩, q⟩ | ⟨⟨xs, hq⟩, q⟩
    · obtain ⟨its, rv, p, hz⟩ := I1.list hq
      refine wpAny_pyIter_list p.isList ?_
      exact lay s1 H1 _ _ _ I1 (turn_list a _) ⟨_, Heap.get?_push_size _ rfl, rfl, rfl⟩ q
    · obtain ⟨its, rv, p, hz⟩ := I1.tuple hq
      refine wpAny_pyIter_tuple (show s1.heap.IsTuple a its.toArray from p) ?_
      exact lay s1 H1 _ _ _ I1 (turn_tuple a _) ⟨_, Heap.get?_push_size _ rfl, rfl, rfl⟩ q

/-! ### for, while -/
theorem drop_of {α : Type} {l : List α} {i : Nat} {x : α} {r : List α} (e : l.drop i = x :: r) : l[i]? = some x ∧ l.drop (i + 1) = r ∧ i < l.length := by
  have h0 : i < l.length := by
    have := congrArg List.length e
    simp at this
    omega
  refine ⟨?_, ?_, h0⟩
  · have := congrArg (fun l => l[0]?) e
    simpa using this
  · have := congrArg (List.drop 1) e
    rw [List.drop_drop] at this
    simpa using this
theorem ssFor {ts : List Nat} {g : Mir.G} {f : Mir.I} {body : List Stmt} {fb : Mir.S} (hp : PassesOwn (model X.prog X.w) X.A X.env X.xe) (hc : X.calm = true) (hi : SimI Γ X W tg iter f) (hg : SimG Γ X ts tg g) (hb : SimB Γ X W body fb)
    (hs : ∀ x, foldedSetIterable iter X.env x = pure x := by intro _; rfl) : SimS Γ X W (.For tg iter body [] pos) (Mir.sFor f g fb) := by
  refine weakS (ps_for hp hc hi hg hb hs) fun D σ H ⟨G, env, h, rh, re, q⟩ => ⟨G, env, h, rh, re, ?_⟩
  refine okRS (k := fun (p : List Val × (Hm → Bool)) h1 => Mir.forGo p.2 g fb p.1 env h1) rh re q fun p h1 G1 H1 e1 rh1 re1 q1 _ J hJ => ?_
  obtain ⟨items, chk⟩ := p
  refine ⟨fun i m σ' H' => m = items.length - i ∧ i ≤ items.length ∧ ∃ G' env' h', Ext G1 h1.length H1 G' h'.length H' ∧ RH Γ G' h' H' ∧ RE Γ G' h'.length H' σ' env' ∧ okS Γ W G' h' H' (Mir.forGo chk g fb (items.drop i) env' h') D,
    ⟨items.length, by simp, Nat.zero_le _, G1, env, h1, Ext.refl _ _ _, rh1, re1, q1⟩, ?_⟩
  rintro i m σ2 H2 ⟨rfl, hi, G2, env2, h2, e2, rh2, re2, q2⟩
  cases ed : items.drop i with
  | nil =>
    have hl : i = items.length := by
      have := congrArg List.length ed
      simp at this
      omega
    rw [ed] at q2
    have q2 : okS Γ W G2 h2 H2 (if chk h2 then .nx env2 h2 else .bad) D := q2
    cases c : chk h2 with
    | false => rw [c] at q2; exact q2.elim
    | true =>
      rw [c] at q2
      exact .inl ⟨hl ▸ hJ.stop G2 h2 H2 e2 rh2 c, q2 G2 H2 σ2 (Ext.refl _ _ _) rh2 re2⟩
  | cons x r =>
    obtain ⟨ex, er, hlt⟩ := drop_of ed
    rw [ed] at q2
    have q2 : okS Γ W G2 h2 H2 (if chk h2 then Mir.gS (g x env2 h2) fun env1 h1 => (fb env1 h1).tn fun env2 h2 => Mir.forGo chk g fb r env2 h2 else .bad) D := q2
    cases c : chk h2 with
    | false => rw [c] at q2; exact q2.elim
    | true =>
      rw [c] at q2
      obtain ⟨go, y⟩ := hJ.go i x G2 h2 H2 ex e2 rh2 c
      refine .inr ⟨go, fun σ3 H3 => ∃ m', m' < items.length - i ∧ m' = items.length - (i + 1) ∧ i + 1 ≤ items.length ∧ ∃ G' env' h', Ext G1 h1.length H1 G' h'.length H3 ∧ RH Γ G' h' H3 ∧ RE Γ G' h'.length H3 σ3 env' ∧ okS Γ W G' h' H3 (Mir.forGo chk g fb (items.drop (i + 1)) env' h') D, fun σ3 H3 ⟨m', w1, w2, w3, w4⟩ => ⟨m', w1, w2, w3, w4⟩, fun v H3 hy => ?_⟩
      obtain ⟨G3, e3, rh3, rv⟩ := y v H3 hy
      refine ⟨G3, env2, h2, x, rh3, re2.ext rh2 e3, rv, ?_⟩
      have q3 : okS Γ W G3 h2 H3 (Mir.gS (g x env2 h2) fun env1 h1 => (fb env1 h1).tn fun env2 h2 => Mir.forGo chk g fb r env2 h2) D := okS.ext q2 e3
      revert q3
      cases g x env2 h2 with
      | none => exact fun q => q
      | some p =>
        obtain ⟨env4, h4⟩ := p
        intro q3 G4 H4 σ4 e4 rh4 re4 _
        refine ⟨G4, env4, h4, rh4, re4, ?_⟩
        have q4 : okS Γ W G4 h4 H4 ((fb env4 h4).tn fun env2 h2 => Mir.forGo chk g fb r env2 h2) D := okS.ext q3 e4
        have again : ∀ {env5 h5}, okS Γ W G4 h4 H4 (Mir.forGo chk g fb r env5 h5) D → ∀ G5 H5 σ5, Ext G4 h4.length H4 G5 h5.length H5 → RH Γ G5 h5 H5 → RE Γ G5 h5.length H5 σ5 env5 →
            ∃ m', m' < items.length - i ∧ m' = items.length - (i + 1) ∧ i + 1 ≤ items.length ∧ ∃ G' env' h', Ext G1 h1.length H1 G' h'.length H5 ∧ RH Γ G' h' H5 ∧ RE Γ G' h'.length H5 σ5 env' ∧ okS Γ W G' h' H5 (Mir.forGo chk g fb (items.drop (i + 1)) env' h') D :=
          fun {env5 h5} q5 G5 H5 σ5 e5 rh5 re5 => ⟨items.length - (i + 1), by omega, rfl, hlt, G5, env5, h5, ((e2.trans e3).trans e4).trans e5, rh5, re5, by rw [er]; exact okS.ext q5 e5⟩
        revert q4
        cases fb env4 h4 with
        | nx env5 h5 => exact fun q5 G5 H5 σ5 e5 rh5 re5 => again q5 G5 H5 σ5 e5 rh5 re5
        | ct env5 h5 => exact fun q5 G5 H5 σ5 e5 rh5 re5 => again q5 G5 H5 σ5 e5 rh5 re5
        | bk env5 h5 => exact fun q5 => q5
        | rt v h5 => exact fun q5 => q5
        | er x env5 h5 => exact fun q5 => q5
        | bad => exact fun q5 => q5
theorem ssWhile {body : List Stmt} {fb : Mir.S} (k : Nat) (hp : PassesOwn (model X.prog X.w) X.A X.env X.xe) (hc : SimT Γ X W c tA) (hb : SimB Γ X W body fb) : SimS Γ X W (.While c body [] pos) (Mir.sWhile k tA fb) := by
  refine weakS (ps_while hp hc hb) fun D σ H ⟨G, env, h, rh, re, q⟩ => ?_
  refine ⟨fun m σ' H' => ∃ G' env' h', RH Γ G' h' H' ∧ RE Γ G' h'.length H' σ' env' ∧ okS Γ W G' h' H' (Mir.whGo tA fb m env' h') D, ⟨k, G, env, h, rh, re, q⟩, ?_⟩
  rintro m σ2 H2 ⟨G2, env2, h2, rh2, re2, q2⟩
  cases m with
  | zero => exact q2.elim
  | succ m =>
    refine ⟨G2, env2, h2, rh2, re2, ?_⟩
    refine okRS (k := fun (c : Bool) h1 => if c then (fb env2 h1).tn fun env3 h3 => Mir.whGo tA fb m env3 h3 else .nx env2 h1) rh2 re2 q2 fun b h3 G3 H3 e3 rh3 re3 q3 _ => ?_
    cases b with
    | false => exact iteF (q3 G3 H3 σ2 (Ext.refl _ _ _) rh3 re3)
    | true =>
      refine iteT ⟨fun σ' H' => ∃ m', m' < m + 1 ∧ ∃ G' env' h', RH Γ G' h' H' ∧ RE Γ G' h'.length H' σ' env' ∧ okS Γ W G' h' H' (Mir.whGo tA fb m' env' h') D, fun σ' H' z => z, G3, env2, h3, rh3, re3, ?_⟩
      have q3 : okS Γ W G3 h3 H3 ((fb env2 h3).tn fun env3 h3 => Mir.whGo tA fb m env3 h3) D := q3
      revert q3
      cases fb env2 h3 with
      | nx env5 h5 => exact fun q5 G5 H5 σ5 e5 rh5 re5 => ⟨m, Nat.lt_succ_self _, G5, env5, h5, rh5, re5, okS.ext q5 e5⟩
      | ct env5 h5 => exact fun q5 G5 H5 σ5 e5 rh5 re5 => ⟨m, Nat.lt_succ_self _, G5, env5, h5, rh5, re5, okS.ext q5 e5⟩
      | bk env5 h5 => exact fun q5 => q5
      | rt v h5 => exact fun q5 => q5
      | er x env5 h5 => exact fun q5 => q5
      | bad => exact fun q5 => q5

/-! ### a list made by a comprehension -/
abbrev W0 : WX := fun _ _ _ _ => False
theorem wipe_idem (σ : St) : ∀ vs : List Nat, L2.wipe (L2.wipe σ vs) vs = L2.wipe σ vs := by
  have out : ∀ (vs : List Nat) (σ : St) (j : Nat), L2.wipe (σ.set j none) vs = (L2.wipe σ vs).set j none := by
    intro vs
    induction vs with
    | nil => intro σ j; rfl
    | cons i is ih =>
      intro σ j
      show (L2.wipe (σ.set j none) is).set i none = ((L2.wipe σ is).set i none).set j none
      rw [ih, setnone_comm]
  intro vs
  induction vs generalizing σ with
  | nil => rfl
  | cons i is ih =>
    show (L2.wipe ((L2.wipe σ is).set i none) is).set i none = (L2.wipe σ is).set i none
    rw [out, ih, List.set_set]
abbrev SimTs (Γ : Gam) (X : Cx) (ifs : List Expr) (f : Mir.T) : Prop := PTs X ifs (rdT Γ W0 f)
theorem stNil : SimTs Γ X [] Mir.tYes := by
  have p : PTs X [] tYes := pts_nil
  refine ⟨fun pins s σ H Q I ⟨G, env, h, rh, re, q⟩ => p.run pins s σ H Q I ?_⟩
  exact q.now rh
theorem stOne (p : SimT Γ X W0 a tA) : SimTs Γ X [a] tA := pts_one p
/-- what stands by itself: it is as it was -/
structure Own (G : View) (n : Nat) (H : Hp) (D : Addr) (vs : List V) : Prop where
  at' : H D = some (.lst vs)
  z : ¬ G.Z D
  r : ∀ i, i < n → D ≠ G.ρ i
theorem Own.ext {G G' : View} {n n' : Nat} {H H' : Hp} {D : Addr} {vs : List V} (o : Own G n H D vs) (e : Ext G n H G' n' H') : Own G' n' H' D vs := by
  refine ⟨e.fr D _ o.at' o.r, fun z => ?_, fun i hi q => ?_⟩
  · rcases e.zn D z with z | z
    · exact o.z z
    · rw [o.at'] at z; cases z
  · by_cases c : i < n
    · rw [e.r i c] at q
      exact o.r i c q
    · have := e.rn i (Nat.le_of_not_lt c) hi
      rw [← q, o.at'] at this
      cases this
theorem up_own {G : View} {n : Nat} {H : Hp} {D : Addr} {u : HO} (z : ¬ G.Z D) : Up G n H G n (upd H D u) :=
  ⟨fun _ z => z, fun a o za e => by rw [upd_ne (show a ≠ D from fun q => z (by rw [← q]; exact za))]; exact e, fun _ _ => rfl, Nat.le_refl _⟩
theorem rh_own {G : View} {h : Hm} {H : Hp} {D : Addr} {u : HO} (rh : RH Γ G h H) (z : ¬ G.Z D) (r : ∀ i, i < h.length → D ≠ G.ρ i) : RH Γ G h (upd H D u) := by
  refine ⟨fun a za => ?_, rh.zr, rh.inj, fun i o e => ?_⟩
  · rw [upd_ne (show a ≠ D from fun q => z (by rw [← q]; exact za))]
    exact rh.zd a za
  · obtain ⟨w, e1, ro⟩ := rh.ob i o e
    have hi : i < h.length := (List.getElem?_eq_some_iff.mp e).1
    exact ⟨w, by rw [upd_ne fun q => r i hi q.symm]; exact e1, ro.mono (up_own z)⟩
theorem ext_own {G0 G : View} {n0 n : Nat} {H0 H : Hp} {D : Addr} {u : HO} (e : Ext G0 n0 H0 G n H) (h0 : H0 D = none) : Ext G0 n0 H0 G n (upd H D u) := by
  refine ⟨e.z, e.r, e.le, fun a o ea hn => ?_, fun a ea => ?_, e.zn, e.rn⟩
  · rw [upd_ne (ne_of_none ea h0)]
    exact e.fr a o ea hn
  · by_cases c : a = D
    · rw [c, upd_same]
      intro k
      cases k
    · rw [upd_ne c]
      exact e.dm a ea
theorem rdL_mono {fs : Mir.Es} {σ : St} {H : Hp} {Q Q' : VK} (q : rdL Γ W fs σ H Q) (f : ∀ v H, Q v H → Q' v H) : rdL Γ W fs σ H Q' := by
  obtain ⟨G, env, h, rh, re, q⟩ := q
  exact ⟨G, env, h, rh, re, q.mono fun xs h' G' H' e rh' k p vs k1 k2 k3 k4 k5 => f _ _ (k p vs k1 k2 k3 k4 k5)⟩
theorem tLc_of {f : Mir.I} {g : Mir.G} {t : Mir.T} {el : Mir.E} {ts vs : List Nat} (hts : ∀ i ∈ ts, i ∈ vs) {σ : St} {H : Hp} {Q : VK} (q : rdL Γ W (Mir.lC vs f g t el) σ H Q) :
    tLc (rdI Γ W f) (rdG Γ ts g) (rdT Γ W0 t) (rdE Γ W0 el) vs σ H Q := by
  obtain ⟨G, env, h, rh, re, q⟩ := q
  refine ⟨G, env, h, rh, re, ?_⟩
  have q : okR Γ W σ G h H ((f env h).bind fun p h1 => Mir.lcGo p.2 g t el (Mir.wipe env vs) p.1 [] h1) _ := q
  revert q
  cases ef : f env h with
  | bad => exact fun q => q
  | err e h1 => exact fun q => q
  | ok p h1 =>
    obtain ⟨items, chk⟩ := p
    intro q G1 H1 e1 rh1 J hJ D hD
    have hD0 : H D = none := by
      cases o : H D with
      | none => rfl
      | some u => exact absurd hD (e1.dm D (by rw [o]; intro z; cases z))
    have re1 := re.ext rh e1
    have q : okR Γ W σ G h H (Mir.lcGo chk g t el (Mir.wipe env vs) items [] h1) fun xs h' G' H' =>
      ∀ p vs, H' p = some (.lst vs) → H p = none → ¬ G'.Z p → (∀ i, i < h'.length → p ≠ G'.ρ i) → RVs Γ G' h'.length H' vs xs → Q (.ref p) H' := q
    have z1 : ¬ G1.Z D := fun z => rh1.zd D z hD
    have r1 : ∀ i, i < h1.length → D ≠ G1.ρ i := fun i hi q => by
      obtain ⟨u, e, _⟩ := rh1.ob i h1[i] (List.getElem?_eq_getElem hi)
      rw [← q, hD] at e
      cases e
    refine ⟨fun i m H' => m = items.length - i ∧ i ≤ items.length ∧ ∃ G' h' acc va, Ext G1 h1.length H1 G' h'.length H' ∧ RH Γ G' h' H' ∧ Own G' h'.length H' D va ∧ RVs Γ G' h'.length H' va acc ∧
        okR Γ W σ G h H (Mir.lcGo chk g t el (Mir.wipe env vs) (items.drop i) acc h') fun xs h' G' H' => ∀ p vs, H' p = some (.lst vs) → H p = none → ¬ G'.Z p → (∀ i, i < h'.length → p ≠ G'.ρ i) → RVs Γ G' h'.length H' vs xs → Q (.ref p) H',
      ⟨items.length, by simp, Nat.zero_le _, G1, h1, [], [], ext_own (Ext.refl _ _ _) hD, rh_own rh1 z1 r1, ⟨upd_same, z1, r1⟩, .nil, q⟩, ?_⟩
    rintro i m H2 ⟨rfl, hi, G2, h2, acc, va, e2, rh2, o2, ra2, q2⟩
    cases ed : items.drop i with
    | nil =>
      have hl : i = items.length := by
        have := congrArg List.length ed
        simp at this
        omega
      rw [ed] at q2
      have q2 : okR Γ W σ G h H (if chk h2 then .ok acc h2 else .bad) _ := q2
      cases c : chk h2 with
      | false => rw [c] at q2; exact q2.elim
      | true =>
        rw [c] at q2
        exact .inl ⟨hl ▸ hJ.stop G2 h2 H2 e2 rh2 c, q2 G2 H2 (e1.trans e2) rh2 D va o2.at' hD0 o2.z o2.r ra2⟩
    | cons x r =>
      obtain ⟨ex, er, hlt⟩ := drop_of ed
      rw [ed] at q2
      have q2 : okR Γ W σ G h H (if chk h2 then Mir.gR (g x (Mir.wipe env vs) h2) fun env1 h1 => (t env1 h1).bindN fun c h2 =>
          if c then (el env1 h2).bindN fun y h3 => if acc.length < Mir.line then Mir.lcGo chk g t el (Mir.wipe env vs) r (acc ++ [y]) h3 else .bad else Mir.lcGo chk g t el (Mir.wipe env vs) r acc h2 else .bad) _ := q2
      cases c : chk h2 with
      | false => rw [c] at q2; exact q2.elim
      | true =>
        rw [c] at q2
        have q2 : okR Γ W σ G h H (Mir.gR (g x (Mir.wipe env vs) h2) fun env1 h1 => (t env1 h1).bindN fun c h2 =>
          if c then (el env1 h2).bindN fun y h3 => if acc.length < Mir.line then Mir.lcGo chk g t el (Mir.wipe env vs) r (acc ++ [y]) h3 else .bad else Mir.lcGo chk g t el (Mir.wipe env vs) r acc h2) _ := q2
        obtain ⟨go, y⟩ := hJ.go i x G2 h2 H2 ex e2 rh2 c
        refine .inr ⟨go, fun H3 => ∃ m', m' < items.length - i ∧ m' = items.length - (i + 1) ∧ i + 1 ≤ items.length ∧ ∃ G' h' acc va, Ext G1 h1.length H1 G' h'.length H3 ∧ RH Γ G' h' H3 ∧ Own G' h'.length H3 D va ∧ RVs Γ G' h'.length H3 va acc ∧
          okR Γ W σ G h H (Mir.lcGo chk g t el (Mir.wipe env vs) (items.drop (i + 1)) acc h') fun xs h' G' H' => ∀ p vs, H' p = some (.lst vs) → H p = none → ¬ G'.Z p → (∀ i, i < h'.length → p ≠ G'.ρ i) → RVs Γ G' h'.length H' vs xs → Q (.ref p) H',
          fun H3 ⟨m', w1, w2, w3, w4⟩ => ⟨m', w1, w2, w3, w4⟩, fun v H3 hy => ?_⟩
        obtain ⟨G3, e3, rh3, rv⟩ := y v H3 hy
        have re3 : RE Γ G3 h2.length H3 (L2.wipe σ vs) (Mir.wipe env vs) := ((re1.ext rh1 e2).ext rh2 e3).wipe vs
        refine ⟨G3, Mir.wipe env vs, h2, x, rh3, re3, rv, ?_⟩
        revert q2
        cases g x (Mir.wipe env vs) h2 with
        | none => exact fun q => q
        | some p =>
          obtain ⟨env4, h4⟩ := p
          intro q2 G4 H4 σ4 e4 rh4 re4 w4
          have q2 : okR Γ W σ G h H ((t env4 h4).bindN fun c h2 =>
            if c then (el env4 h2).bindN fun y h3 => if acc.length < Mir.line then Mir.lcGo chk g t el (Mir.wipe env vs) r (acc ++ [y]) h3 else .bad else Mir.lcGo chk g t el (Mir.wipe env vs) r acc h2) _ := q2
          refine ⟨(w4 vs hts).trans (wipe_idem σ vs), G4, env4, h4, rh4, re4, ?_⟩
          revert q2
          cases t env4 h4 with
          | bad => exact fun q => q
          | err e h5 => exact fun q => q.elim
          | ok b h5 =>
            intro q2 G5 H5 e5 rh5
            have q2 : okR Γ W σ G h H (if b then (el env4 h5).bindN fun y h3 => if acc.length < Mir.line then Mir.lcGo chk g t el (Mir.wipe env vs) r (acc ++ [y]) h3 else .bad else Mir.lcGo chk g t el (Mir.wipe env vs) r acc h5) _ := q2
            have o5 := ((o2.ext e3).ext e4).ext e5
            have ra5 := ((ra2.ext rh2 e3).ext rh3 e4).ext rh4 e5
            cases b with
            | false =>
              exact iteF ⟨items.length - (i + 1), by omega, rfl, hlt, G5, h5, acc, va, ((e2.trans e3).trans e4).trans e5, rh5, o5, ra5, by rw [er]; exact q2⟩
            | true =>
              have q2 : okR Γ W σ G h H ((el env4 h5).bindN fun y h3 => if acc.length < Mir.line then Mir.lcGo chk g t el (Mir.wipe env vs) r (acc ++ [y]) h3 else .bad) _ := q2
              refine iteT ⟨G5, env4, h5, rh5, re4.ext rh4 e5, ?_⟩
              revert q2
              cases el env4 h5 with
              | bad => exact fun q => q
              | err e h6 => exact fun q => q.elim
              | ok y6 h6 =>
                intro q2 G6 H6 e6 rh6 v6 rv6
                have q2 : okR Γ W σ G h H (if acc.length < Mir.line then Mir.lcGo chk g t el (Mir.wipe env vs) r (acc ++ [y6]) h6 else .bad) _ := q2
                have o6 := o5.ext e6
                have ra6 := ra5.ext rh5 e6
                by_cases z : acc.length < Mir.line
                · rw [if_pos z] at q2
                  refine ⟨va, o6.at', by rw [ra6.length, ← line_eq]; exact z, items.length - (i + 1), by omega, rfl, hlt, G6, h6, acc ++ [y6], va ++ [v6], ext_own ((((e2.trans e3).trans e4).trans e5).trans e6) hD, rh_own rh6 o6.z o6.r, ⟨upd_same, o6.z, o6.r⟩, ?_, by rw [er]; exact q2⟩
                  exact (ra6.app (.cons rv6 .nil)).mono (up_own o6.z)
                · rw [if_neg z] at q2
                  exact q2.elim
theorem slC {elt : Expr} {ifs : List Expr} {scope : Scope} {own : List (Str × Nat)} {f : Mir.I} {g : Mir.G} {t : Mir.T} {el : Mir.E} {ts : List Nat} (hc : X.calm = true) (hN : X.N.Nodup) (hi : SimI Γ X W tg iter f) (ok : BlkOk X.N X.env.scope scope own)
    (hg : ∀ (s : Shared) (H : Hp) (C : Addr) (cl : List (Str × Addr)) (fp : List Addr), SimG Γ (X.blk s H scope (compEnvC scope cl C X.env) fp) ts tg g)
    (ht : ∀ (s : Shared) (H : Hp) (C : Addr) (cl : List (Str × Addr)) (fp : List Addr), SimTs Γ (X.blk s H scope (compEnvC scope cl C X.env) fp) ifs t)
    (he : ∀ (s : Shared) (H : Hp) (C : Addr) (cl : List (Str × Addr)) (fp : List Addr), SimE Γ (X.blk s H scope (compEnvC scope cl C X.env) fp) W0 elt el)
    (hts : ∀ i ∈ ts, i ∈ own.map (·.2)) (hs : ∀ x, foldedSetIterable iter X.env x = pure x := by intro _; rfl) :
    SimL Γ X W (.ListComp elt [⟨tg, iter, ifs, 0⟩] scope pos) (Mir.lC (own.map (·.2)) f g t el) := weakE (pe_lc hc hN hi ok hg ht he hs) fun σ H Q q => tLc_of hts q
/-- name = [..]: a list that nobody changes, one of the heap -/
theorem ssLcF {elt : Expr} {ifs : List Expr} {scope : Scope} {own : List (Str × Nat)} {f : Mir.I} {g : Mir.G} {t : Mir.T} {el : Mir.E} {ts : List Nat} {i : Nat} {y : Str} {py spos : Pos} (hc : X.calm = true) (hN : X.N.Nodup) (hy : X.N[i]? = some y) (hyl : X.env.scope.names.lookup y = some .local)
    (hsw : swapsWith (.ListComp elt [⟨tg, iter, ifs, 0⟩] scope pos) (some (.Name y py)) spos.line X.env = pure true) (hi : SimI Γ X W tg iter f) (ok : BlkOk X.N X.env.scope scope own)
    (hg : ∀ (s : Shared) (H : Hp) (C : Addr) (cl : List (Str × Addr)) (fp : List Addr), SimG Γ (X.blk s H scope (compEnvC scope cl C X.env) fp) ts tg g)
    (ht : ∀ (s : Shared) (H : Hp) (C : Addr) (cl : List (Str × Addr)) (fp : List Addr), SimTs Γ (X.blk s H scope (compEnvC scope cl C X.env) fp) ifs t)
    (he : ∀ (s : Shared) (H : Hp) (C : Addr) (cl : List (Str × Addr)) (fp : List Addr), SimE Γ (X.blk s H scope (compEnvC scope cl C X.env) fp) W0 elt el)
    (hts : ∀ i ∈ ts, i ∈ own.map (·.2)) (hs : ∀ x, foldedSetIterable iter X.env x = pure x := by intro _; rfl) :
    SimS Γ X W (.Assign [.Name y py] (.ListComp elt [⟨tg, iter, ifs, 0⟩] scope pos) spos) (Mir.sAsg (Mir.gN i) (Mir.fL (Mir.lC (own.map (·.2)) f g t el))) := by
  refine weakS (ps_setLc hc hN hy hyl hsw hi ok hg ht he hs) fun D σ H q => ?_
  have q2 := fL_imp (asg_imp (ts := [i]) q)
  refine tLc_of hts ?_
  exact rdL_mono q2 fun v H' q => gN_imp q
theorem ssLcA {elt : Expr} {ifs : List Expr} {scope : Scope} {own : List (Str × Nat)} {f : Mir.I} {g : Mir.G} {t : Mir.T} {el : Mir.E} {ts : List Nat} {i : Nat} {y : Str} {py spos : Pos} (hc : X.calm = true) (hN : X.N.Nodup) (hy : X.N[i]? = some y) (hyl : X.env.scope.names.lookup y = some .local)
    (hsw : swapsWith (.ListComp elt [⟨tg, iter, ifs, 0⟩] scope pos) (some (.Name y py)) spos.line X.env = pure true) (hi : SimI Γ X W tg iter f) (ok : BlkOk X.N X.env.scope scope own)
    (hg : ∀ (s : Shared) (H : Hp) (C : Addr) (cl : List (Str × Addr)) (fp : List Addr), SimG Γ (X.blk s H scope (compEnvC scope cl C X.env) fp) ts tg g)
    (ht : ∀ (s : Shared) (H : Hp) (C : Addr) (cl : List (Str × Addr)) (fp : List Addr), SimTs Γ (X.blk s H scope (compEnvC scope cl C X.env) fp) ifs t)
    (he : ∀ (s : Shared) (H : Hp) (C : Addr) (cl : List (Str × Addr)) (fp : List Addr), SimE Γ (X.blk s H scope (compEnvC scope cl C X.env) fp) W0 elt el)
    (hts : ∀ i ∈ ts, i ∈ own.map (·.2)) (hs : ∀ x, foldedSetIterable iter X.env x = pure x := by intro _; rfl) :
    SimS Γ X W (.Assign [.Name y py] (.ListComp elt [⟨tg, iter, ifs, 0⟩] scope pos) spos) (Mir.sAsg (Mir.gN i) (Mir.aL (Mir.lC (own.map (·.2)) f g t el))) := by
  refine weakS (ps_setLc hc hN hy hyl hsw hi ok hg ht he hs) fun D σ H q => ?_
  have q2 := aL_imp (asg_imp (ts := [i]) q)
  refine tLc_of hts ?_
  exact rdL_mono q2 fun v H' q => gN_imp q
end
end Sim
end

section
set_option linter.all false
set_option Elab.async false
set_option maxRecDepth 100000
set_option maxHeartbeats 1000000
/-! Sim: what is laid fast; defs and their calls. -/
namespace Sim
open PySem PySem.Spec PyProof.Rows L2

mutual
theorem pure_below (n : Nat) : ∀ x : Val, Mir.pureV x = true → Mir.below n x = true
  | .tup xs, h => pure_belowL n xs h
  | .lst xs, h => pure_belowL n xs h
  | .dct kvs, h => pure_belowKV n kvs h
  | .obj _ fs, h => pure_belowF n fs h
  | .ref _, h => by cases h
  | .non, _ => rfl
  | .bl _, _ => rfl
  | .int _, _ => rfl
  | .str _, _ => rfl
  | .fn _, _ => rfl
  | .scr _, _ => rfl
theorem pure_belowL (n : Nat) : ∀ xs : List Val, Mir.pureL xs = true → Mir.belowL n xs = true
  | [], _ => rfl
  | x :: xs, h => by
    simp only [Mir.pureL, Bool.and_eq_true] at h
    simp only [Mir.belowL, pure_below n x h.1, pure_belowL n xs h.2, Bool.and_self]
theorem pure_belowKV (n : Nat) : ∀ xs : List (Val × Val), Mir.pureKV xs = true → Mir.belowKV n xs = true
  | [], _ => rfl
  | (k, v) :: xs, h => by
    simp only [Mir.pureKV, Bool.and_eq_true] at h
    simp only [Mir.belowKV, pure_below n k h.1.1, pure_below n v h.1.2, pure_belowKV n xs h.2, Bool.and_self]
theorem pure_belowF (n : Nat) : ∀ xs : List (String × Val), Mir.pureF xs = true → Mir.belowF n xs = true
  | [], _ => rfl
  | (_, v) :: xs, h => by
    simp only [Mir.pureF, Bool.and_eq_true] at h
    simp only [Mir.belowF, pure_below n v h.1, pure_belowF n xs h.2, Bool.and_self]
end
/-- what a value without things from n on leans on -/
structure Low (G : View) (H : Hp) (G' : View) (n' : Nat) (H' : Hp) : Prop where
  z : ∀ a, G.Z a → G'.Z a
  k : ∀ a o, G.Z a → H a = some o → H' a = some o
  r : ∀ i, i < n' → G'.ρ i = G.ρ i
section
variable {Γ : Gam} {G G' : View} {n n' : Nat} {H H' : Hp}
theorem TupAt.low (l : Low G H G' n' H') {a : Addr} {vs : List V} (t : TupAt Γ G H a vs) : TupAt Γ G' H' a vs := by
  rcases t with ⟨z, e⟩ | t
  · exact .inl ⟨l.z a z, l.k a _ z e⟩
  · exact .inr t
mutual
theorem RV.low (l : Low G H G' n' H') : ∀ {v : V} {x : Val}, RV Γ G n H v x → Mir.below n' x = true → RV Γ G' n' H' v x
  | _, _, .non, _ => .non
  | _, _, .bl b, _ => .bl b
  | _, _, .int i, _ => .int i
  | _, _, .str s h, _ => .str s h
  | _, _, .tup t r, h => .tup (t.low l) (RVs.low l r h)
  | _, _, .lst z e r, h => .lst (l.z _ z) (l.k _ _ z e) (RVs.low l r h)
  | _, _, .dk z e r, h => .dk (l.z _ z) (l.k _ _ z e) (RKs.low l r h)
  | _, _, .dt z e r, h => .dt (l.z _ z) (l.k _ _ z e) (RTs.low l r h)
  | _, _, .obj z e c r, h => .obj (l.z _ z) (l.k _ _ z e) c (RFs.low l r h)
  | _, _, .ref i hi, h => by
    have hi' : i < n' := of_decide_eq_true h
    rw [← l.r i hi']
    exact .ref i hi'
  | _, _, .fn e, _ => .fn e
  | _, _, .scr s, _ => by
    rcases s with ⟨z, s⟩ | s
    · refine .scr (.inl ⟨l.z _ z, ?_⟩)
      rcases s with s | ⟨o, s⟩
      · exact .inl (l.k _ _ z s)
      · exact .inr ⟨o, l.k _ _ z s⟩
    · exact .scr (.inr s)
theorem RVs.low (l : Low G H G' n' H') : ∀ {v : List V} {x : List Val}, RVs Γ G n H v x → Mir.belowL n' x = true → RVs Γ G' n' H' v x
  | _, _, .nil, _ => .nil
  | _, _, .cons r s, h => by
    simp only [Mir.belowL, Bool.and_eq_true] at h
    exact .cons (RV.low l r h.1) (RVs.low l s h.2)
theorem RKs.low (l : Low G H G' n' H') : ∀ {v : List (Key × V)} {x : List (Val × Val)}, RKs Γ G n H v x → Mir.belowKV n' x = true → RKs Γ G' n' H' v x
  | _, _, .nil, _ => .nil
  | _, _, .cons r s, h => by
    simp only [Mir.belowKV, Bool.and_eq_true] at h
    exact .cons (RV.low l r h.1.2) (RKs.low l s h.2)
theorem RTs.low (l : Low G H G' n' H') : ∀ {v : List (List Key × V)} {x : List (Val × Val)}, RTs Γ G n H v x → Mir.belowKV n' x = true → RTs Γ G' n' H' v x
  | _, _, .nil, _ => .nil
  | _, _, .cons r s, h => by
    simp only [Mir.belowKV, Bool.and_eq_true] at h
    exact .cons (RV.low l r h.1.2) (RTs.low l s h.2)
theorem RFs.low (l : Low G H G' n' H') : ∀ {v : List (Str × V)} {x : List (String × Val)}, RFs Γ G n H v x → Mir.belowF n' x = true → RFs Γ G' n' H' v x
  | _, _, .nil, _ => .nil
  | _, _, .cons r s, h => by
    simp only [Mir.belowF, Bool.and_eq_true] at h
    exact .cons (RV.low l r h.1) (RFs.low l s h.2)
end
theorem RO.low (l : Low G H G' n' H') {u : HO} {o : MO} (r : RO Γ G n H u o) (h : Mir.belowO n' o = true) : RO Γ G' n' H' u o := by
  cases r with
  | lst r => exact .lst (r.low l h)
  | dk r => exact .dk (r.low l h)
  | dt r => exact .dt (r.low l h)
  | ins c r => exact .ins c (r.low l h)
end
theorem low_pure {Γ : Gam} {G G' : View} {n n' : Nat} {H H' : Hp} {v : V} {x : Val} (r : RV Γ G n H v x) (p : Mir.pureV x = true) (z : ∀ a, G.Z a → G'.Z a) (k : ∀ a o, G.Z a → H a = some o → H' a = some o) : RV Γ G' n' H' v x := by
  have r1 : RV Γ G' 0 H' v x := r.low ⟨z, k, fun _ h => absurd h (Nat.not_lt_zero _)⟩ (pure_below 0 x p)
  exact r1.mono ⟨fun _ z => z, fun _ _ _ e => e, fun _ h => absurd h (Nat.not_lt_zero _), Nat.zero_le _⟩
theorem low_pures {Γ : Gam} {G G' : View} {n n' : Nat} {H H' : Hp} {v : List V} {x : List Val} (r : RVs Γ G n H v x) (p : Mir.pureL x = true) (z : ∀ a, G.Z a → G'.Z a) (k : ∀ a o, G.Z a → H a = some o → H' a = some o) : RVs Γ G' n' H' v x := by
  induction x generalizing v with
  | nil => cases r; exact .nil
  | cons x xs ih =>
    simp only [Mir.pureL, Bool.and_eq_true] at p
    cases r with
    | cons r s => exact .cons (low_pure r p.1 z k) (ih s p.2)
theorem low_pureF {Γ : Gam} {G G' : View} {n n' : Nat} {H H' : Hp} {v : List (Str × V)} {x : List (String × Val)} (r : RFs Γ G n H v x) (p : Mir.pureF x = true) (z : ∀ a, G.Z a → G'.Z a) (k : ∀ a o, G.Z a → H a = some o → H' a = some o) : RFs Γ G' n' H' v x := by
  induction x generalizing v with
  | nil => cases r; exact .nil
  | cons x xs ih =>
    obtain ⟨f, x⟩ := x
    simp only [Mir.pureF, Bool.and_eq_true] at p
    cases r with
    | cons r s => exact .cons (low_pure r p.1 z k) (ih s p.2)

theorem pure_key (k : Key) : Mir.pureV (keyV k) = true := by cases k <;> rfl
theorem pure_keys (k : List Key) : Mir.pureV (.tup (k.map keyV)) = true := by
  show Mir.pureL (k.map keyV) = true
  induction k with
  | nil => rfl
  | cons k ks ih =>
    show (Mir.pureV (keyV k) && Mir.pureL (ks.map keyV)) = true
    rw [pure_key, ih]
    rfl
theorem frz_pure {n : Nat} {h : Hm} {d : Nat} {x : Val} (p : Mir.pureV x = true) : Mir.frz n h d x = some x := by
  cases d with
  | zero => unfold Mir.frz; rw [if_pos p]
  | succ d => unfold Mir.frz; rw [if_pos p]

/-- the view behind: what is from n on is laid fast -/
def fast (G : View) (n m : Nat) : View := ⟨fun a => G.Z a ∨ ∃ i, n ≤ i ∧ i < m ∧ a = G.ρ i, G.ρ⟩
section
variable {Γ : Gam} {G : View} {n : Nat} {H : Hp} {h : Hm}
theorem mapO_RVs {f : Val → Option Val} {G' : View} {n' : Nat} {H' : Hp} (k : ∀ v x y, RV Γ G h.length H v x → f x = some y → RV Γ G' n' H' v y) :
    ∀ {vs : List V} {xs ys : List Val}, RVs Γ G h.length H vs xs → Mir.mapO f xs = some ys → RVs Γ G' n' H' vs ys := by
  intro vs xs
  induction xs generalizing vs with
  | nil =>
    intro ys r e
    cases r
    cases e
    exact .nil
  | cons x xs ih =>
    intro ys r e
    cases r with
    | cons r s =>
      unfold Mir.mapO at e
      cases e1 : f x with
      | none => rw [e1] at e; cases e
      | some y =>
        cases e2 : Mir.mapO f xs with
        | none => rw [e1, e2] at e; cases e
        | some zs =>
          rw [e1, e2] at e
          cases e
          exact .cons (k _ _ _ r e1) (ih s e2)
theorem mapO_RFs {f : Val → Option Val} {G' : View} {n' : Nat} {H' : Hp} (k : ∀ v x y, RV Γ G h.length H v x → f x = some y → RV Γ G' n' H' v y) :
    ∀ {vs : List (Str × V)} {xs ys : List (String × Val)}, RFs Γ G h.length H vs xs → Mir.mapO (fun kv => (f kv.2).map fun v => (kv.1, v)) xs = some ys → RFs Γ G' n' H' vs ys := by
  intro vs xs
  induction xs generalizing vs with
  | nil =>
    intro ys r e
    cases r
    cases e
    exact .nil
  | cons x xs ih =>
    obtain ⟨fx, x⟩ := x
    intro ys r e
    cases r with
    | cons r s =>
      unfold Mir.mapO at e
      cases e1 : f x with
      | none => simp only [e1, Option.map_none] at e; cases e
      | some y =>
        cases e2 : Mir.mapO (fun kv => (f kv.2).map fun v => (kv.1, v)) xs with
        | none => simp only [e1, e2, Option.map_some] at e; cases e
        | some zs =>
          simp only [e1, e2, Option.map_some] at e
          cases e
          exact .cons (k _ _ _ r e1) (ih s e2)
def kvO (f : Val → Option Val) : Val × Val → Option (Val × Val) := fun kv => match f kv.1, f kv.2 with | some k, some v => some (k, v) | _, _ => none
theorem mapO_RKs {f : Val → Option Val} {G' : View} {n' : Nat} {H' : Hp} (p : ∀ x, Mir.pureV x = true → f x = some x) (k : ∀ v x y, RV Γ G h.length H v x → f x = some y → RV Γ G' n' H' v y) :
    ∀ {vs : List (Key × V)} {xs ys : List (Val × Val)}, RKs Γ G h.length H vs xs → Mir.mapO (kvO f) xs = some ys → RKs Γ G' n' H' vs ys := by
  intro vs xs
  induction xs generalizing vs with
  | nil =>
    intro ys r e
    cases r
    cases e
    exact .nil
  | cons x xs ih =>
    obtain ⟨fx, x⟩ := x
    intro ys r e
    cases r with
    | @cons kk _ _ _ _ r s =>
      unfold Mir.mapO at e
      have ek := p (keyV kk) (pure_key kk)
      cases e1 : f x with
      | none => simp only [kvO, ek, e1] at e; cases e
      | some y =>
        cases e2 : Mir.mapO (kvO f) xs with
        | none => rw [e2] at e; simp only [kvO, ek, e1] at e; cases e
        | some zs =>
          rw [e2] at e
          simp only [kvO, ek, e1] at e
          cases e
          exact .cons (k _ _ _ r e1) (ih s e2)
theorem mapO_RTs {f : Val → Option Val} {G' : View} {n' : Nat} {H' : Hp} (p : ∀ x, Mir.pureV x = true → f x = some x) (k : ∀ v x y, RV Γ G h.length H v x → f x = some y → RV Γ G' n' H' v y) :
    ∀ {vs : List (List Key × V)} {xs ys : List (Val × Val)}, RTs Γ G h.length H vs xs → Mir.mapO (kvO f) xs = some ys → RTs Γ G' n' H' vs ys := by
  intro vs xs
  induction xs generalizing vs with
  | nil =>
    intro ys r e
    cases r
    cases e
    exact .nil
  | cons x xs ih =>
    obtain ⟨fx, x⟩ := x
    intro ys r e
    cases r with
    | @cons kk _ _ _ _ r s =>
      unfold Mir.mapO at e
      have ek := p (.tup (kk.map keyV)) (pure_keys kk)
      cases e1 : f x with
      | none => simp only [kvO, ek, e1] at e; cases e
      | some y =>
        cases e2 : Mir.mapO (kvO f) xs with
        | none => rw [e2] at e; simp only [kvO, ek, e1] at e; cases e
        | some zs =>
          rw [e2] at e
          simp only [kvO, ek, e1] at e
          cases e
          exact .cons (k _ _ _ r e1) (ih s e2)
theorem map_some {α β : Type} {o : Option α} {f : α → β} {y : β} (e : o.map f = some y) : ∃ x, o = some x ∧ y = f x := by
  cases o with
  | none => cases e
  | some x => cases e; exact ⟨x, rfl, rfl⟩
theorem frz_ok (rh : RH Γ G h H) : ∀ (d : Nat) (v : V) (x y : Val), RV Γ G h.length H v x → Mir.frz n h d x = some y → RV Γ (fast G n h.length) n H v y := by
  have zz : ∀ a, G.Z a → (fast G n h.length).Z a := fun a z => .inl z
  have pu : ∀ {v x y}, RV Γ G h.length H v x → Mir.pureV x = true → some x = some y → RV Γ (fast G n h.length) n H v y := fun {v x y} r p e => by
    cases e
    exact low_pure r p zz fun _ _ _ e => e
  intro d
  induction d with
  | zero =>
    intro v x y r e
    unfold Mir.frz at e
    by_cases p : Mir.pureV x = true
    · rw [if_pos p] at e
      exact pu r p e
    · rw [if_neg p] at e
      cases e
  | succ d ih =>
    intro v x y r e
    unfold Mir.frz at e
    by_cases p : Mir.pureV x = true
    · rw [if_pos p] at e
      exact pu r p e
    · rw [if_neg p] at e
      have pk : ∀ x, Mir.pureV x = true → Mir.frz n h d x = some x := fun x p => frz_pure p
      cases r with
      | tup t r =>
        obtain ⟨ys, e1, rfl⟩ := map_some e
        refine .tup ?_ (mapO_RVs ih r e1)
        rcases t with ⟨z, t⟩ | t
        · exact .inl ⟨.inl z, t⟩
        · exact .inr t
      | lst z t r =>
        obtain ⟨ys, e1, rfl⟩ := map_some e
        exact .lst (.inl z) t (mapO_RVs ih r e1)
      | dk z t r =>
        obtain ⟨ys, e1, rfl⟩ := map_some e
        exact .dk (.inl z) t (mapO_RKs pk ih r e1)
      | dt z t r =>
        obtain ⟨ys, e1, rfl⟩ := map_some e
        exact .dt (.inl z) t (mapO_RTs pk ih r e1)
      | obj z t c r =>
        obtain ⟨ys, e1, rfl⟩ := map_some e
        exact .obj (.inl z) t c (mapO_RFs ih r e1)
      | ref i hi =>
        have e : (if i < n then some (Mir.Val.ref i) else match h[i]? with
          | some (.lst xs) => (Mir.mapO (Mir.frz n h d) xs).map .lst
          | some (.dk kvs) => (Mir.mapO (kvO (Mir.frz n h d)) kvs).map .dct
          | some (.ins c fs) => (Mir.mapO (fun kv => (Mir.frz n h d kv.2).map fun v => (kv.1, v)) fs).map (.obj c)
          | _ => none) = some y := e
        by_cases c : i < n
        · rw [if_pos c] at e
          cases e
          have : G.ρ i = (fast G n h.length).ρ i := rfl
          rw [this]
          exact .ref i c
        · rw [if_neg c] at e
          have zi : (fast G n h.length).Z (G.ρ i) := .inr ⟨i, Nat.le_of_not_lt c, hi, rfl⟩
          cases o : h[i]? with
          | none => rw [o] at e; cases e
          | some ob =>
            rw [o] at e
            obtain ⟨u, hu, ro⟩ := rh.ob i ob o
            cases ro with
            | lst r =>
              obtain ⟨ys, e1, rfl⟩ := map_some e
              exact .lst zi hu (mapO_RVs ih r e1)
            | dk r =>
              obtain ⟨ys, e1, rfl⟩ := map_some e
              exact .dk zi hu (mapO_RKs pk ih r e1)
            | dt r => cases e
            | ins cc r =>
              obtain ⟨ys, e1, rfl⟩ := map_some e
              exact .obj zi hu cc (mapO_RFs ih r e1)
      | _ => exact absurd rfl p
/-- the heap behind a def: cut -/
theorem cut_ok {G0 : View} {H0 : Hp} (e : Ext G0 n H0 G h.length H) (rh : RH Γ G h H) (b : (h.take n).all (Mir.belowO n) = true) :
    Ext G0 n H0 (fast G n h.length) (h.take n).length H ∧ RH Γ (fast G n h.length) (h.take n) H := by
  have en : (h.take n).length = n := by rw [List.length_take]; exact Nat.min_eq_left e.le
  rw [en]
  refine ⟨⟨fun a z => .inl (e.z a z), e.r, Nat.le_refl _, e.fr, e.dm, fun a z => ?_, fun i h1 h2 => absurd (Nat.lt_of_lt_of_le h2 h1) (Nat.lt_irrefl _)⟩, fun a z => ?_, fun i hi z => ?_, fun i j hi hj => rh.inj i j ?_ ?_, fun i o ei => ?_⟩
  · rcases z with z | ⟨i, h1, h2, rfl⟩
    · exact e.zn a z
    · exact .inr (e.rn i h1 h2)
  · rcases z with z | ⟨i, h1, h2, rfl⟩
    · exact rh.zd a z
    · obtain ⟨u, hu, _⟩ := rh.ob i h[i] (List.getElem?_eq_getElem h2)
      rw [hu]
      intro k
      cases k
  · rw [en] at hi
    have hi' := Nat.lt_of_lt_of_le hi e.le
    rcases z with z | ⟨j, h1, h2, q⟩
    · exact rh.zr i hi' z
    · have := rh.inj i j hi' h2 q
      omega
  · rw [en] at hi; exact Nat.lt_of_lt_of_le hi e.le
  · rw [en] at hj; exact Nat.lt_of_lt_of_le hj e.le
  · have hi : i < n := by
      have := (List.getElem?_eq_some_iff.mp ei).1
      rwa [en] at this
    rw [List.getElem?_take_of_lt hi] at ei
    obtain ⟨u, hu, ro⟩ := rh.ob i o ei
    have bo : Mir.belowO n o = true := by
      refine List.all_eq_true.mp b o (List.mem_of_getElem? (i := i) ?_)
      rw [List.getElem?_take_of_lt hi]
      exact ei
    rw [en]
    exact ⟨u, hu, ro.low (G' := fast G n h.length) ⟨fun _ z => Or.inl z, fun _ _ _ e => e, fun _ _ => rfl⟩ bo⟩
end

/-! ### what a def promises -/
def outF (Γ : Gam) (G : View) (h : Hm) (H : Hp) (r : Mir.R Val) (Q : VK) (E : XK) : Prop := match r with
  | .ok y h' => ∀ G' H' v, Ext G h.length H G' h'.length H' → RH Γ G' h' H' → RV Γ G' h'.length H' v y → Q v H'
  | .err e h' => ∀ G' H' cls d, Ext G h.length H G' h'.length H' → RH Γ G' h' H' → RX Γ G' h'.length H' cls d e → E cls d H'
  | .bad => False
/-- a def upon things of the heap -/
def spF (Γ : Gam) (np : Nat) (f : Mir.Fn) : Sp := fun vs H Q E => vs.length = np ∧ ∃ G h xs, RH Γ G h H ∧ RVs Γ G h.length H vs xs ∧ outF Γ G h H (f xs h) Q E
/-- a def that touches none -/
def spP (Γ : Gam) (np : Nat) (f : Mir.PFn) : Sp := fun vs H Q E => vs.length = np ∧ ∃ (Z : Addr → Prop) (xs : List Val), (∀ a, Z a → H a ≠ none) ∧ RVs Γ ⟨Z, fun _ => 0⟩ 0 H vs xs ∧ match f xs with
  | .ok y => ∀ (Z' : Addr → Prop) H' v, Same H H' → (∀ a, Z a → Z' a) → (∀ a, Z' a → Z a ∨ H a = none) → (∀ a, Z' a → H' a ≠ none) → RV Γ ⟨Z', fun _ => 0⟩ 0 H' v y → Q v H'
  | .err e => ∀ (Z' : Addr → Prop) H' cls d, Same H H' → (∀ a, Z a → Z' a) → (∀ a, Z' a → Z a ∨ H a = none) → (∀ a, Z' a → H' a ≠ none) → RX Γ ⟨Z', fun _ => 0⟩ 0 H' cls d e → E cls d H'
  | .bad => False

section
variable {Γ : Gam} {P : Program} {w : World} {K : PySem.W.Frag} {mg : Str → Option Value} {base : Heap} {x qual : Str} {params : Arguments} {body : List Stmt} {scope : Scope} {dvs : List V} {kws : List (Str × V)} {f : Addr} {fd : FuncData} {N ps : List Str} {k : Nat}
theorem re_start {G : View} {n : Nat} {H : Hp} {vs : List V} {xs : List Val} {N : List Str} {m : Nat} (r : RVs Γ G n H vs xs) (hm : N.length = m) : RE Γ G n H (L2.start N vs) (Mir.frame m xs) := by
  subst hm
  unfold L2.start Mir.frame
  refine ⟨?_, fun i y e => ?_⟩
  · rw [List.length_append, List.length_append, List.length_map, List.length_map, List.length_replicate, List.length_replicate, r.length]
  · by_cases c : i < xs.length
    · rw [List.getElem?_append_left (by simpa using c), List.getElem?_map] at e
      cases o : xs[i]? with
      | none => rw [o] at e; cases e
      | some z =>
        rw [o] at e
        cases e
        obtain ⟨v, ev, rv⟩ := r.get o
        refine ⟨v, ?_, rv⟩
        rw [List.getElem?_append_left (by rw [List.length_map, r.length]; exact c), List.getElem?_map, ev]
        rfl
    · rw [List.getElem?_append_right (by simpa using Nat.le_of_not_lt c), List.getElem?_replicate] at e
      split at e <;> cases e
/-- the wish of a body -/
abbrev WE (E : XK) : WX := fun cls d _ H => E cls d H
theorem rx_fast {G : View} {n : Nat} {H : Hp} {h : Hm} {cls : Value} {d : Option Addr} {e : Mir.Exc} (r : RX Γ G h.length H cls d e) (p : Mir.pureF e.fs = true) : RX Γ (fast G n h.length) n H cls d e := by
  obtain ⟨C, c1, c2, c3⟩ := r
  refine ⟨C, c1, c2, ?_⟩
  rcases c3 with c3 | ⟨dx, fs, e1, e2, e3, e4⟩
  · exact .inl c3
  · exact .inr ⟨dx, fs, e1, .inl e2, e3, low_pureF e4 p (fun _ z => Or.inl z) fun _ _ _ e => e⟩
theorem okF_cut {G : View} {h : Hm} {H : Hp} {np m : Nat} {xs : List Val} {b : Mir.S} {Q : VK} {E : XK} (q : outF Γ G h H (Mir.defS np m b xs h) Q E) : xs.length = np ∧
    okS Γ (WE E) G h H (b (Mir.frame m xs) h) { nx := fun _ H' => Q .non H', rt := Q } := by
  unfold Mir.defS at q
  by_cases c : xs.length = np
  · rw [if_pos c] at q
    refine ⟨c, ?_⟩
    have cut : ∀ {v : V} {y : Val} {h1 : Hm}, outF Γ G h H (Mir.cutH h.length h1 y) Q E → ∀ G' H', Ext G h.length H G' h1.length H' → RH Γ G' h1 H' → RV Γ G' h1.length H' v y → Q v H' := by
      intro v y h1 q G' H' e rh rv
      unfold Mir.cutH at q
      cases o : Mir.frz h.length h1 Mir.deepest y with
      | none => rw [o] at q; exact q.elim
      | some y' =>
        rw [o] at q
        have q : outF Γ G h H (if (h1.take h.length).all (Mir.belowO h.length) then .ok y' (h1.take h.length) else .bad) Q E := q
        by_cases c : (h1.take h.length).all (Mir.belowO h.length) = true
        · rw [if_pos c] at q
          obtain ⟨e', rh'⟩ := cut_ok e rh c
          have el : (h1.take h.length).length = h.length := by rw [List.length_take]; exact Nat.min_eq_left e.le
          exact q _ H' v e' rh' (by rw [el]; exact frz_ok rh _ v y y' rv o)
        · rw [if_neg c] at q
          exact q.elim
    revert q
    cases b (Mir.frame m xs) h with
    | rt v h1 => exact fun q G' H' u e rh rv => cut q G' H' e rh rv
    | nx env h1 => exact fun q G' H' σ' e rh re => cut (v := .non) q G' H' e rh .non
    | er x env h1 =>
      intro q G' H' σ' cls d e rh re rx
      have q : outF Γ G h H (if Mir.pureF x.fs && (h1.take h.length).all (Mir.belowO h.length) then .err x (h1.take h.length) else .bad) Q E := q
      by_cases c : (Mir.pureF x.fs && (h1.take h.length).all (Mir.belowO h.length)) = true
      · rw [if_pos c] at q
        rw [Bool.and_eq_true] at c
        obtain ⟨e', rh'⟩ := cut_ok e rh c.2
        have el : (h1.take h.length).length = h.length := by rw [List.length_take]; exact Nat.min_eq_left e.le
        exact q _ H' cls d e' rh' (by rw [el]; exact rx_fast rx c.1)
      · rw [if_neg c] at q
        exact q.elim
    | bk env h1 => exact fun q => q.elim
    | ct env h1 => exact fun q => q.elim
    | bad => exact fun q => q.elim
  · rw [if_neg c] at q
    exact q.elim
theorem defS_ok {np m : Nat} {b : Mir.S} (F : FunD K x qual params body scope dvs kws f fd) (S : FnScope N ps scope) (hm : N.length = m) (hp : ps.length = np)
    (hb : ∀ (cdv : Value) (A : Around) (outer : List Env) (s : Shared) (H : Hp) (E : XK), Room k (A.deeper (envOfC qual scope s.heap.objs.size f cdv)) →
      SimB Γ (cxOf (L2.CX P w) P w K mg base N qual scope f cdv A outer s H E) (WE E) body b) : FnOk P w K mg base (L2.CX P w) (k + 1) f fd ps (spF Γ np (Mir.defS np m b)) := by
  refine F.ok S (fun vs H Q E h => h.1.trans hp.symm) (fun cdv A outer s H vs Q E hr h => ?_)
  obtain ⟨_, G, h0, xs, rh, rv, q⟩ := h
  exact ⟨_, hb cdv A outer s H E hr, G, Mir.frame m xs, h0, rh, re_start rv hm, (okF_cut q).2⟩
theorem defA_ok {np m : Nat} {b : Mir.S} (F : FunD K x qual params body scope dvs kws f fd) (S : FnScope N ps scope) (hm : N.length = m) (hp : ps.length = np)
    (hb : ∀ (cdv : Value) (A : Around) (outer : List Env) (s : Shared) (H : Hp) (E : XK), Room k (A.deeper (envOfC qual scope s.heap.objs.size f cdv)) →
      SimB Γ (cxOf (L2.CX P w) P w K mg base N qual scope f cdv A outer s H E) (WE E) body b) : FnOk P w K mg base (L2.CX P w) (k + 1) f fd ps (spF Γ np (Mir.defA np m b)) := by
  refine F.ok S (fun vs H Q E h => h.1.trans hp.symm) (fun cdv A outer s H vs Q E hr h => ?_)
  obtain ⟨_, G, h0, xs, rh, rv, q⟩ := h
  refine ⟨_, hb cdv A outer s H E hr, G, Mir.frame m xs, h0, rh, re_start rv hm, ?_⟩
  unfold Mir.defA at q
  by_cases c : xs.length = np
  · rw [if_pos c] at q
    revert q
    cases b (Mir.frame m xs) h0 with
    | rt v h1 => exact fun q G' H' u e rh rv => q G' H' u e rh rv
    | nx env h1 => exact fun q G' H' σ' e rh re => q G' H' .non e rh .non
    | er x env h1 => exact fun q G' H' σ' cls d e rh re rx => q G' H' cls d e rh rx
    | bk env h1 => exact fun q => q.elim
    | ct env h1 => exact fun q => q.elim
    | bad => exact fun q => q.elim
  · rw [if_neg c] at q
    exact q.elim
theorem defP_ok {np m : Nat} {b : Mir.S} (F : FunD K x qual params body scope dvs kws f fd) (S : FnScope N ps scope) (hm : N.length = m) (hp : ps.length = np)
    (hb : ∀ (cdv : Value) (A : Around) (outer : List Env) (s : Shared) (H : Hp) (E : XK), Room k (A.deeper (envOfC qual scope s.heap.objs.size f cdv)) →
      SimB Γ (cxOf (L2.CX P w) P w K mg base N qual scope f cdv A outer s H E) (WE E) body b) : FnOk P w K mg base (L2.CX P w) (k + 1) f fd ps (spP Γ np (Mir.defP np m b)) := by
  refine F.ok S (fun vs H Q E h => h.1.trans hp.symm) (fun cdv A outer s H vs Q E hr h => ?_)
  obtain ⟨_, Z, xs, zd, rv, q⟩ := h
  have rh : RH Γ ⟨Z, fun _ => 0⟩ [] H := ⟨zd, fun i hi => absurd hi (Nat.not_lt_zero _), fun i j hi => absurd hi (Nat.not_lt_zero _), fun i o e => by simp at e⟩
  refine ⟨_, hb cdv A outer s H E hr, ⟨Z, fun _ => 0⟩, Mir.frame m xs, [], rh, re_start rv hm, ?_⟩
  unfold Mir.defP at q
  by_cases c : xs.length = np ∧ Mir.pureL xs = true
  · rw [if_pos c] at q
    have fin : ∀ {G' : View} {H' : Hp} {h1 : Hm}, Ext ⟨Z, fun _ => 0⟩ 0 H G' h1.length H' → RH Γ G' h1 H' → Same H H' ∧ (∀ a, Z a → (fast G' 0 h1.length).Z a) ∧ (∀ a, (fast G' 0 h1.length).Z a → Z a ∨ H a = none) ∧ (∀ a, (fast G' 0 h1.length).Z a → H' a ≠ none) := by
      intro G' H' h1 e rh'
      obtain ⟨e', rh2⟩ := cut_ok (n := 0) e rh' (by simp)
      exact ⟨fun a o ea => e.fr a o ea fun i hi => absurd hi (Nat.not_lt_zero _), e'.z, e'.zn, rh2.zd⟩
    have base0 : ∀ {G' : View} {n : Nat} {H' : Hp} {v y}, RV Γ G' 0 H' v y → RV Γ ⟨G'.Z, fun _ => 0⟩ 0 H' v y := fun {G' n H' v y} r => by
      exact (RV.mono (G := G') (n := 0) (H := H') (G1 := ⟨G'.Z, fun _ => 0⟩) (n1 := 0) (H1 := H') ⟨fun _ z => z, fun _ _ _ e => e, fun i h => absurd h (Nat.not_lt_zero _), Nat.le_refl _⟩ r)
    revert q
    cases b (Mir.frame m xs) [] with
    | rt v h1 =>
      intro q G' H' u e rh' rv'
      obtain ⟨f1, f2, f3, f4⟩ := fin e rh'
      cases o : Mir.frz 0 h1 Mir.deepest v with
      | none =>
        simp only [o] at q
      | some y =>
        simp only [o] at q
        exact q _ H' u f1 f2 f3 f4 (base0 (n := 0) (frz_ok rh' _ u v y rv' o))
    | nx env h1 =>
      intro q G' H' σ' e rh' re
      obtain ⟨f1, f2, f3, f4⟩ := fin e rh'
      exact q _ H' .non f1 f2 f3 f4 .non
    | er x env h1 =>
      intro q G' H' σ' cls d e rh' re rx
      obtain ⟨f1, f2, f3, f4⟩ := fin e rh'
      by_cases p : Mir.pureF x.fs = true
      · simp only [p, if_true] at q
        obtain ⟨C, c1, c2, c3⟩ := rx_fast (n := 0) rx p
        refine q (fast G' 0 h1.length).Z H' cls d f1 f2 f3 f4 ⟨C, c1, c2, ?_⟩
        rcases c3 with c3 | ⟨dx, fs, e1, e2, e3, e4⟩
        · exact .inl c3
        · exact .inr ⟨dx, fs, e1, e2, e3, low_pureF e4 p (fun _ z => z) fun _ _ _ e => e⟩
      · simp only [p] at q
        exact q.elim
    | bk env h1 => exact fun q => q.elim
    | ct env h1 => exact fun q => q.elim
    | bad => exact fun q => q.elim
  · rw [if_neg c] at q
    exact q.elim
end
end Sim
end

section
set_option linter.all false
set_option Elab.async false
set_option maxRecDepth 100000
set_option maxHeartbeats 1000000
/-! Sim: calls, methods, instances. -/
namespace Sim
open PySem PySem.Spec PyProof.Rows L2

/-- a mirror that touches no heap answers only what is pure -/
def PureFn (np : Nat) (f : Mir.PFn) : Prop := ∀ xs, f xs ≠ .bad → xs.length = np ∧ Mir.pureL xs = true
def LenFn (np : Nat) (f : Mir.Fn) : Prop := ∀ xs h, f xs h ≠ .bad → xs.length = np
theorem defP_pure (np n : Nat) (b : Mir.S) : PureFn np (Mir.defP np n b) := fun xs h => by
  unfold Mir.defP at h
  by_cases c : xs.length = np ∧ Mir.pureL xs = true
  · exact c
  · rw [if_neg c] at h
    exact absurd rfl h
theorem defS_len (np n : Nat) (b : Mir.S) : LenFn np (Mir.defS np n b) := fun xs h0 h => by
  unfold Mir.defS at h
  by_cases c : xs.length = np
  · exact c
  · rw [if_neg c] at h
    exact absurd rfl h
theorem defA_len (np n : Nat) (b : Mir.S) : LenFn np (Mir.defA np n b) := fun xs h0 h => by
  unfold Mir.defA at h
  by_cases c : xs.length = np
  · exact c
  · rw [if_neg c] at h
    exact absurd rfl h
def toR (h : Hm) (p : Mir.P) : Mir.R Val := match p with
  | .ok v => .ok v h
  | .err e => .err e h
  | .bad => .bad
section
variable {Γ : Gam} {X : Cx} {W : WX} {a b c e o : Expr} {es : List Expr} {fa fb fc : Mir.E} {fs : Mir.Es} {pos p apos : Pos} {k np : Nat} {f C : Addr} {fd : FuncData} {ps : List Str} {x m : Str}
theorem rv_up {Z' : Addr → Prop} {G : View} {n : Nat} {H : Hp} {v : V} {y : Val} (r : RV Γ ⟨Z', fun _ => 0⟩ 0 H v y) : RV Γ ⟨Z', G.ρ⟩ n H v y :=
  RV.mono (G := ⟨Z', fun _ => 0⟩) (n := 0) (H := H) (G1 := ⟨Z', G.ρ⟩) (n1 := n) (H1 := H) ⟨fun _ z => z, fun _ _ _ e => e, fun i h => absurd h (Nat.not_lt_zero _), Nat.zero_le _⟩ r
theorem rfs_up {Z' : Addr → Prop} {G : View} {n : Nat} {H : Hp} {v : List (Str × V)} {y : List (String × Val)} (r : RFs Γ ⟨Z', fun _ => 0⟩ 0 H v y) : RFs Γ ⟨Z', G.ρ⟩ n H v y :=
  RFs.mono (G := ⟨Z', fun _ => 0⟩) (n := 0) (H := H) (G1 := ⟨Z', G.ρ⟩) (n1 := n) (H1 := H) ⟨fun _ z => z, fun _ _ _ e => e, fun i h => absurd h (Nat.not_lt_zero _), Nat.zero_le _⟩ r
theorem spP_of {mf : Mir.PFn} {σ : L2.St} {G : View} {h : Hm} {H : Hp} {Q : VK} {vs : List V} {xs : List Val} (pf : PureFn np mf) (rh : RH Γ G h H) (rv : RVs Γ G h.length H vs xs) (q : okR Γ W σ G h H (toR h (mf xs)) (KV1 Γ Q)) :
    spP Γ np mf vs H Q (fun cls d H => W cls d σ H) := by
  have nb : mf xs ≠ .bad := fun e => by rw [e] at q; exact q.elim
  obtain ⟨hl, hp⟩ := pf xs nb
  refine ⟨rv.length.trans hl, G.Z, xs, rh.zd, low_pures rv hp (fun _ z => z) (fun _ _ _ e => e), ?_⟩
  revert q
  cases mf xs with
  | ok y => exact fun q Z' H' v f1 f2 f3 f4 r => q ⟨Z', G.ρ⟩ H' (ext_new rh f1 f2 f3) (rh_new rh f1 f2 f3 f4) v (rv_up r)
  | err e =>
    intro q Z' H' cls d f1 f2 f3 f4 r
    refine q ⟨Z', G.ρ⟩ H' cls d (ext_new rh f1 f2 f3) (rh_new rh f1 f2 f3 f4) ?_
    obtain ⟨C, c1, c2, c3⟩ := r
    refine ⟨C, c1, c2, ?_⟩
    rcases c3 with c3 | ⟨dx, fs, e1, e2, e3, e4⟩
    · exact .inl c3
    · exact .inr ⟨dx, fs, e1, e2, e3, rfs_up e4⟩
  | bad => exact fun q => q
theorem spF_of {mf : Mir.Fn} {σ : L2.St} {G : View} {h : Hm} {H : Hp} {Q : VK} {vs : List V} {xs : List Val} (pf : LenFn np mf) (rh : RH Γ G h H) (rv : RVs Γ G h.length H vs xs) (q : okR Γ W σ G h H (mf xs h) (KV1 Γ Q)) :
    spF Γ np mf vs H Q (fun cls d H => W cls d σ H) := by
  have nb : mf xs h ≠ .bad := fun e => by rw [e] at q; exact q.elim
  refine ⟨rv.length.trans (pf xs h nb), G, h, xs, rh, rv, ?_⟩
  revert q
  cases mf xs h with
  | ok y h' => exact fun q G' H' v e rh r => q G' H' e rh v r
  | err e h' => exact fun q => q
  | bad => exact fun q => q

/-- defaults behind the given ones -/
def DVs (Γ : Gam) (dvs : List V) (dxs : List Val) : Prop := ∀ G n H, RVs Γ G n H dvs dxs
theorem dvs0 : DVs Γ [] [] := fun _ _ _ => .nil

/-! ### f(..) -/
theorem tCall_of {sp : Sp} {dvs : List V} {dxs : List Val} {g : List Val → Hm → Mir.R Val} (hd : DVs Γ dvs dxs)
    (hsp : ∀ {σ : L2.St} {G : View} {h : Hm} {H : Hp} {Q : VK} {vs : List V} {xs : List Val}, RH Γ G h H → RVs Γ G h.length H vs xs → okR Γ W σ G h H (g xs h) (KV1 Γ Q) → sp vs H Q (fun cls d H => W cls d σ H))
    {σ : L2.St} {H : Hp} {Q : VK} (q : rdE Γ W (fun env h => (fs env h).bind fun xs h1 => g (xs ++ dxs) h1) σ H Q) :
    rdA Γ W fs σ H fun vs H1 => sp (vs ++ dvs) H1 Q (fun cls d H => W cls d σ H) := by
  obtain ⟨G, env, h, rh, re, q⟩ := q
  exact runA rh re q fun xs h1 G1 H1 vs e1 rh1 re1 rv q1 => hsp rh1 (rv.app (hd _ _ _)) q1
variable {dvs : List V} {ds : List Value} {dxs : List Val}
theorem sCallG {sp : Sp} {g : List Val → Hm → Mir.R Val} (hsp : ∀ {σ : L2.St} {G : View} {h : Hm} {H : Hp} {Q : VK} {vs : List V} {xs : List Val}, RH Γ G h H → RVs Γ G h.length H vs xs → okR Γ W σ G h H (g xs h) (KV1 Γ Q) → sp vs H Q (fun cls d H => W cls d σ H))
    (F : FnOk X.prog X.w X.K X.mg X.base (L2.CX X.prog X.w) k f fd ps sp) (hr : Room k X.A) (hg : Gl X x) (hm : X.mg x = some (.ref f)) (hk : PySem.W.keepIn X.K (.ref f) = true) (hb : Binds X.K fd ps ds) (hv : Vals dvs ds) (hd : DVs Γ dvs dxs) (tk : Takes X W)
    (ha : SimA Γ X W (e :: es) fs) (hdb : (x == ("__debug__" : Str)) = false := by decide) (he : starEach (e :: es) X.env = (false, eval e X.env) :: starEach es X.env := by rfl) (hpl : (backTo pos (starEach es X.env)).any (·.1) = false := by rfl) :
    SimE Γ X W (.Call (.Name x p) (e :: es) [] pos) (fun env h => (fs env h).bind fun xs h1 => g (xs ++ dxs) h1) :=
  weakE (pe_callSD (E := fun σ cls d H => W cls d σ H) F hr hg hm hk hb hv (fun σ => L2.passAt tk σ) ha hdb he hpl) fun σ H Q q => tCall_of (g := g) hd hsp q
theorem sCallG0 {sp : Sp} {g : List Val → Hm → Mir.R Val} (hsp : ∀ {σ : L2.St} {G : View} {h : Hm} {H : Hp} {Q : VK} {vs : List V} {xs : List Val}, RH Γ G h H → RVs Γ G h.length H vs xs → okR Γ W σ G h H (g xs h) (KV1 Γ Q) → sp vs H Q (fun cls d H => W cls d σ H))
    (F : FnOk X.prog X.w X.K X.mg X.base (L2.CX X.prog X.w) k f fd ps sp) (hr : Room k X.A) (hg : Gl X x) (hm : X.mg x = some (.ref f)) (hk : PySem.W.keepIn X.K (.ref f) = true) (hb : Binds X.K fd ps ds) (hv : Vals dvs ds) (hd : DVs Γ dvs dxs) (tk : Takes X W)
    (hdb : (x == ("__debug__" : Str)) = false := by decide) : SimE Γ X W (.Call (.Name x p) [] [] pos) (fun env h => (Mir.esNil env h).bind fun xs h1 => g (xs ++ dxs) h1) := by
  refine ⟨fun pins s σ H Q I ⟨G, env, h, rh, re, q⟩ => ?_⟩
  refine wpAny_Call_Name_kw (ld_glob I hg hm ?_ hdb)
  refine PySem.W.callWith_K0 I.kIn hk (run_fnSD (E := fun σ cls d H => W cls d σ H) (us := []) (vs := []) F hr hb hv (L2.passAt tk σ) I .nil ?_)
  exact hsp rh ((RVs.nil).app (hd _ _ _)) q
theorem sP {mf : Mir.PFn} (pf : PureFn np mf) (F : FnOk X.prog X.w X.K X.mg X.base (L2.CX X.prog X.w) k f fd ps (spP Γ np mf)) (hr : Room k X.A) (hg : Gl X x) (hm : X.mg x = some (.ref f)) (hk : PySem.W.keepIn X.K (.ref f) = true) (hb : Binds X.K fd ps []) (tk : Takes X W)
    (ha : SimA Γ X W (e :: es) fs) (hdb : (x == ("__debug__" : Str)) = false := by decide) (he : starEach (e :: es) X.env = (false, eval e X.env) :: starEach es X.env := by rfl) (hpl : (backTo pos (starEach es X.env)).any (·.1) = false := by rfl) :
    SimE Γ X W (.Call (.Name x p) (e :: es) [] pos) (Mir.eP mf fs) := by
  have q := sCallG (p := p) (dxs := []) (g := fun xs h => toR h (mf xs)) (fun rh rv q => spP_of pf rh rv q) F hr hg hm hk hb .nil dvs0 tk ha hdb he hpl
  have : (fun env h => (fs env h).bind fun xs h1 => toR h1 (mf (xs ++ []))) = Mir.eP mf fs := by
    funext env h
    unfold Mir.eP
    congr 1
    funext xs h1
    rw [List.append_nil]
    unfold toR
    cases mf xs <;> rfl
  rw [this] at q
  exact q
theorem sFn {mf : Mir.Fn} (pf : LenFn np mf) (F : FnOk X.prog X.w X.K X.mg X.base (L2.CX X.prog X.w) k f fd ps (spF Γ np mf)) (hr : Room k X.A) (hg : Gl X x) (hm : X.mg x = some (.ref f)) (hk : PySem.W.keepIn X.K (.ref f) = true) (hb : Binds X.K fd ps []) (tk : Takes X W)
    (ha : SimA Γ X W (e :: es) fs) (hdb : (x == ("__debug__" : Str)) = false := by decide) (he : starEach (e :: es) X.env = (false, eval e X.env) :: starEach es X.env := by rfl) (hpl : (backTo pos (starEach es X.env)).any (·.1) = false := by rfl) :
    SimE Γ X W (.Call (.Name x p) (e :: es) [] pos) (Mir.eF mf fs) := by
  have q := sCallG (p := p) (dxs := []) (g := fun xs h => mf xs h) (fun rh rv q => spF_of pf rh rv q) F hr hg hm hk hb .nil dvs0 tk ha hdb he hpl
  have : (fun env h => (fs env h).bind fun xs h1 => mf (xs ++ []) h1) = Mir.eF mf fs := by
    funext env h
    unfold Mir.eF
    congr 1
    funext xs h1
    rw [List.append_nil]
  rw [this] at q
  exact q
end
end Sim
end

section
set_option linter.all false
set_option Elab.async false
set_option maxRecDepth 100000
set_option maxHeartbeats 1000000
/-! Sim: operators by values. -/
namespace Sim
open PySem PySem.Spec PyProof.Rows L2
section
variable {Γ : Gam} {X : Cx}
/-- one of the machine's rules serves -/
theorem rd2_of {G : View} {h : Hm} {H : Hp} {Q : VK} {z : Val} (rh : RH Γ G h H) (k : ∀ G' H' v, Ext G h.length H G' h.length H' → RH Γ G' h H' → RV Γ G' h.length H' v z → Q v H') {v : V} (r : RV Γ G h.length H v z) : Q v H :=
  k G H v (Ext.refl _ _ _) rh r
theorem toS_len (s : Mir.Cs) : (toS s).length = s.length := by simp [toS, Str.length]
theorem toS_app (s t : Mir.Cs) : toS s ++ toS t = toS (s ++ t) := by
  show (⟨(toS s).cps ++ (toS t).cps⟩ : Str) = toS (s ++ t)
  simp [toS]
theorem toS_tl (s : Mir.Cs) : (toS s).cps.toList = s := by simp [toS]
theorem toS_inj {s t : Mir.Cs} (h : toS s = toS t) : s = t := by rw [← toS_tl s, ← toS_tl t, h]
theorem asL_at {G : View} {h : Hm} {H : Hp} {v : V} {x : Val} {xs : List Val} (rh : RH Γ G h H) (r : RV Γ G h.length H v x) (e : Mir.asL h x = some xs) : ∃ p vs, v = .ref p ∧ H p = some (.lst vs) ∧ RVs Γ G h.length H vs xs := by
  cases r with
  | lst z t r =>
    cases e
    exact ⟨_, _, rfl, t, r⟩
  | ref i hi =>
    unfold Mir.asL at e
    cases o : h[i]? with
    | none => simp only [o] at e; cases e
    | some ob =>
      obtain ⟨u, hu, ro⟩ := rh.ob i ob o
      cases ro with
      | lst r =>
        simp only [o] at e
        cases e
        exact ⟨_, _, rfl, hu, r⟩
      | _ => simp only [o] at e; cases e
  | _ => cases e
theorem small_ok {i : Int} (h : Mir.small i = true) : -(2 ^ 64) < i ∧ i < 2 ^ 64 := by
  have h := of_decide_eq_true h
  constructor <;> omega
theorem new_list {G : View} {h : Hm} {H : Hp} {p : Addr} {vs : List V} {xs : List Val} (rh : RH Γ G h H) (hp : H p = none) (r : RVs Γ G h.length H vs xs) :
    ∃ G', Ext G h.length H G' h.length (upd H p (.lst vs)) ∧ RH Γ G' h (upd H p (.lst vs)) ∧ RV Γ G' h.length (upd H p (.lst vs)) (.ref p) (.lst xs) := by
  obtain ⟨e2, rh2⟩ := new_z (u := .lst vs) rh hp
  exact ⟨_, e2, rh2, .lst (.inr rfl) upd_same (r.ext rh e2)⟩
theorem new_tup {G : View} {h : Hm} {H : Hp} {p : Addr} {vs : List V} {xs : List Val} (rh : RH Γ G h H) (hp : H p = none) (r : RVs Γ G h.length H vs xs) :
    ∃ G', Ext G h.length H G' h.length (upd H p (.tup vs)) ∧ RH Γ G' h (upd H p (.tup vs)) ∧ RV Γ G' h.length (upd H p (.tup vs)) (.ref p) (.tup xs) := by
  obtain ⟨e2, rh2⟩ := new_z (u := .tup vs) rh hp
  exact ⟨_, e2, rh2, .tup (.inl ⟨.inr rfl, upd_same⟩) (r.ext rh e2)⟩
theorem vAdd_lists {h : Hm} {x y z : Val} {xs ys : List Val} (ex : Mir.asL h x = some xs) (ey : Mir.asL h y = some ys) (e : Mir.vAdd h x y = some z) : xs.length + ys.length ≤ Mir.line ∧ z = .lst (xs ++ ys) := by
  have k : ∀ o : Option Val, o = (match Mir.asL h x, Mir.asL h y with | some xs, some ys => if xs.length + ys.length ≤ Mir.line then some (.lst (xs ++ ys)) else none | _, _ => none) → o = some z → xs.length + ys.length ≤ Mir.line ∧ z = .lst (xs ++ ys) := by
    intro o h1 h2
    rw [ex, ey] at h1
    simp only at h1
    by_cases c : xs.length + ys.length ≤ Mir.line
    · rw [if_pos c] at h1
      rw [h1] at h2
      cases h2
      exact ⟨c, rfl⟩
    · rw [if_neg c] at h1
      rw [h1] at h2
      cases h2
  refine k _ ?_ e
  cases x with
  | lst _ => unfold Mir.vAdd; rfl
  | ref _ => unfold Mir.vAdd; rfl
  | _ => cases ex
theorem vAdd_or {h : Hm} {x y z : Val} (e : Mir.vAdd h x y = some z) : (∃ i j, x = .int i ∧ y = .int j ∧ z = .int (i + j)) ∨ (∃ i k, x = .int i ∧ y = .bl k ∧ z = .int (i + Mir.b2i k)) ∨ (∃ k i, x = .bl k ∧ y = .int i ∧ z = .int (Mir.b2i k + i)) ∨
    (∃ s t, x = .str s ∧ y = .str t ∧ s.length + t.length ≤ Mir.line ∧ z = .str (s ++ t)) ∨ (∃ s t, x = .tup s ∧ y = .tup t ∧ s.length + t.length ≤ Mir.line ∧ z = .tup (s ++ t)) ∨
    (∃ xs ys, Mir.asL h x = some xs ∧ Mir.asL h y = some ys) := by
  unfold Mir.vAdd at e
  split at e
  · cases e; exact .inl ⟨_, _, rfl, rfl, rfl⟩
  · cases e; exact .inr (.inl ⟨_, _, rfl, rfl, rfl⟩)
  · cases e; exact .inr (.inr (.inl ⟨_, _, rfl, rfl, rfl⟩))
  · split at e
    · cases e; exact .inr (.inr (.inr (.inl ⟨_, _, rfl, rfl, by assumption, rfl⟩)))
    · cases e
  · split at e
    · cases e; exact .inr (.inr (.inr (.inr (.inl ⟨_, _, rfl, rfl, by assumption, rfl⟩))))
    · cases e
  · split at e
    · rename_i h1 h2
      exact .inr (.inr (.inr (.inr (.inr ⟨_, _, h1, h2⟩))))
    · cases e
theorem str_app {s t : Mir.Cs} (h : s.all (· < 0x110000) = true) (h' : t.all (· < 0x110000) = true) : (s ++ t).all (· < 0x110000) = true := by rw [List.all_append, h, h']; rfl
theorem oAdd (hK : X.K = Γ.K) : OpR X (binaryOp .Add) (rd2 Γ Mir.vAdd) := by
  intro pins s σ H x y v u Q I rx ry ⟨G, h, a, b, rh, ra, rb, z, ez, k⟩
  rcases vAdd_or ez with ⟨i, j, rfl, rfl, rfl⟩ | ⟨i, j, rfl, rfl, rfl⟩ | ⟨i, j, rfl, rfl, rfl⟩ | ⟨i, j, rfl, rfl, hl, rfl⟩ | ⟨i, j, rfl, rfl, hl, rfl⟩ | ⟨xs, ys, hx, hy⟩
  · cases ra; cases rb
    exact op_add pins s σ H _ _ v u Q I rx ry ⟨i, j, rfl, rfl, rd2_of rh k (.int _)⟩
  · cases ra; cases rb
    exact op_add_ib pins s σ H _ _ v u Q I rx ry ⟨i, j, rfl, rfl, rd2_of rh k (.int _)⟩
  · cases ra; cases rb
    obtain ⟨t, rfl⟩ := ry
    cases rx
    exact PySem.IntBool.add_bool_int ⟨.int (Mir.b2i i + j), H, I.tok _, ⟨_, rfl⟩, rd2_of rh k (.int _)⟩
  · cases ra with | str _ h1 => cases rb with | str _ h2 =>
    refine op_add_str pins s σ H _ _ v u Q I rx ry ⟨toS i, toS j, rfl, rfl, by rw [toS_len, toS_len, ← line_eq]; exact hl, ?_⟩
    rw [toS_app]
    exact rd2_of rh k (.str _ (str_app h1 h2))
  · have ra' := ra
    have rb' := rb
    cases ra with | tup t1 r1 => cases rb with | tup t2 r2 =>
    refine op_catA pins s σ H _ _ v u Q I rx ry ⟨_, _, _, _, rfl, rfl, hK ▸ t1.sq, hK ▸ t2.sq, by rw [r1.length, r2.length, ← line_eq]; exact hl, fun e1 => ?_, fun _ e2 => ?_, fun _ _ p hp => ?_⟩
    · subst e1
      cases r1
      exact rd2_of rh k rb'
    · subst e2
      cases r2
      rw [List.append_nil] at k
      exact rd2_of rh k ra'
    · obtain ⟨G', e', rh', rv'⟩ := new_tup rh hp (r1.app r2)
      exact k G' _ _ e' rh' rv'
  · obtain ⟨hl, rfl⟩ := vAdd_lists hx hy ez
    obtain ⟨p, vs, rfl, hp, r1⟩ := asL_at rh ra hx
    obtain ⟨q, ws, rfl, hq, r2⟩ := asL_at rh rb hy
    refine op_cat pins s σ H _ _ v u Q I rx ry ⟨p, q, vs, ws, rfl, rfl, hp, hq, by rw [r1.length, r2.length, ← line_eq]; exact hl, fun l hl => ?_⟩
    obtain ⟨G', e', rh', rv'⟩ := new_list rh hl (r1.app r2)
    exact k G' _ _ e' rh' rv'
theorem oSub : OpR X (binaryOp .Sub) (rd2 Γ fun _ => Mir.vSub) := by
  intro pins s σ H x y v u Q I rx ry ⟨G, h, a, b, rh, ra, rb, z, ez, k⟩
  have ez : Mir.vSub a b = some z := ez
  unfold Mir.vSub at ez
  split at ez
  · cases ez; cases ra; cases rb
    exact op_sub pins s σ H _ _ v u Q I rx ry ⟨_, _, rfl, rfl, rd2_of rh k (.int _)⟩
  · cases ez; cases ra; cases rb
    obtain ⟨t, rfl⟩ := rx
    cases ry
    exact PySem.IntBool.sub_int_bool ⟨.int _, H, I.tok _, ⟨_, rfl⟩, rd2_of rh k (.int _)⟩
  · cases ez; cases ra; cases rb
    obtain ⟨t, rfl⟩ := ry
    cases rx
    exact PySem.IntBool.sub_bool_int ⟨.int _, H, I.tok _, ⟨_, rfl⟩, rd2_of rh k (.int _)⟩
  · cases ez
theorem oMul : OpR X (binaryOp .Mult) (rd2 Γ fun _ => Mir.vMul) := by
  intro pins s σ H x y v u Q I rx ry ⟨G, h, a, b, rh, ra, rb, z, ez, k⟩
  have ez : Mir.vMul a b = some z := ez
  unfold Mir.vMul at ez
  split at ez
  · split at ez
    · rename_i c
      cases ez; cases ra; cases rb
      rw [Bool.or_eq_true] at c
      exact op_mul pins s σ H _ _ v u Q I rx ry ⟨_, _, rfl, rfl, c.elim (fun c => .inl (small_ok c)) fun c => .inr (small_ok c), rd2_of rh k (.int _)⟩
    · cases ez
  · cases ez
theorem oDiv : OpR X (binaryOp .FloorDiv) (rd2 Γ fun _ => Mir.vDiv) := by
  intro pins s σ H x y v u Q I rx ry ⟨G, h, a, b, rh, ra, rb, z, ez, k⟩
  have ez : Mir.vDiv a b = some z := ez
  unfold Mir.vDiv at ez
  split at ez
  · split at ez
    · rename_i c
      cases ez; cases ra; cases rb
      exact op_fdiv pins s σ H _ _ v u Q I rx ry ⟨_, _, rfl, rfl, c, rd2_of rh k (.int _)⟩
    · cases ez
  · cases ez
theorem oMod : OpR X (binaryOp .Mod) (rd2 Γ fun _ => Mir.vMod) := by
  intro pins s σ H x y v u Q I rx ry ⟨G, h, a, b, rh, ra, rb, z, ez, k⟩
  have ez : Mir.vMod a b = some z := ez
  unfold Mir.vMod at ez
  split at ez
  · split at ez
    · rename_i c
      cases ez; cases ra; cases rb
      exact op_mod pins s σ H _ _ v u Q I rx ry ⟨_, _, rfl, rfl, c, rd2_of rh k (.int _)⟩
    · cases ez
  · cases ez
theorem oPow : OpR X (binaryOp .Pow) (rd2 Γ fun _ => Mir.vPow) := by
  intro pins s σ H x y v u Q I rx ry ⟨G, h, a, b, rh, ra, rb, z, ez, k⟩
  have ez : Mir.vPow a b = some z := ez
  unfold Mir.vPow at ez
  split at ez
  · split at ez
    · rename_i c
      cases ez; cases ra; cases rb
      exact op_pow pins s σ H _ _ v u Q I rx ry ⟨_, _, rfl, rfl, c, rd2_of rh k (.int _)⟩
    · cases ez
  · cases ez
theorem oLt : OpR X (compareOp .Lt) (rd2 Γ fun _ => Mir.vLt) := by
  intro pins s σ H x y v u Q I rx ry ⟨G, h, a, b, rh, ra, rb, z, ez, k⟩
  have ez : Mir.vLt a b = some z := ez
  unfold Mir.vLt at ez
  split at ez
  · cases ez; cases ra; cases rb
    exact op_lt pins s σ H _ _ v u Q I rx ry ⟨_, _, rfl, rfl, rd2_of rh k (.bl _)⟩
  · cases ez
    cases ra with | str s1 h1 => cases rb with | str s2 h2 =>
    refine op_lt_str pins s σ H _ _ v u Q I rx ry ⟨_, _, rfl, rfl, ?_⟩
    rw [toS_tl, toS_tl]
    exact rd2_of rh k (.bl _)
  · cases ez
theorem oLe : OpR X (compareOp .LtE) (rd2 Γ fun _ => Mir.vLe) := by
  intro pins s σ H x y v u Q I rx ry ⟨G, h, a, b, rh, ra, rb, z, ez, k⟩
  have ez : Mir.vLe a b = some z := ez
  unfold Mir.vLe at ez
  split at ez
  · cases ez; cases ra; cases rb
    exact op_le pins s σ H _ _ v u Q I rx ry ⟨_, _, rfl, rfl, rd2_of rh k (.bl _)⟩
  · cases ez
theorem oGt : OpR X (compareOp .Gt) (rd2 Γ fun _ => Mir.vGt) := by
  intro pins s σ H x y v u Q I rx ry ⟨G, h, a, b, rh, ra, rb, z, ez, k⟩
  have ez : Mir.vGt a b = some z := ez
  unfold Mir.vGt at ez
  split at ez
  · cases ez; cases ra; cases rb
    exact op_gt pins s σ H _ _ v u Q I rx ry ⟨_, _, rfl, rfl, rd2_of rh k (.bl _)⟩
  · cases ez
theorem oGe : OpR X (compareOp .GtE) (rd2 Γ fun _ => Mir.vGe) := by
  intro pins s σ H x y v u Q I rx ry ⟨G, h, a, b, rh, ra, rb, z, ez, k⟩
  have ez : Mir.vGe a b = some z := ez
  unfold Mir.vGe at ez
  split at ez
  · cases ez; cases ra; cases rb
    exact op_ge pins s σ H _ _ v u Q I rx ry ⟨_, _, rfl, rfl, rd2_of rh k (.bl _)⟩
  · cases ez
end
end Sim
end

section
set_option linter.all false
set_option Elab.async false
set_option maxRecDepth 100000
set_option maxHeartbeats 1000000
/-! Sim: ==, in, is. -/
namespace Sim
open PySem PySem.Spec PyProof.Rows L2
mutual
def toD : Val → PyData
  | .bl b => .bool b
  | .int i => .int i
  | .str s => .str (toS s)
  | .tup xs => .tuple (toDs xs)
  | .lst xs => .list (toDs xs)
  | .non => .none
  | .dct _ => .none
  | .obj _ _ => .none
  | .ref _ => .none
  | .fn _ => .none
  | .scr _ => .none
def toDs : List Val → List PyData
  | [] => []
  | x :: xs => toD x :: toDs xs
end
theorem toDs_map (xs : List Val) : toDs xs = xs.map toD := by
  induction xs with
  | nil => rfl
  | cons x xs ih => simp only [toDs, List.map_cons, ih]
theorem toS_beq (s t : Mir.Cs) : (toS s == toS t) = (s == t) := by
  by_cases e : s = t
  · rw [e]; simp
  · have : toS s ≠ toS t := fun q => e (toS_inj q)
    rw [beq_eq_false_iff_ne.mpr this, beq_eq_false_iff_ne.mpr e]
mutual
theorem eqv_toD : ∀ (k : Nat) (a b : Val), Mir.isD k a = true → Mir.isD k b = true → PyData.eqv (toD a) (toD b) = Mir.eqv a b
  | k, a, b, ha, hb => by
    cases k with
    | zero =>
      cases a <;> simp only [Mir.isD] at ha <;> cases b <;> simp only [Mir.isD] at hb <;> first | rfl | exact absurd ha (by decide) | exact absurd hb (by decide) | (simp only [toD, PyData.eqv, Mir.eqv]; exact toS_beq _ _)
    | succ k =>
      cases a with
      | tup xs =>
        cases b with
        | tup ys =>
          simp only [toD, PyData.eqv, Mir.eqv]
          exact eqvL_toD k xs ys (List.all_eq_true.mp (by simpa only [Mir.isD] using ha)) (List.all_eq_true.mp (by simpa only [Mir.isD] using hb))
        | _ => first | rfl | (simp only [Mir.isD] at hb; exact absurd hb (by decide))
      | lst xs =>
        cases b with
        | lst ys =>
          simp only [toD, PyData.eqv, Mir.eqv]
          exact eqvL_toD k xs ys (List.all_eq_true.mp (by simpa only [Mir.isD] using ha)) (List.all_eq_true.mp (by simpa only [Mir.isD] using hb))
        | _ => first | rfl | (simp only [Mir.isD] at hb; exact absurd hb (by decide))
      | str s =>
        cases b with
        | str t => simp only [toD, PyData.eqv, Mir.eqv]; exact toS_beq _ _
        | _ => first | rfl | (simp only [Mir.isD] at hb; exact absurd hb (by decide))
      | dct _ => simp only [Mir.isD] at ha; exact absurd ha (by decide)
      | obj _ _ => simp only [Mir.isD] at ha; exact absurd ha (by decide)
      | ref _ => simp only [Mir.isD] at ha; exact absurd ha (by decide)
      | fn _ => simp only [Mir.isD] at ha; exact absurd ha (by decide)
      | scr _ => simp only [Mir.isD] at ha; exact absurd ha (by decide)
      | _ => cases b <;> first | rfl | (simp only [Mir.isD] at hb; exact absurd hb (by decide))
theorem eqvL_toD : ∀ (k : Nat) (xs ys : List Val), (∀ x ∈ xs, Mir.isD k x = true) → (∀ y ∈ ys, Mir.isD k y = true) → PyData.eqvAll (toDs xs) (toDs ys) = Mir.eqvL xs ys
  | _, [], [], _, _ => rfl
  | _, [], _ :: _, _, _ => rfl
  | _, _ :: _, [], _, _ => rfl
  | k, x :: xs, y :: ys, hx, hy => by
    simp only [toDs, PyData.eqvAll, Mir.eqvL]
    rw [eqv_toD k x y (hx x List.mem_cons_self) (hy y List.mem_cons_self), eqvL_toD k xs ys (fun z hz => hx z (List.mem_cons_of_mem _ hz)) (fun z hz => hy z (List.mem_cons_of_mem _ hz))]
end

mutual
theorem dp_of {Γ : Gam} {G : View} {n : Nat} {H : Hp} : ∀ (k : Nat) {v : V} {a : Val}, RV Γ G n H v a → Mir.isD k a = true → Dp Γ.K H v (toD a) ∧ (toD a).canLay0 = true ∧ (toD a).depth ≤ k
  | k, _, _, .non, _ => ⟨.non, rfl, Nat.zero_le _⟩
  | k, _, _, .bl b, _ => ⟨.bl b, rfl, Nat.zero_le _⟩
  | k, _, _, .int b, _ => ⟨.int b, rfl, Nat.zero_le _⟩
  | k, _, _, .str b h, _ => ⟨.str _, by
      show PyData.strOk (toS b) = true
      unfold PyData.strOk toS
      simpa using h, Nat.zero_le _⟩
  | 0, _, _, .tup t r, h => by simp only [Mir.isD] at h; exact absurd h (by decide)
  | k + 1, _, _, .tup t r, h => by
    obtain ⟨h1, h2, h3⟩ := dps_of k r (List.all_eq_true.mp (by simpa only [Mir.isD] using h))
    exact ⟨.tup t.sq h1, h2, Nat.succ_le_succ h3⟩
  | 0, _, _, .lst z t r, h => by simp only [Mir.isD] at h; exact absurd h (by decide)
  | k + 1, _, _, .lst z t r, h => by
    obtain ⟨h1, h2, h3⟩ := dps_of k r (List.all_eq_true.mp (by simpa only [Mir.isD] using h))
    exact ⟨.lst (SqL.of t) h1, h2, Nat.succ_le_succ h3⟩
  | k, _, _, .dk _ _ _, h => by cases k <;> (simp only [Mir.isD] at h; exact absurd h (by decide))
  | k, _, _, .dt _ _ _, h => by cases k <;> (simp only [Mir.isD] at h; exact absurd h (by decide))
  | k, _, _, .obj _ _ _ _, h => by cases k <;> (simp only [Mir.isD] at h; exact absurd h (by decide))
  | k, _, _, .ref _ _, h => by cases k <;> (simp only [Mir.isD] at h; exact absurd h (by decide))
  | k, _, _, .fn _, h => by cases k <;> (simp only [Mir.isD] at h; exact absurd h (by decide))
  | k, _, _, .scr _, h => by cases k <;> (simp only [Mir.isD] at h; exact absurd h (by decide))
theorem dps_of {Γ : Gam} {G : View} {n : Nat} {H : Hp} : ∀ (k : Nat) {vs : List V} {xs : List Val}, RVs Γ G n H vs xs → (∀ x ∈ xs, Mir.isD k x = true) → DpAll Γ.K H vs (toDs xs) ∧ PyData.canLayAll0 (toDs xs) = true ∧ PyData.depthAll (toDs xs) ≤ k
  | _, _, _, .nil, _ => ⟨.nil, rfl, Nat.zero_le _⟩
  | k, _, _, .cons r s, h => by
    obtain ⟨h1, h2, h3⟩ := dp_of k r (h _ List.mem_cons_self)
    obtain ⟨k1, k2, k3⟩ := dps_of k s fun x hx => h x (List.mem_cons_of_mem _ hx)
    refine ⟨.cons h1 k1, ?_, ?_⟩
    · simp only [toDs, PyData.canLayAll0, h2, k2, Bool.and_self]
    · simp only [toDs, PyData.depthAll]
      exact Nat.max_le.mpr ⟨h3, k3⟩
end
theorem shaped_of {k : Nat} {d : PyData} (hk : k ≤ 64) (h : d.canLay0 = true ∧ d.depth ≤ k) : SeqAt.shaped d = true := by
  unfold SeqAt.shaped
  rw [h.1, Bool.true_and]
  exact decide_eq_true (Nat.le_trans h.2 hk)
section
variable {Γ : Gam} {X : Cx} {k : Nat}
theorem Room.u64 {A : Around} (hr : Room k A) : A.units + 65 < cLine := by have := hr.un; omega
/-- data read deep -/
theorem deep_of {G : View} {h : Hm} {H : Hp} {v : V} {x a : Val} {j : Nat} (hj : j ≤ 64) (rh : RH Γ G h H) (r : RV Γ G h.length H v x) (e : Mir.frz 0 h Mir.deepest x = some a) (d : Mir.isD j a = true) : Dp Γ.K H v (toD a) ∧ SeqAt.shaped (toD a) = true := by
  obtain ⟨h1, h2⟩ := dp_of j (frz_ok rh _ v x a r e) d
  exact ⟨h1, shaped_of hj h2⟩
theorem oEq (hK : X.K = Γ.K) (hr : Room k X.A) : OpR X (compareOp .Eq) (rd2 Γ Mir.vEq) := by
  intro pins s σ H x y v u Q I rx ry ⟨G, h, a, b, rh, ra, rb, z, ez, q⟩
  unfold Mir.vEq at ez
  split at ez
  · rename_i a' b' e1 e2
    split at ez
    · rename_i c
      cases ez
      rw [Bool.and_eq_true] at c
      obtain ⟨d1, s1⟩ := deep_of (by decide) rh ra e1 c.1
      obtain ⟨d2, s2⟩ := deep_of (by decide) rh rb e2 c.2
      refine op_eqD (by have := Room.u64 hr; omega) pins s σ H _ _ v u Q I rx ry ⟨_, _, hK ▸ d1, hK ▸ d2, s1, s2, ?_⟩
      rw [eqv_toD 60 _ _ c.1 c.2]
      exact rd2_of rh q (.bl _)
    · cases ez
  · cases ez
theorem oNe (hK : X.K = Γ.K) (hr : Room k X.A) : OpR X (compareOp .NotEq) (rd2 Γ Mir.vNe) := by
  intro pins s σ H x y v u Q I rx ry ⟨G, h, a, b, rh, ra, rb, z, ez, q⟩
  unfold Mir.vNe at ez
  split at ez
  · rename_i a' b' e1 e2
    split at ez
    · rename_i c
      cases ez
      rw [Bool.and_eq_true] at c
      obtain ⟨d1, s1⟩ := deep_of (by decide) rh ra e1 c.1
      obtain ⟨d2, s2⟩ := deep_of (by decide) rh rb e2 c.2
      refine op_neD (by have := Room.u64 hr; omega) pins s σ H _ _ v u Q I rx ry ⟨_, _, hK ▸ d1, hK ▸ d2, s1, s2, ?_⟩
      rw [eqv_toD 60 _ _ c.1 c.2]
      exact rd2_of rh q (.bl _)
    · cases ez
  · cases ez
theorem isNon_V {G : View} {n : Nat} {H : Hp} {v : V} {x : Val} (fn : ∀ f v, Γ.fnv f v → v ≠ .non) (r : RV Γ G n H v x) : decide (v = .non) = Mir.isNon x := by
  cases r with
  | fn e => exact decide_eq_false (fn _ _ e)
  | _ => rfl
theorem oIs (fn : ∀ f v, Γ.fnv f v → v ≠ .non) : OpR X (compareOp .Is) (rd2 Γ fun _ => Mir.vIs) := by
  intro pins s σ H x y v u Q I rx ry ⟨G, h, a, b, rh, ra, rb, z, ez, q⟩
  have ez : Mir.vIs a b = some z := ez
  unfold Mir.vIs at ez
  split at ez
  · cases ez
    cases rb with
    | non =>
      refine op_isN pins s σ H _ _ v u Q I rx ry ⟨rfl, ?_⟩
      rw [isNon_V fn ra]
      exact rd2_of rh q (.bl _)
  · cases ez; cases ra; cases rb
    exact op_isBl pins s σ H _ _ v u Q I rx ry ⟨_, _, rfl, rfl, rd2_of rh q (.bl _)⟩
  · cases ez
theorem oIsNot (fn : ∀ f v, Γ.fnv f v → v ≠ .non) : OpR X (compareOp .IsNot) (rd2 Γ fun _ => Mir.vIsNot) := by
  intro pins s σ H x y v u Q I rx ry ⟨G, h, a, b, rh, ra, rb, z, ez, q⟩
  have ez : Mir.vIsNot a b = some z := ez
  unfold Mir.vIsNot at ez
  split at ez
  · cases ez
    cases rb with
    | non =>
      refine op_notN pins s σ H _ _ v u Q I rx ry ⟨rfl, ?_⟩
      rw [isNon_V fn ra]
      exact rd2_of rh q (.bl _)
  · cases ez; cases ra; cases rb
    exact op_notBl pins s σ H _ _ v u Q I rx ry ⟨_, _, rfl, rfl, rd2_of rh q (.bl _)⟩
  · cases ez

/-! ### in -/
theorem flat_of {G : View} {n : Nat} {H : Hp} {v : V} {a : Val} (r : RV Γ G n H v a) (f : Mir.isF a = true) : flatV v = true := by
  cases r with
  | non => rfl
  | bl _ => rfl
  | int _ => rfl
  | str _ _ => rfl
  | _ => exact absurd f (by intro z; cases z)
theorem eqV_of {G : View} {n : Nat} {H : Hp} {v w : V} {a b : Val} (r : RV Γ G n H v a) (q : RV Γ G n H w b) (f : Mir.isF a = true) (g : Mir.isF b = true) : eqV v w = Mir.eqv a b := by
  cases r with
  | str s h =>
    cases q with
    | str t h' =>
      show (toS s == toS t) = _
      rw [toS_beq]
      unfold Mir.eqv
      rfl
    | non => unfold Mir.eqv; rfl
    | bl _ => unfold Mir.eqv; rfl
    | int _ => unfold Mir.eqv; rfl
    | _ => exact absurd g (by intro z; cases z)
  | non => cases q <;> first | (unfold Mir.eqv; rfl) | exact absurd g (by intro z; cases z)
  | bl _ => cases q <;> first | (unfold Mir.eqv; rfl) | exact absurd g (by intro z; cases z)
  | int _ => cases q <;> first | (unfold Mir.eqv; rfl) | exact absurd g (by intro z; cases z)
  | _ => exact absurd f (by intro z; cases z)
theorem flats_of {G : View} {n : Nat} {H : Hp} {vs : List V} {xs : List Val} (r : RVs Γ G n H vs xs) (f : xs.all Mir.isF = true) : vs.all flatV = true := by
  induction xs generalizing vs with
  | nil => cases r; rfl
  | cons x xs ih =>
    rw [List.all_cons, Bool.and_eq_true] at f
    cases r with
    | cons r s => rw [List.all_cons, flat_of r f.1, ih s f.2]; rfl
theorem inV_of {G : View} {n : Nat} {H : Hp} {v : V} {a : Val} {vs : List V} {xs : List Val} (q : RV Γ G n H v a) (g : Mir.isF a = true) (r : RVs Γ G n H vs xs) (f : xs.all Mir.isF = true) : inV v vs = xs.any fun z => Mir.eqv z a := by
  unfold inV
  induction xs generalizing vs with
  | nil => cases r; rfl
  | cons x xs ih =>
    rw [List.all_cons, Bool.and_eq_true] at f
    cases r with
    | cons r s => rw [List.any_cons, List.any_cons, eqV_of r q f.1 g, ih s f.2]
/-- a key of the mirror's as a key of the machine's -/
theorem isK_of {G : View} {n : Nat} {H : Hp} {v : V} {a : Val} (r : RV Γ G n H v a) (f : Mir.isK a = true) : ∃ k : Key, v = kV k ∧ a = keyV k := by
  cases r with
  | int i => exact ⟨.inl i, rfl, rfl⟩
  | str s h => exact ⟨.inr (toS s), rfl, by show Mir.Val.str s = .str (toS s).cps.toList; rw [toS_tl]⟩
  | _ => exact absurd f (by intro z; cases z)
theorem isKs_of {G : View} {n : Nat} {H : Hp} {vs : List V} {xs : List Val} (r : RVs Γ G n H vs xs) (f : xs.all Mir.isK = true) : ∃ k : List Key, vs = k.map kV ∧ xs = k.map keyV := by
  induction xs generalizing vs with
  | nil => cases r; exact ⟨[], rfl, rfl⟩
  | cons x xs ih =>
    rw [List.all_cons, Bool.and_eq_true] at f
    cases r with
    | cons r s =>
      obtain ⟨k, e1, e2⟩ := isK_of r f.1
      obtain ⟨ks, e3, e4⟩ := ih s f.2
      exact ⟨k :: ks, by rw [e1, e3]; rfl, by rw [e2, e4]; rfl⟩
theorem str_ext {x y : Str} (h : x.cps.toList = y.cps.toList) : x = y := by
  cases x; cases y
  congr 1
  exact Array.toList_inj.mp h
theorem kEq_key (k j : Key) : Mir.kEq (keyV k) (keyV j) = decide (k = j) := by
  cases k with
  | inl i =>
    cases j with
    | inl i' =>
      show (i == i') = _
      by_cases e : i = i'
      · subst e; simp
      · rw [beq_eq_false_iff_ne.mpr e, decide_eq_false fun q => e (Sum.inl.inj q)]
    | inr x => exact (decide_eq_false fun q => nomatch q).symm
  | inr x =>
    cases j with
    | inl i => exact (decide_eq_false fun q => nomatch q).symm
    | inr y =>
      show (x.cps.toList == y.cps.toList) = _
      by_cases e : x = y
      · subst e; simp
      · rw [beq_eq_false_iff_ne.mpr fun q => e (str_ext q), decide_eq_false fun q => e (Sum.inr.inj q)]
theorem eqv_key (k j : Key) : Mir.eqv (keyV k) (keyV j) = decide (k = j) := by
  rw [← kEq_key]
  cases k <;> cases j <;> first | (unfold Mir.eqv; rfl) | rfl
theorem eqvL_keys : ∀ (k j : List Key), Mir.eqvL (k.map keyV) (j.map keyV) = decide (k = j)
  | [], [] => rfl
  | [], _ :: _ => rfl
  | _ :: _, [] => rfl
  | a :: k, b :: j => by
    show (Mir.eqv (keyV a) (keyV b) && Mir.eqvL (k.map keyV) (j.map keyV)) = _
    rw [eqv_key, eqvL_keys k j]
    by_cases e : a = b
    · subst e
      by_cases e2 : k = j
      · subst e2; simp
      · simp [e2]
    · simp [e]
def RVo (Γ : Gam) (G : View) (n : Nat) (H : Hp) : Option V → Option Val → Prop
  | some v, some x => RV Γ G n H v x
  | none, none => True
  | _, _ => False
theorem RKs.get {G : View} {n : Nat} {H : Hp} {kvs : List (Key × V)} {ys : List (Val × Val)} (r : RKs Γ G n H kvs ys) (k : Key) : RVo Γ G n H (valV kvs k) (Mir.dGet ys (keyV k)) := by
  induction ys generalizing kvs with
  | nil => cases r; trivial
  | cons y ys ih =>
    obtain ⟨ky, y⟩ := y
    cases r with
    | @cons k0 _ _ _ _ r s =>
      unfold valV Mir.dGet
      rw [List.find?_cons, List.find?_cons]
      show RVo Γ G n H (Option.map _ (match decide (k0 = k) with | true => some (k0, _) | false => _)) (Option.map _ (match Mir.kEq (keyV k0) (keyV k) with | true => some (keyV k0, y) | false => _))
      rw [kEq_key]
      cases decide (k0 = k) with
      | true => exact r
      | false => exact ih s
theorem RTs.get {G : View} {n : Nat} {H : Hp} {kvs : List (List Key × V)} {ys : List (Val × Val)} (r : RTs Γ G n H kvs ys) (k : List Key) : RVo Γ G n H (valV kvs k) (Mir.dGet ys (.tup (k.map keyV))) := by
  induction ys generalizing kvs with
  | nil => cases r; trivial
  | cons y ys ih =>
    obtain ⟨ky, y⟩ := y
    cases r with
    | @cons k0 _ _ _ _ r s =>
      unfold valV Mir.dGet
      rw [List.find?_cons, List.find?_cons]
      show RVo Γ G n H (Option.map _ (match decide (k0 = k) with | true => some (k0, _) | false => _)) (Option.map _ (match Mir.eqvL (k0.map keyV) (k.map keyV) with | true => some (Mir.Val.tup (k0.map keyV), y) | false => _))
      rw [eqvL_keys]
      cases decide (k0 = k) with
      | true => exact r
      | false => exact ih s
theorem RVo.some_iff {G : View} {n : Nat} {H : Hp} {o : Option V} {u : Option Val} (r : RVo Γ G n H o u) : o.isSome = u.isSome := by
  cases o <;> cases u <;> first | rfl | exact r.elim

/-- y is the key k: an int, a text; a tuple of these -/
inductive KAt (K : PySem.W.Frag) (H : Hp) : V → List Key → Prop
  | t {b : Addr} {k : List Key} : SqT K H b (k.map kV) → KAt K H (.ref b) k
/-- what the dict at a holds at the key y -/
def DGet' (K : PySem.W.Frag) (H : Hp) (a : Addr) (y : V) (r : Option V) : Prop :=
  (∃ kvs k, Rd H a (.dK kvs) ∧ y = kV k ∧ r = valV kvs k) ∨ ∃ kvs k b, Rd H a (.dT kvs) ∧ y = .ref b ∧ SqT K H b (k.map kV) ∧ r = valV kvs k
section
variable {pins : List (Addr × Obj)} {σ : L2.St} {H : Hp} {s : Shared} {a : Addr} {y v : V} {u r : Value} {o : Option V} {A : Around} {E : Value → Shared → Prop}
theorem key_is (I : L2.Inv X pins σ H s) {b : Addr} {k : List Key} (t : SqT X.K H b (k.map kV)) : (tupleKind (mixKind X.prog X.w)).is s.heap k b := by
  obtain ⟨its, r, ⟨o, h1, h2, n, h3⟩, _⟩ := I.tuple t
  exact ⟨o, its.toArray, n, h1, h2, h3, by simpa using items_are r⟩
theorem d_in' {Q : Value → Shared → Prop} (hu : A.units + 1 < cLine) (I : L2.Inv X pins σ H s) (g : DGet' X.K H a y o) (ry : L2.RelV y u) (h : ∀ s', L2.Inv X pins σ H s' → Q (.bool o.isSome) s') :
    wpAny (model X.prog X.w) A (compareOp .In u (.ref a)) Q E s := by
  rcases g with ⟨kvs, k, e, ey, l⟩ | ⟨kvs, k, b, e, ey, eb, l⟩
  · exact d_in hu I (.inl ⟨kvs, k, e, ey, l⟩) ry h
  · subst ey
    cases (show u = Value.ref b from ry)
    obtain ⟨z, hd, xs, rel, dd⟩ := dt_rd I.hok e
    refine wpAny_in_heap (tupleKind_room_in1 hu) (key_is I eb) hd dd ?_
    have q := (rel.val k).isSome_eq
    rw [Option.isSome_map] at q
    rw [← q, ← l]
    exact h _ (I.tok _)
theorem d_notIn' {Q : Value → Shared → Prop} (hu : A.units + 1 < cLine) (I : L2.Inv X pins σ H s) (g : DGet' X.K H a y o) (ry : L2.RelV y u) (h : ∀ s', L2.Inv X pins σ H s' → Q (.bool (!o.isSome)) s') :
    wpAny (model X.prog X.w) A (compareOp .NotIn u (.ref a)) Q E s := by
  rcases g with ⟨kvs, k, e, ey, l⟩ | ⟨kvs, k, b, e, ey, eb, l⟩
  · exact d_notIn hu I (.inl ⟨kvs, k, e, ey, l⟩) ry h
  · subst ey
    cases (show u = Value.ref b from ry)
    obtain ⟨z, hd, xs, rel, dd⟩ := dt_rd I.hok e
    refine wpAny_notIn_heap (tupleKind_room_in1 hu) (key_is I eb) hd dd ?_
    have q := (rel.val k).isSome_eq
    rw [Option.isSome_map] at q
    rw [← q, ← l]
    exact h _ (I.tok _)
theorem d_getItem' {Q : Value → Shared → Prop} (hu : A.units + 1 < cLine) (I : L2.Inv X pins σ H s) (g : DGet' X.K H a y (some v)) (ry : L2.RelV y u) (h : ∀ w' s', L2.Inv X pins σ H s' → L2.RelV v w' → Q w' s') :
    wpAny (model X.prog X.w) A (getItem (.ref a) u) Q E s := by
  rcases g with ⟨kvs, k, e, ey, l⟩ | ⟨kvs, k, b, e, ey, eb, l⟩
  · exact d_getItem hu I (.inl ⟨kvs, k, e, ey, l⟩) ry h
  · subst ey
    cases (show u = Value.ref b from ry)
    obtain ⟨z, hd, xs, rel, dd⟩ := dt_rd I.hok e
    obtain ⟨w', hw, rw'⟩ := RelO.some_of (v := v) (o := (atKey xs k).map (·.2)) (by rw [l]; exact rel.val k)
    obtain ⟨p, hp, hp2⟩ := Option.map_eq_some_iff.mp hw
    refine wpAny_getItem_heap (tupleKind_room_in1 hu) (key_is I eb) dd hp ?_
    rw [hp2]
    exact h w' _ (I.tok _) rw'
end
/-- a dict of the mirror's, asked by a key -/
theorem asD_at (hK : X.K = Γ.K) {G : View} {h : Hm} {H : Hp} {v w : V} {x k : Val} {kvs : List (Val × Val)} (rh : RH Γ G h H) (r : RV Γ G h.length H v x) (rk : RV Γ G h.length H w k) (e : Mir.asD h k x = some kvs) :
    ∃ p o, v = .ref p ∧ DGet' X.K H p w o ∧ RVo Γ G h.length H o (Mir.dGet kvs k) := by
  cases r with
  | ref i hi =>
    unfold Mir.asD at e
    cases o : h[i]? with
    | none => simp only [o] at e; cases e
    | some ob =>
      obtain ⟨u, hu, ro⟩ := rh.ob i ob o
      cases ro with
      | dk r =>
        simp only [o] at e
        split at e
        · rename_i c
          cases e
          obtain ⟨kk, e1, e2⟩ := isK_of rk c
          refine ⟨_, _, rfl, .inl ⟨_, kk, .inl hu, e1, rfl⟩, ?_⟩
          rw [e2]
          exact r.get kk
        · cases e
      | dt r =>
        simp only [o] at e
        split at e
        · rename_i c
          cases e
          cases rk with
          | tup t rs =>
            obtain ⟨kk, e1, e2⟩ := isKs_of rs c
            subst e1
            refine ⟨_, _, rfl, .inr ⟨_, kk, _, .inl hu, rfl, hK ▸ t.sq, rfl⟩, ?_⟩
            rw [e2]
            exact r.get kk
          | _ => exact absurd c (by intro z; cases z)
        · cases e
      | _ => simp only [o] at e; cases e
  | _ => cases e
inductive InS (Γ : Gam) (K : PySem.W.Frag) (G : View) (h : Hm) (H : Hp) (x y : V) (b : Bool) : Prop
  | str {t : Mir.Cs} {c : Nat} : x = .str (toS [c]) → y = .str (toS t) → b = decide (c ∈ t) → InS Γ K G h H x y b
  | tup {p : Addr} {ys : List V} : y = .ref p → SqT K H p ys → flatV x = true → ys.all flatV = true → b = inV x ys → InS Γ K G h H x y b
  | dct {p : Addr} {o : Option V} : y = .ref p → DGet' K H p x o → b = o.isSome → InS Γ K G h H x y b
  | lst {d : PyData} {ds : List PyData} : Dp K H x d → Dp K H y (.list ds) → SeqAt.shaped d = true → SeqAt.shaped (.list ds) = true → b = (ds.any fun z => PyData.eqv z d) → InS Γ K G h H x y b
theorem vIn_cases (hK : X.K = Γ.K) {G : View} {h : Hm} {H : Hp} {x y : V} {a b : Val} {r : Bool} (rh : RH Γ G h H) (ra : RV Γ G h.length H x a) (rb : RV Γ G h.length H y b) (e : Mir.vIn h a b = some r) : InS Γ X.K G h H x y r := by
  unfold Mir.vIn at e
  split at e
  · split at e
    · cases e
      cases ra with | str _ h1 => cases rb with | str _ h2 =>
      exact .str rfl rfl rfl
    · cases e
  · split at e
    · rename_i c
      cases e
      rw [Bool.and_eq_true] at c
      cases rb with
      | tup t rs =>
        exact .tup rfl (hK ▸ t.sq) (flat_of ra c.1) (flats_of rs c.2) (inV_of ra c.1 rs c.2).symm
    · cases e
  · split at e
    · rename_i kvs ed
      cases e
      obtain ⟨p, o, rfl, g, ro⟩ := asD_at hK rh rb ra ed
      exact .dct rfl g ro.some_iff.symm
    · split at e
      · rename_i ys x' el ef
        split at e
        · rename_i c
          cases e
          rw [Bool.and_eq_true] at c
          obtain ⟨p, vs, rfl, hp, rs⟩ := asL_at rh rb el
          obtain ⟨d1, s1⟩ := deep_of (j := 50) (by decide) rh ra ef c.1
          obtain ⟨d2, d3, d4⟩ := dps_of 50 rs (List.all_eq_true.mp c.2)
          refine .lst (hK ▸ d1) (hK ▸ Dp.lst (SqL.of hp) d2) s1 (shaped_of (k := 51) (by decide) ⟨d3, Nat.succ_le_succ d4⟩) ?_
          have : ∀ (ys : List Val), (∀ y ∈ ys, Mir.isD 50 y = true) → (ys.any fun z => Mir.eqv z x') = ((toDs ys).any fun z => PyData.eqv z (toD x')) := by
            intro ys
            induction ys with
            | nil => intro _; rfl
            | cons y ys ih =>
              intro hy
              simp only [toDs, List.any_cons]
              rw [eqv_toD 50 y x' (hy y List.mem_cons_self) c.1, ih fun z hz => hy z (List.mem_cons_of_mem _ hz)]
          exact this ys (List.all_eq_true.mp c.2)
        · cases e
      · cases e
theorem oIn (hK : X.K = Γ.K) (hr : Room k X.A) : OpR X (compareOp .In) (rd2 Γ Mir.vInB) := by
  intro pins s σ H x y v u Q I rx ry ⟨G, h, a, b, rh, ra, rb, z, ez, q⟩
  obtain ⟨r, er, rfl⟩ := map_some ez
  have hq : Q (.bl r) H := rd2_of rh q (.bl _)
  cases vIn_cases hK rh ra rb er with
  | @str t c e1 e2 e3 =>
    subst e1 e2 e3
    refine op_in_str pins s σ H _ _ v u Q I rx ry ⟨_, _, rfl, rfl, ?_⟩
    have := StrLaws.found_one (toS t) c
    rw [toS_tl] at this
    show Q (V.bl _) H
    have e : (⟨#[c]⟩ : Str) = toS [c] := rfl
    rw [e] at this
    rw [this]
    exact hq
  | tup e1 e2 e3 e4 e5 =>
    subst e1 e5
    exact op_in_seq pins s σ H _ _ v u Q I rx ry ⟨_, _, rfl, .inr e2, e3, e4, hq⟩
  | dct e1 e2 e3 =>
    subst e1 e3
    cases (show u = Value.ref _ from ry)
    exact d_in' (by have := Room.u64 hr; omega) I e2 rx fun s' I' => ⟨.bl _, H, I', rfl, hq⟩
  | lst e1 e2 e3 e4 e5 =>
    subst e5
    exact op_inD (Room.u64 hr) pins s σ H _ _ v u Q I rx ry ⟨_, _, e1, e2, e3, e4, hq⟩
theorem oNotIn (hK : X.K = Γ.K) (hr : Room k X.A) : OpR X (compareOp .NotIn) (rd2 Γ Mir.vNotIn) := by
  intro pins s σ H x y v u Q I rx ry ⟨G, h, a, b, rh, ra, rb, z, ez, q⟩
  obtain ⟨r, er, rfl⟩ := map_some ez
  have hq : Q (.bl !r) H := rd2_of rh q (.bl _)
  cases vIn_cases hK rh ra rb er with
  | @str t c e1 e2 e3 =>
    subst e1 e2 e3
    refine L2.op_notin_str pins s σ H _ _ v u Q I rx ry ⟨_, _, rfl, rfl, ?_⟩
    have := StrLaws.found_one (toS t) c
    rw [toS_tl] at this
    show Q (V.bl _) H
    have e : (⟨#[c]⟩ : Str) = toS [c] := rfl
    rw [e] at this
    rw [this]
    exact hq
  | tup e1 e2 e3 e4 e5 =>
    subst e1 e5
    exact op_notIn_seq pins s σ H _ _ v u Q I rx ry ⟨_, _, rfl, .inr e2, e3, e4, hq⟩
  | dct e1 e2 e3 =>
    subst e1 e3
    cases (show u = Value.ref _ from ry)
    exact d_notIn' (by have := Room.u64 hr; omega) I e2 rx fun s' I' => ⟨.bl _, H, I', rfl, hq⟩
  | lst e1 e2 e3 e4 e5 =>
    subst e5
    exact op_notInD (Room.u64 hr) pins s σ H _ _ v u Q I rx ry ⟨_, _, e1, e2, e3, e4, hq⟩
end
end Sim
end

section
set_option linter.all false
set_option Elab.async false
set_option maxRecDepth 100000
set_option maxHeartbeats 1000000
/-! Sim: subscripts, slices, ranges, built-ins by values. -/
namespace Sim
open PySem PySem.Spec PyProof.Rows L2
section
variable {Γ : Gam} {X : Cx} {W : WX} {k : Nat} {a b c e tg : Expr} {es : List Expr} {fa fb fc : Mir.E} {fs : Mir.Es} {pos p p2 : Pos} {x : Str}
theorem atI_eq {α : Type} (xs : List α) (i : Int) : L2.atI xs i = Mir.atI xs i := by
  unfold L2.atI Mir.atI ixN
  by_cases h0 : 0 ≤ i
  · rw [if_pos h0, if_pos h0]
    by_cases h1 : i < xs.length
    · rw [if_pos h1]
      rfl
    · rw [if_neg h1]
      exact (List.getElem?_eq_none (by omega)).symm
  · rw [if_neg h0, if_neg h0]
    by_cases h1 : -(xs.length : Int) ≤ i
    · rw [if_pos h1, if_pos h1]
      rfl
    · rw [if_neg h1, if_neg h1]
      rfl
theorem RVs.atI {G : View} {n : Nat} {H : Hp} {vs : List V} {xs : List Val} {i : Int} {z : Val} (r : RVs Γ G n H vs xs) (e : Mir.atI xs i = some z) : ∃ v, L2.atI vs i = some v ∧ RV Γ G n H v z := by
  rw [atI_eq]
  unfold Mir.atI at e ⊢
  rw [r.length]
  split at e
  · rename_i c
    obtain ⟨v, ev, rv⟩ := r.get e
    exact ⟨v, by rw [if_pos c]; exact ev, rv⟩
  · rename_i c
    split at e
    · rename_i d
      obtain ⟨v, ev, rv⟩ := r.get e
      exact ⟨v, by rw [if_neg c, if_pos d]; exact ev, rv⟩
    · cases e
theorem atI_mem {α : Type} {xs : List α} {i : Int} {z : α} (e : Mir.atI xs i = some z) : z ∈ xs := by
  unfold Mir.atI at e
  split at e
  · exact List.mem_of_getElem? e
  · split at e
    · exact List.mem_of_getElem? e
    · cases e
theorem str_at {s : Mir.Cs} {c : Nat} (h : s.all (· < 0x110000) = true) (hc : c ∈ s) : [c].all (· < 0x110000) = true := by
  have := List.all_eq_true.mp h c hc
  simpa using this
theorem ixAll (hK : X.K = Γ.K) : IxR X (rd2 Γ Mir.vIx) := by
  intro value slice pins s σ H x y v u Q I rx ry ⟨G, h, a, b, rh, ra, rb, z, ez, q⟩ hs
  unfold Mir.vIx at ez
  split at ez
  · cases rb
    split at ez
    · cases ra with
      | tup t r =>
        obtain ⟨w, ew, rw⟩ := r.atI ez
        exact ix_tup value slice pins s σ H _ _ v u Q I rx ry ⟨_, _, _, w, rfl, rfl, hK ▸ t.sq, ew, rd2_of rh q rw⟩ hs
    · split at ez
      · rename_i hl
        cases ra with
        | str _ h1 =>
          rename_i t
          obtain ⟨c, ec, rfl⟩ := map_some ez
          refine ix_str value slice pins s σ H _ _ v u Q I rx ry ⟨toS t, _, c, rfl, rfl, by rw [toS_len, ← line_eq]; exact hl, by rw [toS_tl, atI_eq]; exact ec, ?_⟩ hs
          exact rd2_of rh q (.str [c] (str_at h1 (atI_mem ec)))
      · cases ez
    · split at ez
      · rename_i el
        obtain ⟨p, vs, rfl, hp, rs⟩ := asL_at rh ra el
        obtain ⟨w, ew, rw⟩ := rs.atI ez
        exact ix_list value slice pins s σ H _ _ v u Q I rx ry ⟨_, _, _, w, rfl, rfl, SqL.of hp, ew, rd2_of rh q rw⟩ hs
      · cases ez
  · cases ez
theorem sIx (hK : X.K = Γ.K) (ha : SimE Γ X W a fa) (hb : SimE Γ X W b fb) (hs : PlainIx b) : SimE Γ X W (.Subscript a b pos) (Mir.eOpH Mir.vIx fa fb) := sOpH (t := tOp) (pe_ix (ixAll hK) ha hb hs)

/-! ### slices -/
abbrev SimO (Γ : Gam) (X : Cx) (W : WX) (e : Option Expr) (f : Mir.O) : Prop := PO X e (fun σ H Q => ∃ G env h, RH Γ G h H ∧ RE Γ G h.length H σ env ∧ okR Γ W σ G h H (f env h) fun o _ _ H' => Q o H')
theorem weakO {X : Cx} {e : Option Expr} {t t' : TO} (p : PO X e t) (q : ∀ σ H Q, t' σ H Q → t σ H Q) : PO X e t' := ⟨fun pins s σ H Q I k => p.run pins s σ H Q I (q σ H Q k)⟩
theorem soN : SimO Γ X W none Mir.oN := weakO po_none fun σ H Q ⟨G, env, h, rh, re, q⟩ => q.now rh
theorem soE (p : SimE Γ X W a fa) : SimO Γ X W (some a) (Mir.oE fa) := by
  refine weakO (po_some p) fun σ H Q ⟨G, env, h, rh, re, q⟩ => ?_
  refine run1 rh re q fun x h1 G1 H1 v e1 rh1 re1 rv q1 => ?_
  cases x with
  | int i =>
    cases rv
    exact ⟨i, rfl, q1.now rh1⟩
  | _ => exact q1.elim
def rdSl (Γ : Gam) (g : Hm → Val → Option Int → Option Int → Option Val) : V → Option Int → Option Int → Hp → VK → Prop := fun x lo hi H Q => ∃ G h a, RH Γ G h H ∧ RV Γ G h.length H x a ∧ ∃ z, g h a lo hi = some z ∧
  ∀ G' H' v, Ext G h.length H G' h.length H' → RH Γ G' h H' → RV Γ G' h.length H' v z → Q v H'
theorem sIx_eq (n d : Nat) (o : Option Int) : HT.sIx n d o = Mir.sIx n d o := by
  cases o with
  | none => rfl
  | some i =>
    have := HT.clip_eq i n d
    show HT.sIx n d (some i) = if i < 0 then (i + n).toNat else min i.toNat n
    by_cases c : i < 0
    · rw [if_pos c] at this ⊢
      omega
    · rw [if_neg c] at this ⊢
      omega
theorem cutV_eq (vs : List V) (lo hi : Option Int) : cutV vs lo hi = Mir.cut vs lo hi := by
  unfold cutV Mir.cut
  rw [sIx_eq, sIx_eq]
theorem RVs.cut {G : View} {n : Nat} {H : Hp} {vs : List V} {xs : List Val} (r : RVs Γ G n H vs xs) (lo hi : Option Int) : RVs Γ G n H (Mir.cut vs lo hi) (Mir.cut xs lo hi) := by
  unfold Mir.cut
  rw [r.length]
  exact (r.drop _).take _
theorem cut_whole {α : Type} {xs : List α} {lo hi : Option Int} (h : HT.sIx xs.length 0 lo = 0 ∧ HT.sIx xs.length xs.length hi = xs.length) : Mir.cut xs lo hi = xs := by
  rw [sIx_eq, sIx_eq] at h
  unfold Mir.cut
  rw [h.1, h.2]
  simp
theorem str_cut {s : Mir.Cs} (h : s.all (· < 0x110000) = true) (lo hi : Option Int) : (Mir.cut s lo hi).all (· < 0x110000) = true := by
  refine List.all_eq_true.mpr fun c hc => List.all_eq_true.mp h c ?_
  exact List.mem_of_mem_drop (List.mem_of_mem_take hc)
theorem slAll (hK : X.K = Γ.K) : SlR X (rdSl Γ fun _ => Mir.vSl) := by
  intro pins s σ H x v vl vu lo hi sl Q I rx hs pl pu ⟨G, h, a, rh, ra, z, ez, q⟩
  have ez : Mir.vSl a lo hi = some z := ez
  cases a with
  | tup xs =>
    have ez : some (Mir.Val.tup (Mir.cut xs lo hi)) = some z := ez
    cases ez
    have ra' := ra
    cases ra with
    | @tup _ vs _ t r =>
      refine sl_tupA pins s σ H _ v vl vu lo hi sl Q I rx hs pl pu ⟨_, vs, rfl, hK ▸ t.sq, fun w => ?_, fun _ p hp => ?_⟩
      · rw [r.length] at w
        rw [cut_whole (xs := xs) w] at q
        exact rd2_of rh q ra'
      · rw [cutV_eq]
        obtain ⟨G', e', rh', rv'⟩ := new_tup rh hp (r.cut lo hi)
        exact q G' _ _ e' rh' rv'
  | str s' =>
    have ez : (if s'.length ≤ Mir.line then some (Mir.Val.str (Mir.cut s' lo hi)) else none) = some z := ez
    by_cases hl : s'.length ≤ Mir.line
    · rw [if_pos hl] at ez
      cases ez
      cases ra with
      | str _ h1 =>
        refine sl_str pins s σ H _ v vl vu lo hi sl Q I rx hs pl pu ⟨_, rfl, by rw [toS_len, ← line_eq]; exact hl, ?_⟩
        have : cutS (toS s') lo hi = toS (Mir.cut s' lo hi) := by
          unfold cutS Mir.cut
          rw [toS_tl, toS_len, sIx_eq, sIx_eq]
          rfl
        rw [this]
        exact rd2_of rh q (.str _ (str_cut h1 lo hi))
    · rw [if_neg hl] at ez
      cases ez
  | _ => cases ez
variable {lo hi : Option Expr} {fl fh : Mir.O}
theorem sSl (hK : X.K = Γ.K) (ha : SimE Γ X W a fa) (hl : SimO Γ X W lo fl) (hh : SimO Γ X W hi fh) : SimE Γ X W (.Subscript a (.Slice lo hi none p2) pos) (Mir.eSl fa fl fh) := by
  refine weakE (pe_slice (slAll hK) ha hl hh) fun σ H Q ⟨G, env, h, rh, re, q⟩ => ?_
  refine run1 rh re q fun x h1 G1 H1 v e1 rh1 re1 rv q1 => ?_
  refine ⟨G1, env, h1, rh1, re1, q1.bind.mono fun l h2 G2 H2 e2 rh2 q2 => ?_⟩
  refine ⟨G2, env, h2, rh2, re1.ext rh1 e2, q2.bind.mono fun u h3 G3 H3 e3 rh3 q3 => ?_⟩
  obtain ⟨z, ez, kk⟩ := ofO_ok q3
  exact ⟨G3, h3, x, rh3, (rv.ext rh1 e2).ext rh2 e3, z, ez, kk⟩
/-- a list read, by its place -/
theorem asS_at {G : View} {h : Hm} {H : Hp} {v : V} {x : Val} {xs : List Val} (rh : RH Γ G h H) (r : RV Γ G h.length H v x) (e : Mir.asS h x = some xs) : ∃ p vs, v = .ref p ∧ SqL Γ.K H p vs ∧ RVs Γ G h.length H vs xs := by
  cases x with
  | scr ns =>
    cases e
    cases r with
    | scr s => exact ⟨_, _, rfl, s.sq, RVs.of_ints ns⟩
  | _ =>
    obtain ⟨p, vs, e1, e2, e3⟩ := asL_at rh r e
    exact ⟨p, vs, e1, SqL.of e2, e3⟩
theorem lO_ok {σ : L2.St} {G : View} {h : Hm} {H : Hp} {o : Option (List Val)} {K : List Val → Hm → View → Hp → Prop} (q : okR Γ W σ G h H (Mir.lO h o) K) : ∃ ys, o = some ys ∧ okR Γ W σ G h H (.ok ys h) K := by
  cases o with
  | none => exact q.elim
  | some ys => exact ⟨ys, rfl, q⟩
/-- a new list's place is new to all that was ahead -/
theorem lay_to {σ : L2.St} {G G1 : View} {h h1 : Hm} {H H1 : Hp} {xs : List Val} {vs : List V} {Q : VK} (e1 : Ext G h.length H G1 h1.length H1) (rh1 : RH Γ G1 h1 H1) (rv : RVs Γ G1 h1.length H1 vs xs)
    (q : okR Γ W σ G1 h1 H1 (.ok xs h1) fun xs h' G' H' => ∀ p vs, H' p = some (.lst vs) → H p = none → ¬ G'.Z p → (∀ i, i < h'.length → p ≠ G'.ρ i) → RVs Γ G' h'.length H' vs xs → Q (.ref p) H') :
    ∀ p, H1 p = none → Q (.ref p) (upd H1 p (.lst vs)) := by
  refine lay_new (σ := σ) (H0 := H) (r := .bad) rh1 rv fun G' H' e' rh' p vs k1 k2 k3 k4 k5 => ?_
  refine q G' H' e' rh' p vs k1 ?_ k3 k4 k5
  cases o : H p with
  | none => rfl
  | some u => exact absurd k2 (e1.dm p (by rw [o]; intro z; cases z))
theorem slSl (hK : X.K = Γ.K) (ha : SimE Γ X W a fa) (hl : SimO Γ X W lo fl) (hh : SimO Γ X W hi fh) : SimL Γ X W (.Subscript a (.Slice lo hi none p2) pos) (Mir.lSl fa fl fh) := by
  refine weakE (pe_slice (r := rSlL X.K) sl_list ha hl hh) fun σ H Q ⟨G, env, h, rh, re, q⟩ => ?_
  refine run1 rh re q fun x h1 G1 H1 v e1 rh1 re1 rv q1 => ?_
  refine ⟨G1, env, h1, rh1, re1, q1.bind.mono fun l h2 G2 H2 e2 rh2 q2 => ?_⟩
  refine ⟨G2, env, h2, rh2, re1.ext rh1 e2, q2.bind.mono fun u h3 G3 H3 e3 rh3 q3 => ?_⟩
  cases o : Mir.asS h3 x with
  | none => simp only [o] at q3; exact q3.elim
  | some xs =>
    simp only [o] at q3
    obtain ⟨p, vs, rfl, hs, rs⟩ := asS_at rh3 ((rv.ext rh1 e2).ext rh2 e3) o
    refine ⟨p, vs, rfl, hK ▸ hs, ?_⟩
    rw [cutV_eq]
    exact lay_to ((e1.trans e2).trans e3) rh3 (rs.cut l u) q3
theorem slRev (hK : X.K = Γ.K) {kk : Nat} {p1 p3 : Pos} (ha : SimE Γ X W a fa) : SimL Γ X W (.Subscript a (.Slice none none (some (.UnaryOp .USub (.Constant (.int 1) kk p1) p2)) p3) pos) (Mir.lRev fa) := by
  refine weakE (pe_revL ha) fun σ H Q ⟨G, env, h, rh, re, q⟩ => ?_
  refine run1 rh re q fun x h1 G1 H1 v e1 rh1 re1 rv q1 => ?_
  cases o : Mir.asS h1 x with
  | none => simp only [o] at q1; exact q1.elim
  | some xs =>
    simp only [o] at q1
    obtain ⟨p, vs, rfl, hs, rs⟩ := asS_at rh1 rv o
    exact ⟨p, vs, rfl, hK ▸ hs, lay_to e1 rh1 rs.rev q1⟩
/-! ### ranges, a text's signs -/
theorem good_rng {G : View} {n : Nat} {H : Hp} (lo : Int) (m : Nat) : GoodJ Γ G n H (Itr lo m) (Mir.rng lo m) (fun _ => true) := by
  have hl : (Mir.rng lo m).length = m := by simp [Mir.rng]
  refine ⟨fun i y G1 h1 H1 ei e1 rh1 _ => ?_, fun G1 h1 H1 e1 rh1 _ => ?_⟩
  · have hi : i < m := by
      have := (List.getElem?_eq_some_iff.mp ei).1
      rwa [hl] at this
    refine ⟨hi, fun x H' hy => ?_⟩
    obtain ⟨rfl, rfl⟩ := hy
    have : y = .int (lo + i) := by
      unfold Mir.rng at ei
      rw [List.getElem?_map, List.getElem?_range hi] at ei
      cases ei
      rfl
    subst this
    exact ⟨G1, Ext.refl _ _ _, rh1, .int _⟩
  · rw [hl]
    exact Nat.le_refl _
theorem near_ok {i : Int} (h : Mir.near i = true) : -(2 ^ 62) ≤ i ∧ i < 2 ^ 62 := by
  have h := of_decide_eq_true h
  constructor <;> omega
theorem siRange1 (hg : Gl X "range") (hm : X.mg "range" = none) (ha : SimE Γ X W a fa) (hs : starEach [a] X.env = [(false, eval a X.env)] := by rfl) : SimI Γ X W tg (.Call (.Name "range" p) [a] [] pos) (Mir.iRange1 fa) := by
  refine weakI (pi_range1 hg hm (saCons ha saNil (by rw [hs]; rfl)) hs) fun σ H R ⟨G, env, h, rh, re, q⟩ => ?_
  refine ⟨G, env, h, rh, re, ?_⟩
  have e : Mir.esCons fa Mir.esNil env h = (fa env h).bind fun x h1 => .ok [x] h1 := rfl
  rw [e]
  have q : okR Γ W σ G h H (Mir.iRange1 fa env h) _ := q
  unfold Mir.iRange1 at q
  revert q
  cases fa env h with
  | bad => exact fun q => q
  | err e h1 => exact fun q => q
  | ok x h1 =>
    intro q G1 H1 e1 rh1 vs rv
    cases x with
    | int n =>
      cases rv with
      | cons r rs =>
        cases r; cases rs
        have q : okR Γ W σ G h H (if Mir.near n then .ok (Mir.rng 0 n.toNat, fun _ => true) h1 else .bad) _ := q
        cases c : Mir.near n with
        | false => rw [c] at q; exact q.elim
        | true =>
          rw [c] at q
          obtain ⟨c1, c2⟩ := near_ok c
          exact ⟨n, rfl, c1, c2, q G1 H1 e1 rh1 _ (good_rng 0 n.toNat)⟩
    | _ => exact q.elim
theorem siRange2 (hg : Gl X "range") (hm : X.mg "range" = none) (ha : SimE Γ X W a fa) (hb : SimE Γ X W b fb) (hs : starEach [a, b] X.env = [(false, eval a X.env), (false, eval b X.env)] := by rfl) (hs2 : starEach [b] X.env = [(false, eval b X.env)] := by rfl) :
    SimI Γ X W tg (.Call (.Name "range" p) [a, b] [] pos) (Mir.iRange2 fa fb) := by
  refine weakI (pi_range2 hg hm (saCons ha (saCons hb saNil (by rw [hs2]; rfl)) (by rw [hs, hs2])) hs hs2) fun σ H R ⟨G, env, h, rh, re, q⟩ => ?_
  refine ⟨G, env, h, rh, re, ?_⟩
  have e : Mir.esCons fa (Mir.esCons fb Mir.esNil) env h = (fa env h).bind fun x h1 => (fb env h1).bind fun y h2 => .ok [x, y] h2 := by
    unfold Mir.esCons
    cases fa env h with
    | ok x h1 =>
      show ((fb env h1).bind _).bind _ = (fb env h1).bind _
      cases fb env h1 <;> rfl
    | err _ _ => rfl
    | bad => rfl
  rw [e]
  unfold Mir.iRange2 at q
  revert q
  cases fa env h with
  | bad => exact fun q => q
  | err e h1 => exact fun q => q
  | ok x h1 =>
    show okR Γ W σ G h H ((fb env h1).bind _) _ → okR Γ W σ G h H ((fb env h1).bind _) _
    cases fb env h1 with
    | bad => exact fun q => q
    | err e h1 => exact fun q => q
    | ok y h2 =>
      intro q G1 H1 e1 rh1 vs rv
      cases x with
      | int i =>
        cases y with
        | int j =>
          cases rv with
          | cons r rs =>
            cases rs with
            | cons r2 rs =>
              cases r; cases r2; cases rs
              have q : okR Γ W σ G h H (if Mir.near i && Mir.near j then .ok (Mir.rng i (j - i).toNat, fun _ => true) h2 else .bad) _ := q
              cases c : (Mir.near i && Mir.near j) with
              | false => rw [c] at q; exact q.elim
              | true =>
                rw [c] at q
                rw [Bool.and_eq_true] at c
                obtain ⟨c1, c2⟩ := near_ok c.1
                obtain ⟨d1, d2⟩ := near_ok c.2
                exact ⟨i, j, rfl, ⟨c1, c2, d1, d2⟩, q G1 H1 e1 rh1 _ (good_rng i _)⟩
        | _ => exact q.elim
      | _ => exact q.elim
theorem siStr (ha : SimE Γ X W a fa) : SimI Γ X W tg a (Mir.iStr fa) := by
  refine weakI (pi_str ha) fun σ H R ⟨G, env, h, rh, re, q⟩ => ?_
  refine run1 rh re q fun x h1 G1 H1 v e1 rh1 re1 rv q1 => ?_
  cases x with
  | str s =>
    cases rv with
    | str _ hs =>
      refine ⟨toS s, rfl, q1.now rh1 _ ⟨fun i y G2 h2 H2 ei e2 rh2 _ => ?_, fun G2 h2 H2 e2 rh2 _ => ?_⟩⟩
      · rw [List.getElem?_map] at ei
        cases o : s[i]? with
        | none => rw [o] at ei; cases ei
        | some c =>
          rw [o] at ei
          cases ei
          have hc : (toS s).cps[i]? = some c := by simpa [toS] using o
          refine ⟨(Array.getElem?_eq_some_iff.mp hc).1, fun x H' hy => ?_⟩
          obtain ⟨rfl, c', hc', rfl⟩ := hy
          rw [hc] at hc'
          cases hc'
          exact ⟨G2, Ext.refl _ _ _, rh2, .str [c] (str_at hs (List.mem_of_getElem? o))⟩
      · show (toS s).cps.size ≤ (s.map fun c => Mir.Val.str [c]).length
        simp [toS]
  | _ => exact q1.elim
end
end Sim
end

section
set_option linter.all false
set_option Elab.async false
set_option maxRecDepth 100000
set_option maxHeartbeats 1000000
/-! Sim: built-ins by values. -/
namespace Sim
open PySem PySem.Spec PyProof.Rows L2
section
variable {Γ : Gam} {X : Cx} {W : WX} {k : Nat} {a b c e tg : Expr} {es : List Expr} {fa fb fc : Mir.E} {fs : Mir.Es} {pos p p2 : Pos} {x : Str} {id T : String}
def rdC (Γ : Gam) (g : Hm → List Val → Option Val) : List V → Hp → VK → Prop := fun vs H Q => ∃ G h xs, RH Γ G h H ∧ RVs Γ G h.length H vs xs ∧ ∃ z, g h xs = some z ∧
  ∀ G' H' v, Ext G h.length H G' h.length H' → RH Γ G' h H' → RV Γ G' h.length H' v z → Q v H'
def rdCL (Γ : Gam) (g : Hm → List Val → Option (List Val)) : List V → Hp → VK → Prop := fun vs H Q => ∃ G h xs, RH Γ G h H ∧ RVs Γ G h.length H vs xs ∧ ∃ ys, g h xs = some ys ∧
  ∀ ws, RVs Γ G h.length H ws ys → ∀ p, H p = none → Q (.ref p) (upd H p (.lst ws))
theorem tC_of {g : Hm → List Val → Option Val} {σ : L2.St} {H : Hp} {Q : VK} (q : rdE Γ W (Mir.eB g fs) σ H Q) : tCB (rdC Γ g) (rdA Γ W fs) σ H Q := by
  obtain ⟨G, env, h, rh, re, q⟩ := q
  refine runA rh re q fun xs h1 G1 H1 vs e1 rh1 re1 rv q1 => ?_
  obtain ⟨z, ez, kk⟩ := ofO_ok q1
  exact ⟨G1, h1, xs, rh1, rv, z, ez, kk⟩
theorem tCL_of {g : Hm → List Val → Option (List Val)} {σ : L2.St} {H : Hp} {Q : VK} (q : rdL Γ W (Mir.lB g fs) σ H Q) : tCB (rdCL Γ g) (rdA Γ W fs) σ H Q := by
  obtain ⟨G, env, h, rh, re, q⟩ := q
  refine runA rh re q fun xs h1 G1 H1 vs e1 rh1 re1 rv q1 => ?_
  obtain ⟨ys, ey, q2⟩ := lO_ok q1
  exact ⟨G1, h1, xs, rh1, rv, ys, ey, fun ws rw => lay_to e1 rh1 rw q2⟩
theorem sB {g : Hm → List Val → Option Val} (hc : CallR X (.builtin id) (rdC Γ g)) (hg : Gl X x) (hm : X.mg x = none) (hv : bootBuiltins x = some (.builtin id)) (ha : SimA Γ X W (e :: es) fs) (hn : x ≠ "__name__" := by decide) (hdb : (x == ("__debug__" : Str)) = false := by decide)
    (he : starEach (e :: es) X.env = (false, eval e X.env) :: starEach es X.env := by rfl) (hpl : (backTo pos (starEach es X.env)).any (·.1) = false := by rfl) : SimE Γ X W (.Call (.Name x p) (e :: es) [] pos) (Mir.eB g fs) :=
  weakE (pe_callB hc hg hm hv ha hn hdb he hpl) fun σ H Q q => tC_of q
theorem slB {g : Hm → List Val → Option (List Val)} (hc : CallR X (.builtin id) (rdCL Γ g)) (hg : Gl X x) (hm : X.mg x = none) (hv : bootBuiltins x = some (.builtin id)) (ha : SimA Γ X W (e :: es) fs) (hn : x ≠ "__name__" := by decide) (hdb : (x == ("__debug__" : Str)) = false := by decide)
    (he : starEach (e :: es) X.env = (false, eval e X.env) :: starEach es X.env := by rfl) (hpl : (backTo pos (starEach es X.env)).any (·.1) = false := by rfl) : SimL Γ X W (.Call (.Name x p) (e :: es) [] pos) (Mir.lB g fs) :=
  weakE (pe_callB hc hg hm hv ha hn hdb he hpl) fun σ H Q q => tCL_of q
theorem sBT {g : Hm → List Val → Option Val} (hc : CallR X (.type T) (rdC Γ g)) (hg : Gl X x) (hm : X.mg x = none) (hv : bootBuiltins x = some (.type T)) (ha : SimA Γ X W (e :: es) fs) (hn : x ≠ "__name__" := by decide) (hdb : (x == ("__debug__" : Str)) = false := by decide)
    (he : starEach (e :: es) X.env = (false, eval e X.env) :: starEach es X.env := by rfl) (hpl : (backTo pos (starEach es X.env)).any (·.1) = false := by rfl) : SimE Γ X W (.Call (.Name x p) (e :: es) [] pos) (Mir.eB g fs) :=
  weakE (pe_callTy hc hg hm hv ha hn hdb he hpl) fun σ H Q q => tC_of q
theorem slBT {g : Hm → List Val → Option (List Val)} (hc : CallR X (.type T) (rdCL Γ g)) (hg : Gl X x) (hm : X.mg x = none) (hv : bootBuiltins x = some (.type T)) (ha : SimA Γ X W (e :: es) fs) (hn : x ≠ "__name__" := by decide) (hdb : (x == ("__debug__" : Str)) = false := by decide)
    (he : starEach (e :: es) X.env = (false, eval e X.env) :: starEach es X.env := by rfl) (hpl : (backTo pos (starEach es X.env)).any (·.1) = false := by rfl) : SimL Γ X W (.Call (.Name x p) (e :: es) [] pos) (Mir.lB g fs) :=
  weakE (pe_callTy hc hg hm hv ha hn hdb he hpl) fun σ H Q q => tCL_of q
theorem rvs1 {G : View} {n : Nat} {H : Hp} {vs : List V} {x : Val} (r : RVs Γ G n H vs [x]) : ∃ v, vs = [v] ∧ RV Γ G n H v x := by
  cases r with
  | cons r0 rs =>
    cases rs
    exact ⟨_, rfl, r0⟩
theorem rvs2 {G : View} {n : Nat} {H : Hp} {vs : List V} {x y : Val} (r : RVs Γ G n H vs [x, y]) : ∃ v w, vs = [v, w] ∧ RV Γ G n H v x ∧ RV Γ G n H w y := by
  cases r with
  | cons r0 rs =>
    obtain ⟨w, rfl, r1⟩ := rvs1 rs
    exact ⟨_, w, rfl, r0, r1⟩
theorem vals1' {v : V} {us : List Value} (r : Vals [v] us) : ∃ u, us = [u] ∧ L2.RelV v u := by
  cases r with
  | cons r0 rs =>
    cases rs
    exact ⟨_, rfl, r0⟩
/-! ### len, list, tuple, int -/
theorem rdC_of {G : View} {h : Hm} {H : Hp} {Q : VK} {z : Val} (rh : RH Γ G h H) (k : ∀ G' H' v, Ext G h.length H G' h.length H' → RH Γ G' h H' → RV Γ G' h.length H' v z → Q v H') {v : V} (r : RV Γ G h.length H v z) : Q v H := rd2_of rh k r
theorem RKs.length {G : View} {n : Nat} {H : Hp} {v : List (Key × V)} {y : List (Val × Val)} (r : RKs Γ G n H v y) : v.length = y.length := by
  induction y generalizing v with
  | nil => cases r; rfl
  | cons y ys ih => cases r with | cons _ r => simp [ih r]
theorem cLen (hK : X.K = Γ.K) : CallR X (.builtin "len") (rdC Γ Mir.bLen) := by
  intro pins s σ H vs us Q I r ⟨G, h, xs, rh, rv, z, ez, q⟩
  unfold Mir.bLen at ez
  split at ez
  · rename_i s'
    split at ez
    · rename_i hl
      cases ez
      obtain ⟨_, rfl, r0⟩ := rvs1 rv
      cases r0 with | str _ h1 =>
      refine call_len_str pins s σ H _ us Q I r ⟨_, rfl, by rw [toS_len, ← line_eq]; exact hl, ?_⟩
      rw [toS_len]
      exact rdC_of rh q (.int _)
    · cases ez
  · cases ez
    obtain ⟨_, rfl, r0⟩ := rvs1 rv
    cases r0 with | tup t r1 =>
    refine call_len_seq pins s σ H _ us Q I r ⟨_, _, rfl, .inr (hK ▸ t.sq), ?_⟩
    rw [r1.length]
    exact rdC_of rh q (.int _)
  · cases ez
    obtain ⟨_, rfl, r0⟩ := rvs1 rv
    cases r0 with | lst z t r1 =>
    refine call_len_seq pins s σ H _ us Q I r ⟨_, _, rfl, .inl (SqL.of t), ?_⟩
    rw [r1.length]
    exact rdC_of rh q (.int _)
  · rename_i i
    obtain ⟨_, rfl, r0⟩ := rvs1 rv
    cases r0 with | ref _ hi =>
    cases o : h[i]? with
    | none => simp only [o] at ez; cases ez
    | some ob =>
      obtain ⟨u, hu, ro⟩ := rh.ob i ob o
      cases ro with
      | lst r1 =>
        simp only [o] at ez
        cases ez
        refine call_len_seq pins s σ H _ us Q I r ⟨_, _, rfl, .inl (SqL.of hu), ?_⟩
        rw [r1.length]
        exact rdC_of rh q (.int _)
      | dk r1 =>
        simp only [o] at ez
        cases ez
        obtain ⟨_, rfl, r2⟩ := vals1' r
        cases r2
        refine d_len I (.inl hu) fun t s' I' => ⟨.int _, H, I', ⟨_, rfl⟩, ?_⟩
        rw [r1.length]
        exact rdC_of rh q (.int _)
      | _ => simp only [o] at ez; cases ez
  · cases ez
theorem cList (hK : X.K = Γ.K) : CallR X (.type "list") (rdCL Γ Mir.bList) := by
  intro pins s σ H vs us Q I r ⟨G, h, xs, rh, rv, z, ez, q⟩
  unfold Mir.bList at ez
  split at ez
  · cases ez
    obtain ⟨_, rfl, r0⟩ := rvs1 rv
    cases r0 with | tup t r1 =>
    exact call_list_of pins s σ H _ us Q I r ⟨_, _, rfl, .inr (hK ▸ t.sq), q _ r1⟩
  · obtain ⟨_, rfl, r0⟩ := rvs1 rv
    obtain ⟨p, vs, rfl, hs, rs⟩ := asS_at rh r0 ez
    exact call_list_of pins s σ H _ us Q I r ⟨_, _, rfl, .inl (hK ▸ hs), q _ rs⟩
  · cases ez
theorem cTuple (hK : X.K = Γ.K) : CallR X (.type "tuple") (rdC Γ Mir.bTuple) := by
  intro pins s σ H vs us Q I r ⟨G, h, xs, rh, rv, z, ez, q⟩
  unfold Mir.bTuple at ez
  split at ez
  · cases ez
    obtain ⟨_, rfl, r0⟩ := rvs1 rv
    have r0' := r0
    cases r0 with | tup t r1 =>
    exact call_tuple_of pins s σ H _ us Q I r ⟨_, _, rfl, .inr ⟨hK ▸ t.sq, rdC_of rh q r0'⟩⟩
  · obtain ⟨_, rfl, r0⟩ := rvs1 rv
    obtain ⟨ys, ey, rfl⟩ := map_some ez
    obtain ⟨p, vs, rfl, hs, rs⟩ := asL_at rh r0 ey
    refine call_tuple_of pins s σ H _ us Q I r ⟨_, _, rfl, .inl ⟨SqL.of hs, fun l hl => ?_⟩⟩
    obtain ⟨G', e', rh', rv'⟩ := new_tup rh hl rs
    exact q G' _ _ e' rh' rv'
  · cases ez
theorem cInt : CallR X (.type "int") (rdC Γ Mir.bInt) := by
  intro pins s σ H vs us Q I r ⟨G, h, xs, rh, rv, z, ez, q⟩
  unfold Mir.bInt at ez
  split at ez
  · cases ez
    obtain ⟨_, rfl, r0⟩ := rvs1 rv
    cases r0
    exact call_int1 pins s σ H _ us Q I r (.inl ⟨_, rfl, rdC_of rh q (.int _)⟩)
  · cases ez
    obtain ⟨_, rfl, r0⟩ := rvs1 rv
    cases r0
    exact call_int1 pins s σ H _ us Q I r (.inr ⟨_, rfl, rdC_of rh q (.int _)⟩)
  · cases ez
/-! ### lists of whole numbers, of texts, of truths -/
theorem ints_of {G : View} {n : Nat} {H : Hp} {vs : List V} {xs : List Val} {ns : List Int} (r : RVs Γ G n H vs xs) (e : Mir.intsO xs = some ns) : vs = ns.map V.int := by
  induction xs generalizing vs ns with
  | nil => cases r; cases e; rfl
  | cons x xs ih =>
    cases r with
    | cons r0 r =>
      cases x with
      | int i =>
        obtain ⟨ms, e1, rfl⟩ := map_some (show (Mir.intsO xs).map (i :: ·) = some ns from e)
        cases r0
        rw [ih r e1]
        rfl
      | _ => cases e
theorem bls_of {G : View} {n : Nat} {H : Hp} {vs : List V} {xs : List Val} {ns : List Bool} (r : RVs Γ G n H vs xs) (e : Mir.blsO xs = some ns) : vs = ns.map V.bl := by
  induction xs generalizing vs ns with
  | nil => cases r; cases e; rfl
  | cons x xs ih =>
    cases r with
    | cons r0 r =>
      cases x with
      | bl i =>
        obtain ⟨ms, e1, rfl⟩ := map_some (show (Mir.blsO xs).map (i :: ·) = some ns from e)
        cases r0
        rw [ih r e1]
        rfl
      | _ => cases e
theorem strs_of {G : View} {n : Nat} {H : Hp} {vs : List V} {xs : List Val} {ns : List Mir.Cs} (r : RVs Γ G n H vs xs) (e : Mir.strsO xs = some ns) : vs = (ns.map toS).map V.str ∧ ∀ s ∈ ns, s.all (· < 0x110000) = true := by
  induction xs generalizing vs ns with
  | nil => cases r; cases e; exact ⟨rfl, fun _ h => nomatch h⟩
  | cons x xs ih =>
    cases r with
    | cons r0 r =>
      cases x with
      | str i =>
        obtain ⟨ms, e1, rfl⟩ := map_some (show (Mir.strsO xs).map (i :: ·) = some ns from e)
        cases r0 with
        | str _ h1 =>
          obtain ⟨e2, e3⟩ := ih r e1
          rw [e2]
          exact ⟨rfl, fun s hs => by
            rcases List.mem_cons.mp hs with rfl | hs
            · exact h1
            · exact e3 s hs⟩
      | _ => cases e
theorem listO_at {α : Type} {f : List Val → Option α} {G : View} {h : Hm} {H : Hp} {v : V} {x : Val} {o : α} (rh : RH Γ G h H) (r : RV Γ G h.length H v x) (e : (Mir.asL h x).bind f = some o) :
    ∃ p vs xs, v = .ref p ∧ H p = some (.lst vs) ∧ RVs Γ G h.length H vs xs ∧ f xs = some o := by
  cases el : Mir.asL h x with
  | none => rw [el] at e; cases e
  | some xs =>
    rw [el] at e
    obtain ⟨p, vs, e1, e2, e3⟩ := asL_at rh r el
    exact ⟨p, vs, xs, e1, e2, e3, e⟩
theorem cSum (hc : X.calm = true) : CallR X (.builtin "sum") (rdC Γ Mir.bSum) := by
  intro pins s σ H vs us Q I r ⟨G, h, xs, rh, rv, z, ez, q⟩
  unfold Mir.bSum at ez
  split at ez
  · obtain ⟨_, rfl, r0⟩ := rvs1 rv
    obtain ⟨ns, en, rfl⟩ := map_some ez
    obtain ⟨p, vs, xs, rfl, hp, rs, ei⟩ := listO_at rh r0 en
    have := ints_of rs ei
    subst this
    exact cr_sum hc pins s σ H _ us Q I r ⟨p, ns, rfl, SqL.of hp, rdC_of rh q (.int _)⟩
  · cases ez
theorem cAll (hc : X.calm = true) : CallR X (.builtin "all") (rdC Γ Mir.bAll) := by
  intro pins s σ H vs us Q I r ⟨G, h, xs, rh, rv, z, ez, q⟩
  unfold Mir.bAll at ez
  split at ez
  · obtain ⟨_, rfl, r0⟩ := rvs1 rv
    obtain ⟨ns, en, rfl⟩ := map_some ez
    obtain ⟨p, vs, xs, rfl, hp, rs, ei⟩ := listO_at rh r0 en
    have := bls_of rs ei
    subst this
    exact cr_all hc pins s σ H _ us Q I r ⟨p, ns, rfl, SqL.of hp, rdC_of rh q (.bl _)⟩
  · cases ez
theorem cAny (hc : X.calm = true) : CallR X (.builtin "any") (rdC Γ Mir.bAny) := by
  intro pins s σ H vs us Q I r ⟨G, h, xs, rh, rv, z, ez, q⟩
  unfold Mir.bAny at ez
  split at ez
  · obtain ⟨_, rfl, r0⟩ := rvs1 rv
    obtain ⟨ns, en, rfl⟩ := map_some ez
    obtain ⟨p, vs, xs, rfl, hp, rs, ei⟩ := listO_at rh r0 en
    have := bls_of rs ei
    subst this
    exact cr_any hc pins s σ H _ us Q I r ⟨p, ns, rfl, SqL.of hp, rdC_of rh q (.bl _)⟩
  · cases ez
theorem maxL_max : ∀ (l : List Int) (m : Int), Mir.maxL m l ∈ m :: l ∧ ∀ y ∈ m :: l, y ≤ Mir.maxL m l := by
  intro l
  induction l with
  | nil => 
    intro m
    refine ⟨List.mem_cons_self, fun y h => ?_⟩
    rcases List.mem_cons.mp h with rfl | h
    · exact Int.le_refl _
    · exact nomatch h
  | cons x l ih =>
    intro m
    show Mir.maxL (if m < x then x else m) l ∈ m :: x :: l ∧ _
    obtain ⟨h1, h2⟩ := ih (if m < x then x else m)
    have hm := h2 _ List.mem_cons_self
    refine ⟨?_, fun y hy => ?_⟩
    · rcases List.mem_cons.mp h1 with e | h1
      · rw [e]
        split
        · exact List.mem_cons_of_mem _ List.mem_cons_self
        · exact List.mem_cons_self
      · exact List.mem_cons_of_mem _ (List.mem_cons_of_mem _ h1)
    · show y ≤ Mir.maxL (if m < x then x else m) l
      rcases List.mem_cons.mp hy with rfl | hy
      · refine Int.le_trans ?_ hm
        split <;> omega
      · rcases List.mem_cons.mp hy with rfl | hy
        · refine Int.le_trans ?_ hm
          split <;> omega
        · exact h2 y (List.mem_cons_of_mem _ hy)
theorem minL_min : ∀ (l : List Int) (m : Int), Mir.minL m l ∈ m :: l ∧ ∀ y ∈ m :: l, Mir.minL m l ≤ y := by
  intro l
  induction l with
  | nil => 
    intro m
    refine ⟨List.mem_cons_self, fun y h => ?_⟩
    rcases List.mem_cons.mp h with rfl | h
    · exact Int.le_refl _
    · exact nomatch h
  | cons x l ih =>
    intro m
    show Mir.minL (if x < m then x else m) l ∈ m :: x :: l ∧ _
    obtain ⟨h1, h2⟩ := ih (if x < m then x else m)
    have hm := h2 _ List.mem_cons_self
    refine ⟨?_, fun y hy => ?_⟩
    · rcases List.mem_cons.mp h1 with e | h1
      · rw [e]
        split
        · exact List.mem_cons_of_mem _ List.mem_cons_self
        · exact List.mem_cons_self
      · exact List.mem_cons_of_mem _ (List.mem_cons_of_mem _ h1)
    · show Mir.minL (if x < m then x else m) l ≤ y
      rcases List.mem_cons.mp hy with rfl | hy
      · refine Int.le_trans hm ?_
        split <;> omega
      · rcases List.mem_cons.mp hy with rfl | hy
        · refine Int.le_trans hm ?_
          split <;> omega
        · exact h2 y (List.mem_cons_of_mem _ hy)
theorem max_at {m : Int} {l : List Int} {n : Int} (h1 : n ∈ m :: l) (h2 : ∀ y, y ∈ m :: l → y ≤ n) : n = Mir.maxL m l := by
  obtain ⟨k1, k2⟩ := maxL_max l m
  have a := k2 n h1
  have b := h2 _ k1
  omega
theorem min_at {m : Int} {l : List Int} {n : Int} (h1 : n ∈ m :: l) (h2 : ∀ y, y ∈ m :: l → n ≤ y) : n = Mir.minL m l := by
  obtain ⟨k1, k2⟩ := minL_min l m
  have a := k2 n h1
  have b := h2 _ k1
  omega
theorem cMax (hc : X.calm = true) : CallR X (.builtin "max") (rdC Γ Mir.bMax) := by
  intro pins s σ H vs us Q I r ⟨G, h, xs, rh, rv, z, ez, q⟩
  unfold Mir.bMax at ez
  split at ez
  · obtain ⟨_, rfl, r0⟩ := rvs1 rv
    split at ez
    · rename_i m ms en
      cases ez
      obtain ⟨p, vs, xs, rfl, hp, rs, ei⟩ := listO_at rh r0 en
      have := ints_of rs ei
      subst this
      refine cr_max hc pins s σ H _ us Q I r ⟨p, m :: ms, rfl, SqL.of hp, Nat.succ_pos _, fun n h1 h2 => ?_⟩
      rw [max_at h1 h2]
      exact rdC_of rh q (.int _)
    · cases ez
  · cases ez
    obtain ⟨_, _, rfl, r0, r1⟩ := rvs2 rv
    cases r0; cases r1
    exact call_max2 hc pins s σ H _ us Q I r ⟨_, _, rfl, rdC_of rh q (.int _)⟩
  · cases ez
theorem cMin (hc : X.calm = true) : CallR X (.builtin "min") (rdC Γ Mir.bMin) := by
  intro pins s σ H vs us Q I r ⟨G, h, xs, rh, rv, z, ez, q⟩
  unfold Mir.bMin at ez
  split at ez
  · obtain ⟨_, rfl, r0⟩ := rvs1 rv
    split at ez
    · rename_i m ms en
      cases ez
      obtain ⟨p, vs, xs, rfl, hp, rs, ei⟩ := listO_at rh r0 en
      have := ints_of rs ei
      subst this
      refine cr_min hc pins s σ H _ us Q I r ⟨p, m :: ms, rfl, SqL.of hp, Nat.succ_pos _, fun n h1 h2 => ?_⟩
      rw [min_at h1 h2]
      exact rdC_of rh q (.int _)
    · cases ez
  · cases ez
    obtain ⟨_, _, rfl, r0, r1⟩ := rvs2 rv
    cases r0; cases r1
    exact call_min2 hc pins s σ H _ us Q I r ⟨_, _, rfl, rdC_of rh q (.int _)⟩
  · cases ez
/-! ### isinstance of a built-in type -/
theorem kind_at (hK : X.K = Γ.K) {G : View} {h : Hm} {H : Hp} {v : V} {x : Val} {t : String} (rh : RH Γ G h H) (r : RV Γ G h.length H v x) (e : Mir.kindOf h x = some t) : TyX X.K H v (.type t) := by
  cases r with
  | non => cases e; exact .base .non
  | bl b => cases e; exact .base (.bl b)
  | int b => cases e; exact .base (.int b)
  | str b _ => cases e; exact .base (.str _)
  | tup t r =>
    cases e
    rcases t with ⟨_, t⟩ | ⟨o, its, n, h1, h2, _⟩
    · exact .base (.tup t)
    · exact .kTuple (hK ▸ h1) h2
  | lst z t r => cases e; exact .base (.lst t)
  | dk z t r => cases e; exact .base (.dK t)
  | dt z t r => cases e; exact .base (.dT t)
  | ref i hi =>
    unfold Mir.kindOf at e
    cases o : h[i]? with
    | none => simp only [o] at e; cases e
    | some ob =>
      obtain ⟨u, hu, ro⟩ := rh.ob i ob o
      cases ro with
      | lst r1 => simp only [o] at e; cases e; exact .base (.lst hu)
      | dk r1 => simp only [o] at e; cases e; exact .base (.dK hu)
      | dt r1 => simp only [o] at e; cases e; exact .base (.dT hu)
      | ins _ _ => simp only [o] at e; cases e
  | _ => cases e
theorem sIsi {c : Expr} (hK : X.K = Γ.K) (hg : Gl X "isinstance") (hm : X.mg "isinstance" = none) (ha : SimE Γ X W a fa) (ht : PE X c (tC (.ty T)))
    (kits : ∀ t, t ∈ ["NoneType", "bool", "int", "str", "tuple", "list", "dict"] → kitB t T = some (Mir.kit t T) := by decide +kernel)
    (he : starEach [a, c] X.env = (false, eval a X.env) :: starEach [c] X.env := by rfl) (he2 : starEach [c] X.env = (false, eval c X.env) :: starEach [] X.env := by rfl) (hpl : (backTo pos (starEach [c] X.env)).any (·.1) = false := by rfl) :
    SimE Γ X W (.Call (.Name "isinstance" p) [a, c] [] pos) (Mir.eUnH (fun h x => Mir.bIsi T h [x]) fa) := by
  refine weakE (pe_callB call_isi hg hm (by decide +kernel) (pa_cons ha (pa_cons ht pa_nil he2) he) (by decide) (by decide) he hpl) fun σ H Q ⟨G, env, h, rh, re, q⟩ => ?_
  refine run1 rh re q fun x h1 G1 H1 v e1 rh1 re1 rv q1 => ?_
  obtain ⟨z, ez, kk⟩ := ofO_ok q1
  obtain ⟨t, et, rfl⟩ := map_some ez
  refine ⟨v, .ty T, _, _, _, rfl, .ty T, kind_at hK rh1 rv et, kit_ty (kits t ?_), rdC_of rh1 kk (.bl _)⟩
  have mem : ∀ {x : Val} {t : String}, Mir.kindOf h1 x = some t → t ∈ ["NoneType", "bool", "int", "str", "tuple", "list", "dict"] := by
    intro x t et
    unfold Mir.kindOf at et
    split at et <;> first | (cases et; done) | (cases et; simp; done) | skip
    split at et <;> first | (cases et; done) | (cases et; simp; done)
  exact mem et
end
end Sim
end

section
set_option linter.all false
set_option Elab.async false
set_option maxRecDepth 100000
set_option maxHeartbeats 1000000
/-! Sim: methods, stores, dicts. -/
namespace Sim
open PySem PySem.Spec PyProof.Rows L2
section
variable {Γ : Gam} {X : Cx} {W : WX} {k : Nat} {a b c e o tg : Expr} {es : List Expr} {fa fb fc fo : Mir.E} {fs : Mir.Es} {pos p p2 apos cpos : Pos} {x name : Str} {id T : String}
def rdM (Γ : Gam) (g : Hm → Val → List Val → Option (Val × Hm)) : V → List V → Hp → VK → Prop := fun x vs H Q => ∃ G h y xs, RH Γ G h H ∧ RV Γ G h.length H x y ∧ RVs Γ G h.length H vs xs ∧ ∃ z h', g h y xs = some (z, h') ∧
  ∀ G' H' v, Ext G h.length H G' h'.length H' → RH Γ G' h' H' → RV Γ G' h'.length H' v z → Q v H'
theorem rM_ok {σ : L2.St} {G : View} {h : Hm} {H : Hp} {o : Option (Val × Hm)} {Q : VK} (q : okR Γ W σ G h H (Mir.rM h o) (KV1 Γ Q)) :
    ∃ z h', o = some (z, h') ∧ ∀ G' H' v, Ext G h.length H G' h'.length H' → RH Γ G' h' H' → RV Γ G' h'.length H' v z → Q v H' := by
  cases o with
  | none => exact q.elim
  | some p => exact ⟨p.1, p.2, rfl, fun G' H' v e rh rv => q G' H' e rh v rv⟩
/-- the kinds of receivers -/
def TyOk (Γ : Gam) (X : Cx) (ty : Hm → Val → Bool) (T : String) : Prop := ∀ {G : View} {h : Hm} {H : Hp} {v : V} {x : Val}, RH Γ G h H → RV Γ G h.length H v x → ty h x = true → tyV X.K T v H
theorem tyL_ok : TyOk Γ X Mir.tyL "list" := fun {G h H v x} rh r e => by
  unfold Mir.tyL at e
  cases o : Mir.asL h x with
  | none => rw [o] at e; cases e
  | some xs =>
    obtain ⟨p, vs, rfl, hp, _⟩ := asL_at rh r o
    exact .inl ⟨rfl, _, SqL.of hp⟩
theorem tyS_ok : TyOk Γ X Mir.tyS "str" := fun {G h H v x} rh r e => by
  cases r with
  | str _ _ => rfl
  | _ => cases e
theorem tyD_ok : TyOk Γ X Mir.tyD "dict" := fun {G h H v x} rh r e => by
  cases r with
  | ref i hi =>
    unfold Mir.tyD at e
    cases o : h[i]? with
    | none => simp only [o] at e; cases e
    | some ob =>
      obtain ⟨u, hu, ro⟩ := rh.ob i ob o
      cases ro with
      | dk r1 => exact .inr (.inr (.inl ⟨rfl, .inl ⟨_, hu⟩⟩))
      | dt r1 => exact .inr (.inr (.inl ⟨rfl, .inr ⟨_, hu⟩⟩))
      | _ => simp only [o] at e; cases e
  | _ => cases e
theorem eM_imp {ty : Hm → Val → Bool} {g : Hm → Val → List Val → Option (Val × Hm)} (t : TyOk Γ X ty T) {σ : L2.St} {H : Hp} {Q : VK} (q : rdE Γ W (Mir.eM ty g fo fs) σ H Q) : tBM X.K T (rdM Γ g) (rdE Γ W fo) (rdA Γ W fs) σ H Q := by
  obtain ⟨G, env, h, rh, re, q⟩ := q
  refine run1 rh re q fun x h1 G1 H1 v e1 rh1 re1 rv q1 => ?_
  cases c : ty h1 x with
  | false => simp only [c] at q1; exact q1.elim
  | true =>
    simp only [c, if_true] at q1
    refine ⟨t rh1 rv c, ?_⟩
    refine runA rh1 re1 q1 fun xs h2 G2 H2 vs e2 rh2 re2 rvs q2 => ?_
    obtain ⟨z, h', eg, kk⟩ := rM_ok q2
    exact ⟨G2, h2, x, xs, rh2, rv.ext rh1 e2, rvs, z, h', eg, kk⟩
theorem sM {ty : Hm → Val → Bool} {g : Hm → Val → List Val → Option (Val × Hm)} (t : TyOk Γ X ty T) (hm : MtR X id (rdM Γ g)) (pa : PlainAttrs T) (slot : Slot T name id) (hty : typeOf (.builtin id) = pure (.type "method_descriptor")) (ho : SimE Γ X W o fo) (ha : SimA Γ X W (e :: es) fs)
    (hbase : attributeBase o name X.env (eval o X.env) = eval o X.env := by rfl)
    (hfew : ((backTo cpos (starEach (e :: es) X.env)).all (fun x => !x.1) && (backToKw cpos (keywordEach [] X.env)).all (fun x => x.1.isSome)
      && decide ((e :: es).length + ([] : List Keyword).length + (if ([] : List Keyword).isEmpty then 0 else 1) < 30)) = true := by rfl)
    (hline : (apos.endLine == cpos.line) = true := by rfl) (hs : starEach (e :: es) X.env = (false, eval e X.env) :: starEach es X.env := by rfl) (hplain : (backTo cpos (starEach es X.env)).any (·.1) = false := by rfl) :
    SimE Γ X W (.Call (.Attribute o name apos) (e :: es) [] cpos) (Mir.eM ty g fo fs) :=
  weakE (pe_bm pa slot hty hm ho ha hbase hfew hline hs hplain) fun _ _ _ q => eM_imp t q
theorem sM0 {ty : Hm → Val → Bool} {g : Hm → Val → List Val → Option (Val × Hm)} (t : TyOk Γ X ty T) (hm : MtR X id (rdM Γ g)) (pa : PlainAttrs T) (slot : Slot T name id) (hty : typeOf (.builtin id) = pure (.type "method_descriptor")) (ho : SimE Γ X W o fo)
    (hbase : attributeBase o name X.env (eval o X.env) = eval o X.env := by rfl) (hline : (apos.endLine == cpos.line) = true := by rfl) :
    SimE Γ X W (.Call (.Attribute o name apos) [] [] cpos) (Mir.eM ty g fo Mir.esNil) := by
  refine weakE (pe_bm0 pa slot hty hm ho hbase hline) fun σ H Q q => ?_
  obtain ⟨G, env, h, rh, re, q⟩ := q
  refine run1 rh re q fun x h1 G1 H1 v e1 rh1 re1 rv q1 => ?_
  cases c : ty h1 x with
  | false => simp only [c] at q1; exact q1.elim
  | true =>
    simp only [c, if_true] at q1
    obtain ⟨z, h', eg, kk⟩ := rM_ok q1
    exact ⟨t rh1 rv c, G1, h1, x, [], rh1, rv, .nil, z, h', eg, kk⟩

/-! ### lists -/
theorem onL_at {G : View} {h : Hm} {H : Hp} {v : V} {y : Val} {g : List Val → Option (Val × List Val)} {z : Val} {h' : Hm} (rh : RH Γ G h H) (r : RV Γ G h.length H v y) (e : Mir.onL h y g = some (z, h')) :
    ∃ i xs vs ys, v = .ref (G.ρ i) ∧ H (G.ρ i) = some (.lst vs) ∧ RVs Γ G h.length H vs xs ∧ g xs = some (z, ys) ∧ ys.length ≤ Mir.line ∧
      (∀ ws, RVs Γ G h.length H ws ys → Ext G h.length H G h'.length (upd H (G.ρ i) (.lst ws)) ∧ RH Γ G h' (upd H (G.ρ i) (.lst ws))) := by
  cases r with
  | ref i hi =>
    unfold Mir.onL at e
    cases o : h[i]? with
    | none => simp only [o] at e; cases e
    | some ob =>
      obtain ⟨u, hu, ro⟩ := rh.ob i ob o
      cases ro with
      | lst r1 =>
        simp only [o] at e
        split at e
        · rename_i p ep
          split at e
          · rename_i hl
            cases e
            exact ⟨i, _, _, p.2, rfl, hu, r1, ep, hl, fun ws rw => set_r rh hi (.lst rw)⟩
          · cases e
        · cases e
      | _ => simp only [o] at e; cases e
  | _ => cases e
theorem mtAppend : MtR X "list.append" (rdM Γ Mir.mAppend) := by
  intro pins s σ H x vs v us Q I rx rs ⟨G, h, y, xs, rh, ry, rvs, z, h', eg, q⟩
  unfold Mir.mAppend at eg
  split at eg
  · obtain ⟨w, rfl, rw⟩ := rvs1 rvs
    obtain ⟨i, xs, ws, ys, rfl, hp, r1, e1, hl, st⟩ := onL_at rh ry eg
    cases e1
    have rl := r1.app (.cons rw .nil)
    obtain ⟨e2, rh2⟩ := st _ rl
    have : ws.length < sizeLine := by
      rw [r1.length, ← line_eq]
      rw [List.length_append] at hl
      simp only [List.length_cons, List.length_nil] at hl
      omega
    obtain ⟨u, rfl, ru⟩ := vals1' rs
    exact mt_append pins s σ H _ _ v _ Q I rx (.cons ru .nil) ⟨_, ws, w, rfl, rfl, hp, this, q G _ .non e2 rh2 .non⟩
  · cases eg
theorem mtInsert : MtR X "list.insert" (rdM Γ Mir.mInsert) := by
  intro pins s σ H x vs v us Q I rx rs ⟨G, h, y, xs, rh, ry, rvs, z, h', eg, q⟩
  unfold Mir.mInsert at eg
  split at eg
  · rename_i kk y0
    split at eg
    · rename_i c
      obtain ⟨w1, w, rfl, rw1, rw⟩ := rvs2 rvs
      cases rw1
      obtain ⟨i, xs, ws, ys, rfl, hp, r1, e1, hl, st⟩ := onL_at rh ry eg
      cases e1
      have rl := ((r1.take kk.toNat).app (.cons rw .nil)).app (r1.drop kk.toNat)
      obtain ⟨e2, rh2⟩ := st _ rl
      have : ws.length < sizeLine := by
        rw [r1.length, ← line_eq]
        simp only [List.length_append, List.length_take, List.length_drop, List.length_cons, List.length_nil] at hl
        omega
      exact mt_insert pins s σ H _ _ v _ Q I rx rs ⟨_, ws, _, w, rfl, rfl, hp, this, c.1, c.2, q G _ .non e2 rh2 .non⟩
    · cases eg
  · cases eg
theorem RVs.erase {G : View} {n : Nat} {H : Hp} {vs : List V} {xs : List Val} (r : RVs Γ G n H vs xs) : ∀ i, RVs Γ G n H (vs.eraseIdx i) (xs.eraseIdx i) := by
  induction xs generalizing vs with
  | nil => intro i; cases r; exact .nil
  | cons x xs ih =>
    intro i
    cases r with
    | cons r0 r =>
      cases i with
      | zero => exact r
      | succ i => exact .cons r0 (ih r i)
theorem RVs.dropLast {G : View} {n : Nat} {H : Hp} {vs : List V} {xs : List Val} (r : RVs Γ G n H vs xs) : RVs Γ G n H vs.dropLast xs.dropLast := by
  rw [List.dropLast_eq_take, List.dropLast_eq_take, r.length]
  exact r.take _
theorem mtPop : MtR X "list.pop" (rdM Γ Mir.mPop) := by
  intro pins s σ H x vs v us Q I rx rs ⟨G, h, y, xs, rh, ry, rvs, z, h', eg, q⟩
  unfold Mir.mPop at eg
  split at eg
  · cases rvs
    obtain ⟨i, xs, ws, ys, rfl, hp, r1, e1, hl, st⟩ := onL_at rh ry eg
    obtain ⟨y', ey, e2⟩ := map_some e1
    cases e2
    obtain ⟨w, ew, rw⟩ := r1.get ey
    obtain ⟨e2, rh2⟩ := st _ r1.dropLast
    exact mt_pop pins s σ H _ _ v _ Q I rx rs ⟨_, ws, w, rfl, rfl, hp, by rw [r1.length]; exact ew, q G _ w e2 rh2 (rw.ext rh e2)⟩
  · cases eg
theorem mtPopAt : MtR X "list.pop" (rdM Γ Mir.mPopAt) := by
  intro pins s σ H x vs v us Q I rx rs ⟨G, h, y, xs, rh, ry, rvs, z, h', eg, q⟩
  unfold Mir.mPopAt at eg
  split at eg
  · rename_i kk
    split at eg
    · rename_i c
      obtain ⟨w0, rfl, rw0⟩ := rvs1 rvs
      cases rw0
      obtain ⟨i, xs, ws, ys, rfl, hp, r1, e1, hl, st⟩ := onL_at rh ry eg
      obtain ⟨y', ey, e2⟩ := map_some e1
      cases e2
      obtain ⟨w, ew, rw⟩ := r1.get ey
      obtain ⟨e2, rh2⟩ := st _ (r1.erase kk.toNat)
      have hlt : kk.toNat < ws.length := (List.getElem?_eq_some_iff.mp ew).1
      have hs : seqIndex? kk ws.length = some kk.toNat := by
        have := ixN_seq (n := ws.length) (i := kk) (j := kk.toNat) (by unfold ixN; rw [if_pos c.1, if_pos (by omega)])
        exact this.1
      exact mt_popAt pins s σ H _ _ v _ Q I rx rs ⟨_, ws, kk, kk.toNat, w, rfl, rfl, hp, by have := c.1; omega, c.2, hs, ew, q G _ w e2 rh2 (rw.ext rh e2)⟩
    · cases eg
  · cases eg
theorem mtExtend : MtR X "list.extend" (rdM Γ Mir.mExtend) := by
  intro pins s σ H x vs v us Q I rx rs ⟨G, h, y, xs, rh, ry, rvs, z, h', eg, q⟩
  unfold Mir.mExtend at eg
  split at eg
  · split at eg
    · rename_i ys el
      obtain ⟨w0, rfl, rw0⟩ := rvs1 rvs
      obtain ⟨p, us', rfl, hp', r2⟩ := asL_at rh rw0 el
      obtain ⟨i, xs, ws, ys, rfl, hp, r1, e1, hl, st⟩ := onL_at rh ry eg
      cases e1
      obtain ⟨e2, rh2⟩ := st _ (r1.app r2)
      refine mt_extend pins s σ H _ _ v _ Q I rx rs ⟨_, _, ws, us', rfl, rfl, hp, hp', ?_, q G _ .non e2 rh2 .non⟩
      rw [r1.length, r2.length, ← line_eq]
      rw [List.length_append] at hl
      exact hl
    · cases eg
  · cases eg
/-! ### texts -/
theorem joinC_ok (sep : Mir.Cs) : ∀ ss : List Mir.Cs, Txt.join (toS sep) (ss.map toS) = toS (Mir.joinC sep ss) := by
  intro ss
  rw [TL.join_eq]
  induction ss with
  | nil => rfl
  | cons x ss ih =>
    cases ss with
    | nil => rfl
    | cons y r =>
      show toS x ++ toS sep ++ Str.join (toS sep) ((y :: r).map toS) = _
      rw [ih, toS_app, toS_app]
      rfl
theorem joinC_all {sep : Mir.Cs} (h : sep.all (· < 0x110000) = true) : ∀ ss : List Mir.Cs, (∀ s ∈ ss, s.all (· < 0x110000) = true) → (Mir.joinC sep ss).all (· < 0x110000) = true := by
  intro ss
  induction ss with
  | nil => intro _; rfl
  | cons x ss ih =>
    intro hs
    cases ss with
    | nil => exact hs x List.mem_cons_self
    | cons y r => exact str_app (str_app (hs x List.mem_cons_self) h) (ih fun s h => hs s (List.mem_cons_of_mem _ h))
theorem mtJoin (hK : X.K = Γ.K) : MtR X "str.join" (rdM Γ Mir.mJoin) := by
  intro pins s σ H x vs v us Q I rx rs ⟨G, h, y, xs, rh, ry, rvs, z, h', eg, q⟩
  unfold Mir.mJoin at eg
  split at eg
  · rename_i y1
    obtain ⟨w0, rfl, rw0⟩ := rvs1 rvs
    split at eg
    · rename_i _ _ sep ys' e1
      split at eg
      · rename_i ss es
        split at eg
        · rename_i hl
          cases eg
          cases ry with
          | str _ h1 =>
            have at' : ∃ p us', w0 = .ref p ∧ (SqL X.K H p us' ∨ SqT X.K H p us') ∧ RVs Γ G h.length H us' ys' := by
              cases y1 with
              | tup zs =>
                cases e1
                cases rw0 with
                | tup t r => exact ⟨_, _, rfl, .inr (hK ▸ t.sq), r⟩
              | _ =>
                obtain ⟨p, us', e2, e3, e4⟩ := asL_at rh rw0 e1
                exact ⟨p, us', e2, .inl (SqL.of e3), e4⟩
            obtain ⟨p, us', rfl, hs, r1⟩ := at'
            obtain ⟨e2, e3⟩ := strs_of r1 es
            subst e2
            refine mt_join pins s σ H _ _ v _ Q I rx rs ⟨toS sep, p, ss.map toS, rfl, rfl, hs, ?_, ?_⟩
            · have : ((ss.map toS).map (·.length)) = ss.map (·.length) := by
                rw [List.map_map]
                exact List.map_congr_left fun s _ => toS_len s
              rw [this, List.length_map, toS_len]
              exact hl
            · rw [joinC_ok]
              exact q G H _ (Ext.refl _ _ _) rh (.str _ (joinC_all h1 ss e3))
        · cases eg
      · cases eg
    · cases eg
  · cases eg
/-! ### sorted -/
theorem ins_perm {α : Type} (le : α → α → Bool) (x : α) : ∀ l : List α, (Mir.ins le x l).Perm (x :: l) := by
  intro l
  induction l with
  | nil => exact .refl _
  | cons y r ih =>
    unfold Mir.ins
    split
    · exact .refl _
    · exact (List.Perm.cons y ih).trans (List.Perm.swap x y r)
theorem srt_perm {α : Type} (le : α → α → Bool) : ∀ l : List α, (Mir.srt le l).Perm l := by
  intro l
  induction l with
  | nil => exact .refl _
  | cons x r ih => exact (ins_perm le x _).trans (ih.cons x)
theorem ins_sorted {α : Type} {le : α → α → Bool} (tot : ∀ a b, le a b = false → le b a = true) (tr : ∀ a b c, le a b = true → le b c = true → le a c = true) (x : α) : ∀ l : List α, l.Pairwise (fun a b => le a b = true) → (Mir.ins le x l).Pairwise (fun a b => le a b = true) := by
  intro l
  induction l with
  | nil => intro _; exact List.pairwise_singleton _ _
  | cons y r ih =>
    intro h
    unfold Mir.ins
    have h' := List.pairwise_cons.mp h
    cases c : le x y with
    | true =>
      simp only [if_true]
      refine List.pairwise_cons.mpr ⟨fun z hz => ?_, h⟩
      rcases List.mem_cons.mp hz with rfl | hz
      · exact c
      · exact tr _ _ _ c (h'.1 z hz)
    | false =>
      simp only [Bool.false_eq_true, if_false]
      refine List.pairwise_cons.mpr ⟨fun z hz => ?_, ih h'.2⟩
      rcases List.mem_cons.mp ((ins_perm le x r).mem_iff.mp hz) with rfl | hz
      · exact tot _ _ c
      · exact h'.1 z hz
theorem srt_sorted {α : Type} {le : α → α → Bool} (tot : ∀ a b, le a b = false → le b a = true) (tr : ∀ a b c, le a b = true → le b c = true → le a c = true) : ∀ l : List α, (Mir.srt le l).Pairwise (fun a b => le a b = true) := by
  intro l
  induction l with
  | nil => exact .nil
  | cons x r ih => exact ins_sorted tot tr x _ ih
theorem sorted_one {α : Type} {le : α → α → Bool} (as : ∀ a b, le a b = true → le b a = true → a = b) {l m : List α} (p : l.Perm m) (h : l.Pairwise fun a b => le a b = true) (h' : m.Pairwise fun a b => le a b = true) : l = m :=
  List.Perm.eq_of_pairwise (fun a b _ _ => as a b) h h' p
theorem leI_eq {ns ms : List Int} (p : ns.Perm ms) (h : ns.Pairwise (· ≤ ·)) : ns = Mir.srt Mir.leI ms := by
  refine sorted_one (le := Mir.leI) (fun a b h1 h2 => ?_) (p.trans (srt_perm _ _).symm) (h.imp fun {a b} q => decide_eq_true q) (srt_sorted (fun a b h => ?_) (fun a b c h1 h2 => ?_) ms)
  · have := of_decide_eq_true h1; have := of_decide_eq_true h2; omega
  · have : ¬ a ≤ b := of_decide_eq_false h
    exact decide_eq_true (by omega)
  · have := of_decide_eq_true h1; have := of_decide_eq_true h2; exact decide_eq_true (by omega)
theorem leS_tot (a b : Mir.Cs) (h : Mir.leS a b = false) : Mir.leS b a = true := by
  unfold Mir.leS at h ⊢
  simp only [Bool.not_eq_false', decide_eq_true_eq] at h
  simp only [Bool.not_eq_true', decide_eq_false_iff_not]
  exact List.lt_asymm h
theorem leS_tr (a b c : Mir.Cs) (h : Mir.leS a b = true) (h' : Mir.leS b c = true) : Mir.leS a c = true := by
  unfold Mir.leS at h h' ⊢
  simp only [Bool.not_eq_true', decide_eq_false_iff_not] at h h' ⊢
  exact List.not_lt.mpr (List.le_trans (List.not_lt.mp h) (List.not_lt.mp h'))
theorem leS_as (a b : Mir.Cs) (h : Mir.leS a b = true) (h' : Mir.leS b a = true) : a = b := by
  unfold Mir.leS at h h'
  simp only [Bool.not_eq_true', decide_eq_false_iff_not] at h h'
  exact List.le_antisymm (List.not_lt.mp h) (List.not_lt.mp h')
theorem rising_pw : ∀ (xs : List Str) (p : Str), PyProof.Rows.risingS p xs = true → (∀ x ∈ xs, Mir.leS p.cps.toList x.cps.toList = true) ∧ (xs.map fun x => x.cps.toList).Pairwise (fun a b => Mir.leS a b = true) := by
  intro xs
  induction xs with
  | nil => intro p _; exact ⟨(fun _ h => nomatch h), .nil⟩
  | cons x r ih =>
    intro p h
    unfold PyProof.Rows.risingS at h
    rw [Bool.and_eq_true, ltCps_eq] at h
    obtain ⟨h1, h2⟩ := ih x h.2
    have h0 : Mir.leS p.cps.toList x.cps.toList = true := h.1
    refine ⟨fun y hy => ?_, List.pairwise_cons.mpr ⟨fun y hy => ?_, h2⟩⟩
    · rcases List.mem_cons.mp hy with rfl | hy
      · exact h0
      · exact leS_tr _ _ _ h0 (h1 y hy)
    · obtain ⟨z, hz, rfl⟩ := List.mem_map.mp hy
      exact h1 z hz
theorem sortedS_pw (ys : List Str) (h : PyProof.Rows.sortedS ys = true) : (ys.map fun x => x.cps.toList).Pairwise (fun a b => Mir.leS a b = true) := by
  cases ys with
  | nil => exact .nil
  | cons x r =>
    obtain ⟨h1, h2⟩ := rising_pw r x h
    refine List.pairwise_cons.mpr ⟨fun y hy => ?_, h2⟩
    obtain ⟨z, hz, rfl⟩ := List.mem_map.mp hy
    exact h1 z hz
theorem leS_eq {ys : List Str} {ss : List Mir.Cs} (p : ys.Perm (ss.map toS)) (h : PyProof.Rows.sortedS ys = true) : ys = (Mir.srt Mir.leS ss).map toS := by
  have p2 : (ys.map fun x => x.cps.toList).Perm ss := by
    have := p.map fun x => x.cps.toList
    rw [List.map_map] at this
    have e : (ss.map ((fun x : Str => x.cps.toList) ∘ toS)) = ss := by
      have : ∀ l : List Mir.Cs, l.map ((fun x : Str => x.cps.toList) ∘ toS) = l := fun l => by
        induction l with
        | nil => rfl
        | cons a l ih => rw [List.map_cons, ih]; show (toS a).cps.toList :: l = a :: l; rw [toS_tl]
      exact this ss
    rw [e] at this
    exact this
  have e := sorted_one leS_as (p2.trans (srt_perm Mir.leS ss).symm) (sortedS_pw ys h) (srt_sorted leS_tot leS_tr ss)
  rw [← e, List.map_map]
  have : ∀ l : List Str, l = l.map (toS ∘ fun x : Str => x.cps.toList) := fun l => by
    induction l with
    | nil => rfl
    | cons a l ih =>
      rw [List.map_cons, ← ih]
      show a :: l = toS a.cps.toList :: l
      rw [show toS a.cps.toList = a from str_ext (toS_tl _)]
  exact this ys
theorem RVs.of_strs {G : View} {n : Nat} {H : Hp} (ss : List Mir.Cs) (h : ∀ s ∈ ss, s.all (· < 0x110000) = true) : RVs Γ G n H ((ss.map toS).map V.str) (ss.map .str) := by
  induction ss with
  | nil => exact .nil
  | cons s ss ih => exact .cons (.str s (h s List.mem_cons_self)) (ih fun z hz => h z (List.mem_cons_of_mem _ hz))
theorem cSorted : CallR X (.builtin "sorted") (rdCL Γ Mir.bSorted) := by
  intro pins s σ H vs us Q I r ⟨G, h, xs, rh, rv, z, ez, q⟩
  unfold Mir.bSorted at ez
  split at ez
  · obtain ⟨w0, rfl, r0⟩ := rvs1 rv
    split at ez
    · rename_i xs' el
      obtain ⟨p, vs, rfl, hp, rs⟩ := asL_at rh r0 el
      split at ez
      · rename_i ns en
        split at ez
        · rename_i hl
          cases ez
          have := ints_of rs en
          subst this
          refine cr_sorted pins s σ H _ us Q I r ⟨p, ns, rfl, SqL.of hp, hl, fun ms l pm st hl => ?_⟩
          rw [leI_eq pm st]
          exact q _ (RVs.of_ints _) l hl
        · cases ez
      · split at ez
        · rename_i ss es
          split at ez
          · rename_i hl
            cases ez
            obtain ⟨e2, e3⟩ := strs_of rs es
            subst e2
            refine cr_sortedS pins s σ H _ us Q I r ⟨p, ss.map toS, rfl, SqL.of hp, by rw [List.length_map]; exact hl, fun ms l pm st hl => ?_⟩
            rw [leS_eq pm st]
            exact q _ (RVs.of_strs _ fun s hs => e3 s ((srt_perm Mir.leS ss).mem_iff.mp hs)) l hl
          · cases ez
        · cases ez
    · cases ez
  · cases ez
theorem RKs.keys {G : View} {n : Nat} {H : Hp} {kvs : List (Key × V)} {ys : List (Val × Val)} (r : RKs Γ G n H kvs ys) : ys.map (·.1) = (kvs.map (·.1)).map keyV := by
  induction ys generalizing kvs with
  | nil => cases r; rfl
  | cons y ys ih => cases r with | cons r s => rw [List.map_cons, List.map_cons, List.map_cons, ih s]
theorem keys_strs : ∀ (ks : List Key) (ss : List Mir.Cs), Mir.strsO (ks.map keyV) = some ss → ks = (ss.map toS).map Sum.inr := by
  intro ks
  induction ks with
  | nil => intro ss e; cases e; rfl
  | cons k ks ih =>
    intro ss e
    cases k with
    | inl i => cases e
    | inr x =>
      obtain ⟨ms, e1, rfl⟩ := map_some (show (Mir.strsO (ks.map keyV)).map (x.cps.toList :: ·) = some ss from e)
      rw [ih ms e1]
      show Sum.inr x :: _ = Sum.inr (toS x.cps.toList) :: _
      rw [show toS x.cps.toList = x from str_ext (toS_tl _)]
end
end Sim
end

section
set_option linter.all false
set_option Elab.async false
set_option maxRecDepth 100000
set_option maxHeartbeats 1000000
/-! Zs: zip(a, b, strict=True) of two lists of one length. -/
namespace PySem
open Sem (wp)
namespace F
theorem typeCall_zip_strict (a b c : Value) : checkTypeCall "zip" ⟨[a, b], [(Str.ofString "strict", c)]⟩ = pure () := by kernel_rfl
theorem newCall_zip_strict (a b c : Value) : checkBuiltinCall "zip.__new__" ⟨[.type "zip", a, b], [(Str.ofString "strict", c)]⟩ = pure () := by kernel_rfl
theorem args_object_init_strict (obj a b c : Value) : argsOk "object.__init__" ⟨[obj, a, b], [(Str.ofString "strict", c)]⟩ := by unfold argsOk; kernel_rfl
end F
abbrev IsZipS (h : Heap) (z TI TO : Addr) (f0 : Value) : Prop :=
  h.get? z = some { cls := .type "zip", dict := none, data := .fields #[f0, .bool false, .bool true, .ref TI, .ref TO], slots := #[] }
abbrev zipHS (h : Heap) (l1 l2 : Addr) : Heap := (zipH4 h l1 l2).push { cls := .type "zip", data := .fields #[.none, .bool false, .bool true, .ref (zipH2 h l1 l2).objs.size, .ref (zipH3 h l1 l2).objs.size] }

theorem meets_zip_newS (l1 l2 : Addr) (xs ys : Array Value) :
    Meets (Builtin.«zip.__new__» ⟨[.type "zip", .ref l1, .ref l2], [(Str.ofString "strict", .bool true)]⟩) (fun _ R s => s.heap.IsList l1 xs ∧ s.heap.IsList l2 ys ∧
      R (.ok (.ret (.ref (zipH4 s.heap l1 l2).objs.size))) { s with heap := zipHS s.heap l1 l2 }) :=
  .of_wp fun prog w A R s h => by
    obtain ⟨hp, g, d, tk, os⟩ := s; obtain ⟨hl1, hl2, h⟩ := h
    have hsub := sub_zip
    have hL1 : Heap.IsList (Shared.heap ⟨hp, g, d, tk, os⟩) l1 xs := hl1
    have hL2 : Heap.IsList (Shared.heap ⟨hp.push { cls := .type "list_iterator", data := .fields #[.ref l1, .int 0 0] }, g, d, tk, os⟩) l2 ys := Heap.IsList.push hl2 _
    have e1 : (Str.ofString "strict" != ("strict" : Str)) = false := by decide +kernel
    wp_walk using wpAny_pyIter_list hL1, wpAny_pyIter_list hL2
    exact ⟨_, rfl, h⟩
section
variable {prog : Program} {w : World} {A : Around} {E : Value → Shared → Prop} {s : Shared}
theorem call_zipS {l1 l2 : Addr} {xs ys : Array Value} {Q : Value → Shared → Prop} (hl1 : s.heap.IsList l1 xs) (hl2 : s.heap.IsList l2 ys)
    (h : ∀ h', IsZipS h' (s.heap.objs.size + 4) (s.heap.objs.size + 2) (s.heap.objs.size + 3) .none → IsPair h' (s.heap.objs.size + 2) (.ref s.heap.objs.size) (.ref (s.heap.objs.size + 1)) →
      IsPair h' (s.heap.objs.size + 3) .none .none → h'.IsListIter s.heap.objs.size l1 0 → h'.IsListIter (s.heap.objs.size + 1) l2 0 → h'.objs.size = s.heap.objs.size + 5 →
      (∀ c o, s.heap.get? c = some o → h'.get? c = some o) → Q (.ref (s.heap.objs.size + 4)) { s with heap := h' }) :
    wpAny (model prog w) A (call (.type "zip") [.ref l1, .ref l2] [(Str.ofString "strict", .bool true)]) Q E s := by
  refine callType_newKw F.called_zip (by decide) (F.typeCall_zip_strict _ _ _) (F.newCall_zip_strict _ _ _) (fun obj => F.args_object_init_strict obj _ _ _) F.entry_zip_new
    (meets_zip_newS l1 l2 xs ys) ⟨hl1, hl2, ?_⟩
  have z1 : (zipH1 s.heap l1).objs.size = s.heap.objs.size + 1 := Heap.size_push ..
  have z2 : (zipH2 s.heap l1 l2).objs.size = s.heap.objs.size + 2 := by rw [Heap.size_push, z1]
  have z3 : (zipH3 s.heap l1 l2).objs.size = s.heap.objs.size + 3 := by rw [Heap.size_push, z2]
  have z4 : (zipH4 s.heap l1 l2).objs.size = s.heap.objs.size + 4 := by rw [Heap.size_push, z3]
  have z5 : (zipHS s.heap l1 l2).objs.size = s.heap.objs.size + 5 := by rw [Heap.size_push, z4]
  have g5 : (zipHS s.heap l1 l2).get? (zipH4 s.heap l1 l2).objs.size = some _ := Heap.get?_push_size _ rfl
  have g4 : (zipHS s.heap l1 l2).get? (zipH3 s.heap l1 l2).objs.size = some _ := Heap.get?_push_of_some _ (Heap.get?_push_size _ rfl)
  have g3 : (zipHS s.heap l1 l2).get? (zipH2 s.heap l1 l2).objs.size = some _ := Heap.get?_push_of_some _ (Heap.get?_push_of_some _ (Heap.get?_push_size _ rfl))
  have g2 : (zipHS s.heap l1 l2).get? (zipH1 s.heap l1).objs.size = some _ := Heap.get?_push_of_some _ (Heap.get?_push_of_some _ (Heap.get?_push_of_some _ (Heap.get?_push_size _ rfl)))
  have g1 : (zipHS s.heap l1 l2).get? s.heap.objs.size = some _ := Heap.get?_push_of_some _ (Heap.get?_push_of_some _ (Heap.get?_push_of_some _ (Heap.get?_push_of_some _ (Heap.get?_push_size _ rfl))))
  show _ ∧ _
  rw [z2, z3, z4] at g5
  rw [z1, z2] at g3
  rw [z3] at g4
  rw [z1] at g2
  rw [z4]
  exact ⟨⟨_, g5, rfl⟩, h _ g5 g3 g4 ⟨_, g1, rfl, rfl⟩ ⟨_, g2, rfl, rfl⟩ z5 fun c o x =>
    Heap.get?_push_of_some _ (Heap.get?_push_of_some _ (Heap.get?_push_of_some _ (Heap.get?_push_of_some _ (Heap.get?_push_of_some _ x))))⟩
theorem nextOrEnd_item {it l : Addr} {i : Nat} {items} {x : Value} {Q : Option Value → Shared → Prop} (hit : s.heap.IsListIter it l i)
    (hl : s.heap.IsList l items) (hx : items[i]? = some x) (hQ : ∀ h', h'.IsListIter it l (i + 1) → Heap.SameBut it s.heap h' → Q (some x) { s with heap := h' }) :
    wpAny (model prog w) A (Builtin.SmallTypes.nextOrEnd (.ref it)) Q E s := by
  unfold Builtin.SmallTypes.nextOrEnd
  exact wpAny_bind (wpAny_attempt (wpAny_nextOf_list_item hit hl hx fun h' a b => wpAny_pure (hQ h' a b)))
theorem nextOrEnd_end {it l : Addr} {i : Nat} {items} {Q : Option Value → Shared → Prop} (hh : A.handled = none) (hit : s.heap.IsListIter it l i)
    (hl : s.heap.IsList l items) (hx : items[i]? = none) (hQ : ∀ h', Heap.ExtBut it s.heap h' → Q none { s with heap := h' }) :
    wpAny (model prog w) A (Builtin.SmallTypes.nextOrEnd (.ref it)) Q E s := by
  unfold Builtin.SmallTypes.nextOrEnd
  refine wpAny_bind (wpAny_attempt (wpAny_nextOf_list_end hh hit hl hx fun h' e a ⟨o, ho, hc⟩ => ?_))
  refine wpAny_bind (wpAny_isInstance (T := "StopIteration") (b := true) ⟨o, ho, hc⟩ isSubtype_stop ?_)
  exact wpAny_pure (hQ _ a)
theorem zipS_next_item {z TI TO i1 i2 l1 l2 : Addr} {k1 k2 : Nat} {xs ys : Array Value} {x y a b : Value} {Q : Value → Shared → Prop} (D : ZipApart z TI TO i1 i2 l1 l2)
    (hz : IsZipS s.heap z TI TO .none) (hTI : IsPair s.heap TI (.ref i1) (.ref i2)) (hTO : IsPair s.heap TO a b)
    (h1 : s.heap.IsListIter i1 l1 k1) (h2 : s.heap.IsListIter i2 l2 k2) (hl1 : s.heap.IsList l1 xs) (hl2 : s.heap.IsList l2 ys) (hx : xs[k1]? = some x) (hy : ys[k2]? = some y)
    (hQ : ∀ h', IsZipS h' z TI TO (rawInt s.heap.objs.size) → IsPair h' TO x y → h'.IsListIter i1 l1 (k1 + 1) → h'.IsListIter i2 l2 (k2 + 1) → IsPair h' s.heap.objs.size x y → h'.objs.size = s.heap.objs.size + 1 →
      (∀ c o, c ≠ z → c ≠ TO → c ≠ i1 → c ≠ i2 → s.heap.get? c = some o → h'.get? c = some o) → Q (.ref s.heap.objs.size) { s with heap := h' }) :
    wpAny (model prog w) A (Builtin.«zip.__next__» ⟨[.ref z], []⟩) (fun fin s' => ∃ v, fin = .done (.ret v) ∧ Q v s') E s := by
  show wpAny _ _ (field (.ref z) 2 >>= _) _ _ _
  refine wpAny_bind (wpAny_field hz rfl (x := .bool true) rfl ?_)
  show wpAny _ _ (field (.ref z) 3 >>= _) _ _ _
  refine wpAny_bind (wpAny_field hz rfl (x := .ref TI) rfl ?_)
  refine wpAny_bind (wpAny_seqItems hTI rfl ?_)
  show wpAny _ _ (Builtin.SmallTypes.ownedTupleIsFree (.ref z) >>= _) _ _ _
  refine wpAny_bind ?_
  unfold Builtin.SmallTypes.ownedTupleIsFree
  refine wpAny_bind (wpAny_field hz rfl (x := .none) rfl (wpAny_pure ?_))
  simp only [if_true]
  refine wpAny_bind (wpAny_rule ?_)
  refine wpAny_bind (wpAny_field hz rfl (x := .ref TO) rfl ?_)
  refine wpAny_bind (wpAny_setField_rec hz (by simp) fun h₁ hz₁ hs₁ => ?_)
  replace hz₁ : IsZipS h₁ z TI TO .ellipsis := hz₁
  refine wpAny_bind ?_
  simp only [List.zipIdx_cons, List.zipIdx_nil, List.forIn_cons, List.forIn_nil]

  refine wpAny_bind (wpAny_bind (wpAny_onRaise ?_))
  show wpAny _ _ (Builtin.SmallTypes.nextOrEnd (.ref i1)) _ _ _
  refine nextOrEnd_item (h1.extBut hs₁.extBut D.i1z) (hl1.extBut hs₁.extBut D.l1z) hx fun h₂ h1₂ hs₂ => ?_
  have hTO₂ : IsPair h₂ TO a b := hs₂.extBut _ _ D.TOi1 (hs₁.extBut _ _ D.TOz hTO)
  refine wpAny_bind (wpAny_seqItems hTO₂ rfl ?_)
  refine wpAny_bind (wpAny_updateSeq_pair hTO₂ fun h₃ hTO₃ hs₃ => ?_)
  replace hTO₃ : IsPair h₃ TO x b := hTO₃
  refine wpAny_bind (wpAny_letGo (wpAny_pure ?_))

  refine wpAny_bind (wpAny_bind (wpAny_onRaise ?_))
  show wpAny _ _ (Builtin.SmallTypes.nextOrEnd (.ref i2)) _ _ _
  refine nextOrEnd_item (((h2.extBut hs₁.extBut D.i2z).extBut hs₂.extBut D.i12.symm).extBut hs₃.extBut D.TOi2.symm)
    (((hl2.extBut hs₁.extBut D.l2z).extBut hs₂.extBut D.l2i1).extBut hs₃.extBut D.l2TO) hy fun h₄ h2₄ hs₄ => ?_
  have hTO₄ : IsPair h₄ TO x b := hs₄.extBut _ _ D.TOi2 hTO₃
  refine wpAny_bind (wpAny_seqItems hTO₄ rfl ?_)
  refine wpAny_bind (wpAny_updateSeq_pair hTO₄ fun h₅ hTO₅ hs₅ => ?_)
  replace hTO₅ : IsPair h₅ TO x y := hTO₅
  refine wpAny_bind (wpAny_letGo (wpAny_pure (wpAny_pure ?_)))

  refine wpAny_bind (wpAny_seqItems hTO₅ rfl ?_)
  refine wpAny_bind (wpAny_newTuple ?_)
  have hsz : h₅.objs.size = s.heap.objs.size := by rw [hs₅.1, hs₄.1, hs₃.1, hs₂.1, hs₁.1]
  have hz₅ : IsZipS h₅ z TI TO .ellipsis := hs₅.extBut _ _ D.TOz.symm (hs₄.extBut _ _ D.i2z.symm (hs₃.extBut _ _ D.TOz.symm (hs₂.extBut _ _ D.i1z.symm hz₁)))
  have hk₅ : ∀ c o, c ≠ z → c ≠ TO → c ≠ i1 → c ≠ i2 → s.heap.get? c = some o → h₅.get? c = some o := fun c o c1 c2 c3 c4 e =>
    hs₅.extBut _ _ c2 (hs₄.extBut _ _ c4 (hs₃.extBut _ _ c2 (hs₂.extBut _ _ c3 (hs₁.extBut _ _ c1 e))))
  have h1₅ : h₅.IsListIter i1 l1 (k1 + 1) := ((h1₂.extBut hs₃.extBut D.TOi1.symm).extBut hs₄.extBut D.i12).extBut hs₅.extBut D.TOi1.symm
  have h2₅ : h₅.IsListIter i2 l2 (k2 + 1) := h2₄.extBut hs₅.extBut D.TOi2.symm
  have hzlt : z < h₅.objs.size := Heap.lt_size hz₅
  show wpAny _ _ (Builtin.SmallTypes.ownedTupleHandOut (.ref z) (.ref h₅.objs.size) >>= _) _ _ _
  refine wpAny_bind ?_
  unfold Builtin.SmallTypes.ownedTupleHandOut
  have hz₆ : IsZipS (h₅.push { cls := .type "tuple", data := .seq #[x, y] }) z TI TO .ellipsis := Heap.get?_push_of_some _ hz₅
  refine wpAny_bind (wpAny_setField_rec hz₆ (by simp) fun h₇ hz₇ hs₇ => ?_)
  replace hz₇ : IsZipS h₇ z TI TO (rawInt h₅.objs.size) := hz₇
  refine wpAny_setField_rec hz₇ (by simp) fun h₈ hz₈ hs₈ => ?_
  replace hz₈ : IsZipS h₈ z TI TO (rawInt h₅.objs.size) := hz₈
  have up : ∀ c o, c ≠ z → h₅.get? c = some o → h₈.get? c = some o := fun c o c1 e => hs₈.extBut _ _ c1 (hs₇.extBut _ _ c1 (Heap.get?_push_of_some _ e))
  have hT₈ : IsPair h₈ h₅.objs.size x y := hs₈.extBut _ _ (Nat.ne_of_gt hzlt) (hs₇.extBut _ _ (Nat.ne_of_gt hzlt) (Heap.get?_push_size _ rfl))
  have hz8 : h₈.objs.size = h₅.objs.size + 1 := by rw [hs₈.1, hs₇.1, Heap.size_push]
  rw [hsz] at hz₈ hT₈ hz8
  refine wpAny_pure ⟨_, rfl, ?_⟩
  show Q (.ref h₅.objs.size) _
  rw [hsz]
  exact hQ h₈ hz₈ (up _ _ D.TOz hTO₅) (h1₅.at fun o e => up _ o D.i1z e) (h2₅.at fun o e => up _ o D.i2z e) hT₈ hz8 fun c o c1 c2 c3 c4 e => up c o c1 (hk₅ c o c1 c2 c3 c4 e)
theorem zipS_next_end {z TI TO i1 i2 l1 l2 : Addr} {k1 k2 : Nat} {xs ys : Array Value} {a b : Value} {Q : Fin → Shared → Prop} (hh : A.handled = none) (D : ZipApart z TI TO i1 i2 l1 l2)
    (hz : IsZipS s.heap z TI TO .none) (hTI : IsPair s.heap TI (.ref i1) (.ref i2)) (hTO : IsPair s.heap TO a b)
    (h1 : s.heap.IsListIter i1 l1 k1) (h2 : s.heap.IsListIter i2 l2 k2) (hl1 : s.heap.IsList l1 xs) (hl2 : s.heap.IsList l2 ys) (hx : xs[k1]? = none) (hy : ys[k2]? = none)
    (hE : ∀ h' e, (∀ c o, c ≠ z → c ≠ TO → c ≠ i1 → c ≠ i2 → s.heap.get? c = some o → h'.get? c = some o) → (∃ o, h'.get? e = some o ∧ o.cls = .type "StopIteration") → E (.ref e) { s with heap := h' }) :
    wpAny (model prog w) A (Builtin.«zip.__next__» ⟨[.ref z], []⟩) Q E s := by
  show wpAny _ _ (field (.ref z) 2 >>= _) _ _ _
  refine wpAny_bind (wpAny_field hz rfl (x := .bool true) rfl ?_)
  show wpAny _ _ (field (.ref z) 3 >>= _) _ _ _
  refine wpAny_bind (wpAny_field hz rfl (x := .ref TI) rfl ?_)
  refine wpAny_bind (wpAny_seqItems hTI rfl ?_)
  show wpAny _ _ (Builtin.SmallTypes.ownedTupleIsFree (.ref z) >>= _) _ _ _
  refine wpAny_bind ?_
  unfold Builtin.SmallTypes.ownedTupleIsFree
  refine wpAny_bind (wpAny_field hz rfl (x := .none) rfl (wpAny_pure ?_))
  simp only [if_true]
  refine wpAny_bind (wpAny_rule ?_)
  refine wpAny_bind (wpAny_field hz rfl (x := .ref TO) rfl ?_)
  refine wpAny_bind (wpAny_setField_rec hz (by simp) fun h₁ hz₁ hs₁ => ?_)
  replace hz₁ : IsZipS h₁ z TI TO .ellipsis := hz₁
  refine wpAny_bind ?_
  simp only [List.zipIdx_cons, List.zipIdx_nil, List.forIn_cons, List.forIn_nil]
  refine wpAny_bind (wpAny_bind (wpAny_onRaise ?_))
  show wpAny _ _ (Builtin.SmallTypes.nextOrEnd (.ref i1)) _ _ _
  refine nextOrEnd_end hh (h1.extBut hs₁.extBut D.i1z) (hl1.extBut hs₁.extBut D.l1z) hx fun h₂ hs₂ => ?_
  have hz₂ : IsZipS h₂ z TI TO .ellipsis := hs₂ _ _ D.i1z.symm hz₁
  refine wpAny_bind (wpAny_setField_rec hz₂ (by simp) fun h₃ hz₃ hs₃ => ?_)
  refine wpAny_bind ?_
  show wpAny _ _ (((Builtin.SmallTypes.nextOrEnd (.ref i2) >>= _) >>= _) >>= _) _ _ _
  refine wpAny_bind (wpAny_bind (wpAny_bind ?_))
  have hs3 : ∀ c o, c ≠ z → c ≠ i1 → s.heap.get? c = some o → h₃.get? c = some o := fun c o c1 c3 x => hs₃.extBut _ _ c1 (hs₂ _ _ c3 (hs₁.extBut _ _ c1 x))
  refine nextOrEnd_end hh (h2.at fun o x => hs3 _ o D.i2z D.i12.symm x) (hl2.at fun o x => hs3 _ o D.l2z D.l2i1 x) hy fun h₄ hs₄ => ?_
  refine wpAny_pure (wpAny_pure (wpAny_bind (wpAny_rule ?_)))
  show wpAny _ _ (newExc (.type "StopIteration") [] >>= _) _ _ _
  refine wpAny_bind ?_
  simp only [newExc, newTuple]
  refine wpAny_bind (wpAny_newObj_type ?_ (by size_fits))
  refine wpAny_bind (m := firstArgMember _ _) (wpAny_of_eq (a := Value.none) (by first | rfl | (simp only [firstArgMember]; rfl)) ?_)
  refine wpAny_newObj_type ?_ (by size_fits)
  simp only [raiseNew]
  refine wpAny_bind (wpAny_handled ?_)
  first | rw [show A.in1.handled = none from hh] | rw [hh]
  refine wpAny_bind (wpAny_pure (wpAny_throw ?_))
  exact hE _ _ (fun c o c1 _ c3 c4 x => Heap.get?_push_of_some _ (Heap.get?_push_of_some _ (hs₄ _ _ c4 (hs3 c o c1 c3 x)))) ⟨_, Heap.get?_push_size _ rfl, rfl⟩
theorem pyNext_zipS_item {z TI TO i1 i2 l1 l2 : Addr} {k1 k2 : Nat} {xs ys : Array Value} {x y a b : Value} {Q : Option Value → Shared → Prop} (D : ZipApart z TI TO i1 i2 l1 l2)
    (hz : IsZipS s.heap z TI TO .none) (hTI : IsPair s.heap TI (.ref i1) (.ref i2)) (hTO : IsPair s.heap TO a b)
    (h1 : s.heap.IsListIter i1 l1 k1) (h2 : s.heap.IsListIter i2 l2 k2) (hl1 : s.heap.IsList l1 xs) (hl2 : s.heap.IsList l2 ys) (hx : xs[k1]? = some x) (hy : ys[k2]? = some y)
    (hQ : ∀ h', IsZipS h' z TI TO (rawInt s.heap.objs.size) → IsPair h' TO x y → h'.IsListIter i1 l1 (k1 + 1) → h'.IsListIter i2 l2 (k2 + 1) → IsPair h' s.heap.objs.size x y → h'.objs.size = s.heap.objs.size + 1 →
      (∀ c o, c ≠ z → c ≠ TO → c ≠ i1 → c ≠ i2 → s.heap.get? c = some o → h'.get? c = some o) → Q (some (.ref s.heap.objs.size)) { s with heap := h' }) :
    wpAny (model prog w) A (pyNext (.ref z)) Q E s := by
  have hT : s.TypeIs (.ref z) "zip" := ⟨_, hz, rfl⟩
  unfold pyNext
  exact wpAny_bind (wpAny_attempt (wpAny_callSpecial?_slot (name := Str.ofString "__next__") hT F.slot_zip_next
    (wpAny_call_entry F.slot_zip_next hT F.entry_zip_next
      (zipS_next_item D hz hTI hTO h1 h2 hl1 hl2 hx hy fun h' a1 a2 a3 a4 a5 a6 a7 => wpAny_pure (hQ h' a1 a2 a3 a4 a5 a6 a7)) (F.args_zip_next_1 _))))
theorem pyNext_zipS_end {z TI TO i1 i2 l1 l2 : Addr} {k1 k2 : Nat} {xs ys : Array Value} {a b : Value} {Q : Option Value → Shared → Prop} (hh : A.handled = none) (D : ZipApart z TI TO i1 i2 l1 l2)
    (hz : IsZipS s.heap z TI TO .none) (hTI : IsPair s.heap TI (.ref i1) (.ref i2)) (hTO : IsPair s.heap TO a b)
    (h1 : s.heap.IsListIter i1 l1 k1) (h2 : s.heap.IsListIter i2 l2 k2) (hl1 : s.heap.IsList l1 xs) (hl2 : s.heap.IsList l2 ys) (hx : xs[k1]? = none) (hy : ys[k2]? = none)
    (hQ : ∀ h', (∀ c o, c ≠ z → c ≠ TO → c ≠ i1 → c ≠ i2 → s.heap.get? c = some o → h'.get? c = some o) → Q none { s with heap := h' }) : wpAny (model prog w) A (pyNext (.ref z)) Q E s := by
  have hT : s.TypeIs (.ref z) "zip" := ⟨_, hz, rfl⟩
  unfold pyNext
  refine wpAny_bind (wpAny_attempt (wpAny_callSpecial?_slot (name := Str.ofString "__next__") hT F.slot_zip_next
    (wpAny_call_entry F.slot_zip_next hT F.entry_zip_next (zipS_next_end hh D hz hTI hTO h1 h2 hl1 hl2 hx hy fun h' e hk he => ?_) (F.args_zip_next_1 _))))
  obtain ⟨o, ho, hc⟩ := he
  refine wpAny_bind (wpAny_isInstance (T := "StopIteration") (b := true) ⟨o, ho, hc⟩ isSubtype_stop ?_)
  exact wpAny_pure (hQ _ hk)
theorem letGo_zipS {elts : List Expr} {x1} {pos : Pos} {z TI TO T : Addr} {Q : Unit → Shared → Prop} (hz : IsZipS s.heap z TI TO (rawInt T))
    (hQ : ∀ h', IsZipS h' z TI TO .none → Heap.SameBut z s.heap h' → Q () { s with heap := h' }) :
    wpAny (model prog w) A (letOwnedTupleGo (.Tuple elts x1 pos) (.ref z) (.ref T)) Q E s := by
  unfold letOwnedTupleGo
  refine wpAny_bind (wpAny_load hz ?_)
  show wpAny _ _ (if (["enumerate", "zip", "dict_itemiterator", "dict_reverseitemiterator", "odict_iterator", "itertools.zip_longest", "itertools.pairwise"].contains "zip" &&
      (#[rawInt T, .bool false, .bool true, .ref TI, .ref TO] : Array Value)[0]? == some (rawInt T)) = true then _ else _) Q E s
  rw [if_pos (by simp)]
  refine wpAny_bind (wpAny_rule ?_)
  show wpAny _ _ (setField (.ref z) 0 .none) Q E s
  exact wpAny_setField_rec hz (by simp) fun h' hz' hs' => hQ h' hz' hs'
theorem pyIter_zipS {z TI TO : Addr} {f0 : Value} {Q : Value → Shared → Prop} (hz : IsZipS s.heap z TI TO f0) (h : Q (.ref z) s) : wpAny (model prog w) A (pyIter (.ref z)) Q E s := by
  have hT : s.TypeIs (.ref z) "zip" := ⟨_, hz, rfl⟩
  refine wpAny_pyIter_slot hT F.slot_zip_iter (wpAny_call_entry F.slot_zip_iter hT F.entry_zip_iter ?_ (F.args_zip_iter_1 _))
  show wpAny _ _ (ret (.ref z)) _ _ s
  exact wpAny_pure ⟨_, rfl, "zip", _, hT, F.slot_zip_next.lookup, h⟩
end
end PySem
namespace RZ
open PySem PySem.Spec PyProof.Rows L2
def ItzS (K : PySem.W.Frag) (a b : Addr) : It :=
  ⟨(Itz K a b).go, (Itz K a b).yld, fun i H => ∃ xs ys : List V, SqL K H a xs ∧ SqL K H b ys ∧ xs.length ≤ i ∧ ys.length ≤ i⟩
theorem turn_zipS {P : Program} {w : World} {K : PySem.W.Frag} {elts : List Expr} {kk : Nat} {tpos : Pos} {a b z TI TO i1 i2 : Addr} (D : ZipApart z TI TO i1 i2 a b) :
    Turn P w K (.Tuple elts kk tpos) (ItzS K a b) [z, TI, TO, i1, i2] z (fun i h => IsZipS h z TI TO .none ∧ IsPair h TI (.ref i1) (.ref i2) ∧ (∃ x y, IsPair h TO x y) ∧ h.IsListIter i1 a i ∧ h.IsListIter i2 b i) where
  mem := by simp
  obj := fun i h st c hc => by
    obtain ⟨hz, hTI, ⟨x, y, hTO⟩, ⟨o1, e1, _, d1⟩, ⟨o2, e2, _, d2⟩⟩ := st
    have e' : c = z ∨ c = TI ∨ c = TO ∨ c = i1 ∨ c = i2 := by simpa using hc
    rcases e' with q | q | q | q | q
    · rw [q]; exact ⟨_, hz, fun v q => nomatch q⟩
    · rw [q]; exact ⟨_, hTI, fun v q => nomatch q⟩
    · rw [q]; exact ⟨_, hTO, fun v q => nomatch q⟩
    · rw [q]; exact ⟨o1, e1, fun v q => by rw [d1] at q; cases q⟩
    · rw [q]; exact ⟨o2, e2, fun v q => by rw [d2] at q; cases q⟩
  keep := fun i h h' st k => by
    obtain ⟨hz, hTI, ⟨x, y, hTO⟩, h1, h2⟩ := st
    exact ⟨k z (by simp) _ hz, k TI (by simp) _ hTI, ⟨x, y, k TO (by simp) _ hTO⟩, h1.at fun o q => k i1 (by simp) o q, h2.at fun o q => k i2 (by simp) o q⟩
  item := by
    intro X hP hw hK hc i pins s σ H E I hf st hg
    subst hP hw hK
    obtain ⟨hz, hTI, ⟨x0, y0, hTO⟩, h1, h2⟩ := st
    obtain ⟨xs, ys, x, y, hqx, hqy, hx, hy⟩ := hg
    obtain ⟨its, rv, p, _⟩ := I.list hqx
    obtain ⟨its2, rv2, p2, _⟩ := I.list hqy
    obtain ⟨u, hu, ru⟩ := rv.get hx
    obtain ⟨u2, hu2, ru2⟩ := rv2.get hy
    have hzl : z < s.heap.objs.size := Heap.lt_size hz
    refine pyNext_zipS_item D hz hTI hTO h1 h2 p.isList p2.isList (x := u) (y := u2) (by simpa using hu) (by simpa using hu2) fun h' z' TO' h1' h2' hT hsz hk => ?_
    refine ⟨_, rfl, letGo_zipS (s := { s with heap := h' }) z' fun h'' z'' sb => ?_⟩
    have hT2 : h''.get? s.heap.objs.size = some { cls := .type "tuple", data := .seq #[u, u2] } := (sb.2 _ (Nat.ne_of_gt hzl)).trans hT
    have new : ObjOk X.prog X.w (upd H s.heap.objs.size (.tup [x, y])) h'' s.heap.objs.size (.tup [x, y]) :=
      ⟨by show 2 ≤ sizeLine; decide, [u, u2], .cons ru (.cons ru2 .nil), ⟨_, hT2, rfl, _, rfl⟩⟩
    have I1 : L2.Inv X pins σ (upd H s.heap.objs.size (.tup [x, y])) { s with heap := h'' } :=
      I.turnedNew (t' := s.toks) (ch := [z, TI, TO, i1, i2]) (fun c o hb q => (sb.2 c (fun q' => hb (by simp [q']))).trans (hk c o (fun q' => hb (by simp [q'])) (fun q' => hb (by simp [q'])) (fun q' => hb (by simp [q'])) (fun q' => hb (by simp [q'])) q)) hf (Nat.le_refl _) new
    refine ⟨.ref s.heap.objs.size, _, I1, rfl, ⟨_, x, y, rfl, I.hok.fresh (Nat.le_refl _), rfl, fun l hl => by rw [I.list_inj hl hqx]; exact hx, fun l hl => by rw [I.list_inj hl hqy]; exact hy⟩, ⟨z'', ?_, ⟨u, u2, ?_⟩, ?_, ?_⟩, fun c hcm => ?_⟩
    · exact (sb.2 _ D.TIz).trans (hk _ _ D.TIz D.TITO D.TIi1 D.TIi2 hTI)
    · exact (sb.2 _ D.TOz).trans TO'
    · exact h1'.at fun o q => (sb.2 _ D.i1z).trans q
    · exact h2'.at fun o q => (sb.2 _ D.i2z).trans q
    · have hlt : c < s.heap.objs.size := by
        have e' : c = z ∨ c = TI ∨ c = TO ∨ c = i1 ∨ c = i2 := by simpa using hcm
        rcases e' with q | q | q | q | q
        · rw [q]; exact hzl
        · rw [q]; exact Heap.lt_size hTI
        · rw [q]; exact Heap.lt_size hTO
        · rw [q]; obtain ⟨_, e1, _⟩ := h1; exact Heap.lt_size e1
        · rw [q]; obtain ⟨_, e2, _⟩ := h2; exact Heap.lt_size e2
      rw [upd_ne (Nat.ne_of_lt hlt)]
      exact (hf c hcm).1
  done := by
    intro X hP hw hK hc i pins s σ H E I hf st hg
    subst hP hw hK
    obtain ⟨hz, hTI, ⟨x0, y0, hTO⟩, h1, h2⟩ := st
    obtain ⟨xs, ys, hqx, hqy, q1, q2⟩ := hg
    obtain ⟨its, rv, p, _⟩ := I.list hqx
    obtain ⟨its2, rv2, p2, _⟩ := I.list hqy
    have l1 := rv.length
    have l2 := rv2.length
    exact pyNext_zipS_end (I.ok.hd hc) D hz hTI hTO h1 h2 p.isList p2.isList (by simp; omega) (by simp; omega) fun h' hk => ⟨rfl, I.turnedL (t' := s.toks) (ch := [z, TI, TO, i1, i2]) (fun c o hb q =>
      hk c o (fun q' => hb (by simp [q'])) (fun q' => hb (by simp [q'])) (fun q' => hb (by simp [q'])) (fun q' => hb (by simp [q'])) q) hf⟩
  self := fun A i s Q E st h => pyIter_zipS st.1 h
def iZipS (K : PySem.W.Frag) (ta : TA) : TI := fun σ H R => ta σ H fun vs H1 => ∃ a b xs ys, vs = [.ref a, .ref b] ∧ SqL K H1 a xs ∧ SqL K H1 b ys ∧ R (ItzS K a b) H1
theorem callWith_typeKw {M : Model} {A : Around} {E : Value → Shared → Prop} {s : Shared} {env : Env} {pos : Pos} {T : String} {e : Expr} {rest : List Expr} {kws : List Keyword} {Q : Value → Shared → Prop}
    (h : wpAny M A (spliced (backTo pos (starEach (e :: rest) env))) (fun vs s₁ => wpAny M A (evalAll ((backToKw pos (keywordEach kws env)).map (·.2)))
      (fun kvs s₂ => wpAny M A (call (.type T) vs (((backToKw pos (keywordEach kws env)).filterMap (·.1)).zip kvs)) Q E s₂) E s₁) E s)
    (he : backTo pos (starEach (e :: rest) env) = (false, eval e env) :: backTo pos (starEach rest env))
    (hplain : (backTo pos (starEach (e :: rest) env)).any (·.1) = false)
    (hall : (backToKw pos (keywordEach kws env)).all (·.1.isSome) = true)
    (hkw : (backToKw pos (keywordEach kws env)).any (·.1.isNone) = false) :
    wpAny M A (callWith pos (.type T) [] (backTo pos (starEach (e :: rest) env)) (backToKw pos (keywordEach kws env))) Q E s := by
  have h' : wpAny M A (evalArgs (.type T) true (backTo pos (starEach (e :: rest) env)) (backToKw pos (keywordEach kws env))) (fun a s₁ => wpAny M A (call (.type T) ([] ++ a.pos) a.kw) Q E s₁) E s := by
    rw [he] at h ⊢
    exact evalArgs_kwB hall h
  unfold callWith
  refine wpAny_bind (wpAny_holding (wpAny_mono h' (fun a s₁ h₁ => wpAny_bind (wpAny_standAt ?_)) fun _ _ x => x))
  simp only [hplain, hkw, Bool.or_false]
  refine wpAny_bind (wpAny_pure ?_)
  exact wpAny_bind (wpAny_mono h₁ (fun r s₂ hr => wpAny_bind (wpAny_holding (wpAny_point (wpAny_pure hr)))) fun _ _ x => x)
theorem pi_zipS {X : Cx} {e e2 : Expr} {ta : TA} {p pos tpos : Pos} {elts : List Expr} {kk : Nat} {kj} {kp kp2 : Pos} (hg : Gl X "zip") (hm : X.mg "zip" = none) (ha : PA X [e, e2] ta)
    (hs : backTo pos (starEach [e, e2] X.env) = (false, eval e X.env) :: backTo pos (starEach [e2] X.env) := by rfl) (hpl : (backTo pos (starEach [e, e2] X.env)).any (·.1) = false := by rfl) :
    PI X (.Tuple elts kk tpos) (.Call (.Name "zip" p) [e, e2] [⟨some "strict", .Constant (.bool true) kj kp, kp2⟩] pos) (iZipS X.K ta) := by
  refine ⟨fun pins s σ H R I h => ?_⟩
  refine wpAny_Call_Name_kw (ld_blt I hg hm PyProof.Rows.boot_zip (callWith_typeKw (thn (ha.run pos pins s σ H _ I h) fun us s1 ⟨vs, H1, I1, r1, q1⟩ => ?_) hs hpl rfl rfl))
  refine kws_cons (thn ((pe_bl (X := X)).run pins s1 σ H1 (fun v H' => v = .bl true ∧ H' = H1) I1 ⟨rfl, rfl⟩) fun kv s1' ⟨v, H1', I1', rkv, ev, eH⟩ => kws_nil ?_)
  subst ev eH
  obtain rfl : kv = .bool true := rkv
  obtain ⟨a, b, xs, ys, ex, hqx, hqy, q⟩ := q1
  subst ex
  cases r1 with
  | cons r rr =>
    cases rr with
    | cons r' rr =>
      cases rr
      cases r
      cases r'
      obtain ⟨its, rv, p1, _⟩ := I1'.list hqx
      obtain ⟨its2, rv2, p2, _⟩ := I1'.list hqy
      have la : a < s1'.heap.objs.size := p1.lt
      have lb : b < s1'.heap.objs.size := p2.lt
      refine call_zipS p1.isList p2.isList fun h' hz hTI hTO h1 h2 hsz hk => pyIter_zipS hz ?_
      have I2 : L2.Inv X pins σ H1' { s1' with heap := h' } := I1'.kept (t' := s1'.toks) hk
      refine ⟨s1'.heap.objs.size + 4, [s1'.heap.objs.size + 4, s1'.heap.objs.size + 2, s1'.heap.objs.size + 3, s1'.heap.objs.size, s1'.heap.objs.size + 1], _, _, H1', rfl, I2, turn_zipS (PySem.W.ktu_apart s1'.heap.objs.size a b la lb), ⟨hz, hTI, ⟨_, _, hTO⟩, h1, h2⟩, fun c hcm => ?_, q⟩
      have e' : c = s1'.heap.objs.size + 4 ∨ c = s1'.heap.objs.size + 2 ∨ c = s1'.heap.objs.size + 3 ∨ c = s1'.heap.objs.size ∨ c = s1'.heap.objs.size + 1 := by simpa using hcm
      have hle : s1'.heap.objs.size ≤ c := by
        rcases e' with z | z | z | z | z
        · rw [z]; exact Nat.le_add_right _ _
        · rw [z]; exact Nat.le_add_right _ _
        · rw [z]; exact Nat.le_add_right _ _
        · rw [z]; exact Nat.le_refl _
        · rw [z]; exact Nat.le_add_right _ _
      exact I1'.fpOk hle (I1'.hok.fresh hle)
end RZ
end

section
set_option linter.all false
set_option Elab.async false
set_option maxRecDepth 100000
set_option maxHeartbeats 1000000
/-! Sim11: zip strict, == of empties, displays and stores of dicts, names of the text. -/
namespace Sim
open PySem PySem.Spec PyProof.Rows L2
section
variable {Γ : Gam} {X : Cx} {W : WX} {k : Nat} {a b c e o tg value i : Expr} {es : List Expr} {fa fb fc fo fi : Mir.E} {fs : Mir.Es} {pos p p2 pos' apos cpos : Pos} {x name : Str}
/-- a name of the text -/
theorem sGl {v : V} {u : Value} {z : Val} (hg : Gl X x) (hm : X.mg x = some u) (r : L2.RelV v u) (rv : ∀ G n H, RV Γ G n H v z) (hd : (x == ("__debug__" : Str)) = false := by decide) : SimE Γ X W (.Name x pos) (Mir.eC z) := sC (pe_glob hg hm r hd) rv
theorem sNeg (ha : SimE Γ X W a fa) : SimE Γ X W (.UnaryOp .USub a pos) (Mir.eUn Mir.vNeg fa) := by
  refine weakE (pe_un un_neg ha) fun σ H Q ⟨G, env, h, rh, re, q⟩ => ?_
  refine run1 rh re q fun x h1 G1 H1 v e1 rh1 re1 rv q1 => ?_
  obtain ⟨z, ez, kk⟩ := ofO_ok q1
  cases rv with
  | int i =>
    cases ez
    exact ⟨i, rfl, kk _ _ _ (Ext.refl _ _ _) rh1 (.int _)⟩
  | _ => cases ez
/-! ### chains -/
theorem sCh {op op' : CmpOp} {g g' : Val → Val → Option Val} (o : OpR X (compareOp op) (rd2 Γ fun _ => g)) (o' : OpR X (compareOp op') (rd2 Γ fun _ => g')) (ha : SimE Γ X W a fa) (hb : SimE Γ X W b fb) (hc : SimE Γ X W c fc)
    (hm : lastMarks [op, op'] [b, c] = false := by with_unfolding_all rfl) : SimE Γ X W (.Compare a [op, op'] [b, c] pos) (Mir.eChain g g' fa fb fc) := sChain o o' (pe_chain o o' ha hb hc hm)
/-! ### zip -/
theorem RVs.zip {G : View} {n : Nat} {H : Hp} {vs : List V} {xs : List Val} (r : RVs Γ G n H vs xs) {i : Nat} {y : Val} {ws : List V} {ys : List Val} (s : RVs Γ G n H ws ys) (e : (Mir.zipV xs ys)[i]? = some y) :
    ∃ a b v w, y = .tup [a, b] ∧ vs[i]? = some v ∧ ws[i]? = some w ∧ RV Γ G n H v a ∧ RV Γ G n H w b := by
  unfold Mir.zipV at e
  rw [List.getElem?_map] at e
  obtain ⟨⟨a, b⟩, e1, rfl⟩ := map_some e
  rw [List.getElem?_zip_eq_some] at e1
  obtain ⟨v, e2, r2⟩ := r.get e1.1
  obtain ⟨w, e3, r3⟩ := s.get e1.2
  exact ⟨a, b, v, w, rfl, e2, e3, r2, r3⟩
theorem good_zip {G : View} {h : Hm} {H : Hp} {K : PySem.W.Frag} (hK : K = Γ.K) {p q : Addr} {vs ws : List V} {xs ys : List Val} (rh : RH Γ G h H) (zp : G.Z p) (ep : H p = some (.lst vs)) (zq : G.Z q) (eq : H q = some (.lst ws))
    (r : RVs Γ G h.length H vs xs) (s : RVs Γ G h.length H ws ys) (hl : xs.length = ys.length) : GoodJ Γ G h.length H (RZ.ItzS K p q) (Mir.zipV xs ys) (fun _ => true) := by
  have sq : ∀ {G1 : View} {h1 : Hm} {H1 : Hp}, Ext G h.length H G1 h1.length H1 → SqL K H1 p vs ∧ SqL K H1 q ws := fun e1 => ⟨SqL.of (e1.zk rh.zr zp ep), SqL.of (e1.zk rh.zr zq eq)⟩
  refine ⟨fun i y G1 h1 H1 ei e1 rh1 _ => ?_, fun G1 h1 H1 e1 rh1 _ => ?_⟩
  · obtain ⟨a, b, v, w, rfl, ev, ew, ra, rb⟩ := r.zip s ei
    refine ⟨⟨vs, ws, v, w, (sq e1).1, (sq e1).2, ev, ew⟩, fun x H' y => ?_⟩
    obtain ⟨T, x1, y1, rfl, hT, rfl, hx, hy⟩ := y
    have e2 : x1 = v := Option.some.inj ((hx vs (sq e1).1).symm.trans ev)
    have e3 : y1 = w := Option.some.inj ((hy ws (sq e1).2).symm.trans ew)
    subst e2 e3
    obtain ⟨G', e', rh', rv'⟩ := new_tup rh1 hT (.cons (ra.ext rh e1) (.cons (rb.ext rh e1) .nil))
    exact ⟨G', e', rh', rv'⟩
  · refine ⟨vs, ws, (sq e1).1, (sq e1).2, ?_, ?_⟩
    · unfold Mir.zipV
      rw [List.length_map, List.length_zip, r.length, ← hl, Nat.min_self]
      exact Nat.le_refl _
    · unfold Mir.zipV
      rw [List.length_map, List.length_zip, s.length, hl, Nat.min_self]
      exact Nat.le_refl _
theorem siZipS {elts : List Expr} {kk : Nat} {tpos : Pos} {kj} {kp kp2 : Pos} (hK : X.K = Γ.K) (hg : Gl X "zip") (hm : X.mg "zip" = none) (ha : SimA Γ X W [a, b] fs)
    (hs : backTo pos (starEach [a, b] X.env) = (false, eval a X.env) :: backTo pos (starEach [b] X.env) := by rfl) (hpl : (backTo pos (starEach [a, b] X.env)).any (·.1) = false := by rfl) :
    SimI Γ X W (.Tuple elts kk tpos) (.Call (.Name "zip" p) [a, b] [⟨some "strict", .Constant (.bool true) kj kp, kp2⟩] pos) (Mir.iZipS fs) := by
  refine weakI (RZ.pi_zipS hg hm ha hs hpl) fun σ H R ⟨G, env, h, rh, re, q⟩ => ?_
  refine runA (Q := fun vs H1 => ∃ a b xs ys, vs = [.ref a, .ref b] ∧ SqL X.K H1 a xs ∧ SqL X.K H1 b ys ∧ R (RZ.ItzS X.K a b) H1) rh re q fun xs h1 G1 H1 vs e1 rh1 re1 rv q1 => ?_
  split at q1
  · rename_i us ws
    obtain ⟨_, _, rfl, r1, r2⟩ := rvs2 rv
    cases r1 with
    | lst z1 ep s1 =>
      cases r2 with
      | lst z2 eq s2 =>
        split at q1
        · rename_i hl
          exact ⟨_, _, _, _, rfl, SqL.of ep, SqL.of eq, q1.now rh1 _ (good_zip hK rh1 z1 ep z2 eq s1 s2 hl)⟩
        · exact q1.elim
  · exact q1.elim
end
end Sim
end

section
set_option linter.all false
set_option Elab.async false
set_option maxRecDepth 100000
set_option maxHeartbeats 1000000
/-! Sim12: == of empties, dicts. -/
namespace Sim
open PySem PySem.Spec PyProof.Rows L2
section
variable {Γ : Gam} {X : Cx} {W : WX} {k : Nat} {a b c e o tg value i : Expr} {es : List Expr} {fa fb fc fo fi : Mir.E} {fs : Mir.Es} {pos p p2 pos' apos cpos : Pos} {x name : Str}
inductive EmpAt (K : PySem.W.Frag) (H : Hp) : V → V → Bool → Prop
  | tup {p q : Addr} {vs : List V} : SqT K H p vs → SqT K H q [] → EmpAt K H (.ref p) (.ref q) vs.isEmpty
  | lst {p q : Addr} {vs : List V} : SqL K H p vs → SqL K H q [] → EmpAt K H (.ref p) (.ref q) vs.isEmpty
theorem RVs.isE {G : View} {n : Nat} {H : Hp} {vs : List V} {xs : List Val} (r : RVs Γ G n H vs xs) : vs.isEmpty = xs.isEmpty := by
  cases r <;> rfl
theorem isE_at (hK : X.K = Γ.K) {G : View} {h : Hm} {H : Hp} {v w : V} {x y : Val} {r : Bool} (rh : RH Γ G h H) (ra : RV Γ G h.length H v x) (rb : RV Γ G h.length H w y) (e : Mir.isE h x y = some r) : EmpAt X.K H v w r := by
  unfold Mir.isE at e
  split at e
  · cases e
    cases ra with | tup t rs =>
    cases rb with | tup t2 rs2 =>
    cases rs2
    rw [← rs.isE, hK]
    exact .tup t.sq t2.sq
  · cases e
  · split at e
    · rename_i ex ey
      cases e
      obtain ⟨p, vs, rfl, hp, r1⟩ := asL_at rh ra ex
      obtain ⟨q, ws, rfl, hq, r2⟩ := asL_at rh rb ey
      cases r2
      rw [← r1.isE]
      exact .lst (SqL.of hp) (SqL.of hq)
    · cases e
theorem sz0 (its : List Value) : (its.toArray.size == (#[] : Array Value).size) = its.isEmpty := by
  cases its <;> rfl
theorem oEqE (hK : X.K = Γ.K) (hr : Room k X.A) : OpR X (compareOp .Eq) (rd2 Γ Mir.vEqE) := by
  intro pins s σ H x y v u Q I rx ry ⟨G, h, a, b, rh, ra, rb, z, ez, q⟩
  obtain ⟨r, er, rfl⟩ := map_some ez
  have hu : X.A.units < cLine := by have := Room.u64 hr; omega
  have done : ∀ r', r' = r → EP X pins σ Q (.bool r') s := fun r' e => ⟨.bl r, H, I, by rw [e]; rfl, rd2_of rh q (.bl _)⟩
  cases isE_at hK rh ra rb er with
  | @tup p p' vs h1 h2 =>
    cases rx
    cases ry
    obtain ⟨its, rv, t1, _⟩ := I.tuple h1
    obtain ⟨its2, rv2, t2, _⟩ := I.tuple h2
    cases rv2
    refine SeqAt.RcAt.tuples (e := fun _ => true) (show s.heap.IsTuple p its.toArray from t1) (show s.heap.IsTuple p' (#[] : Array Value) from t2) hu (fun j _ h => absurd h (Nat.not_lt_zero _)) X.prog X.w _ _ (done _ ?_)
    rw [sz0]
    cases rv <;> simp
  | @lst p p' vs h1 h2 =>
    cases rx
    cases ry
    obtain ⟨its, rv, t1, _⟩ := I.list h1
    obtain ⟨its2, rv2, t2, _⟩ := I.list h2
    cases rv2
    cases rv with
    | nil => exact SeqAt.RcAt.lists (e := fun _ => true) t1.isList t2.isList rfl hu (fun j _ h => absurd h (Nat.not_lt_zero _)) X.prog X.w _ _ (done _ (by simp))
    | cons _ _ => exact SeqAt.RcAt.lists_lengths t1.isList t2.isList (by simp) hu X.prog X.w _ _ (done _ rfl)
theorem oNeE (hK : X.K = Γ.K) (hr : Room k X.A) : OpR X (compareOp .NotEq) (rd2 Γ Mir.vNeE) := by
  intro pins s σ H x y v u Q I rx ry ⟨G, h, a, b, rh, ra, rb, z, ez, q⟩
  obtain ⟨r, er, rfl⟩ := map_some ez
  have hu : X.A.units < cLine := by have := Room.u64 hr; omega
  have done : ∀ r', r' = (!r) → EP X pins σ Q (.bool r') s := fun r' e => ⟨.bl (!r), H, I, by rw [e]; rfl, rd2_of rh q (.bl _)⟩
  cases isE_at hK rh ra rb er with
  | @tup p p' vs h1 h2 =>
    cases rx
    cases ry
    obtain ⟨its, rv, t1, _⟩ := I.tuple h1
    obtain ⟨its2, rv2, t2, _⟩ := I.tuple h2
    cases rv2
    refine SeqAt.RcNeAt.tuples (e := fun _ => true) (show s.heap.IsTuple p its.toArray from t1) (show s.heap.IsTuple p' (#[] : Array Value) from t2) hu (fun j _ h => absurd h (Nat.not_lt_zero _)) X.prog X.w _ _ (done _ ?_)
    rw [sz0]
    cases rv <;> simp
  | @lst p p' vs h1 h2 =>
    cases rx
    cases ry
    obtain ⟨its, rv, t1, _⟩ := I.list h1
    obtain ⟨its2, rv2, t2, _⟩ := I.list h2
    cases rv2
    cases rv with
    | nil => exact SeqAt.RcNeAt.lists (e := fun _ => true) t1.isList t2.isList rfl hu (fun j _ h => absurd h (Nat.not_lt_zero _)) X.prog X.w _ _ (done _ (by simp))
    | cons _ _ => exact SeqAt.RcNeAt.lists_lengths t1.isList t2.isList (by simp) hu X.prog X.w _ _ (done _ rfl)
/-! ### d[k] -/
theorem sGet (hK : X.K = Γ.K) (hr : Room k X.A) (ho : SimE Γ X W o fo) (hi : SimE Γ X W i fi) (hs : NoSl i) : SimE Γ X W (.Subscript o i pos) (Mir.eOpH Mir.vGet fo fi) := by
  refine sOpH (t := fun r to ti σ H Q => to σ H fun x H1 => ti σ H1 fun y H2 => r x y H2 Q) ⟨fun pins s σ H Q I h => ?_⟩
  refine subD_of PySem.F.slot_dict_getitem.lookup hs (thn (ho.run pins s σ H _ I h) fun u s1 ⟨x, H1, I1, rx, q1⟩ => thn (hi.run pins s1 σ H1 _ I1 q1) fun iv s2 ⟨y, H2, I2, ry, G, h, a, b, rh, ra, rb, z, ez, q⟩ => ?_)
  unfold Mir.vGet at ez
  split at ez
  · rename_i kvs ek
    obtain ⟨p, o', rfl, g, ro⟩ := asD_at hK rh ra rb ek
    obtain rfl : u = Value.ref p := rx
    rw [ez] at ro
    cases o' with
    | none => exact ro.elim
    | some v =>
      have tI : s2.TypeIs (.ref p) "dict" := by
        rcases g with ⟨_, _, e1, _⟩ | ⟨_, _, _, e1, _⟩
        · exact (isD_at I2 (.inl ⟨_, e1⟩)).1
        · exact (isD_at I2 (.inr ⟨_, e1⟩)).1
      exact ⟨tI, d_getItem' (by have := Room.u64 hr; omega) I2 g ry fun w' s3 I3 rw' => ⟨v, H2, I3, rw', rd2_of rh q ro⟩⟩
  · cases ez
/-! ### d.pop(k) -/
theorem keyV_inj {k j : Key} (h : keyV k = keyV j) : k = j := by
  have e := kEq_key k j
  rw [h, show Mir.kEq (keyV j) (keyV j) = decide (j = j) from kEq_key j j] at e
  simpa using e.symm
theorem RKs.drop {G : View} {n : Nat} {H : Hp} {kvs : List (Key × V)} {ys : List (Val × Val)} (r : RKs Γ G n H kvs ys) (k : Key) : RKs Γ G n H (dropK kvs k) (Mir.dDrop ys (keyV k)) := by
  induction ys generalizing kvs with
  | nil => cases r; exact .nil
  | cons y ys ih =>
    cases r with
    | @cons k' v x vs xs r0 rs =>
      unfold dropK Mir.dDrop
      rw [List.filter_cons, List.filter_cons, kEq_key]
      by_cases c : k' = k
      · rw [if_neg (by simp [c]), if_neg (by simp [c])]
        exact ih rs
      · rw [if_pos (by simp [c]), if_pos (by simp [c])]
        exact .cons r0 (ih rs)
theorem RKs.put {G : View} {n : Nat} {H : Hp} {kvs : List (Key × V)} {ys : List (Val × Val)} {v : V} {x : Val} (r : RKs Γ G n H kvs ys) (k : Key) (rv : RV Γ G n H v x) : RKs Γ G n H (putK kvs k v) (Mir.dPut ys (keyV k) x) := by
  have e : ∀ {kvs : List (Key × V)} {ys : List (Val × Val)}, RKs Γ G n H kvs ys → (ys.any fun kv => Mir.kEq kv.1 (keyV k)) = (kvs.any fun kv => decide (kv.1 = k)) := by
    intro kvs ys r
    induction ys generalizing kvs with
    | nil => cases r; rfl
    | cons y ys ih =>
      cases r with
      | cons r0 rs => rw [List.any_cons, List.any_cons, kEq_key, ih rs]
  have m : ∀ {kvs : List (Key × V)} {ys : List (Val × Val)}, RKs Γ G n H kvs ys → RKs Γ G n H (kvs.map fun kv => if kv.1 = k then (kv.1, v) else kv) (ys.map fun kv => if Mir.kEq kv.1 (keyV k) then (kv.1, x) else kv) := by
    intro kvs ys r
    induction ys generalizing kvs with
    | nil => cases r; exact .nil
    | cons y ys ih =>
      cases r with
      | @cons k' v' x' vs xs r0 rs =>
        rw [List.map_cons, List.map_cons]
        show RKs Γ G n H ((if k' = k then (k', v) else (k', v')) :: _) ((if Mir.kEq (keyV k') (keyV k) then (keyV k', x) else (keyV k', x')) :: _)
        rw [kEq_key]
        by_cases c : k' = k
        · rw [if_pos c, if_pos (by simp [c])]
          exact .cons rv (ih rs)
        · rw [if_neg c, if_neg (by simp [c])]
          exact .cons r0 (ih rs)
  have ap : ∀ {kvs : List (Key × V)} {ys : List (Val × Val)}, RKs Γ G n H kvs ys → RKs Γ G n H (kvs ++ [(k, v)]) (ys ++ [(keyV k, x)]) := by
    intro kvs ys r
    induction ys generalizing kvs with
    | nil => cases r; exact .cons rv .nil
    | cons y ys ih => cases r with | cons r0 rs => exact .cons r0 (ih rs)
  unfold putK Mir.dPut
  rw [e r]
  cases (kvs.any fun kv => decide (kv.1 = k)) with
  | true => exact m r
  | false => exact ap r

/-- a thing of the small heap is put otherwise -/
theorem dk_at {G : View} {h : Hm} {H : Hp} {r : Nat} {kvs : List (Val × Val)} (rh : RH Γ G h H) (e : h[r]? = some (.dk kvs)) : r < h.length ∧ ∃ ks, H (G.ρ r) = some (.dK ks) ∧ RKs Γ G h.length H ks kvs := by
  obtain ⟨u, hu, ro⟩ := rh.ob r _ e
  cases ro with
  | dk rk => exact ⟨(List.getElem?_eq_some_iff.mp e).1, _, hu, rk⟩
theorem rvRef {G : View} {n : Nat} {H : Hp} {v : V} {r : Nat} (rv : RV Γ G n H v (.ref r)) : v = .ref (G.ρ r) := by cases rv; rfl
theorem valV_of {G : View} {n : Nat} {H : Hp} {kvs : List (Key × V)} {ys : List (Val × Val)} {k : Key} {z : Val} (r : RKs Γ G n H kvs ys) (e : Mir.dGet ys (keyV k) = some z) : ∃ v, valV kvs k = some v ∧ RV Γ G n H v z := by
  have ro := r.get k
  rw [e] at ro
  cases o : valV kvs k with
  | none => rw [o] at ro; exact ro.elim
  | some v => rw [o] at ro; exact ⟨v, rfl, ro⟩
theorem isD_of {G : View} {h : Hm} {H : Hp} {v : V} {x : Val} (rh : RH Γ G h H) (r : RV Γ G h.length H v x) (e : Mir.tyD h x = true) : ∃ p, v = .ref p ∧ IsD H p := by
  cases r with
  | ref i hi =>
    unfold Mir.tyD at e
    cases o : h[i]? with
    | none => simp only [o] at e; cases e
    | some ob =>
      obtain ⟨u, hu, ro⟩ := rh.ob i ob o
      cases ro with
      | dk r1 => exact ⟨_, rfl, .inl ⟨_, .inl hu⟩⟩
      | dt r1 => exact ⟨_, rfl, .inr ⟨_, .inl hu⟩⟩
      | _ => simp only [o] at e; cases e
  | _ => cases e
theorem sDPop (ho : SimE Γ X W o fo) (hi : SimE Γ X W i fi) (m : M1 X o "pop" apos i cpos) : SimE Γ X W (.Call (.Attribute o "pop" apos) [i] [] cpos) (Mir.eM Mir.tyD Mir.mDPop fo (Mir.esCons fi Mir.esNil)) := by
  refine weakE (pe_dpop1 ho hi m) fun σ H Q ⟨G, env, h, rh, re, q⟩ => ?_
  refine run1 rh re q fun x h1 G1 H1 v e1 rh1 re1 rv q1 => ?_
  cases ct : Mir.tyD h1 x with
  | false => simp only [ct] at q1; exact q1.elim
  | true =>
    simp only [ct, if_true] at q1
    obtain ⟨p, rfl, d⟩ := isD_of rh1 rv ct
    refine ⟨p, rfl, d, ?_⟩
    have q1' : okR Γ W σ G1 h1 H1 ((fi env h1).bind fun y h2 => Mir.rM h2 (Mir.mDPop h2 x [y])) (KV1 Γ Q) := by
      have : ((Mir.esCons fi Mir.esNil) env h1).bind (fun xs h2 => Mir.rM h2 (Mir.mDPop h2 x xs)) = (fi env h1).bind fun y h2 => Mir.rM h2 (Mir.mDPop h2 x [y]) := by
        unfold Mir.esCons Mir.esNil
        cases fi env h1 <;> rfl
      rw [this] at q1
      exact q1
    refine run1 rh1 re1 q1' fun y h2 G2 H2 w e2 rh2 re2 rw q2 => ?_
    obtain ⟨z, h', eg, kk⟩ := rM_ok q2
    have rx2 := rv.ext rh1 e2
    unfold Mir.mDPop at eg
    simp only at eg
    split at eg
    · rename_i r
      have er : V.ref p = .ref (G2.ρ r) := rvRef rx2
      cases er
      split at eg
      · rename_i kvs hr
        obtain ⟨hrl, ks, hk, rk⟩ := dk_at rh2 hr
        split at eg
        · rename_i c
          obtain ⟨k, rfl, rfl⟩ := isK_of rw c
          obtain ⟨z', ez, e3⟩ := map_some eg
          cases e3
          obtain ⟨v0, ev, r0⟩ := valV_of rk ez
          obtain ⟨ee, rr⟩ := set_r rh2 hrl (.dk (rk.drop k))
          exact ⟨ks, k, v0, hk, rfl, ev, kk _ _ _ ee rr (r0.ext rh2 ee)⟩
        · cases eg
      · cases eg
    · cases eg
/-! ### o[i] = v -/
theorem okRS2 {α : Type} {σ : L2.St} {G : View} {env : Mir.Env} {h : Hm} {H : Hp} {r : Mir.R α} {k : α → Hm → Mir.SR} {D : Ends} {K : α → Hm → View → Hp → Prop} (rh : RH Γ G h H) (re : RE Γ G h.length H σ env)
    (q : okS Γ W G h H (r.st env k) D) (f : ∀ x h1 G1 H1, Ext G h.length H G1 h1.length H1 → RH Γ G1 h1 H1 → RE Γ G1 h1.length H1 σ env → okS Γ W G1 h1 H1 (k x h1) D → K x h1 G1 H1) : okR Γ W σ G h H r K :=
  okRS rh re q fun x h1 G1 H1 a b c d _ => f x h1 G1 H1 a b c d
theorem ssPutL {fe : Mir.E} (ho : SimE Γ X W o fo) (hi : SimE Γ X W i fi) (hv : SimE Γ X W value fe) (hs : swapsWithSole [.Subscript o i pos'] value pos.line X.env = pure false := by rfl)
    (hw : swappedStores [.Subscript o i pos'] value X.env = pure none := by rfl) (h1 : (assignEach [.Subscript o i pos'] X.env).map (·.2) = [assign (.Subscript o i pos') X.env] := by rfl)
    (ha : ∀ v, assign (.Subscript o i pos') X.env v = (do let ov ← holding [v] (eval o X.env); let iv ← holding [v, ov] (eval i X.env); standAt pos'; holding [v, ov, iv] (setItem ov iv v); release [v, ov, iv] []) := by intro _; rfl) :
    SimS Γ X W (.Assign [.Subscript o i pos'] value pos) (Mir.sPut Mir.setL fo fi fe) := by
  refine weakS (ps_asg hv (pg_sub ho hi set_list ha) hs hw h1) fun D σ H ⟨G, env, h, rh, re, q⟩ => ⟨G, env, h, rh, re, ?_⟩
  refine okRS2 rh re q fun v h1 G1 H1 e1 rh1 re1 q1 v' rv => ⟨G1, env, h1, rh1, re1, ?_⟩
  refine okRS2 rh1 re1 q1 fun x h2 G2 H2 e2 rh2 re2 q2 x' rx => ⟨G2, env, h2, rh2, re2, ?_⟩
  refine okRS2 rh2 re2 q2 fun y h3 G3 H3 e3 rh3 re3 q3 y' ry => ?_
  have rx3 := rx.ext rh2 e3
  have rv3 := (rv.ext rh1 e2).ext rh2 e3
  split at q3
  · rename_i h4 es
    unfold Mir.setL at es
    split at es
    · rename_i r k
      obtain rfl := rvRef rx3
      cases ry
      split at es
      · rename_i xs hr
        obtain ⟨u, hu, ro⟩ := rh3.ob r _ hr
        cases ro with
        | @lst vs _ rs =>
        split at es
        · rename_i c
          cases es
          have hl := rs.length
          obtain ⟨ee, rr⟩ := set_r rh3 (List.getElem?_eq_some_iff.mp hr).1 (.lst (rs.set k.toNat rv3))
          refine ⟨_, vs, k, k.toNat, rfl, rfl, hu, ?_, q3 _ _ _ ee rr (re3.ext rh3 ee)⟩
          unfold ixN
          rw [if_pos (by omega), if_pos (by omega)]
        · cases es
      · cases es
    · cases es
  · exact q3.elim
theorem ssPutD {fe : Mir.E} (hr : Room k X.A) (ho : SimE Γ X W o fo) (hi : SimE Γ X W i fi) (hv : SimE Γ X W value fe) (hs : swapsWith value (some (.Subscript o i pos')) pos.line X.env = pure false := by rfl) :
    SimS Γ X W (.Assign [.Subscript o i pos'] value pos) (Mir.sPut Mir.setD fo fi fe) := by
  refine weakS (ps_dput (by have := Room.u64 hr; omega) ho hi hv hs) fun D σ H ⟨G, env, h, rh, re, q⟩ => ⟨G, env, h, rh, re, ?_⟩
  refine okRS2 rh re q fun v h1 G1 H1 e1 rh1 re1 q1 v' rv => ⟨G1, env, h1, rh1, re1, ?_⟩
  refine okRS2 rh1 re1 q1 fun x h2 G2 H2 e2 rh2 re2 q2 x' rx => ⟨G2, env, h2, rh2, re2, ?_⟩
  refine okRS2 rh2 re2 q2 fun y h3 G3 H3 e3 rh3 re3 q3 y' ry => ?_
  have rx3 := rx.ext rh2 e3
  have rv3 := (rv.ext rh1 e2).ext rh2 e3
  split at q3
  · rename_i h4 es
    unfold Mir.setD at es
    split at es
    · rename_i r
      obtain rfl := rvRef rx3
      split at es
      · rename_i kvs hr'
        obtain ⟨hrl, ks, hk, rk⟩ := dk_at rh3 hr'
        split at es
        · rename_i c
          cases es
          obtain ⟨kk, rfl, rfl⟩ := isK_of ry c.1
          obtain ⟨ee, rr⟩ := set_r rh3 hrl (.dk (rk.put kk rv3))
          exact ⟨_, _, rfl, DPut.k hk (by rw [rk.length, ← line_eq]; exact c.2), q3 _ _ _ ee rr (re3.ext rh3 ee)⟩
        · cases es
      · cases es
    · cases es
  · exact q3.elim
end
end Sim
end

section
set_option linter.all false
set_option Elab.async false
set_option maxRecDepth 100000
set_option maxHeartbeats 1000000
/-! Sim13: new dicts, sorted(d), upper, x[::-1]. -/
namespace Mir
/-- a text in great letters -/
def upC (s : Cs) : Cs := (PySem.Txt.upper (Sim.toS s)).cps.toList
def mUpper (h : Hm) (x : Val) : List Val → Option (Val × Hm)
  | [] => (match x with
    | .str s => if s.length ≤ 5592405 && (upC s).all (· < 0x110000) then some (.str (upC s), h) else none
    | _ => none)
  | _ => none
end Mir
namespace Sim
open PySem PySem.Spec PyProof.Rows L2
section
variable {Γ : Gam} {X : Cx} {W : WX} {k : Nat} {a b c e o tg value i : Expr} {es : List Expr} {fa fb fc fo fi : Mir.E} {fs : Mir.Es} {pos p p2 pos' apos cpos : Pos} {x name : Str}
/-! ### {} -/
theorem sDK : SimE Γ X W (.Dict [] [] pos) Mir.aDK := by
  refine weakE pe_dnewK fun σ H Q ⟨G, env, h, rh, re, q⟩ => ?_
  intro p hp
  have sm : Same H (upd H p (.dK [])) := fun b o e => by
    rw [upd_ne (ne_of_none e hp)]
    exact e
  obtain ⟨G', e', rh', ep⟩ := new_r (o := Mir.MO.dk []) rh hp sm upd_same fun G' _ _ => .dk .nil
  have r : RV Γ G' (h ++ [Mir.MO.dk []]).length (upd H p (.dK [])) (.ref (G'.ρ h.length)) (.ref h.length) := .ref _ (by simp)
  rw [ep] at r
  exact q G' _ e' rh' _ r
theorem sFDK : SimE Γ X W (.Dict [] [] pos) Mir.fDK := by
  refine weakE pe_dnewK fun σ H Q ⟨G, env, h, rh, re, q⟩ => ?_
  intro p hp
  obtain ⟨e2, rh2⟩ := new_z (u := .dK []) rh hp
  exact q _ _ e2 rh2 _ (.dk (.inr rfl) upd_same .nil)
/-- {k: v} -/
theorem sFD1 (ha : SimE Γ X W a fa) (hb : SimE Γ X W b fb) : SimE Γ X W (.Dict [some a] [b] pos) (Mir.fD1 fa fb) := by
  refine weakE (pe_disp (pps_cons ha hb pps_nil) rfl rfl (by simp) (by simp)) fun σ H Q ⟨G, env, h, rh, re, q⟩ => ?_
  intro p hp
  have zp : ¬ G.Z p := fun z => rh.zd p z hp
  have rp : ∀ i, i < h.length → p ≠ G.ρ i := fun i hi q => by
    cases o : h[i]? with
    | none => rw [List.getElem?_eq_none_iff] at o; omega
    | some ob =>
      obtain ⟨u, hu, _⟩ := rh.ob i ob o
      rw [← q, hp] at hu
      cases hu
  have rh0 : RH Γ G h (upd H p (.dK [])) := rh_own rh zp rp
  have e0 : Ext G h.length H G h.length (upd H p (.dK [])) := ext_own (Ext.refl _ _ _) hp
  have re0 := re.ext rh e0
  have hp0 : upd H p (.dK []) p = some (.dK []) := upd_same
  have q0 : okR Γ W σ G h (upd H p (.dK [])) ((fa env h).bind fun x h1 => (fb env h1).bind fun y h2 => Mir.R.ok (x, y) h2) fun xy h' G' H' => Mir.isK xy.1 = true ∧ (H' p = some (.dK []) → ∀ (k : Key) w, xy.1 = keyV k → RV Γ G' h'.length H' w xy.2 → Q (.ref p) (upd H' p (.dK [(k, w)]))) := by
    have q' : okR Γ W σ G h H (((fa env h).bind fun x h1 => (fb env h1).bind fun y h2 => Mir.R.ok (x, y) h2).bind fun xy h2 => if Mir.isK xy.1 then .ok (.dct [xy]) h2 else .bad) (KV1 Γ Q) := by
      have : ((fa env h).bind fun x h1 => (fb env h1).bind fun y h2 => Mir.R.ok (x, y) h2).bind (fun xy h2 => if Mir.isK xy.1 then Mir.R.ok (.dct [xy]) h2 else .bad) = Mir.fD1 fa fb env h := by
        unfold Mir.fD1
        cases fa env h with
        | ok x h1 =>
          show ((fb env h1).bind _).bind _ = (fb env h1).bind _
          cases fb env h1 <;> rfl
        | err _ _ => rfl
        | bad => rfl
      rw [this]
      exact q
    revert q'
    generalize ((fa env h).bind fun x h1 => (fb env h1).bind fun y h2 => Mir.R.ok (x, y) h2) = r
    cases r with
    | ok xy h' =>
      intro q G' H' e rh'
      obtain ⟨x, y⟩ := xy
      have q2 : okR Γ W σ G h H (if Mir.isK x then .ok (.dct [(x, y)]) h' else .bad) (KV1 Γ Q) := q
      cases c : Mir.isK x with
      | false => rw [c] at q2; exact q2.elim
      | true =>
      rw [c, if_pos rfl] at q2
      refine ⟨by first | rfl | exact c, fun hp2 k w ek rw => ?_⟩
      obtain rfl : x = keyV k := ek
      have e2 : Ext G h.length H G' h'.length (upd H' p (.dK [(k, w)])) := ext_own (e0.trans e) hp
      have zp2 : ¬ G'.Z p := fun z => by
        rcases e.zn p z with z1 | z1
        · exact zp z1
        · rw [hp0] at z1; cases z1
      have rp2 : ∀ i, i < h'.length → p ≠ G'.ρ i := fun i hi q => by
        by_cases c : i < h.length
        · rw [e.r i c] at q
          exact rp i c q
        · have := e.rn i (Nat.le_of_not_lt c) hi
          rw [← q, hp0] at this
          cases this
      have rh3 : RH Γ G' h' (upd H' p (.dK [(k, w)])) := rh_own rh' zp2 rp2
      obtain ⟨e4, rh4, u4⟩ := add_z e2 rh3 upd_same hp rp2
      exact q2 _ _ e4 rh4 _ (.dk (.inr rfl) upd_same (.cons ((rw.mono (up_own zp2)).mono u4) .nil))
    | err v h' => exact fun q G' H' cls d e => q G' H' cls d (e0.trans e)
    | bad => exact fun q => q
  refine run1 rh0 re0 q0 fun x h1 G1 H1 v e1 rh1 re1 rv q1 => run1 rh1 re1 q1 fun y h2 G2 H2 w e2 rh2 re2 rw q2 => ?_
  have e12 := e1.trans e2
  have hp2 : H2 p = some (.dK []) := e12.fr p _ hp0 rp
  obtain ⟨c, q3⟩ := q2.now rh2
  obtain ⟨kk, rfl, rfl⟩ := isK_of (rv.ext rh1 e2) c
  exact ⟨hp2, [(kk, w)], rfl, by simp, q3 hp2 kk w rfl rw⟩
/-! ### dict(pairs) -/
theorem RKs.merge {G : View} {n : Nat} {H : Hp} {more : List (Key × V)} {ms : List (Val × Val)} (r : RKs Γ G n H more ms) : ∀ {kvs : List (Key × V)} {ys : List (Val × Val)}, RKs Γ G n H kvs ys → RKs Γ G n H (mergeK kvs more) (Mir.dMerge ys ms) := by
  induction ms generalizing more with
  | nil => intro kvs ys s; cases r; exact s
  | cons m ms ih =>
    intro kvs ys s
    cases r with
    | @cons k v x vs xs r0 rs => exact ih rs (s.put k r0)
theorem pairs_of' {G : View} {n : Nat} {H : Hp} {vs : List V} {xs : List Val} {kvs : List (Val × Val)} (r : RVs Γ G n H vs xs) (e : Mir.pairsO xs = some kvs) :
    ∃ (ps : List Addr) (ks : List (Key × V)), vs = ps.map V.ref ∧ Paired (fun p kv => SqT Γ.K H p [kV kv.1, kv.2]) ps ks ∧ RKs Γ G n H ks kvs := by
  induction xs generalizing vs kvs with
  | nil =>
    cases r
    cases e
    exact ⟨[], [], rfl, .nil, .nil⟩
  | cons x xs ih =>
    cases r with
    | @cons v _ vs _ r0 rs =>
    unfold Mir.pairsO at e
    split at e
    · rename_i e0
      cases e0
    · rename_i k v' r' e0
      cases e0
      split at e
      · rename_i c
        obtain ⟨kvs', e1, rfl⟩ := map_some e
        obtain ⟨ps, ks, rfl, pr, rk⟩ := ih rs e1
        cases r0 with
        | tup t rt =>
        obtain ⟨_, _, rfl, ra, rb⟩ := rvs2 rt
        obtain ⟨kk, rfl, rfl⟩ := isK_of ra c
        exact ⟨_ :: ps, (kk, _) :: ks, rfl, .cons t.sq pr, .cons rb rk⟩
      · cases e
    · cases e
theorem sDict (hK : X.K = Γ.K) (hc : X.calm = true) (hg : Gl X "dict") (hm : X.mg "dict" = none) (ha : SimE Γ X W a fa) (he : starEach [a] X.env = (false, eval a X.env) :: starEach [] X.env := by rfl) (hpl : (backTo pos (starEach [] X.env)).any (·.1) = false := by rfl) :
    SimE Γ X W (.Call (.Name "dict" p) [a] [] pos) (Mir.aDict fa) := by
  refine weakE (pe_callTy (call_dictP hc) hg hm (by decide +kernel) (pa_cons ha pa_nil he) (by decide) (by decide) he hpl) fun σ H Q ⟨G, env, h, rh, re, q⟩ => ?_
  refine run1 rh re q fun x h1 G1 H1 v e1 rh1 re1 rv q1 => ?_
  split at q1
  · rename_i kvs ek
    cases o : Mir.asL h1 x with
    | none => rw [o] at ek; cases ek
    | some xs =>
    rw [o] at ek
    obtain ⟨p', vs, rfl, hp, rs⟩ := asL_at rh1 rv o
    obtain ⟨ps, ks, rfl, pr, rk⟩ := pairs_of' rs ek
    refine ⟨p', ps, ks, rfl, SqL.of hp, hK ▸ pr, fun p2 h2 => ?_⟩
    have sm : Same H1 (upd H1 p2 (.dK (mergeK [] ks))) := fun b o e => by
      rw [upd_ne (ne_of_none e h2)]
      exact e
    obtain ⟨G', e', rh', ep⟩ := new_r (o := Mir.MO.dk (Mir.dMerge [] kvs)) rh1 h2 sm upd_same fun G' e' _ => .dk ((rk.merge .nil).mono (e'.up rh1.zr))
    have r : RV Γ G' (h1 ++ [Mir.MO.dk (Mir.dMerge [] kvs)]).length (upd H1 p2 (.dK (mergeK [] ks))) (.ref (G'.ρ h1.length)) (.ref h1.length) := .ref _ (by simp)
    rw [ep] at r
    exact q1 G' _ e' rh' _ r
  · exact q1.elim
theorem RKs.mono' {G G' : View} {n n' : Nat} {H H' : Hp} (u : Up G n H G' n' H') {kvs : List (Key × V)} {ys : List (Val × Val)} (r : RKs Γ G n H kvs ys) : RKs Γ G' n' H' kvs ys := r.mono u
/-! ### sorted(d), texts -/
theorem cSortedD (hc : X.calm = true) : CallR X (.builtin "sorted") (rdCL Γ Mir.bSortedD) := by
  intro pins s σ H vs us Q I r ⟨G, h, xs, rh, rv, z, ez, q⟩
  unfold Mir.bSortedD at ez
  split at ez
  · rename_i i
    obtain ⟨w0, rfl, r0⟩ := rvs1 rv
    obtain rfl := rvRef r0
    split at ez
    · rename_i kvs hr
      obtain ⟨hrl, ks, hk, rk⟩ := dk_at rh hr
      split at ez
      · rename_i ss es
        split at ez
        · rename_i hl
          cases ez
          rw [rk.keys] at es
          have e2 := keys_strs _ _ es
          have e3 : ∀ s ∈ ss, s.all (· < 0x110000) = true := fun s hs => List.all_eq_true.mp hl.2 s hs
          refine call_sortedD hc pins s σ H _ us Q I r ⟨_, ks, ss.map toS, rfl, .inl hk, e2, by rw [List.length_map]; exact hl.1, fun ms l pm st hl => ?_⟩
          rw [leS_eq pm st]
          exact q _ (RVs.of_strs _ fun s hs => e3 s ((srt_perm Mir.leS ss).mem_iff.mp hs)) l hl
        · cases ez
      · cases ez
    · cases ez
  · cases ez
end
end Sim
end

section
set_option linter.all false
set_option Elab.async false
set_option maxRecDepth 100000
set_option maxHeartbeats 1000000
/-! Sim14: repr. -/
namespace Sim
open PySem
mutual
/-- the data of a value that nobody changes -/
def toP : Val → PyData
  | .non => .none
  | .bl b => .bool b
  | .int i => .int i
  | .str s => .str (toS s)
  | .tup xs => .tuple (toPs xs)
  | .lst xs => .list (toPs xs)
  | .dct kvs => .dict (toPk kvs)
  | _ => .none
def toPs : List Val → List PyData
  | [] => []
  | x :: r => toP x :: toPs r
def toPk : List (Val × Val) → List (PyData × PyData)
  | [] => []
  | (k, v) :: r => (toP k, toP v) :: toPk r
end
end Sim
namespace Mir
def okI (i : Int) : Bool := decide (i.natAbs.log2 < 1920)
def okK : Val → Bool
  | .int i => okI i
  | .str s => s.all (· < 0x110000)
  | _ => false
mutual
/-- what repr shows -/
def okP : Val → Bool
  | .non => true
  | .bl _ => true
  | .str _ => true
  | .int i => okI i
  | .tup xs => okPs xs
  | .lst xs => okPs xs
  | .dct kvs => okPk kvs
  | _ => false
def okPs : List Val → Bool
  | [] => true
  | x :: r => okP x && okPs r
def okPk : List (Val × Val) → Bool
  | [] => true
  | (k, v) :: r => okK k && okP v && okPk r
end
def rep (a : Val) : Cs := (PySem.PyData.shown (Sim.toP a)).cps.toList
def bRepr (h : Hm) : List Val → Option Val
  | [x] => (match frz 0 h deepest x with
    | some a => if okP a = true ∧ (Sim.toP a).depth ≤ 60 ∧ (rep a).length ≤ line then some (.str (rep a)) else none
    | none => none)
  | _ => none
end Mir
namespace Sim
open PySem PySem.Spec PyProof.Rows L2
/-! ### its signs -/
def Vld (x : Str) : Prop := ∀ c ∈ x.cps.toList, c < 0x110000
theorem vld_app {x y : Str} (h : Vld x) (k : Vld y) : Vld (x ++ y) := fun c hc => by
  have hc : c ∈ (x.cps ++ y.cps).toList := hc
  rw [Array.toList_append, List.mem_append] at hc
  exact hc.elim (h c) (k c)
theorem vld_of (s : String) : Vld (Str.ofString s) := fun c hc => by
  rw [Str.ofString_eq_toList] at hc
  obtain ⟨d, _, rfl⟩ := List.mem_map.mp (show c ∈ s.toList.map Char.toNat from by simpa using hc)
  have := d.valid
  rcases d.valid with h | h
  · exact Nat.lt_trans h (by decide)
  · exact h.2
theorem vld_join {sep : Str} (hs : Vld sep) : ∀ ts : List Str, (∀ t ∈ ts, Vld t) → Vld (Str.join sep ts)
  | [], _ => fun c hc => absurd hc (by simp [Str.join, Str.empty])
  | [x], h => h x (by simp)
  | x :: y :: r, h => vld_app (vld_app (h x (by simp)) hs) (vld_join hs (y :: r) fun t ht => h t (List.mem_cons_of_mem _ ht))
theorem vld_text : ∀ (ts : List Str) (k : Nat) (acc : Str), Vld acc → (∀ t ∈ ts, Vld t) → Vld (textFrom k acc ts)
  | [], _, _, h, _ => h
  | t :: ts, k, acc, h, q => vld_text ts (k + 1) _ (vld_app (vld_app h (vld_of _)) (q t List.mem_cons_self)) fun u hu => q u (List.mem_cons_of_mem _ hu)
theorem chr_lt (c : Nat) (d : Nat) (h : d ∈ (Nat.toDigits 16 c).map Char.toNat) : d < 0x110000 := by
  obtain ⟨e, _, rfl⟩ := List.mem_map.mp h
  rcases e.valid with h | h
  · exact Nat.lt_trans h (by decide)
  · exact h.2
theorem vld_repChar (q c : Nat) (hq : q < 0x110000) (hc : c < 0x110000) : ∀ d ∈ Builtin.Str.reprChar q c, d < 0x110000 := by
  intro d hd
  have hx : ∀ w, d ∈ List.replicate (w - ((Nat.toDigits 16 c).map Char.toNat).length) 48 ++ (Nat.toDigits 16 c).map Char.toNat → d < 0x110000 := fun w h => by
    rcases List.mem_append.mp h with h | h
    · rw [(List.mem_replicate.mp h).2]; decide
    · exact chr_lt c d h
  unfold Builtin.Str.reprChar at hd
  dsimp only at hd
  split at hd
  · rcases List.mem_cons.mp hd with h | h
    · omega
    · rw [List.mem_singleton.mp h]; exact hc
  · split at hd
    · simp at hd; omega
    · split at hd
      · simp at hd; omega
      · split at hd
        · simp at hd; omega
        · split at hd
          · rw [List.mem_singleton.mp hd]; exact hc
          · split at hd
            · rcases List.mem_append.mp hd with h | h
              · simp at h; omega
              · exact hx _ h
            · split at hd
              · rcases List.mem_append.mp hd with h | h
                · simp at h; omega
                · exact hx _ h
              · rcases List.mem_append.mp hd with h | h
                · simp at h; omega
                · exact hx _ h
theorem vld_repText {x : Str} (hx : Vld x) : Vld (reprText x) := by
  have hq : reprQuote x < 0x110000 := by unfold reprQuote; split <;> decide
  have : ∀ (l : List Nat) (acc : Array Nat), (∀ c ∈ l, c < 0x110000) → (∀ c ∈ acc.toList, c < 0x110000) → ∀ c ∈ (l.foldl (fun out c => out ++ (Builtin.Str.reprChar (reprQuote x) c).toArray) acc).toList, c < 0x110000 := by
    intro l
    induction l with
    | nil => intro acc _ h; exact h
    | cons d l ih =>
      intro acc h1 h2
      refine ih _ (fun c hc => h1 c (List.mem_cons_of_mem _ hc)) fun c hc => ?_
      rw [Array.toList_append] at hc
      rcases List.mem_append.mp hc with h | h
      · exact h2 c h
      · exact vld_repChar _ _ hq (h1 d List.mem_cons_self) c (by simpa using h)
  intro c hc
  unfold reprText at hc
  rw [← Array.foldl_toList] at hc
  have hc : c ∈ ((x.cps.toList.foldl (fun out c => out ++ (Builtin.Str.reprChar (reprQuote x) c).toArray) #[reprQuote x]).push (reprQuote x)).toList := hc
  rw [Array.toList_push] at hc
  rcases List.mem_append.mp hc with h | h
  · exact this _ _ hx (fun c h => by simp at h; omega) c h
  · rw [List.mem_singleton.mp h]; exact hq
theorem vld_toS {s : Mir.Cs} (h : s.all (· < 0x110000) = true) : Vld (toS s) := fun c hc => by
  have := List.all_eq_true.mp h c (by rw [toS_tl] at hc; exact hc)
  exact of_decide_eq_true this

def NoSys (as : List Addr) : Prop := sysModules ∉ as
section
variable {Γ : Gam} {X : Cx} {pins : List (Addr × Obj)} {σ : L2.St} {H : Hp} {s : Shared} {G : View} {n : Nat}
mutual
theorem reads_of (I : L2.Inv X pins σ H s) (hs : H sysModules = none) (hK : X.K = Γ.K) : ∀ {v : V} {a : Val}, RV Γ G n H v a → Mir.okP a = true → ∀ {u : Value}, L2.RelV v u → ∃ as, Reads s.heap u (toP a) as ∧ NoSys as ∧ (toP a).showable = true ∧ Vld (toP a).shown
  | _, _, .non, _, _, r => by
    cases r
    exact ⟨_, Reads.none, by unfold NoSys; simp, by simp only [toP, PyData.showable], vld_of _⟩
  | _, _, .bl b, _, _, r => by
    cases r
    refine ⟨_, Reads.bool b, by unfold NoSys; simp, by simp only [toP, PyData.showable], ?_⟩
    simp only [toP, PyData.shown]
    cases b
    · exact vld_of _
    · exact vld_of _
  | _, _, .int i, h, _, r => by
    obtain ⟨t, rfl⟩ := r
    exact ⟨_, Reads.int i t, by unfold NoSys; simp, by simpa only [toP, PyData.showable, Mir.okP, Mir.okI] using h, vld_of _⟩
  | _, _, .str x hx, _, _, r => by
    obtain ⟨t, rfl⟩ := r
    exact ⟨_, Reads.str _ t, by unfold NoSys; simp, by simp only [toP, PyData.showable], by simp only [toP, PyData.shown]; exact vld_repText (vld_toS hx)⟩
  | _, _, .tup t rs, h, _, r => by
    cases r
    obtain ⟨its, rv, ⟨o, ho, hc, m, hd⟩, _⟩ := I.tuple (hK ▸ t.sq)
    obtain ⟨as, h1, h2, h3, h4⟩ := reads_ofs I hs hK rs (by simpa only [Mir.okP] using h) rv
    refine ⟨_, Reads.tuple ho hc hd (by simpa only [toP] using h1), h2, by simpa only [toP, PyData.showable] using h3, ?_⟩
    simp only [toP, PyData.shown]
    unfold tupleText
    refine vld_app (vld_app (vld_of _) (vld_join (vld_of _) _ h4)) ?_
    split <;> exact vld_of _
  | _, _, .lst z e rs, h, _, r => by
    cases r
    obtain ⟨its, rv, ⟨o, m, ho, hc, _, hd⟩, _⟩ := I.list (SqL.of e)
    obtain ⟨as, h1, h2, h3, h4⟩ := reads_ofs I hs hK rs (by simpa only [Mir.okP] using h) rv
    refine ⟨_, Reads.list ho hc hd (by simpa only [toP] using h1), ?_, by simpa only [toP, PyData.showable] using h3, ?_⟩
    · intro q
      rcases List.mem_cons.mp q with q | q
      · rw [← q, hs] at e
        cases e
      · exact h2 q
    · simp only [toP, PyData.shown]
      unfold listText
      exact vld_app (vld_text _ _ _ (vld_of _) h4) (vld_of _)
  | _, _, .dk z e rs, h, _, r => by
    cases r
    obtain ⟨_, hd, vs, rk, ⟨o, es, ep, ho, hex, hdat, _, pr, _⟩⟩ := dk_of I.hok e
    obtain ⟨as, bs, h1, h2, h3, h4, h5, h6⟩ := reads_ofk I hs hK rs (by simpa only [Mir.okP] using h) rk pr
    refine ⟨_, Reads.dict ho hex.1 hdat (by simpa only [toP] using h1) (by simpa only [toP] using h2), ?_, by simpa only [toP, PyData.showable] using h5, ?_⟩
    · intro q
      rcases List.mem_append.mp q with q | q
      · rcases List.mem_cons.mp q with q | q
        · rw [← q] at hd
          cases hd
        · exact h3 q
      · exact h4 q
    · simp only [toP, PyData.shown]
      unfold dictText
      exact vld_app (vld_app (vld_of _) (vld_join (vld_of _) _ h6)) (vld_of _)
  | _, _, .dt z e (.nil), h, _, r => by
    cases r
    obtain ⟨_, hd, xs, pr, ⟨o, es, ep, ho, hex, hdat, hes, _⟩⟩ := dt_of I.hok e
    cases pr
    refine ⟨_, Reads.dict ho hex.1 hdat (by rw [hes]; exact .nil) (by rw [hes]; exact .nil), ?_, rfl, ?_⟩
    · intro q
      simp at q
      rw [← q] at hd
      cases hd
    · exact vld_app (vld_app (vld_of _) (vld_join (vld_of _) _ fun t ht => absurd ht (by simp [toPk, PyData.shownKv]))) (vld_of _)
  | _, _, .dt z e (.cons _ _), h, _, r => by simp [Mir.okP, Mir.okPk, Mir.okK] at h
  | _, _, .obj _ _ _ _, h, _, _ => by simp [Mir.okP] at h
  | _, _, .ref _ _, h, _, _ => by simp [Mir.okP] at h
  | _, _, .fn _, h, _, _ => by simp [Mir.okP] at h
  | _, _, .scr _, h, _, _ => by simp [Mir.okP] at h
theorem reads_ofs (I : L2.Inv X pins σ H s) (hs : H sysModules = none) (hK : X.K = Γ.K) : ∀ {vs : List V} {xs : List Val}, RVs Γ G n H vs xs → Mir.okPs xs = true → ∀ {us : List Value}, Vals vs us →
    ∃ as, ReadsAll s.heap us (toPs xs) as ∧ NoSys as ∧ PyData.showableAll (toPs xs) = true ∧ ∀ t ∈ PyData.shownAll (toPs xs), Vld t
  | _, _, .nil, _, _, r => by
    cases r
    exact ⟨_, .nil, by unfold NoSys; simp, rfl, fun t ht => absurd ht (by simp [toPs, PyData.shownAll])⟩
  | _, _, .cons r0 rs, h, _, r => by
    cases r with
    | cons u us =>
    simp only [Mir.okPs, Bool.and_eq_true] at h
    obtain ⟨as, h1, h2, h3, h4⟩ := reads_of I hs hK r0 h.1 u
    obtain ⟨bs, k1, k2, k3, k4⟩ := reads_ofs I hs hK rs h.2 us
    refine ⟨_, .cons h1 k1, fun q => (List.mem_append.mp q).elim h2 k2, by simp only [toPs, PyData.showableAll, h3, k3, Bool.and_self], fun t ht => ?_⟩
    simp only [toPs, PyData.shownAll, List.mem_cons] at ht
    rcases ht with rfl | ht
    · exact h4
    · exact k4 t ht
theorem reads_ofk (I : L2.Inv X pins σ H s) (hs : H sysModules = none) (hK : X.K = Γ.K) : ∀ {kvs : List (Key × V)} {ys : List (Val × Val)}, RKs Γ G n H kvs ys → Mir.okPk ys = true → ∀ {vs : List (Key × Value)} {es : List DictEntry}, KV kvs vs → Pairs (mixKind X.prog X.w) es vs →
    ∃ as bs, ReadsAll s.heap (es.map (·.key)) ((toPk ys).map (·.1)) as ∧ ReadsAll s.heap (es.map (·.val)) ((toPk ys).map (·.2)) bs ∧ NoSys as ∧ NoSys bs ∧ PyData.showableKv (toPk ys) = true ∧ ∀ t ∈ PyData.shownKv (toPk ys), Vld t
  | _, _, .nil, _, _, _, r, p => by
    cases r
    cases p
    exact ⟨_, _, .nil, .nil, by unfold NoSys; simp, by unfold NoSys; simp, rfl, fun t ht => absurd ht (by simp [toPk, PyData.shownKv])⟩
  | _, _, .cons (k := k) r0 rs, h, _, _, r, p => by
    cases r with
    | @cons _ kv _ _ u us =>
    cases p with
    | @cons e _ es kvs' pk pv p =>
    simp only [Mir.okPk, Bool.and_eq_true] at h
    obtain ⟨u1, u2⟩ := u
    obtain ⟨as, h1, h2, h3, h4⟩ := reads_of (u := e.val) I hs hK r0 h.1.2 (by rw [pv]; exact u2)
    obtain ⟨as', bs', k1, k2, k3, k4, k5, k6⟩ := reads_ofk I hs hK rs h.2 us p
    have key : Reads s.heap e.key (toP (keyV k)) [] ∧ (toP (keyV k)).showable = true ∧ Vld (toP (keyV k)).shown := by
      have pk' : keyIs k e.key = true := by
        have e1 : k = kv.1 := u1
        rw [e1]
        exact pk
      rcases keyIs_shape pk' with ⟨i, t, rfl, e2⟩ | ⟨x, t, rfl, e2⟩
      · rw [e2]
        exact ⟨Reads.int i t, by simpa only [toP, keyV, PyData.showable, Mir.okK, Mir.okI] using h.1.1, vld_of _⟩
      · rw [e2]
        refine ⟨?_, rfl, ?_⟩
        · have : toS x.cps.toList = x := str_ext (toS_tl _)
          show Reads s.heap (.str x t) (.str (toS x.cps.toList)) []
          rw [this]
          exact Reads.str x t
        · exact vld_repText (vld_toS h.1.1)
    refine ⟨_, _, .cons key.1 k1, .cons h1 k2, fun q => (List.mem_append.mp q).elim (by simp) k3, fun q => (List.mem_append.mp q).elim h2 k4, ?_, fun t ht => ?_⟩
    · simp only [toPk, PyData.showableKv, key.2.1, h3, k5, Bool.and_self]
    · simp only [toPk, PyData.shownKv, List.mem_cons] at ht
      rcases ht with rfl | ht
      · exact vld_app (vld_app key.2.2 (vld_of _)) h4
      · exact k6 t ht
end

/-- repr(x): no repr is under way -/
theorem cRepr (hK : X.K = Γ.K) (hg : X.A.guards = some []) (hr : Room k X.A) (hs : ∃ o, X.base.get? sysModules = some o) : CallR X (.builtin "repr") (rdC Γ Mir.bRepr) := by
  intro pins s σ H vs us Q I r ⟨G, h, xs, rh, rv, z, ez, q⟩
  obtain ⟨o, ho⟩ := hs
  have hn := (I.bs _ _ ho).2
  have hu := Room.u64 hr
  unfold Mir.bRepr at ez
  split at ez
  · rename_i x
    obtain ⟨v, rfl, r0⟩ := rvs1 rv
    obtain ⟨u, rfl, ru⟩ := vals1' r
    split at ez
    · rename_i a ea
      split at ez
      · rename_i c
        cases ez
        have ra := frz_ok rh _ v x a r0 ea
        obtain ⟨as, h1, h2, h3, h4⟩ := reads_of I hn hK ra c.1 ru
        have e : (V.str (PyData.shown (toP a))) = .str (toS (Mir.rep a)) := by
          unfold Mir.rep
          rw [show toS (PyData.shown (toP a)).cps.toList = PyData.shown (toP a) from str_ext (toS_tl _)]
        have hz : (PyData.shown (toP a)).length ≤ sizeLine := by
          rw [← line_eq]
          have := c.2.2
          unfold Mir.rep at this
          rw [Array.length_toList] at this
          exact this
        have vl : (Mir.rep a).all (· < 0x110000) = true := List.all_eq_true.mpr fun c hc => decide_eq_true (h4 c hc)
        have done : ∀ s' u', L2.Inv X pins σ H s' → EP X pins σ Q (.str (PyData.shown (toP a)) u') s' := fun s' u' I' => ⟨.str (PyData.shown (toP a)), H, I', ⟨_, rfl⟩, by rw [e]; exact rd2_of rh q (.str _ vl)⟩
        have hdp := c.2.1
        clear e vl h4 ra
        revert done hz hdp h1 h3
        generalize toP a = d
        intro h1 h3 hz done hdp
        have by_ref : ∀ b, u = .ref b → wpAny (model X.prog X.w) X.A (call (.builtin "repr") [u]) (EP X pins σ Q) X.xe s := fun b eb => by
          subst eb
          exact repr_of_reads' h1 h3 (fun _ => h2) hg (by omega) (fun _ _ e => e) (fun h' u tk hk => done _ _ (I.kept hk)) hz
        cases h1 with
        | none => exact PySem.P.repr_of_none (done _ _ (I.tok _))
        | bool b =>
          refine PySem.P.repr_of_bool ?_
          have := done { s with toks := s.toks + 1 } s.toks (I.tok _)
          simp only [PyData.shown] at this
          cases b <;> exact this
        | int i t => exact PySem.P.repr_of_int (by simpa only [PyData.showable, decide_eq_true_eq] using h3) (done _ _ (I.tok _))
        | str x t => exact PySem.P.repr_of_str (done _ _ (I.tok _)) hz
        | list => exact by_ref _ rfl
        | tuple => exact by_ref _ rfl
        | dict => exact by_ref _ rfl
      · cases ez
    · cases ez
  · cases ez
end
end Sim
end

section
set_option linter.all false
set_option Elab.async false
set_option maxRecDepth 100000
set_option maxHeartbeats 1000000
/-! Sim15: promises of defs that ask repr: no repr is under way where they are called. -/
namespace Sim
open PySem PySem.Spec PyProof.Rows L2
section
variable {Γ : Gam} {P : Program} {w : World} {K : PySem.W.Frag} {mg : Str → Option Value} {base : Heap} {x qual : Str} {params : Arguments} {body : List Stmt} {scope : Scope} {dvs : List V} {kws : List (Str × V)} {f : Addr} {fd : FuncData} {N ps : List Str} {k : Nat} {sp : Sp}
structure FnG (P : Program) (w : World) (K : PySem.W.Frag) (mg : Str → Option Value) (base : Heap) (k : Nat) (f : Addr) (fd : FuncData) (ps : List Str) (sp : Sp) : Prop where
  len : ∀ vs H Q E, sp vs H Q E → vs.length = ps.length
  run : ∀ (A : Around) (outer : List Env) (s : Shared) (H : Hp) (args : Args) (us : List Value) (vs : List V) (Q : VK) (E : XK), A.guards = some [] → Room k A → Env0 P w K mg base A outer s H → BindsTo s fd args (ps.zip us) → Vals vs us → sp vs H Q E →
    codeAny (model P w) A (.call (.ref f) args) (CR (L2.CX P w) outer P w H s Q E) s
theorem FnG.mono {j : Nat} (F : FnG P w K mg base j f fd ps sp) (h : j ≤ k) : FnG P w K mg base k f fd ps sp :=
  ⟨F.len, fun A outer s H args us vs Q E hg hr => F.run A outer s H args us vs Q E hg (hr.mono h)⟩
theorem deeper_guards {A : Around} {env : Env} (h : A.guards = some []) : (A.deeper env).guards = some [] := h
theorem fnG_of (F : FunD K x qual params body scope dvs kws f fd) (S : FnScope N ps scope) (len : ∀ vs H Q E, sp vs H Q E → vs.length = ps.length)
    (hbody : ∀ (cdv : Value) (A : Around) (outer : List Env) (s : Shared) (H : Hp) (vs : List V) (Q : VK) (E : XK), A.guards = some [] → Room k (A.deeper (envOfC qual scope s.heap.objs.size f cdv)) → sp vs H Q E →
      ∃ t, PSs (cxOf (L2.CX P w) P w K mg base N qual scope f cdv A outer s H E) body t ∧ t { nx := fun _ H' => Q .non H', rt := Q } (start N vs) H) : FnG P w K mg base (k + 1) f fd ps sp := by
  obtain ⟨oc, od, dV, kV, doc, pm, an, cdv, ct, osl, rfl, lk, hcd, _, _⟩ := F.ex
  refine ⟨len, fun A outer s H args us vs Q E hg hr e0 hb r hsp => ?_⟩
  have KX : K.In s.heap := e0.mod.kin.keeps fun b o e => (e0.bs b o e).1
  have kinds : ∀ y ∈ ps.zip us, scope.names.lookup y.1 = some .local ∨ (scope.names.lookup y.1 = some .cell ∧ ((cellsFrom (s.heap.objs.size + 1) scope.names []).lookup y.1).isSome = true) := by
    intro y hy
    obtain ⟨n, v⟩ := y
    cases S.par n (List.of_mem_zip hy).1 with
    | inl q => exact .inl q
    | inr q => exact .inr ⟨q, PySem.W.cellsFrom_some _ _ _ (.inl q)⟩
  refine codeAny_call_function hr.depth (KX _ _ lk) rfl S.co S.gen rfl (PySem.W.codeRec_of KX hcd) (hb _ _ _ _ (wpAny_newFunctionEnv_cells S.kind kinds fun env he s1 z => ?_))
  subst he
  refine ⟨Heap.NoLimit.keeps e0.mod.nolimit (fun b o e => z.toInCall.keep b o (e0.bs b o e).1), codeAny_func ?_⟩
  obtain ⟨t, ht, hq⟩ := hbody cdv A outer s H vs Q E hg (hr.deeper _) hsp
  refine wpAny_mono (ht.run [] s1 (start N vs) H _ (inv_start S hr.hd e0 (len _ _ _ _ hsp) r z) hq) (fun fl s' hs => ?_) fun e s' hs => hs
  cases fl with
  | next =>
    obtain ⟨σ', H', J, q⟩ := hs
    exact ⟨V.non, H', J.os, J.bare, J.base, J.hok, rfl, q⟩
  | ret u =>
    obtain ⟨v, σ', H', J, rv, q⟩ := hs
    exact ⟨v, H', J.os, J.bare, J.base, J.hok, rv, q⟩
  | brk => exact hs.elim fun _ h => h.elim fun _ h => h.2.elim
  | cont => exact hs.elim fun _ h => h.elim fun _ h => h.2.elim
theorem defS_okG {np m : Nat} {b : Mir.S} (F : FunD K x qual params body scope dvs kws f fd) (S : FnScope N ps scope) (hm : N.length = m) (hp : ps.length = np)
    (hb : ∀ (cdv : Value) (A : Around) (outer : List Env) (s : Shared) (H : Hp) (E : XK), A.guards = some [] → Room k (A.deeper (envOfC qual scope s.heap.objs.size f cdv)) →
      SimB Γ (cxOf (L2.CX P w) P w K mg base N qual scope f cdv A outer s H E) (WE E) body b) : FnG P w K mg base (k + 1) f fd ps (spF Γ np (Mir.defS np m b)) := by
  refine fnG_of F S (fun vs H Q E h => h.1.trans hp.symm) (fun cdv A outer s H vs Q E hg hr h => ?_)
  obtain ⟨_, G, h0, xs, rh, rv, q⟩ := h
  exact ⟨_, hb cdv A outer s H E hg hr, G, Mir.frame m xs, h0, rh, re_start rv hm, (okF_cut q).2⟩
end
section
variable {Γ : Gam} {X : Cx} {W : WX} {a b c e o : Expr} {es : List Expr} {fs : Mir.Es} {pos p : Pos} {k np : Nat} {f : Addr} {fd : FuncData} {ps : List Str} {x : Str}
/-- f(..) -/
theorem sFnG {mf : Mir.Fn} (pf : LenFn np mf) (F : FnG X.prog X.w X.K X.mg X.base k f fd ps (spF Γ np mf)) (hgd : X.A.guards = some []) (hr : Room k X.A) (hg : Gl X x) (hm : X.mg x = some (.ref f)) (hk : PySem.W.keepIn X.K (.ref f) = true) (hb : Binds X.K fd ps []) (tk : Takes X W)
    (ha : SimA Γ X W (e :: es) fs) (hdb : (x == ("__debug__" : Str)) = false := by decide) (he : starEach (e :: es) X.env = (false, eval e X.env) :: starEach es X.env := by rfl) (hpl : (backTo pos (starEach es X.env)).any (·.1) = false := by rfl) :
    SimE Γ X W (.Call (.Name x p) (e :: es) [] pos) (Mir.eF mf fs) := by
  refine ⟨fun pins s σ H Q I h => ?_⟩
  have h' : rdA Γ W fs σ H fun vs H1 => spF Γ np mf vs H1 Q (fun cls d H => W cls d σ H) := by
    have : Mir.eF mf fs = fun env h => (fs env h).bind fun xs h1 => mf (xs ++ []) h1 := by
      funext env h
      unfold Mir.eF
      congr 1
      funext xs h1
      rw [List.append_nil]
    rw [this] at h
    have q := tCall_of (g := mf) dvs0 (fun rh rv q => spF_of pf rh rv q) h
    obtain ⟨G, env, h0, rh, re, q⟩ := q
    exact ⟨G, env, h0, rh, re, q.mono fun xs h1 G1 H1 e1 rh1 z vs rv => by
      have z' : spF Γ np mf (vs ++ []) H1 Q (fun cls d H => W cls d σ H) := z vs rv
      rw [List.append_nil] at z'
      exact z'⟩
  refine wpAny_Call_Name_kw (ld_glob I hg hm ?_ hdb)
  refine PySem.W.callWith_K (h₀ := X.base) I.ok.mod.kin hk (thn (ha.run pos pins s σ H _ I h') fun us s1 ⟨vs, H1, I1, r, q⟩ => ⟨I1.kIn, ?_⟩) he hpl
  have hl : us.length = ps.length := by rw [← r.length]; exact F.len _ _ _ _ q
  have hb' := hb s1 us I1.kIn (by rw [List.append_nil]; exact hl)
  rw [List.append_nil] at hb'
  refine wpAny_call (codeAny_mono (F.run X.A X.stack s1 H1 ⟨us, []⟩ us vs Q _ hgd hr I1.env0 hb' r q) fun r s' hq => ?_)
  cases r with
  | error e => exact L2.passAt tk σ pins H1 s1 e s' I1 hq
  | ok fl =>
    cases fl with
    | ret u => exact I1.after hq
    | next => exact False.elim hq
    | brk => exact False.elim hq
    | cont => exact False.elim hq
end

/-! ### the law's def, called first -/
/-- a heap in which the script alone is tracked, if it is tracked at all -/
structure First (K : PySem.W.Frag) (h : Heap) (a : Addr) (o : Obj) (ns : List Int) (P : Program) (w : World) (H : Hp) : Prop where
  script : SqL K H a (ns.map V.int)
  hok : HOk P w H h
  only : ∀ b, H b ≠ none → b = a ∧ K.lookup a = none ∧ ∃ xs, H b = some (.frz o xs)
theorem first_of {P : Program} {w : World} {K : PySem.W.Frag} {h : Heap} {a : Addr} {vs : List Value} {ns : List Int} (KX : K.In h) (ha : h.get? a = some { cls := .type "list", data := .seq vs.toArray }) (hi : IntsAre vs ns) (hl : ns.length ≤ sizeLine) :
    ∃ H : Hp, First K h a { cls := .type "list", data := .seq vs.toArray } ns P w H := by
  have rv := vals_ints hi
  cases hk : K.lookup a with
  | some o =>
    have e := KX a o hk
    rw [ha] at e
    cases e
    have hz : vs.toArray.size ≤ sizeLine := by rw [List.size_toArray, hi.length]; exact hl
    refine ⟨fun _ => none, .inr ⟨_, vs.toArray, _, hk, rfl, rfl, rfl, hz, by simpa using rv⟩, fun b u z => ?_, fun b z => absurd rfl z⟩
    exact absurd z (by simp)
  | none =>
    have at_a : (fun b => if b = a then some (HO.frz { cls := .type "list", data := .seq vs.toArray } (.lst (ns.map V.int))) else none : Hp) a = some (.frz { cls := .type "list", data := .seq vs.toArray } (.lst (ns.map V.int))) := if_pos rfl
    refine ⟨fun b => if b = a then some (.frz { cls := .type "list", data := .seq vs.toArray } (.lst (ns.map V.int))) else none, .inl (.inr ⟨_, at_a⟩), fun b u z => ?_, fun b z => ?_⟩
    · by_cases c : b = a
      · subst c
        have z := at_a.symm.trans z
        cases z
        exact ⟨ha, by rw [List.length_map]; exact hl, vs, _, rv, ha⟩
      · have z : (if b = a then some _ else none) = some u := z
        rw [if_neg c] at z
        cases z
    · by_cases c : b = a
      · subst c
        exact ⟨rfl, hk, _, at_a⟩
      · exact absurd (if_neg c) z
theorem law_callG {P : Program} {w : World} {K : PySem.W.Frag} {mg mb : Str → Option Value} {k : Nat} {fa a : Addr} {x : Str} {sp : Sp} {s₁ : Shared} {vs : List Value} {ns : List Int}
    (KX : K.In s₁.heap) (hns : s₁.heap.Ns mainGlobals mg) (hb : s₁.heap.Ns builtinsNs mb) (hbb : ∀ x : Str, x ≠ "__name__" → mb x = bootBuiltins x) (hlim : s₁.heap.NoLimit) (hsys : ∃ o es ep, s₁.heap.get? sysModules = some o ∧ o.data = .dict es ep) (hg : s₁.gens = #[])
    (ha : s₁.heap.get? a = some { cls := .type "list", data := .seq vs.toArray }) (hi : IntsAre vs ns) (hl : ns.length ≤ sizeLine) (hr : Room k callerA)
    (F : ∀ base : Heap, K.In base → base.Ns mainGlobals mg → (∃ o, base.get? sysModules = some o) → ∃ fd, Binds K fd [x] [] ∧ FnG P w K mg base k fa fd [x] sp)
    (hsp : ∀ H : Hp, SqL K H a (ns.map V.int) → sp [.ref a] H (fun v _ => v = .bl true) fun _ _ _ => False) :
    codeAny (model P w) callerA (.call (.ref fa) ⟨[.ref a], []⟩) (fun r s' => r = .ok (.ret (.bool true)) ∧ OldK s₁.heap s'.heap ∧ s'.os = s₁.os ∧ AllBare s'.gens) s₁ := by
  obtain ⟨H, T⟩ := first_of (P := P) (w := w) KX ha hi hl
  have other : ∀ {b : Addr} {o : Obj}, s₁.heap.get? b = some o → (b = a → ∃ i n, o.data = .seq i n) := fun {b o} e q => by
    rw [q, ha] at e
    cases e
    exact ⟨_, _, rfl⟩
  have dicts : ∀ {b : Addr} {o : Obj} {es : Array DictEntry} {ep : Nat}, s₁.heap.get? b = some o → o.data = .dict es ep → (hidT s₁.heap H).get? b = some o := fun {b o es ep} e d => by
    refine hidT_get e ?_
    cases q : H b with
    | none => rfl
    | some u =>
      obtain ⟨z, _⟩ := T.only b (by rw [q]; simp)
      obtain ⟨i, n, z⟩ := other e z
      rw [d] at z
      cases z
  have nsK : ∀ {b : Addr} {m : Str → Option Value}, s₁.heap.Ns b m → (hidT s₁.heap H).Ns b m := fun {b m} ⟨o, es, ep, e, d, r⟩ => ⟨o, es, ep, dicts e d, d, r⟩
  have hKb : K.In (hidT s₁.heap H) := fun b o e => hidT_get (KX b o e) (by
    cases q : H b with
    | none => rfl
    | some u =>
      obtain ⟨rfl, z, _⟩ := T.only b (by rw [q]; simp)
      rw [e] at z
      cases z)
  obtain ⟨os, es, ep, e1, e2⟩ := hsys
  have e0 : Env0 P w K mg (hidT s₁.heap H) callerA [] s₁ H :=
    ⟨rfl, ⟨hKb, nsK hns, ⟨mb, nsK hb, hbb⟩, hlim.imp fun mc q => ⟨nsK q.1, q.2⟩⟩, fun b o e => of_hidT e, Nat.le_of_eq (hidT_size _ _), trivial, fun b hb => absurd hb (by simp [frs]), T.hok, .of_eq hg⟩
  obtain ⟨fd, hbn, G⟩ := F _ hKb (nsK hns) ⟨os, dicts e1 e2⟩
  refine codeAny_mono (G.run callerA [] s₁ H ⟨[.ref a], []⟩ [.ref a] [.ref a] _ _ rfl hr e0 (hbn s₁ [.ref a] KX rfl) (.cons rfl .nil) (hsp H T.script)) fun r s' h => ?_
  cases r with
  | error e =>
    obtain ⟨_, _, _, _, _, _, _, _, _, _, _, _, z⟩ := h
    exact z.elim
  | ok fl =>
    cases fl with
    | next => exact h.elim
    | brk => exact h.elim
    | cont => exact h.elim
    | ret u =>
      obtain ⟨v, H', os, bare, un, hok', r', q⟩ := h
      have q : v = .bl true := q
      subst q
      obtain rfl : u = Value.bool true := r'
      refine ⟨rfl, OldK.of_keep fun b o e => ?_, os, bare⟩
      cases q : H b with
      | none => exact un.keep b o e q (by simp [frs]) (by simp)
      | some u =>
        obtain ⟨z, _, xs, z2⟩ := T.only b (by rw [q]; simp)
        subst z
        rw [ha] at e
        cases e
        exact (hok' b _ (un.frzs b _ _ z2)).1

/-- a law whose def asks repr -/
theorem walkG {l : PySem.W.OpenLaw} {n k : Nat} {q : Program} {loose : List Str} {XP : (Str → Option Value) → Heap → Prop} {YP : World → Heap → Prop} {d : DefRec} {x : Str}
    (hn : l.most = some n) (hn2 : n ≤ sizeLine) (hdf : d.params.defaults = []) (hr : Room k callerA) (himp : importsNone q = true)
    (F : ∀ (w : World) (mg : Str → Option Value) (fa : Addr) (h : Heap), YP w h → h.Ns mainGlobals mg → mg d.name = some (.ref fa) →
      ∃ (K : PySem.W.Frag) (sp : Sp), K.In h ∧
        (∀ (H : Hp) (a : Addr) (ns : List Int), ns.length ≤ n → SqL K H a (ns.map V.int) → sp [.ref a] H (fun v _ => v = .bl true) fun _ _ _ => False) ∧
        ∀ base : Heap, K.In base → base.Ns mainGlobals mg → (∃ o, base.get? sysModules = some o) → ∃ fd, Binds K fd [x] [] ∧ FnG l.prog w K mg base k fa fd [x] sp) :
    PySem.W.WalkO q loose XP YP l.row.toRowW d [] (fun f vs => PySem.call f vs) := by
  refine Att.attach_call hn hdf fun w s₀ s₁ mg mb fa o pm cd doc a vs ns G Y ho hd hcd hmg hobj hints hlen hg => ?_
  obtain ⟨K, sp, KX, hsp, hF⟩ := F w mg fa _ Y G.T.g hmg
  obtain ⟨mm, ⟨o', es, ep, h1, h2, _⟩, _⟩ := (G.T.seer himp).mods
  exact law_callG KX G.T.g G.T.b G.T.builtins G.T.nolimit ⟨o', es, ep, h1, h2⟩ hg hobj hints (Nat.le_trans hlen hn2) hr hF fun H hS => hsp H a ns hlen hS
end Sim
end

section
set_option linter.all false
set_option Elab.async false
set_option maxRecDepth 100000
set_option maxHeartbeats 1000000
/-! Sim16: upper, t[::-1]. -/
namespace HT16
open PySem PySem.Spec PyProof.Rows L2
section
variable {prog : Program} {w : World} {A : Around} {E : Value → Shared → Prop} {s : Shared}
theorem adj_rev (n : Nat) : Builtin.Slice.sliceAdjust none none (-1) (n : Int) = ((n : Int) - 1, -1) := by
  unfold Builtin.Slice.sliceAdjust
  simp
theorem places_rev (n : Nat) : Builtin.Slice.slicePlaces ((n : Int) - 1) (-1) (-1) = n := by
  unfold Builtin.Slice.slicePlaces
  simp only [show ¬ ((-1 : Int) > 0) by decide, if_false]
  split
  · rw [show (- -1 : Int) = 1 by decide, Int.ediv_one]; omega
  · omega
theorem fm_congr {α β : Type} {f g : α → Option β} : ∀ (l : List α), (∀ x ∈ l, f x = g x) → l.filterMap f = l.filterMap g := by
  intro l
  induction l with
  | nil => intro _; rfl
  | cons x l ih =>
    intro h
    rw [List.filterMap_cons, List.filterMap_cons, h x List.mem_cons_self, ih fun y hy => h y (List.mem_cons_of_mem _ hy)]
theorem pick_rev (xs : Array Value) : ((List.range xs.size).filterMap fun (k : Nat) => xs[(((xs.size : Int) - 1) + (k : Int) * (-1)).toNat]?) = xs.toList.reverse := by
  rw [fm_congr (g := fun k => xs.toList.reverse.toArray[k]?) _ fun k hk => ?_]
  · have h := PySem.W.krv_all xs.toList.reverse.toArray
    rw [List.size_toArray, List.length_reverse, Array.length_toList] at h
    simpa using h
  · have hk := List.mem_range.mp hk
    have e : (((xs.size : Int) - 1) + (k : Int) * (-1)).toNat = xs.size - 1 - k := by omega
    have h2 : xs.toList.reverse[k]? = xs.toList[xs.size - 1 - k]? := by
      rw [List.getElem?_reverse (by rw [Array.length_toList]; exact hk), Array.length_toList]
    rw [e]
    show xs[xs.size - 1 - k]? = xs.toList.reverse.toArray[k]?
    have h3 : xs.toList.reverse.toArray[k]? = xs.toList.reverse[k]? := by simp
    rw [h3, h2, Array.getElem?_toList]
theorem getItem_rev {t sl : Addr} {items : Array Value} {vs : Value} {Q : Value → Shared → Prop} (ht : IsTup s.heap t items) (hs : s.heap.IsSliceOf sl .none .none vs) (ps : IsPart vs (some (-1)))
    (h : Q (.ref s.heap.objs.size) { s with heap := s.heap.push { cls := .type "tuple", data := .seq items.toList.reverse.toArray } })
    (hsz : items.size ≤ sizeLine) : wpAny (model prog w) A (getItem (.ref t) (.ref sl)) Q E s := by
  have hz : sizeOk (.seq items.toList.reverse.toArray) := by
    show items.toList.reverse.toArray.size ≤ sizeLine
    rw [List.size_toArray, List.length_reverse, Array.length_toList]
    exact hsz
  obtain ⟨os, hos, hcs, hds⟩ := id hs
  have hTs : s.TypeIs (.ref sl) "slice" := ⟨os, hos, hcs⟩
  unfold getItem
  try with_reducible refine wpAny_holding ?_
  first | refine wpAny_bind (wpAny_pure ?_) | skip
  refine wpAny_bind (wpAny_sequenceKey ht.typeIs (by decide) ?_)
  refine wpAny_bind (wpAny_callSpecial?_slot (name := Str.ofString "__getitem__") ht.typeIs PyProof.Rows.slot_tuple_getitem
    (wpAny_call_entry PyProof.Rows.slot_tuple_getitem ht.typeIs entry_tuple_getitem ?_ (args_tuple_getitem _ _)))
  show wpAny _ _ (Builtin.Tuple.tupleItemsOf (.ref t) >>= _) _ _ s
  refine wpAny_bind (tupleItemsOf_ ht ?_)
  refine wpAny_bind (wpAny_typeOf hTs ?_)
  rw [if_pos (by decide)]
  refine wpAny_bind ?_
  unfold Builtin.Slice.sliceApplied Builtin.Slice.sliceFields
  refine wpAny_bind (wpAny_bind (wpAny_field hos hds (x := .none) rfl (wpAny_bind (wpAny_field hos hds (x := .none) rfl (wpAny_bind (wpAny_field hos hds (x := vs) rfl (wpAny_pure ?_)))))))
  refine wpAny_bind (HT.slicePart_ ps ?_)
  show wpAny _ _ (if ((-1 : Int) == 0) = true then _ else _) _ _ s
  rw [if_neg (by decide)]
  refine wpAny_bind (HT.slicePart_ .none (wpAny_bind (HT.slicePart_ .none (wpAny_bind (wpAny_pure ?_)))))
  show wpAny _ _ (match Builtin.Slice.sliceAdjust none none (-1) (items.size : Int) with | (lo, hi) => pure (lo, (-1 : Int), Builtin.Slice.slicePlaces lo hi (-1))) _ _ s
  rw [adj_rev]
  show wpAny _ _ (pure (((items.size : Int) - 1), (-1 : Int), Builtin.Slice.slicePlaces ((items.size : Int) - 1) (-1) (-1))) _ _ s
  rw [places_rev]
  refine wpAny_pure ?_
  have hno : ¬ ((((items.size : Int) - 1) == 0 && (-1 : Int) == 1 && items.size == items.size) = true) := by
    intro q
    rw [Bool.and_eq_true, Bool.and_eq_true] at q
    exact absurd q.1.2 (by decide)
  show wpAny _ _ (if (((items.size : Int) - 1) == 0 && (-1 : Int) == 1 && items.size == items.size) = true then _ else _) _ _ s
  rw [if_neg hno, pick_rev]
  first
    | exact wpAny_bind (m := Builtin.Tuple.tupleExact _) (wpAny_newObj_type (wpAny_pure ⟨_, rfl, wpAny_pure h⟩) hz)
    | exact wpAny_bind (wpAny_bind (m := Builtin.Tuple.tupleExact _) (wpAny_newObj_type (wpAny_pure (wpAny_pure ⟨_, rfl, wpAny_pure h⟩)) hz))
end
end HT16
namespace Sim
open PySem PySem.Spec PyProof.Rows L2
section
variable {Γ : Gam} {X : Cx} {W : WX} {e : Expr} {fe : Mir.E} {k : Nat} {p1 p2 p3 pos : Pos}
theorem mtUpper : MtR X "str.upper" (rdM Γ Mir.mUpper) := by
  intro pins s σ H x vs v us Q I rx rs ⟨G, h, y, xs, rh, ry, rvs, z, h', eg, q⟩
  unfold Mir.mUpper at eg
  split at eg
  · cases rvs
    split at eg
    · split at eg
      · rename_i c
        cases eg
        rw [Bool.and_eq_true] at c
        cases ry with
        | str _ hv =>
          refine mt_upper pins s σ H _ _ v us Q I rx rs ⟨_, rfl, rfl, by rw [toS_len]; exact of_decide_eq_true c.1, ?_⟩
          have e : ∀ t : Mir.Cs, Txt.upper (toS t) = toS (Mir.upC t) := fun t => (str_ext (toS_tl _)).symm
          rw [e]
          exact q G H _ (Ext.refl _ _ _) rh (.str _ c.2)
      · cases eg
    · cases eg
  · cases eg
/-- t[::-1] -/
theorem sRevT (hK : X.K = Γ.K) (he : SimE Γ X W e fe) : SimE Γ X W (.Subscript e (.Slice none none (some (.UnaryOp .USub (.Constant (.int 1) k p1) p2)) p3) pos) (Mir.eUn Mir.vRevT fe) := by
  have p : PE X (.Subscript e (.Slice none none (some (.UnaryOp .USub (.Constant (.int 1) k p1) p2)) p3) pos) (fun σ H Q => rdE Γ W fe σ H fun x H1 => ∃ a xs, x = .ref a ∧ SqT X.K H1 a xs ∧ ∀ p, H1 p = none → Q (.ref p) (upd H1 p (.tup xs.reverse))) := by
    refine ⟨fun pins s σ H Q I h => ?_⟩
    refine Subscript_ (thn (he.run pins s σ H _ I h) fun v s1 ⟨x, H1, I1, r1, a, xs, ex, hx, q⟩ => ?_)
    subst ex
    cases r1
    have hst : PO X (some (.UnaryOp .USub (.Constant (.int 1) k p1) p2)) (tPart (tUn (rU fun i => .int (-i)) (tC (.int 1)))) := po_some (pe_un un_neg pe_int)
    refine wpAny_Slice (thn (po_none.run pins s1 σ H1 (fun o H2 => o = none ∧ H2 = H1) I1 ⟨rfl, rfl⟩) fun vl s2 ⟨l, H2, I2, pl, el, e2⟩ => ?_)
    subst el e2
    cases pl
    refine thn (po_none.run pins s2 σ H2 (fun o H3 => o = none ∧ H3 = H2) I2 ⟨rfl, rfl⟩) fun vu s3 ⟨u, H3, I3, pu, eu, e3⟩ => ?_
    subst eu e3
    cases pu
    refine thn (hst.run pins s3 σ H3 (fun o H4 => o = some (-1) ∧ H4 = H3) I3 ⟨1, rfl, -1, rfl, rfl, rfl⟩) fun vs s4 ⟨o, H4, I4, ps, eo, e4⟩ => ?_
    subst eo e4
    have I5 : L2.Inv X pins σ H4 { s4 with heap := s4.heap.push { cls := .type "slice", data := .fields #[.none, .none, vs] } } := I4.kept (t' := s4.toks) fun b ob q => Heap.get?_push_of_some _ q
    obtain ⟨its, r, ht, hz⟩ := I5.tuple hx
    have hlen := r.length
    show wpAny (model X.prog X.w) X.A (subscriptTail e (.Slice none none (some (.UnaryOp .USub (.Constant (.int 1) k p1) p2)) p3) (.ref a) (.ref s4.heap.objs.size)) (EP X pins σ Q) X.xe { s4 with heap := s4.heap.push { cls := .type "slice", data := .fields #[.none, .none, vs] } }
    refine tail_any (ops := [.ref a, .ref s4.heap.objs.size]) ht.typeIs (PyProof.Rows.slot_tuple_getitem.lookup) ?_ (by with_unfolding_all rfl)
    refine HT16.getItem_rev ht (Heap.IsSliceOf.new _ .none .none vs) ps ?_ (by rw [List.size_toArray]; omega)
    refine ⟨.ref _, _, I5.laid (t' := s4.toks) (o := .tup xs.reverse) (fun b ob q => Heap.get?_push_of_some _ q) (Nat.le_refl _) ?_, rfl, q _ (I5.hok.fresh (Nat.le_refl _))⟩
    exact ⟨by rw [List.length_reverse]; exact hz, _, r.reverse, ⟨_, Heap.get?_push_size _ rfl, rfl, _, rfl⟩⟩
  refine weakE p fun σ H Q ⟨G, env, h, rh, re, q⟩ => ?_
  refine run1 rh re q fun x h1 G1 H1 v e1 rh1 re1 rv q1 => ?_
  obtain ⟨z, ez, kk⟩ := ofO_ok q1
  cases rv with
  | @tup p vs xs t rs =>
    cases ez
    refine ⟨p, vs, rfl, hK ▸ t.sq, fun p2 hp => ?_⟩
    obtain ⟨G', e', rh', rv'⟩ := new_tup rh1 hp rs.rev
    exact kk _ _ _ e' rh' rv'
  | _ => cases ez
end
end Sim
end

section
set_option linter.all false
set_option Elab.async false
set_option maxRecDepth 100000
set_option maxHeartbeats 1000000
/-! Sim17: the rules as the printed walks name them. -/
namespace Sim
open PySem PySem.Spec PyProof.Rows L2
/-- a def stands in the text -/
def Def (K : PySem.W.Frag) (mg : Str → Option Value) (x : Str) (st : Stmt) : Prop :=
  ∃ f fd, mg x = some (.ref f) ∧ FunD K x x (defArgs st) (defBody st) (defScope st) [] [] f fd
/-- a def keeps its promise at level k -/
def Has (P : Program) (w : World) (K : PySem.W.Frag) (mg : Str → Option Value) (base : Heap) (x : Str) (k : Nat) (ps : List Str) (sp : Sp) : Prop :=
  ∃ f fd, mg x = some (.ref f) ∧ PySem.W.keepIn K (.ref f) = true ∧ Binds K fd ps [] ∧ FnOk P w K mg base (L2.CX P w) k f fd ps sp
def HasG (P : Program) (w : World) (K : PySem.W.Frag) (mg : Str → Option Value) (base : Heap) (x : Str) (k : Nat) (ps : List Str) (sp : Sp) : Prop :=
  ∃ f fd, mg x = some (.ref f) ∧ PySem.W.keepIn K (.ref f) = true ∧ Binds K fd ps [] ∧ FnG P w K mg base k f fd ps sp
/-- how so many arguments are bound -/
def BindN (st : Stmt) (x : Str) (ps : List Str) : Prop := ∀ (kV doc pm : Value) (an : Option Addr) (cdv ct : Value) (us : List Value), us.length = ps.length → bindArgs (PySem.W.fnOf x x (defArgs st) (defBody st) (defScope st) .none kV doc pm an cdv ct) ⟨us, []⟩ = pure (ps.zip us)
section
variable {Γ : Gam} {P : Program} {w : World} {K : PySem.W.Frag} {mg : Str → Option Value} {base : Heap} {x : Str} {st : Stmt} {N ps : List Str} {k : Nat} {np m : Nat} {b : Mir.S}
theorem hasP (D : Def K mg x st) (hb : BindN st x ps) (S : FnScope N ps (defScope st)) (hm : N.length = m) (hp : ps.length = np)
    (h : ∀ (f : Addr) (cdv : Value) (A : Around) (outer : List Env) (s : Shared) (H : Hp) (E : XK), Room k (A.deeper (envOfC x (defScope st) s.heap.objs.size f cdv)) →
      SimB Γ (cxOf (L2.CX P w) P w K mg base N x (defScope st) f cdv A outer s H E) (WE E) (defBody st) b) : Has P w K mg base x (k + 1) ps (spP Γ np (Mir.defP np m b)) := by
  obtain ⟨f, fd, h1, F⟩ := D
  exact ⟨f, fd, h1, F.kp, F.bindsN hb, defP_ok F S hm hp (h f)⟩
theorem hasS (D : Def K mg x st) (hb : BindN st x ps) (S : FnScope N ps (defScope st)) (hm : N.length = m) (hp : ps.length = np)
    (h : ∀ (f : Addr) (cdv : Value) (A : Around) (outer : List Env) (s : Shared) (H : Hp) (E : XK), Room k (A.deeper (envOfC x (defScope st) s.heap.objs.size f cdv)) →
      SimB Γ (cxOf (L2.CX P w) P w K mg base N x (defScope st) f cdv A outer s H E) (WE E) (defBody st) b) : Has P w K mg base x (k + 1) ps (spF Γ np (Mir.defS np m b)) := by
  obtain ⟨f, fd, h1, F⟩ := D
  exact ⟨f, fd, h1, F.kp, F.bindsN hb, defS_ok F S hm hp (h f)⟩
theorem hasA (D : Def K mg x st) (hb : BindN st x ps) (S : FnScope N ps (defScope st)) (hm : N.length = m) (hp : ps.length = np)
    (h : ∀ (f : Addr) (cdv : Value) (A : Around) (outer : List Env) (s : Shared) (H : Hp) (E : XK), Room k (A.deeper (envOfC x (defScope st) s.heap.objs.size f cdv)) →
      SimB Γ (cxOf (L2.CX P w) P w K mg base N x (defScope st) f cdv A outer s H E) (WE E) (defBody st) b) : Has P w K mg base x (k + 1) ps (spF Γ np (Mir.defA np m b)) := by
  obtain ⟨f, fd, h1, F⟩ := D
  exact ⟨f, fd, h1, F.kp, F.bindsN hb, defA_ok F S hm hp (h f)⟩
theorem hasSG (D : Def K mg x st) (hb : BindN st x ps) (S : FnScope N ps (defScope st)) (hm : N.length = m) (hp : ps.length = np)
    (h : ∀ (f : Addr) (cdv : Value) (A : Around) (outer : List Env) (s : Shared) (H : Hp) (E : XK), A.guards = some [] → Room k (A.deeper (envOfC x (defScope st) s.heap.objs.size f cdv)) →
      SimB Γ (cxOf (L2.CX P w) P w K mg base N x (defScope st) f cdv A outer s H E) (WE E) (defBody st) b) : HasG P w K mg base x (k + 1) ps (spF Γ np (Mir.defS np m b)) := by
  obtain ⟨f, fd, h1, F⟩ := D
  exact ⟨f, fd, h1, F.kp, F.bindsN hb, defS_okG F S hm hp (h f)⟩
end
section
variable {Γ : Gam} {X : Cx} {W : WX} {a b c e o i : Expr} {es : List Expr} {fa fb fo fi : Mir.E} {fs : Mir.Es} {pos p apos cpos : Pos} {j k np : Nat} {ps : List Str} {x : Str} {z : Mir.Cs}
theorem sPH {mf : Mir.PFn} (hh : Has X.prog X.w X.K X.mg X.base x j ps (spP Γ np mf)) (pf : PureFn np mf) (hr : Room k X.A) (hj : j ≤ k) (hg : Gl X x) (tk : Takes X W) (ha : SimA Γ X W (e :: es) fs) (hdb : (x == ("__debug__" : Str)) = false := by decide)
    (he : starEach (e :: es) X.env = (false, eval e X.env) :: starEach es X.env := by rfl) (hpl : (backTo pos (starEach es X.env)).any (·.1) = false := by rfl) : SimE Γ X W (.Call (.Name x p) (e :: es) [] pos) (Mir.eP mf fs) := by
  obtain ⟨f, fd, h1, h2, h3, h4⟩ := hh
  exact sP pf (h4.mono hj) hr hg h1 h2 h3 tk ha hdb he hpl
theorem sFH {mf : Mir.Fn} (hh : Has X.prog X.w X.K X.mg X.base x j ps (spF Γ np mf)) (pf : LenFn np mf) (hr : Room k X.A) (hj : j ≤ k) (hg : Gl X x) (tk : Takes X W) (ha : SimA Γ X W (e :: es) fs) (hdb : (x == ("__debug__" : Str)) = false := by decide)
    (he : starEach (e :: es) X.env = (false, eval e X.env) :: starEach es X.env := by rfl) (hpl : (backTo pos (starEach es X.env)).any (·.1) = false := by rfl) : SimE Γ X W (.Call (.Name x p) (e :: es) [] pos) (Mir.eF mf fs) := by
  obtain ⟨f, fd, h1, h2, h3, h4⟩ := hh
  exact sFn pf (h4.mono hj) hr hg h1 h2 h3 tk ha hdb he hpl
theorem sFHG {mf : Mir.Fn} (hh : HasG X.prog X.w X.K X.mg X.base x j ps (spF Γ np mf)) (pf : LenFn np mf) (hgd : X.A.guards = some []) (hr : Room k X.A) (hj : j ≤ k) (hg : Gl X x) (tk : Takes X W) (ha : SimA Γ X W (e :: es) fs) (hdb : (x == ("__debug__" : Str)) = false := by decide)
    (he : starEach (e :: es) X.env = (false, eval e X.env) :: starEach es X.env := by rfl) (hpl : (backTo pos (starEach es X.env)).any (·.1) = false := by rfl) : SimE Γ X W (.Call (.Name x p) (e :: es) [] pos) (Mir.eF mf fs) := by
  obtain ⟨f, fd, h1, h2, h3, h4⟩ := hh
  exact sFnG pf (h4.mono hj) hgd hr hg h1 h2 h3 tk ha hdb he hpl
/-- whole numbers, texts of the top -/
theorem sGlI {n : Int} (h : ∃ t, X.mg x = some (.int n t)) (hg : Gl X x) (hd : (x == ("__debug__" : Str)) = false := by decide) : SimE Γ X W (.Name x pos) (Mir.eC (.int n)) := by
  obtain ⟨t, h⟩ := h
  exact sGl (v := .int n) hg h ⟨t, rfl⟩ (fun _ _ _ => .int n) hd
theorem sGlS {y : Str} (h : ∃ t, X.mg x = some (.str y t)) (hg : Gl X x) (e : y = toS z := by decide +kernel) (hz : z.all (· < 0x110000) = true := by decide +kernel) (hd : (x == ("__debug__" : Str)) = false := by decide) : SimE Γ X W (.Name x pos) (Mir.eC (.str z)) := by
  obtain ⟨t, h⟩ := h
  subst e
  exact sGl (v := .str (toS z)) hg h ⟨t, rfl⟩ (fun _ _ _ => .str z hz) hd
end
/-- a comprehension's block, looked at -/
def blkB (N : List Str) (sc scope : Scope) (own : List (Str × Nat)) : Bool :=
  decide (scope.kind = .function) && scope.names.all (fun y => decide (scope.names.lookup y.1 = some y.2)) && own.all (fun p => decide (N[p.2]? = some p.1)) &&
  scope.names.all (fun y => !decide (y.2 = .free) || (decide (sc.names.lookup y.1 = some .cell) || decide (sc.names.lookup y.1 = some .free))) &&
  scope.names.all (fun y => !(decide (y.2 = .local) || decide (y.2 = .cell)) || (decide (y.1 ∈ own.map (·.1)) || decide (y.1 ∉ N)))
theorem blk_of {N : List Str} {sc scope : Scope} {own : List (Str × Nat)} (h : blkB N sc scope own = true) : BlkOk N sc scope own := by
  unfold blkB at h
  simp only [Bool.and_eq_true, Bool.or_eq_true, Bool.not_eq_true', decide_eq_true_eq, decide_eq_false_iff_not, List.all_eq_true] at h
  obtain ⟨⟨⟨⟨h1, h2⟩, h3⟩, h4⟩, h5⟩ := h
  refine ⟨h1, h2, h3, fun y hy e => ?_, fun y hy e => ?_⟩
  · rcases h4 y hy with z | z
    · exact absurd e z
    · exact z
  · rcases h5 y hy with z | z
    · rw [Bool.or_eq_false_iff] at z
      exact absurd e fun q => q.elim (of_decide_eq_false z.1) (of_decide_eq_false z.2)
    · exact z
section
variable {Γ : Gam} {X : Cx} {W : WX} {a b c : Expr} {fs : Mir.Es} {px py pz pt pos pt2 : Pos} {i j l : Nat} {x y z : Str}
theorem ssSw2 {kt k2} (hc : X.calm = true) (hN : X.N.Nodup) (ha : SimA Γ X W [a, b] fs) (hi : X.N[i]? = some x) (hj : X.N[j]? = some y) (hij : i ≠ j)
    (hx : X.env.scope.names.lookup x = some .local) (hy : X.env.scope.names.lookup y = some .local)
    (hw : swappedStores [.Tuple [.Name x px, .Name y py] kt pt] (.Tuple [a, b] k2 pt2) X.env = pure (some [x, y]))
    (hs : swapsWithSole [.Tuple [.Name x px, .Name y py] kt pt] (.Tuple [a, b] k2 pt2) pos.line X.env = pure false := by rfl) :
    SimS Γ X W (.Assign [.Tuple [.Name x px, .Name y py] kt pt] (.Tuple [a, b] k2 pt2) pos) (Mir.sSw2 i j fs) := by
  refine weakS (ps_par hc hN hi hj hij hx hy ha hw hs) fun D σ H ⟨G, env, h, rh, re, q⟩ => ⟨G, env, h, rh, re, ?_⟩
  refine okRS2 rh re q fun xs h1 G1 H1 e1 rh1 re1 q1 vs rv => ?_
  split at q1
  · obtain ⟨v, w, rfl, r1, r2⟩ := rvs2 rv
    exact ⟨v, w, rfl, q1 _ _ _ (Ext.refl _ _ _) rh1 ((re1.set r1).set r2)⟩
  · exact q1.elim
theorem ssSw3 {kt k2} (hc : X.calm = true) (hN : X.N.Nodup) (ha : SimA Γ X W [a, b, c] fs) (hi : X.N[i]? = some x) (hj : X.N[j]? = some y) (hl : X.N[l]? = some z) (hij : i ≠ j) (hil : i ≠ l) (hjl : j ≠ l)
    (hx : X.env.scope.names.lookup x = some .local) (hy : X.env.scope.names.lookup y = some .local) (hz : X.env.scope.names.lookup z = some .local)
    (hw : swappedStores [.Tuple [.Name x px, .Name y py, .Name z pz] kt pt] (.Tuple [a, b, c] k2 pt2) X.env = pure (some [x, y, z]))
    (hs : swapsWithSole [.Tuple [.Name x px, .Name y py, .Name z pz] kt pt] (.Tuple [a, b, c] k2 pt2) pos.line X.env = pure false := by rfl) :
    SimS Γ X W (.Assign [.Tuple [.Name x px, .Name y py, .Name z pz] kt pt] (.Tuple [a, b, c] k2 pt2) pos) (Mir.sSw3 i j l fs) := by
  refine weakS (ps_par3 hc hN hi hj hl hij hil hjl hx hy hz ha hw hs) fun D σ H ⟨G, env, h, rh, re, q⟩ => ⟨G, env, h, rh, re, ?_⟩
  refine okRS2 rh re q fun xs h1 G1 H1 e1 rh1 re1 q1 vs rv => ?_
  split at q1
  · cases rv with | cons r1 rv =>
    obtain ⟨v, w, rfl, r2, r3⟩ := rvs2 rv
    exact ⟨_, v, w, rfl, q1 _ _ _ (Ext.refl _ _ _) rh1 (((re1.set r1).set r2).set r3)⟩
  · exact q1.elim
end
/-- a def that calls itself, too deep -/
theorem hasZ {Γ : Gam} {P : Program} {w : World} {K : PySem.W.Frag} {mg : Str → Option Value} {base : Heap} {x : Str} {st : Stmt} {ps : List Str} {k np : Nat} (D : Def K mg x st) (hb : BindN st x ps) (hp : ps.length = np) :
    Has P w K mg base x k ps (spF Γ np fun _ _ => .bad) := by
  obtain ⟨f, fd, h1, F⟩ := D
  refine ⟨f, fd, h1, F.kp, F.bindsN hb, fun vs H Q E h => h.1.trans hp.symm, fun A outer s H args us vs Q E hr e0 b r h => ?_⟩
  obtain ⟨_, G, h0, xs, rh, rv, q⟩ := h
  exact q.elim
end Sim
end

section
set_option linter.all false
set_option Elab.async false
set_option maxRecDepth 100000
set_option maxHeartbeats 3200000
/-! St: sets of texts of a list, sorted. -/
namespace St
open PySem PySem.Spec PyProof.Rows L2 PySem.Froz
/-- the set at a holds the texts l -/
def SetRS (P : Program) (w : World) (h : Heap) (a : Addr) (l : List Str) : Prop :=
  ∃ D : SD, h.get? a = some (sObj "set" D) ∧ TxOk P w D l ∧ Ris D.2.2.place.toList ∧ (w.params.followText "set-order" = true ∨ D.2.2.led = true)
theorem tail_ris {ep : Nat} {es1 : Array (Int × Value)} {t2 : SetTable} {wd : Bool} (r : Ris t2.place.toList) : Ris (tailTx ep es1 t2 wd).2.2.place.toList := by
  unfold tailTx
  split
  · exact relayAll_ris _ _ _
  · exact r
theorem tail_led {ep : Nat} {es1 : Array (Int × Value)} {t2 : SetTable} {wd : Bool} : (tailTx ep es1 t2 wd).2.2.led = t2.led := by
  unfold tailTx
  split
  · exact relayAll_led _ _ _
  · rfl
theorem add_ris {D : SD} (h : Int) (v : Value) (r : Ris D.2.2.place.toList) : Ris (addTx h v D).2.2.place.toList := by
  obtain ⟨es, ep, t⟩ := D
  have r1 := layNew_ris t es h v r
  unfold addTx
  refine tail_ris ?_
  show Ris (if (layNew t es h v).2.1.plain = true then { (layNew t es h v).2.1 with plain := false } else (layNew t es h v).2.1).place.toList
  split
  · exact r1
  · exact r1
theorem add_led {D : SD} (h : Int) (v : Value) : (addTx h v D).2.2.led = D.2.2.led := by
  obtain ⟨es, ep, t⟩ := D
  have l1 := layNew_led t es h v
  unfold addTx
  rw [tail_led]
  show (if (layNew t es h v).2.1.plain = true then { (layNew t es h v).2.1 with plain := false } else (layNew t es h v).2.1).led = t.led
  split
  · exact l1
  · exact l1
section
variable {P : Program} {w : World} {A : Around} {E : Value → Shared → Prop} {s : Shared}
theorem setRS_add {a : Addr} {l : List Str} {k : Str} {u : Tok} {Q : Bool → Shared → Prop} (R : SetRS P w s.heap a l) (hb : l.length + 1 < scanBound)
    (hQ : ∀ b h', Heap.SameBut a s.heap h' → SetRS P w h' a (if k ∈ l then l else k :: l) → Q b { s with heap := h' }) : wpAny (model P w) A (setAddHashed a (.str k u) (hashStr w k)) Q E s := by
  obtain ⟨D, ho, F, r, hl⟩ := R
  by_cases c : k ∈ l
  · obtain ⟨es, ep, t⟩ := D
    have hd : (sObj "set" (es, ep, t)).data = .set es ep t := rfl
    have hf : t.fits es.size = true := F.fit
    have hel : ElemsOf (strKind P w) es.toList := F.el
    have hsz : es.size = l.length := F.sz
    have hkey : (strKind P w).is k (.str k u) = true := is_str k u
    unfold setAddHashed setAddHashedIn
    refine wpAny_holding (wpAny_bind (wpAny_setState_of ho hd hf ?_))
    dsimp only
    rw [byScan_of rfl (by omega) hel]
    simp only [↓reduceIte]
    unfold setAddByScan
    refine wpAny_bind ?_
    refine wpAny_bind (wpAny_rule ?_)
    refine wpAny_bind (wpAny_setScan_of (knd := strKind P w) (k := k) hkey ho hd hf hel ?_)
    cases hfi : List.findIdx? (fun e => (strKind P w).is k e.2) es.toList with
    | some j =>
      dsimp only
      have q := hQ false s.heap (Heap.SameBut.refl a s.heap) (by rw [if_pos c]; exact ⟨_, ho, F, r, hl⟩)
      exact wpAny_pure (wpAny_pure q)
    | none =>
      obtain ⟨e, he, q⟩ := (F.mem k).mp c
      have z := List.findIdx?_eq_none_iff.mp hfi e he
      rw [q] at z
      cases z
  · refine add_x ho F c hb ?_
    refine hQ true _ (Heap.SameBut.update ..) ?_
    rw [if_neg c]
    exact ⟨_, get_upd _ ho rfl, add_ok u F, add_ris _ _ r, hl.imp id fun z => by rw [add_led]; exact z⟩
def addAll : List Str → List Str → List Str
  | l, [] => l
  | l, k :: r => addAll (if k ∈ l then l else k :: l) r
theorem SetRS.at {h h' : Heap} {a : Addr} {l : List Str} (R : SetRS P w h a l) (k : ∀ o, h.get? a = some o → h'.get? a = some o) : SetRS P w h' a l := let ⟨D, ho, r⟩ := R; ⟨D, k _ ho, r⟩
theorem add_len (l : List Str) (k : Str) : (if k ∈ l then l else k :: l).length ≤ l.length + 1 := by split <;> simp
theorem set_update_strs {I : Addr} {fp wr : List Addr} {G : Array GenState → Array GenState → Prop} {n : Nat} {Pv : Nat → Value → Prop} {St : Nat → Shared → Prop} {R : Result → Shared → Prop}
    (W : WalksS P w A.in1 I fp wr G n Pv St) (S : Addr) (hSf : S ∉ fp) (ns : List Str) (hn : n = ns.length) (hval : ∀ i v, Pv i v → ∃ k t, ns[i]? = some k ∧ v = .str k t) :
    ∀ (k i : Nat) (s : Shared) (l : List Str), n - i = k → i ≤ n → St i s → SetRS P w s.heap S l → l.length + k + 1 < scanBound →
      (∀ s', Moved (S :: wr) G s s' → SetRS P w s'.heap S (addAll l (ns.drop i)) → R (.ok (.ret .none)) s') →
      codeAny (model P w) A (.builtin "set.update.loop" ⟨[.ref S, .ref I], []⟩) R s := by
  have hSw : S ∉ wr := fun h => hSf (W.sub _ h)
  have hsub : ∀ b ∈ wr, b ∈ S :: wr := fun b hb => List.mem_cons_of_mem _ hb
  intro k
  induction k with
  | zero =>
    intro i s l hk' hi hst hS hb hR
    have hin : i = n := by omega
    refine codeAny_builtin F.entry_set_update_loop ?_
    rw [Around.under_plainId F.plain_set_update_loop _]
    show wpAny _ A.in1 (pyNext (.ref I) >>= _) _ _ s
    refine wpAny_bind (W.done s _ _ (hin ▸ hst) fun s' hm => ?_)
    show wpAny _ A.in1 (ret Value.none) _ _ s'
    rw [List.drop_of_length_le (by omega)] at hR
    exact wpAny_pure (hR s' (hm.mono hsub) (hS.at fun o e => hm.heap S o hSw e))
  | succ k ih =>
    intro i s l hk' hi hst hS hb hR
    have hlt : i < n := by omega
    refine codeAny_builtin F.entry_set_update_loop ?_
    rw [Around.under_plainId F.plain_set_update_loop _]
    show wpAny _ A.in1 (pyNext (.ref I) >>= _) _ _ s
    refine wpAny_bind (W.item i s _ _ hlt hst fun v s' hP hst' hm => ?_)
    obtain ⟨z, t, hz, rfl⟩ := hval i v hP
    have hS' : SetRS P w s'.heap S l := hS.at fun o e => hm.heap S o hSw e
    show wpAny _ A.in1 (holding [Value.str z t] (setAdd S (.str z t)) >>= _) _ _ s'
    refine wpAny_bind (wpAny_holding ?_)
    unfold setAdd
    refine wpAny_holding ?_
    refine wpAny_bind ((strKind P w).pyHash (k := z) (is_str _ _) ?_)
    refine setRS_add (s := { s' with toks := s'.toks + 1 }) hS' (by omega) fun b h' hsb hS2 => ?_
    have hl2 := add_len l z
    refine wpAny_pure ⟨plainId_quiet F.plain_set_update_loop _, ih (i + 1) _ _ (by omega) hlt (W.frame _ s' _ _ hst' (Nat.le_succ _) fun b hb o e => ?_) hS2 (by omega) fun s'' hm'' hS'' => ?_⟩
    · rw [hsb.2 b (fun h : b = S => hSf (by rw [← h]; exact hb))]; exact e
    · refine hR s'' (Moved.trans W.gtrans ((hm.mono hsub).then_heap (Nat.le_succ _) fun b o hb e => ?_) hm'') ?_
      · rw [hsb.2 b (fun h : b = S => hb (by rw [h]; exact List.mem_cons_self))]; exact e
      · have e : ns.drop i = z :: ns.drop (i + 1) := by
          have h0 := (List.getElem?_eq_some_iff.mp hz)
          rw [List.drop_eq_getElem_cons h0.1, h0.2]
        rw [e]
        exact hS''
/-- the empty set, as set() lays it -/
abbrev emp (w : World) : Obj := { cls := .type "set", dict := none, data := .set #[] 0 (.fresh 0 0 (!w.params.followText "set-order")) }
theorem emp_is {h : Heap} {a : Addr} (ho : h.get? a = some (emp w)) : SetRS P w h a [] :=
  ⟨(#[], 0, .fresh 0 0 (!w.params.followText "set-order")), ho, TxOk.nil rfl, List.Pairwise.nil, by
    show _ ∨ (!w.params.followText "set-order") = true
    cases w.params.followText "set-order"
    · exact .inr rfl
    · exact .inl rfl⟩
theorem str_atL {vs : List Value} {ns : List Str} (h : StrsAre vs ns) : ∀ (i : Nat) (v : Value), vs[i]? = some v → ∃ k t, ns[i]? = some k ∧ v = .str k t := by
  induction h with
  | nil => intro i v e; simp at e
  | cons n t hr ih =>
    intro i v e
    cases i with
    | zero =>
      simp at e
      exact ⟨_, _, rfl, e.symm⟩
    | succ i =>
      simp at e
      obtain ⟨k, u, h1, h2⟩ := ih i v e
      exact ⟨k, u, by simpa using h1, h2⟩
theorem str_at {ns : List Str} {items : Array Value} (hit : StrsAre items.toList ns) (i : Nat) (v : Value) (hv : items[i]? = some v) : ∃ k t, ns[i]? = some k ∧ v = .str k t :=
  str_atL hit i v (by rw [Array.getElem?_toList]; exact hv)
/-- set(xs) of a list of texts -/
theorem call_set_strs {l : Addr} {items : Array Value} {ns : List Str} {Q : Value → Shared → Prop} (hh : A.handled = none) (hl : s.heap.IsList l items) (hit : StrsAre items.toList ns) (hb : ns.length + 1 < scanBound)
    (h : ∀ (h' : Heap) (tk : Nat), SetRS P w h' s.heap.objs.size (addAll [] ns) → (∀ b o, s.heap.get? b = some o → h'.get? b = some o) → Q (.ref s.heap.objs.size) { s with heap := h', toks := tk }) :
    wpAny (model P w) A (call (.type "set") [.ref l]) Q E s := by
  have hisz : items.size = ns.length := by
    have q := StrsAre.len_eq hit
    rw [Array.length_toList] at q
    exact q
  obtain ⟨c, tl, hmro⟩ := F.called_set.mro
  have hmade := F.called_set.made
  have hsub := F.called_set.sub
  refine wpAny_call (codeAny_of_tree ?_)
  show wpAny _ _ (callAny (.type "set") _) _ _ _
  refine wpAny_pure ⟨Code.quiet_builtin _ (by decide +kernel), codeAny_builtin F.entry_type_call ?_⟩
  rw [Around.under_plain (weight_type_call_type "set" [.ref l] []) rfl]
  have h1 := F.called_set.notType
  have h2 := F.called_set.canCreate
  have hct := F.typeCall_set_1 (.ref l)
  repeat (any_goals (first | assumption | wp_step))
  refine codeAny_mono (code_set_led1 (.ref l) (E := E) (Q₁ := fun obj s₁ => obj = .ref s.heap.objs.size ∧ s₁ = { s with heap := s.heap.push (emp w) }) ⟨rfl, rfl⟩) fun r s₁ hr => ?_
  cases r with
  | error e => exact hr
  | ok fl =>
    cases fl with
    | ret obj =>
      obtain ⟨rfl, rfl⟩ := hr
      have hS : (s.heap.push (emp w)).get? s.heap.objs.size = some (emp w) := Heap.get?_push_size _ rfl
      have hT : Shared.TypeIs { s with heap := s.heap.push (emp w) } (.ref s.heap.objs.size) "set" := ⟨_, hS, rfl⟩
      have hli := F.called_set.init.lookup
      have hbi := F.called_set.init.bind (.ref s.heap.objs.size)
      repeat (any_goals (first | assumption | wp_step))
      refine codeAny_mono (codeAny_call_builtin (R := wants (fun r s₂ => r = .none ∧ ∃ h' tk, s₂ = { s with heap := h', toks := tk } ∧ SetRS P w h' s.heap.objs.size (addAll [] ns) ∧
          (∀ b o, s.heap.get? b = some o → h'.get? b = some o)) E) F.called_set.init.plain F.entry_set_init (check_set_init_1 hT ?_)) fun r₂ s₂ hr₂ => ?_
      · obtain ⟨ol, hol, hcl, nl, hdl⟩ := hl
        obtain ⟨ocls, odict, odata, oslots⟩ := ol
        simp only at hcl hdl
        subst hcl; subst hdl
        have hol' : (s.heap.push (emp w)).get? l = some { cls := .type "list", dict := odict, data := .seq items nl, slots := oslots } := Heap.get?_push_of_some _ hol
        have hsls := PySem.F.sub_list_set
        have hslf := PySem.F.sub_list_frozenset
        have hne : (Value.type "list" == Value.type "dict") = false := by decide
        have hl1 : (s.heap.push (emp w)).IsList l items := ⟨_, hol', rfl, nl, rfl⟩
        unfold Builtin.«set.__init__» noKeywords Builtin.Frozenset.updateFrom
        generalize hPI : pyIter = PI
        wp_walk
        subst hPI
        refine wpAny_pyIter_list hl1 ?_
        refine wpAny_bind (wpAny_runValue ?_)
        have hlS : l < s.heap.objs.size := Heap.lt_size hol
        have hh3 : A.in1.in1.in1.handled = none := by simp [hh]
        have hneI : l ≠ (s.heap.push (emp w)).objs.size := by
          rw [Heap.size_push]; exact Nat.ne_of_lt (Nat.lt_succ_of_lt hlS)
        have hSf : s.heap.objs.size ∉ [(s.heap.push (emp w)).objs.size, l] := by
          rw [Heap.size_push]; simp only [List.mem_cons, List.mem_singleton, List.not_mem_nil, or_false, not_or]
          exact ⟨Nat.ne_of_lt (Nat.lt_succ_self _), Nat.ne_of_gt hlS⟩
        refine set_update_strs ((Walks.list hh3 _ l hneI items).toS) s.heap.objs.size
          hSf ns hisz (fun i v hv => str_at hit i v hv) (items.size - 0) 0 _ [] (by omega) (Nat.zero_le _)
          ⟨⟨_, Heap.get?_push_size _ rfl, rfl, rfl⟩, (hl1.push _)⟩ (emp_is (Heap.get?_push_of_some _ hS)) (by simp only [List.length_nil]; omega) ?hR
        case hR =>
          intro s' hm hS'
          obtain ⟨h', g2, d', tk', os'⟩ := s'
          have eg : g2 = s.gens := hm.gens
          have ed : d' = s.drawn := hm.drawn
          have eo : os' = s.os := hm.os
          subst eg; subst ed; subst eo
          show wpAny _ _ _ _ _ _
          refine wpAny_pure ?_
          show wpAny _ _ (ret Value.none) _ _ _
          refine wpAny_pure ⟨rfl, h', tk', rfl, hS', fun b o e => ?_⟩
          have hb0 : b < s.heap.objs.size := Heap.lt_size e
          have hb1 : b ≠ s.heap.objs.size := Nat.ne_of_lt hb0
          have hb2 : b ≠ (s.heap.push (emp w)).objs.size := by
            rw [Heap.size_push]; exact Nat.ne_of_lt (Nat.lt_succ_of_lt hb0)
          exact hm.heap b o (by simp only [List.mem_cons, List.mem_singleton, List.not_mem_nil, or_false, not_or]; exact ⟨hb1, hb2⟩) (Heap.get?_push_of_some _ (Heap.get?_push_of_some _ e))
      · cases r₂ with
        | error e => exact hr₂
        | ok fl₂ =>
          cases fl₂ with
          | ret r =>
            obtain ⟨rfl, h', tk, rfl, q1, q2⟩ := hr₂
            repeat (any_goals (first | assumption | wp_step))
            exact h h' tk q1 q2
          | _ => exact hr₂.elim
    | _ => exact hr.elim
end
end St
end

section
set_option linter.all false
set_option Elab.async false
set_option maxRecDepth 100000
set_option maxHeartbeats 3200000
/-! St2: sorted(s), s a set of texts. -/
namespace St
open PySem PySem.Spec PyProof.Rows L2 PySem.Froz
section
variable {P : Program} {w : World} {A : Around} {E : Value → Shared → Prop} {s : Shared}
theorem strs_is : ∀ vs : List Value, (∀ v ∈ vs, ∃ k t, v = .str k t) → ∃ ms, StrsAre vs ms
  | [], _ => ⟨[], .nil⟩
  | v :: vs, h => by
    obtain ⟨k, t, rfl⟩ := h v List.mem_cons_self
    obtain ⟨ms, q⟩ := strs_is vs fun u hu => h u (List.mem_cons_of_mem _ hu)
    exact ⟨k :: ms, .cons _ _ q⟩
theorem strs_mem {vs : List Value} {ms : List Str} (h : StrsAre vs ms) (k : Str) : k ∈ ms ↔ ∃ v ∈ vs, (strKind P w).is k v = true := by
  induction h with
  | nil => simp
  | cons n t hr ih =>
    constructor
    · intro q
      rcases List.mem_cons.mp q with q | q
      · subst q
        exact ⟨_, List.mem_cons_self, is_str _ _⟩
      · obtain ⟨v, hv, q⟩ := ih.mp q
        exact ⟨v, List.mem_cons_of_mem _ hv, q⟩
    · rintro ⟨v, hv, q⟩
      rcases List.mem_cons.mp hv with e | e
      · subst e
        rw [(strKind P w).inj (.str n t) k n q (is_str _ _)]
        exact List.mem_cons_self
      · exact List.mem_cons_of_mem _ (ih.mpr ⟨v, e, q⟩)
theorem perm_of {l ms : List Str} (nd : l.Nodup) (h : ∀ k, k ∈ l → k ∈ ms) (hl : ms.length = l.length) : l.Perm ms := by
  induction l generalizing ms with
  | nil =>
    cases ms with
    | nil => exact .nil
    | cons _ _ => simp at hl
  | cons k l ih =>
    have hk := h k List.mem_cons_self
    rw [List.nodup_cons] at nd
    refine (List.Perm.cons k (ih (ms := ms.erase k) nd.2 (fun j hj => ?_) ?_)).trans (List.perm_cons_erase hk).symm
    · have ne : j ≠ k := fun e => nd.1 (by rw [← e]; exact hj)
      exact (List.mem_erase_of_ne ne).mpr (h j (List.mem_cons_of_mem _ hj))
    · rw [List.length_erase_of_mem hk, hl, List.length_cons]
      rfl
theorem sorted_setS {a : Addr} {l : List Str} {Q : Value → Shared → Prop} (R : SetRS P w s.heap a l) (nd : l.Nodup) (hh : A.handled = none) (h64 : l.length < 64)
    (hQ : ∀ s' p (out : List Value) (c : Nat) (ys : List Str), (∀ b o, s.heap.get? b = some o → s'.heap.get? b = some o) → s'.gens = s.gens → s'.os = s.os → s.heap.objs.size ≤ p →
      s'.heap.get? p = some (seqObj "list" out.toArray c) → StrsAre out ys → ys.Perm l → sortedS ys = true → Q (.ref p) s') :
    wpAny (model P w) A (call (.builtin "sorted") [.ref a]) Q E s := by
  obtain ⟨D, ho, F, hr, hl⟩ := R
  obtain ⟨es, ep, t⟩ := D
  have hsz : es.size = l.length := F.sz
  refine Calls.call_function_entry PyProof.Rows.kind_sorted PyProof.Rows.plain_sorted PyProof.Rows.entry_sorted (PyProof.Rows.args_sorted1 _) ?_
  unfold Builtin.«sorted»
  refine wpAny_bind (m := checkCount "sorted" 1 1 _) (wpAny_pure ?_)
  refine wpAny_bind (collect_set (A := A.in1) (es := es) (ep := ep) (t := t) hh ⟨_, ho, rfl, rfl⟩ F.fit (by unfold scanBound; omega) hr hl fun s1 vs k1 hz g1 o1 pm => ?_)
  have hvl : vs.length = l.length := by rw [pm.length_eq, List.length_map, Array.length_toList]; exact hsz
  obtain ⟨ms, hS⟩ := strs_is vs fun v hv => by
    obtain ⟨e, he, q⟩ := List.mem_map.mp (pm.mem_iff.mp hv)
    obtain ⟨⟨k, hk, _⟩, _⟩ := F.el e he
    rw [← q]
    obtain ⟨t, e2⟩ := Value.isStrOf_shape (x := k) (v := e.2) hk
    exact ⟨k, t, e2⟩
  have hml : ms.length = l.length := by rw [← StrsAre.len_eq hS, hvl]
  have hmem : ∀ k, k ∈ l → k ∈ ms := fun k hk => by
    obtain ⟨e, he, q⟩ := (F.mem k).mp hk
    exact (strs_mem (P := P) (w := w) hS k).mpr ⟨e.2, pm.mem_iff.mpr (List.mem_map.mpr ⟨e, he, rfl⟩), q⟩
  have pl : l.Perm ms := perm_of nd hmem hml
  refine wpAny_bind (wpAny_newList ?_ (by rw [hvl, sizeLine_eq]; omega))
  have hoL : (s1.heap.push (seqObj "list" vs.toArray 0)).get? s1.heap.objs.size = some (seqObj "list" vs.toArray 0) := Heap.get?_push_size _ rfl
  refine wpAny_bind (wpAny_holding (wpAny_call_entry PyProof.Rows.slot_list_sort ⟨_, hoL, rfl⟩ PyProof.Rows.entry_list_sort
    (list_sort_treeK strKind_oneLt (s := { s1 with heap := s1.heap.push (seqObj "list" vs.toArray 0) }) hoL hS.keysOf (fun v₁ v₂ rest e => keyKind_strs (by rw [← e]; exact hS)) (by rw [hvl]; exact h64) fun st' hp hs => ⟨_, rfl, ?_⟩)
    (PyProof.Rows.args_list_sort _)))
  obtain ⟨ys, q1, q2, q3⟩ := sorted_out_str hS hp hs
  obtain ⟨e', he'⟩ := PyProof.Rows.sortedHeap_at (vs := vs) (out := (arrOf st').map (·.2)) hoL
  refine wpAny_pure ⟨_, rfl, hQ _ s1.heap.objs.size ((arrOf st').map (·.2)).toList e' ys (fun b u e => ?_) g1 o1 hz (by rw [Array.toArray_toList]; exact he') q1 (q2.trans pl.symm) q3⟩
  have q := k1 b u e
  have hlt := Heap.lt_size q
  show (sortedHeap (s1.heap.push (seqObj "list" vs.toArray 0)) s1.heap.objs.size vs _).get? b = some u
  rw [PyProof.Rows.sortedHeap_old (Nat.ne_of_lt hlt) (by rw [size_push']; exact Nat.lt_succ_of_lt hlt)]
  exact Heap.get?_push_of_some _ q
end
end St
end

section
set_option linter.all false
set_option Elab.async false
set_option maxRecDepth 100000
set_option maxHeartbeats 1000000
/-! Sim18: sorted(set(texts)). -/
namespace Sim
open PySem PySem.Spec PyProof.Rows L2
theorem addAll_nodup : ∀ (r l : List Str), l.Nodup → (St.addAll l r).Nodup
  | [], _, h => h
  | k :: r, l, h => by
    refine addAll_nodup r _ ?_
    split
    · exact h
    · rename_i c
      exact List.nodup_cons.mpr ⟨c, h⟩
theorem addAll_len : ∀ (r l : List Str), (St.addAll l r).length ≤ l.length + r.length
  | [], _ => Nat.le_refl _
  | k :: r, l => by
    have h := addAll_len r (if k ∈ l then l else k :: l)
    have h2 := St.add_len l k
    show (St.addAll (if k ∈ l then l else k :: l) r).length ≤ _
    rw [List.length_cons]
    omega
theorem dd_toS : ∀ (r l : List Mir.Cs), St.addAll (l.map toS) (r.map toS) = (Mir.dd l r).map toS
  | [], _ => rfl
  | k :: r, l => by
    have e : (toS k ∈ l.map toS) ↔ k ∈ l := ⟨fun h => by
      obtain ⟨j, hj, q⟩ := List.mem_map.mp h
      rw [← toS_inj q]
      exact hj, fun h => List.mem_map.mpr ⟨k, h, rfl⟩⟩
    show St.addAll (if toS k ∈ l.map toS then l.map toS else toS k :: l.map toS) (r.map toS) = (Mir.dd (if k ∈ l then l else k :: l) r).map toS
    rw [← dd_toS r]
    congr 1
    by_cases c : k ∈ l
    · rw [if_pos c, if_pos (e.mpr c)]
    · rw [if_neg c, if_neg fun h => c (e.mp h)]
      rfl
theorem dd_mem : ∀ (r l : List Mir.Cs) (k : Mir.Cs), k ∈ Mir.dd l r → k ∈ l ∨ k ∈ r
  | [], _, _, h => .inl h
  | x :: r, l, k, h => by
    rcases dd_mem r _ k h with q | q
    · split at q
      · exact .inl q
      · rcases List.mem_cons.mp q with q | q
        · exact .inr (q ▸ List.mem_cons_self)
        · exact .inl q
    · exact .inr (List.mem_cons_of_mem _ q)
section
variable {Γ : Gam} {X : Cx} {W : WX} {a : Expr} {fa : Mir.E} {p p2 pos q : Pos}
theorem slSortSet (hK : X.K = Γ.K) (hc : X.calm = true) (hg : Gl X "sorted") (hm : X.mg "sorted" = none) (hg2 : Gl X "set") (hm2 : X.mg "set" = none) (ha : SimE Γ X W a fa)
    (na : starEach [a] X.env = (false, eval a X.env) :: starEach [] X.env := by rfl) (na2 : starEach [.Call (.Name "set" p2) [a] [] q] X.env = (false, eval (.Call (.Name "set" p2) [a] [] q) X.env) :: starEach [] X.env := by rfl) :
    SimL Γ X W (.Call (.Name "sorted" p) [.Call (.Name "set" p2) [a] [] q] [] pos) (Mir.lB Mir.bSortSet (Mir.esCons fa Mir.esNil)) := by
  have pe : PE X (.Call (.Name "sorted" p) [.Call (.Name "set" p2) [a] [] q] [] pos) (fun σ H Q => rdE Γ W fa σ H fun x H1 => ∃ (l : Addr) (ns : List Str), x = .ref l ∧ SqL X.K H1 l (ns.map V.str) ∧ ns.length < 64 ∧
      ∀ ys p, ys.Perm (St.addAll [] ns) → sortedS ys = true → H1 p = none → Q (.ref p) (upd H1 p (.lst (ys.map V.str)))) := by
    refine ⟨fun pins s σ H Q I h => ?_⟩
    refine Call_ (ld_blt I hg hm (show bootBuiltins "sorted" = some (.builtin "sorted") by decide +kernel) ?_)
    refine PyProof.Rows.callWith_builtin1 (PyProof.Rows.args_cons ?_ na2) na2 rfl
    refine Call_ (ld_blt I hg2 hm2 boot_set ?_)
    refine PyProof.Rows.callWith_type1 (PyProof.Rows.args_cons (thn (ha.run pins s σ H _ I h) fun v s1 ⟨x, H1, I1, r1, q1⟩ => PyProof.Rows.args_nil ?_) na) na rfl
    obtain ⟨l, ns, rfl, hq, h64, q1⟩ := q1
    cases r1
    obtain ⟨its, r, pl, hz⟩ := I1.list hq
    refine St.call_set_strs (I1.ok.hd hc) pl.isList (by simpa using r.strs) (by unfold scanBound; omega) fun h' tk R hk => PyProof.Rows.args_nil ?_
    have I2 : L2.Inv X pins σ H1 { s1 with heap := h', toks := tk } := I1.kept hk
    have hl := addAll_len ns []
    rw [List.length_nil] at hl
    refine St.sorted_setS (s := { s1 with heap := h', toks := tk }) R (addAll_nodup ns [] List.nodup_nil) (I1.ok.hd hc) (by omega) fun s' p' out c ys k g o hp hob hS pm st => ?_
    have hlen : (ys.map V.str).length ≤ sizeLine := by
      have := pm.length_eq
      rw [List.length_map, sizeLine_eq]
      omega
    have hn : H1 p' = none := I2.hok.fresh hp
    have J : L2.Inv X pins σ (upd H1 p' (.lst (ys.map V.str))) { ({ s1 with heap := h', toks := tk } : Shared) with heap := s'.heap, gens := s'.gens, drawn := s'.drawn, toks := s'.toks } :=
      I2.call (ch := []) (Un.laid k hp hn) (I2.hok.laid k hp ⟨hlen, out, c, vals_of_strs hS, hob⟩) (by rw [g]; exact I2.bare) (fun _ z => nomatch z)
    have e : s' = { ({ s1 with heap := h', toks := tk } : Shared) with heap := s'.heap, gens := s'.gens, drawn := s'.drawn, toks := s'.toks } := by
      cases s'
      cases s1
      cases o
      rfl
    rw [e]
    exact ⟨.ref p', _, J, rfl, q1 ys p' pm st hn⟩
  refine weakE pe fun σ H Q ⟨G, env, h, rh, re, q⟩ => ?_
  have q' : okR Γ W σ G h H ((fa env h).bind fun x h1 => Mir.lO h1 (Mir.bSortSet h1 [x])) fun xs h' G' H' => ∀ p vs, H' p = some (.lst vs) → H p = none → ¬ G'.Z p → (∀ i, i < h'.length → p ≠ G'.ρ i) → RVs Γ G' h'.length H' vs xs → Q (.ref p) H' := by
    have : Mir.lB Mir.bSortSet (Mir.esCons fa Mir.esNil) env h = (fa env h).bind fun x h1 => Mir.lO h1 (Mir.bSortSet h1 [x]) := by
      unfold Mir.lB Mir.esCons Mir.esNil
      cases fa env h <;> rfl
    rw [this] at q
    exact q
  refine run1 rh re q' fun x h1 G1 H1 v e1 rh1 re1 rv q1 => ?_
  obtain ⟨ys, ey, q2⟩ := lO_ok q1
  unfold Mir.bSortSet at ey
  simp only at ey
  split at ey
  · rename_i ss es
    split at ey
    · rename_i hl
      cases ey
      obtain ⟨o, vs, rfl, hp, rs⟩ : ∃ p vs, v = .ref p ∧ SqL Γ.K H1 p vs ∧ vs = (ss.map toS).map V.str := by
        cases o : Mir.asL h1 x with
        | none => rw [o] at es; cases es
        | some xs =>
          rw [o] at es
          obtain ⟨p, vs, rfl, hp, rs⟩ := asL_at rh1 rv o
          exact ⟨p, vs, rfl, SqL.of hp, (strs_of rs es).1⟩
      have hv : ∀ s ∈ ss, s.all (· < 0x110000) = true := by
        cases o : Mir.asL h1 x with
        | none => rw [o] at es; cases es
        | some xs =>
          rw [o] at es
          obtain ⟨p, vs, _, hp, rs⟩ := asL_at rh1 rv o
          exact (strs_of rs es).2
      subst rs
      refine ⟨_, ss.map toS, rfl, hK ▸ hp, by rw [List.length_map]; exact hl, fun ys p2 pm st hn => ?_⟩
      rw [show ([] : List Str) = ([] : List Mir.Cs).map toS from rfl, dd_toS] at pm
      rw [leS_eq pm st]
      refine lay_to e1 rh1 (RVs.of_strs _ fun s hs => ?_) q2 p2 hn
      have := (srt_perm Mir.leS (Mir.dd [] ss)).mem_iff.mp hs
      rcases dd_mem ss [] s this with z | z
      · simp at z
      · exact hv s z
    · cases ey
  · cases ey
end
end Sim
end

section
set_option linter.all false
set_option maxRecDepth 100000
namespace K01
open Mir Sim
def m_is_between : PFn := defP 3 3 (sRet (eAnd (eUnH (fun h x => bIsi "int" h [x]) (eV 0)) (eAnd (eNot (eUnH (fun h x => bIsi "bool" h [x]) (eV 0))) (eChain vLe vLe (eV 1) (eV 0) (eV 2)))))
theorem pf_is_between : PureFn 3 m_is_between := defP_pure _ _ _
def m_is_key : PFn := defP 1 2 (sRet (eAnd (eUnH (fun h x => bIsi "str" h [x]) (eV 0)) (eAnd (eChain vLe vLe (eC (.int 1)) (eB bLen (esCons (eV 0) esNil)) (eC (.int 8))) (eB bAll (esCons (fL (lC [1] (iStr (eV 0)) (gN 1) tYes (eOpH vInB (eV 1) (eC (.str [97, 98, 99, 100, 101, 102, 103, 104, 105, 106, 107, 108, 109, 110, 111, 112, 113, 114, 115, 116, 117, 118, 119, 120, 121, 122]))))) esNil)))))
theorem pf_is_key : PureFn 1 m_is_key := defP_pure _ _ _
def m_is_moment : PFn := defP 1 1 (sRet (eP m_is_between (esCons (eV 0) (esCons (eC (.int 0)) (esCons (eC (.int 999999)) esNil)))))
theorem pf_is_moment : PureFn 1 m_is_moment := defP_pure _ _ _
def m_is_worth_of : PFn := defP 2 2 (sRet (eAnd (eUnH (fun h x => bIsi "tuple" h [x]) (eV 0)) (eAnd (eOpH vEq (eB bLen (esCons (eV 0) esNil)) (eC (.int 2))) (eAnd (eP m_is_key (esCons (eOpH vIx (eV 0) (eC (.int 0))) esNil)) (eP m_is_between (esCons (eOpH vIx (eV 0) (eC (.int 1))) (esCons (eV 1) (esCons (eC (.int 999999)) esNil))))))))
theorem pf_is_worth_of : PureFn 2 m_is_worth_of := defP_pure _ _ _
def m_are_rising : PFn := defP 1 3 (sRet (eB bAll (esCons (fL (lC [1, 2] (iZipS (esCons (fL (lSl (eV 0) oN (oE (eUn vNeg (eC (.int 1)))))) (esCons (fL (lSl (eV 0) (oE (eC (.int 1))) oN)) esNil))) (gT [(gN 1), (gN 2)]) tYes (eOp vLt (eV 1) (eV 2)))) esNil)))
theorem pf_are_rising : PureFn 1 m_are_rising := defP_pure _ _ _
def m_are_worths : PFn := defP 2 5 (sSeq (sIf (tOr (tNot (tV (eUnH (fun h x => bIsi "tuple" h [x]) (eV 0)))) (tOr (tV (eOp vGt (eB bLen (esCons (eV 0) esNil)) (eC (.int 4)))) (tNot (tV (eB bAll (esCons (fL (lC [2] (iFast (eV 0)) (gN 2) tYes (eP m_is_worth_of (esCons (eV 2) (esCons (eV 1) esNil))))) esNil)))))) (sRet (eC (.bl false))) sNil) (sRet (eP m_are_rising (esCons (fL (lC [3, 4] (iFast (eV 0)) (gT [(gN 3), (gN 4)]) tYes (eV 3))) esNil))))
theorem pf_are_worths : PureFn 2 m_are_worths := defP_pure _ _ _
def m_are_reads : PFn := defP 1 1 (sRet (eP m_are_worths (esCons (eV 0) (esCons (eC (.int 0)) esNil))))
theorem pf_are_reads : PureFn 1 m_are_reads := defP_pure _ _ _
def m_are_writes : PFn := defP 1 1 (sRet (eP m_are_worths (esCons (eV 0) (esCons (eC (.int 1)) esNil))))
theorem pf_are_writes : PureFn 1 m_are_writes := defP_pure _ _ _
def m_is_dealing : PFn := defP 1 6 (sSeq (sIf (tOr (tNot (tV (eUnH (fun h x => bIsi "tuple" h [x]) (eV 0)))) (tV (eOpH vNe (eB bLen (esCons (eV 0) esNil)) (eC (.int 5))))) (sRet (eC (.bl false))) sNil) (sSeq (sAsg (gT [(gN 1), (gN 2), (gN 3), (gN 4), (gN 5)]) (eV 0)) (sSeq (sIf (tOr (tNot (tV (eP m_is_between (esCons (eV 1) (esCons (eC (.int 0)) (esCons (eC (.int 7)) esNil)))))) (tOr (tNot (tV (eP m_is_moment (esCons (eV 2) esNil)))) (tOr (tNot (tV (eP m_are_reads (esCons (eV 4) esNil)))) (tNot (tV (eP m_are_writes (esCons (eV 5) esNil))))))) (sRet (eC (.bl false))) sNil) (sSeq (sIf (tV (eOp vIs (eV 3) (eC .non))) (sRet (eOpH vEqE (eV 4) (eTup esNil))) sNil) (sRet (eAnd (eP m_is_moment (esCons (eV 3) esNil)) (eOp vLt (eV 2) (eV 3))))))))
theorem pf_is_dealing : PureFn 1 m_is_dealing := defP_pure _ _ _
def m__law_deck : Fn := defA 1 2 (sSeq (sAsg (gN 1) (aL (lB bList (esCons (fL (lSl (eV 0) oN (oE (eC (.int 63))))) esNil)))) (sRet (aL (lLst (esCons (eV 1) (esCons (eOpH vAdd (eC (.int 130043)) (eOp vMod (eB bSum (esCons (eV 1) esNil)) (eC (.int 2147483579)))) (esCons (eC (.int 0)) esNil)))))))
theorem pf__law_deck : LenFn 1 m__law_deck := defA_len _ _ _
def m__law_draw : Fn := defA 2 5 (sSeq (sPut setL (eV 0) (eC (.int 2)) (eOpH vAdd (eOpH vIx (eV 0) (eC (.int 2))) (eC (.int 1)))) (sSeq (sAsg (gN 2) (eOpH vIx (eV 0) (eC (.int 0)))) (sSeq (sAsg (gN 3) (eOpH vIx (eV 0) (eC (.int 1)))) (sSeq (sIf (tV (eOpH vNeE (eV 2) (fL (lLst esNil)))) (sSeq (sAsg (gN 3) (eM tyL mPopAt (eV 2) (esCons (eC (.int 0)) esNil))) (sSeq (sIf (tV (eOp vGe (eV 3) (eOp vPow (eC (.int 10)) (eC (.int 18))))) (sSeq (sE (eM tyL mInsert (eV 2) (esCons (eC (.int 0)) (esCons (eOp vDiv (eV 3) (eV 1)) esNil)))) (sRet (eOp vMod (eV 3) (eV 1)))) sNil) (sAsg (gN 3) (eOpH vAdd (eV 3) (eOpH vIx (eV 0) (eC (.int 1))))))) sNil) (sSeq (sAsg (gN 4) (eOp vMod (eOpH vAdd (eOpH vAdd (eOp vMul (eOp vMod (eV 3) (eC (.int 2147483629))) (eC (.int 48271))) (eOp vMul (eC (.int 6997)) (eOpH vIx (eV 0) (eC (.int 2))))) (eC (.int 17))) (eC (.int 2147483647)))) (sSeq (sAsg (gN 4) (eOp vMod (eOpH vAdd (eOpH vAdd (eOp vMul (eV 4) (eV 4)) (eOp vMul (eC (.int 69621)) (eV 4))) (eOpH vIx (eV 0) (eC (.int 2)))) (eC (.int 2147483587)))) (sSeq (sPut setL (eV 0) (eC (.int 1)) (eV 4)) (sRet (eOp vMod (eOp vDiv (eOp vMod (eOp vMul (eV 4) (eOpH vAdd (eV 4) (eC (.int 40692)))) (eC (.int 2147483563))) (eC (.int 64))) (eV 1))))))))))
theorem pf__law_draw : LenFn 2 m__law_draw := defA_len _ _ _
def m__law_keys : Fn := defS 2 11 (sSeq (sAsg (gN 2) (eC (.str [97, 98, 99, 100, 101, 102, 103, 104, 105, 106, 107, 108, 109, 110, 111, 112, 113, 114, 115, 116, 117, 118, 119, 120, 121, 122]))) (sSeq (sAsg (gN 3) (eF m__law_draw (esCons (eV 0) (esCons (eC (.int 3)) esNil)))) (sSeq (sAsg (gN 4) (eF m__law_draw (esCons (eV 0) (esCons (eC (.int 26)) esNil)))) (sSeq (sAsg (gN 5) (eM tyS mJoin (eC (.str [])) (esCons (fL (lC [9] (iRange1 (eC (.int 8))) (gN 9) tYes (eOpH vIx (eV 2) (eF m__law_draw (esCons (eV 0) (esCons (eC (.int 26)) esNil)))))) esNil))) (sSeq (sAsg (gN 6) (eOpH vAdd (eC (.int 1)) (eF m__law_draw (esCons (eV 0) (esCons (eC (.int 8)) esNil))))) (sSeq (sAsg (gN 7) (eF m__law_draw (esCons (eV 0) (esCons (eV 6) esNil)))) (sSeq (sIf (tV (eOpH vEq (eV 3) (eC (.int 0)))) (sRet (fL (lC [9] (iRange1 (eV 1)) (gN 9) tYes (eSl (eV 5) oN (oE (eOpH vAdd (eC (.int 1)) (eV 9))))))) sNil) (sSeq (sAsg (gN 8) (aL (lLst esNil))) (sSeq (sFor (iRange1 (eV 1)) (gN 9) (sSeq (sAsg (gN 10) (eOpH vIx (eV 2) (eOp vMod (eOpH vAdd (eV 4) (eOp vMul (eC (.int 7)) (eV 9))) (eC (.int 26))))) (sE (eM tyL mAppend (eV 8) (esCons (eOpH vAdd (eOpH vAdd (eSl (eV 5) oN (oE (eV 7))) (eV 10)) (eSl (eV 5) (oE (eOpH vAdd (eV 7) (eC (.int 1)))) (oE (eV 6)))) esNil))))) (sRet (fL (lB bSorted (esCons (eV 8) esNil)))))))))))))
theorem pf__law_keys : LenFn 2 m__law_keys := defS_len _ _ _
def m__law_worths : Fn := defS 3 5 (sSeq (sAsg (gN 3) (aL (lLst esNil))) (sSeq (sFor (iFast (fL (lB bSortedD (esCons (eV 1) esNil)))) (gN 4) (sIf (tV (eOp vLt (eF m__law_draw (esCons (eV 0) (esCons (eC (.int 3)) esNil))) (eV 2))) (sE (eM tyL mAppend (eV 3) (esCons (eTup (esCons (eV 4) (esCons (eOpH vIx (eOpH vGet (eV 1) (eV 4)) (eF m__law_draw (esCons (eV 0) (esCons (eB bLen (esCons (eOpH vGet (eV 1) (eV 4)) esNil)) esNil)))) esNil))) esNil))) sNil)) (sRet (eB bTuple (esCons (eV 3) esNil)))))
theorem pf__law_worths : LenFn 3 m__law_worths := defS_len _ _ _
def m__law_begun : Fn := defS 5 8 (sSeq (sAsg (gN 5) (aL (lLst esNil))) (sSeq (sFor (iFast (fL (lB bSortedD (esCons (eV 3) esNil)))) (gN 6) (sIf (tV (eOp vLt (eF m__law_draw (esCons (eV 0) (esCons (eC (.int 3)) esNil))) (eV 4))) (sSeq (sAsg (gN 7) (eOpH vAdd (eB bMax (esCons (eOpH vGet (eV 3) (eV 6)) esNil)) (eOpH vIx (fL (lLst (esCons (eC (.int 1)) (esCons (eOpH vAdd (eC (.int 1)) (eF m__law_draw (esCons (eV 0) (esCons (eC (.int 9)) esNil)))) (esCons (eC (.int 90)) esNil))))) (eF m__law_draw (esCons (eV 0) (esCons (eC (.int 3)) esNil)))))) (sSeq (sE (eM tyL mAppend (eOpH vGet (eV 3) (eV 6)) (esCons (eV 7) esNil))) (sE (eM tyL mAppend (eV 5) (esCons (eTup (esCons (eV 6) (esCons (eV 7) esNil))) esNil))))) sNil)) (sRet (eTup (esCons (eV 1) (esCons (eV 2) (esCons (eC .non) (esCons (eTup esNil) (esCons (eB bTuple (esCons (eV 5) esNil)) esNil)))))))))
theorem pf__law_begun : LenFn 5 m__law_begun := defS_len _ _ _
def m__law_dealings : Fn := defS 3 18 (sSeq (sAsg (gT [(gN 3), (gN 4)]) (eTup (esCons (eF m__law_draw (esCons (eV 0) (esCons (eC (.int 8)) esNil))) (esCons (eOpH vIx (fL (lLst (esCons (eC (.int 1)) (esCons (eC (.int 3)) esNil)))) (eF m__law_draw (esCons (eV 0) (esCons (eC (.int 2)) esNil)))) esNil)))) (sSeq (sAsg (gN 5) (fL (lC [15] (iRange1 (eOpH vAdd (eC (.int 1)) (eF m__law_draw (esCons (eV 0) (esCons (eC (.int 8)) esNil))))) (gN 15) tYes (eOp vMod (eOpH vAdd (eV 3) (eOp vMul (eV 4) (eV 15))) (eC (.int 8)))))) (sSeq (sAsg (gN 6) (eOpH vIx (fL (lLst (esCons (eC (.int 0)) (esCons (eC (.int 7)) (esCons (eC (.int 95)) (esCons (eC (.int 990)) (esCons (eC (.int 998000)) esNil))))))) (eF m__law_draw (esCons (eV 0) (esCons (eC (.int 5)) esNil))))) (sSeq (sAsg (gN 7) (eOpH vAdd (eC (.int 1)) (eF m__law_draw (esCons (eV 0) (esCons (eC (.int 2)) esNil))))) (sSeq (sAsg (gN 8) (aDict (fL (lC [16] (iFast (eV 2)) (gN 16) tYes (eTup (esCons (eV 16) (esCons (aL (lLst (esCons (eC (.int 0)) esNil))) esNil))))))) (sSeq (sSw2 9 10 (esCons (aL (lLst esNil)) (esCons aDK esNil))) (sSeq (sFor (iRange1 (eOpH vAdd (eOp vMul (eC (.int 2)) (eV 1)) (eC (.int 3)))) (gN 11) (sSeq (sAsg (gN 12) (eOpH vIx (eV 5) (eF m__law_draw (esCons (eV 0) (esCons (eB bLen (esCons (eV 5) esNil)) esNil))))) (sSeq (sIf (tV (eOpH vInB (eV 12) (eV 10))) (sSeq (sAsg (gN 13) (eM tyD mDPop (eV 10) (esCons (eV 12) esNil))) (sSeq (sAsg (gN 14) (eF m__law_worths (esCons (eV 0) (esCons (eV 8) (esCons (eV 7) esNil))))) (sSeq (sIf (tV (eOpH vEq (eF m__law_draw (esCons (eV 0) (esCons (eC (.int 9)) esNil))) (eC (.int 5)))) (sAsg (gN 14) (eB bTuple (esCons (fL (lC [16, 17] (iFast (eV 14)) (gT [(gN 16), (gN 17)]) tYes (eTup (esCons (eV 16) (esCons (eC (.int 999999)) esNil))))) esNil))) sNil) (sPut setL (eV 9) (eV 13) (eOpH vAdd (eOpH vAdd (eSl (eOpH vIx (eV 9) (eV 13)) oN (oE (eC (.int 2)))) (eTup (esCons (eV 6) (esCons (eV 14) esNil)))) (eSl (eOpH vIx (eV 9) (eV 13)) (oE (eC (.int 4))) oN)))))) (sIf (tV (eOp vLt (eB bLen (esCons (eV 9) esNil)) (eV 1))) (sSeq (sPut setD (eV 10) (eV 12) (eB bLen (esCons (eV 9) esNil))) (sE (eM tyL mAppend (eV 9) (esCons (eF m__law_begun (esCons (eV 0) (esCons (eV 12) (esCons (eV 6) (esCons (eV 8) (esCons (eV 7) esNil)))))) esNil)))) sNil)) (sAsg (gN 6) (eOpH vAdd (eV 6) (eOpH vIx (fL (lLst (esCons (eC (.int 1)) (esCons (eC (.int 1)) (esCons (eOpH vAdd (eC (.int 1)) (eF m__law_draw (esCons (eV 0) (esCons (eC (.int 9)) esNil)))) esNil))))) (eF m__law_draw (esCons (eV 0) (esCons (eC (.int 3)) esNil))))))))) (sRet (eB bTuple (esCons (eV 9) esNil))))))))))
theorem pf__law_dealings : LenFn 3 m__law_dealings := defS_len _ _ _
def m__law_some_dealings : Fn := defS 1 3 (sSeq (sAsg (gN 1) (eOpH vEq (eF m__law_draw (esCons (eV 0) (esCons (eC (.int 8)) esNil))) (eC (.int 5)))) (sSeq (sAsg (gN 2) (eF m__law_keys (esCons (eV 0) (esCons (eOpH vAdd (eC (.int 1)) (eF m__law_draw (esCons (eV 0) (esCons (eC (.int 4)) esNil)))) esNil)))) (sRet (eF m__law_dealings (esCons (eV 0) (esCons (eOpH vIx (fL (lLst (esCons (eF m__law_draw (esCons (eV 0) (esCons (eC (.int 9)) esNil))) (esCons (eC (.int 40)) esNil)))) (eB bInt (esCons (eV 1) esNil))) (esCons (eV 2) esNil)))))))
theorem pf__law_some_dealings : LenFn 1 m__law_some_dealings := defS_len _ _ _
def m__law_is_number : PFn := defP 3 3 (sRet (eAnd (eUnH (fun h x => bIsi "int" h [x]) (eV 0)) (eAnd (eNot (eUnH (fun h x => bIsi "bool" h [x]) (eV 0))) (eChain vLe vLe (eV 1) (eV 0) (eV 2)))))
theorem pf__law_is_number : PureFn 3 m__law_is_number := defP_pure _ _ _
def m__law_is_worth : PFn := defP 2 4 (sSeq (sIf (tOr (tNot (tV (eUnH (fun h x => bIsi "tuple" h [x]) (eV 0)))) (tOr (tV (eOpH vNe (eB bLen (esCons (eV 0) esNil)) (eC (.int 2)))) (tNot (tV (eUnH (fun h x => bIsi "str" h [x]) (eOpH vIx (eV 0) (eC (.int 0)))))))) (sRet (eC (.bl false))) sNil) (sSeq (sAsg (gN 2) (eC (.str [97, 98, 99, 100, 101, 102, 103, 104, 105, 106, 107, 108, 109, 110, 111, 112, 113, 114, 115, 116, 117, 118, 119, 120, 121, 122]))) (sSeq (sIf (tOr (tNot (tV (eChain vLe vLe (eC (.int 1)) (eB bLen (esCons (eOpH vIx (eV 0) (eC (.int 0))) esNil)) (eC (.int 8))))) (tV (eOpH vNeE (fL (lC [3] (iStr (eOpH vIx (eV 0) (eC (.int 0)))) (gN 3) (tV (eOpH vNotIn (eV 3) (eV 2))) (eV 3))) (fL (lLst esNil))))) (sRet (eC (.bl false))) sNil) (sRet (eP m__law_is_number (esCons (eOpH vIx (eV 0) (eC (.int 1))) (esCons (eV 1) (esCons (eC (.int 999999)) esNil))))))))
theorem pf__law_is_worth : PureFn 2 m__law_is_worth := defP_pure _ _ _
def m__law_are_worths : PFn := defP 2 6 (sSeq (sIf (tOr (tNot (tV (eUnH (fun h x => bIsi "tuple" h [x]) (eV 0)))) (tV (eOp vGt (eB bLen (esCons (eV 0) esNil)) (eC (.int 4))))) (sRet (eC (.bl false))) sNil) (sSeq (sIf (tV (eOpH vNeE (fL (lC [3] (iFast (eV 0)) (gN 3) (tNot (tV (eP m__law_is_worth (esCons (eV 3) (esCons (eV 1) esNil))))) (eV 3))) (fL (lLst esNil)))) (sRet (eC (.bl false))) sNil) (sSeq (sAsg (gN 2) (fL (lC [4, 5] (iFast (eV 0)) (gT [(gN 4), (gN 5)]) tYes (eV 4)))) (sRet (eOpH vEq (eV 2) (fL (lB bSortSet (esCons (eV 2) esNil))))))))
theorem pf__law_are_worths : PureFn 2 m__law_are_worths := defP_pure _ _ _
def m__law_is_dealing : PFn := defP 1 6 (sSeq (sIf (tOr (tNot (tV (eUnH (fun h x => bIsi "tuple" h [x]) (eV 0)))) (tV (eOpH vNe (eB bLen (esCons (eV 0) esNil)) (eC (.int 5))))) (sRet (eC (.bl false))) sNil) (sSeq (sAsg (gT [(gN 1), (gN 2), (gN 3), (gN 4), (gN 5)]) (eV 0)) (sSeq (sIf (tOr (tNot (tV (eP m__law_is_number (esCons (eV 1) (esCons (eC (.int 0)) (esCons (eC (.int 7)) esNil)))))) (tNot (tV (eP m__law_is_number (esCons (eV 2) (esCons (eC (.int 0)) (esCons (eC (.int 999999)) esNil))))))) (sRet (eC (.bl false))) sNil) (sSeq (sIf (tOr (tNot (tV (eP m__law_are_worths (esCons (eV 4) (esCons (eC (.int 0)) esNil))))) (tNot (tV (eP m__law_are_worths (esCons (eV 5) (esCons (eC (.int 1)) esNil)))))) (sRet (eC (.bl false))) sNil) (sSeq (sIf (tV (eOp vIs (eV 3) (eC .non))) (sRet (eOpH vEqE (eV 4) (eTup esNil))) sNil) (sRet (eAnd (eP m__law_is_number (esCons (eV 3) (esCons (eC (.int 0)) (esCons (eC (.int 999999)) esNil)))) (eOp vLt (eV 2) (eV 3)))))))))
theorem pf__law_is_dealing : PureFn 1 m__law_is_dealing := defP_pure _ _ _
def m__law_odd : Fn := defS 2 4 (sSeq (sAsg (gN 2) (fL (lLst (esCons (eC .non) (esCons (eC (.bl true)) (esCons (eC (.bl false)) (esCons (eC (.int 0)) (esCons (eC (.int 1)) (esCons (eUn vNeg (eC (.int 1))) (esCons (eC (.int 8)) (esCons (eOp vPow (eC (.int 10)) (eC (.int 6))) (esCons (eOp vPow (eC (.int 10)) (eC (.int 39))) (esCons (eC (.str [])) (esCons (eC (.str [65])) (esCons (eC (.str [97])) (esCons (eC (.str [97, 98, 99, 100, 101, 102, 103, 104, 105])) (esCons (eTup esNil) (esCons (fL (lLst esNil)) (esCons fDK esNil))))))))))))))))))) (sSeq (sAsg (gN 2) (eOpH vAdd (eV 2) (fL (lLst (esCons (eTup (esCons (eC (.str [97])) esNil)) (esCons (eTup (esCons (eC (.str [97])) (esCons (eC (.int 1)) esNil))) (esCons (eB bTuple (esCons (fL (lC [3] (iStr (eC (.str [97, 98, 99, 100, 101]))) (gN 3) tYes (eTup (esCons (eV 3) (esCons (eC (.int 1)) esNil))))) esNil)) esNil))))))) (sSeq (sAsg (gN 2) (eOpH vAdd (eV 2) (fL (lLst (esCons (fL (lLst (esCons (eV 1) esNil))) (esCons (eTup (esCons (eV 1) esNil)) (esCons (fD1 (eC (.int 0)) (eV 1)) (esCons (eTup (esCons (eV 1) (esCons (eV 1) esNil))) (esCons (eTup (esCons (eTup (esCons (eC (.str [97])) (esCons (eC (.int 1)) esNil))) esNil)) (esCons (eTup (esCons (eTup (esCons (eC (.str [98])) (esCons (eC (.int 1)) esNil))) (esCons (eTup (esCons (eC (.str [97])) (esCons (eC (.int 1)) esNil))) esNil))) (esCons (eTup (esCons (eTup (esCons (eC (.str [97])) (esCons (eC (.int 0)) esNil))) esNil)) esNil))))))))))) (sSeq (sAsg (gN 2) (eOpH vAdd (eV 2) (fL (lLst (esCons (eTup (esCons (eTup (esCons (eC (.str [97])) (esCons (eC (.int 1)) esNil))) (esCons (eTup (esCons (eC (.str [97])) (esCons (eC (.int 2)) esNil))) esNil))) (esCons (eTup (esCons (eTup (esCons (eC (.str [97])) (esCons (eC (.bl true)) esNil))) esNil)) (esCons (eTup (esCons (eTup (esCons (eC (.str [65])) (esCons (eC (.int 1)) esNil))) esNil)) (esCons (eTup (esCons (eTup (esCons (eC (.str [97])) (esCons (eOp vPow (eC (.int 10)) (eC (.int 6))) esNil))) esNil)) esNil)))))))) (sRet (eOpH vIx (eV 2) (eF m__law_draw (esCons (eV 0) (esCons (eB bLen (esCons (eV 2) esNil)) esNil)))))))))
theorem pf__law_odd : LenFn 2 m__law_odd := defS_len _ _ _
def m__law_bent : Nat → Fn
  | 0 => fun _ _ => .bad
  | d + 1 => defS 2 4 (sSeq (sIf (tAnd (tV (eUnH (fun h x => bIsi "tuple" h [x]) (eV 1))) (tAnd (tV (eOpH vNeE (eV 1) (eTup esNil))) (tV (eOp vGt (eF m__law_draw (esCons (eV 0) (esCons (eC (.int 5)) esNil))) (eC (.int 0)))))) (sSeq (sAsg (gN 2) (eF m__law_draw (esCons (eV 0) (esCons (eB bLen (esCons (eV 1) esNil)) esNil)))) (sRet (eOpH vAdd (eOpH vAdd (eSl (eV 1) oN (oE (eV 2))) (eTup (esCons (eF (m__law_bent d) (esCons (eV 0) (esCons (eOpH vIx (eV 1) (eV 2)) esNil))) esNil))) (eSl (eV 1) (oE (eOpH vAdd (eV 2) (eC (.int 1)))) oN)))) sNil) (sSeq (sAsg (gN 3) (eF m__law_draw (esCons (eV 0) (esCons (eC (.int 8)) esNil)))) (sSeq (sIf (tAnd (tV (eUnH (fun h x => bIsi "tuple" h [x]) (eV 1))) (tV (eOp vLt (eV 3) (eC (.int 5))))) (sRet (eOpH vIx (fL (lLst (esCons (fL (lB bList (esCons (eV 1) esNil))) (esCons (eOpH vAdd (eV 1) (eTup (esCons (eC (.int 0)) esNil))) (esCons (eSl (eV 1) oN (oE (eUn vNeg (eC (.int 1))))) (esCons (eUn vRevT (eV 1)) (esCons (eOpH vAdd (eV 1) (eSl (eV 1) (oE (eUn vNeg (eC (.int 1)))) oN)) esNil))))))) (eV 3))) sNil) (sSeq (sIf (tAnd (tV (eUnH (fun h x => bIsi "str" h [x]) (eV 1))) (tV (eOp vLt (eV 3) (eC (.int 4))))) (sRet (eOpH vIx (fL (lLst (esCons (eOpH vAdd (eV 1) (eC (.str [97]))) (esCons (eM tyS mUpper (eV 1) esNil) (esCons (eSl (eV 1) (oE (eC (.int 1))) oN) (esCons (eOpH vAdd (eV 1) (eC (.str [32]))) esNil)))))) (eV 3))) sNil) (sSeq (sIf (tAnd (tV (eUnH (fun h x => bIsi "int" h [x]) (eV 1))) (tV (eOp vLt (eV 3) (eC (.int 5))))) (sRet (eOpH vIx (fL (lLst (esCons (eOpH vAdd (eV 1) (eC (.int 1))) (esCons (eOp vSub (eV 1) (eC (.int 1))) (esCons (eC (.int 0)) (esCons (eOp vSub (eC (.int 0)) (eV 1)) (esCons (eOpH vEq (eV 1) (eC (.int 1))) esNil))))))) (eV 3))) sNil) (sRet (eF m__law_odd (esCons (eV 0) (esCons (eV 1) esNil)))))))))
theorem pf__law_bent : ∀ d, LenFn 2 (m__law_bent d)
  | 0 => fun _ _ h => absurd rfl h
  | d + 1 => defS_len _ _ _
def m__law_right : Fn := defS 1 2 (sSeq (sAsg (gN 1) (eB bRepr (esCons (eV 0) esNil))) (sRet (eAnd (eOpH vEq (eB bRepr (esCons (eP m_is_dealing (esCons (eV 0) esNil)) esNil)) (eB bRepr (esCons (eP m__law_is_dealing (esCons (eV 0) esNil)) esNil))) (eOpH vEq (eB bRepr (esCons (eV 0) esNil)) (eV 1)))))
theorem pf__law_right : LenFn 1 m__law_right := defS_len _ _ _
def m_law : Fn := defS 1 8 (sSeq (sAsg (gN 1) (eF m__law_deck (esCons (eV 0) esNil))) (sSeq (sAsg (gN 2) (eOpH vAdd (eF m__law_some_dealings (esCons (eV 1) esNil)) (eTup (esCons (eTup (esCons (eC (.int 7)) (esCons (eC (.int 0)) (esCons (eC .non) (esCons (eTup esNil) (esCons (eTup esNil) esNil)))))) (esCons (eTup (esCons (eC (.int 0)) (esCons (eC (.int 0)) (esCons (eC (.int 999999)) (esCons (eTup esNil) (esCons (eTup esNil) esNil)))))) esNil))))) (sSeq (sAsg (gN 3) (fL (lLst (esCons (eC .non) (esCons (eC (.bl true)) (esCons (eC (.int 0)) (esCons (eC (.str [])) (esCons (eTup esNil) (esCons (fL (lLst esNil)) (esCons fDK (esCons (eTup (esCons (eC (.int 0)) (esCons (eC (.int 1)) (esCons (eC (.int 2)) (esCons (eTup esNil) esNil))))) (esCons (eTup (esCons (eC (.int 0)) (esCons (eC (.int 1)) (esCons (eC (.int 2)) (esCons (eTup esNil) (esCons (eTup esNil) (esCons (eTup esNil) esNil))))))) (esCons (fL (lLst (esCons (eC (.int 0)) (esCons (eC (.int 1)) (esCons (eC (.int 2)) (esCons (eTup esNil) (esCons (eTup esNil) esNil))))))) esNil))))))))))))) (sSeq (sAsg (gN 3) (eOpH vAdd (eV 3) (fL (lLst (esCons (eTup (esCons (eC (.int 0)) (esCons (eC (.int 1)) (esCons (eC (.int 1)) (esCons (eTup esNil) (esCons (eTup esNil) esNil)))))) (esCons (eTup (esCons (eC (.int 0)) (esCons (eC (.int 2)) (esCons (eC (.int 1)) (esCons (eTup esNil) (esCons (eTup esNil) esNil)))))) (esCons (eTup (esCons (eC (.int 8)) (esCons (eC (.int 1)) (esCons (eC (.int 2)) (esCons (eTup esNil) (esCons (eTup esNil) esNil)))))) (esCons (eTup (esCons (eC (.int 0)) (esCons (eUn vNeg (eC (.int 1))) (esCons (eC (.int 2)) (esCons (eTup esNil) (esCons (eTup esNil) esNil)))))) esNil)))))))) (sSeq (sAsg (gN 3) (eOpH vAdd (eV 3) (fL (lLst (esCons (eTup (esCons (eC (.int 0)) (esCons (eC (.int 1)) (esCons (eOp vPow (eC (.int 10)) (eC (.int 6))) (esCons (eTup esNil) (esCons (eTup esNil) esNil)))))) (esCons (eTup (esCons (eC (.int 0)) (esCons (eC (.bl true)) (esCons (eC (.int 2)) (esCons (eTup esNil) (esCons (eTup esNil) esNil)))))) (esCons (eTup (esCons (eC (.int 0)) (esCons (eC (.int 1)) (esCons (eC .non) (esCons (eTup (esCons (eTup (esCons (eC (.str [97])) (esCons (eC (.int 0)) esNil))) esNil)) (esCons (eTup esNil) esNil)))))) esNil))))))) (sSeq (sAsg (gN 3) (eOpH vAdd (eV 3) (fL (lLst (esCons (eTup (esCons (eC (.int 0)) (esCons (eC (.int 1)) (esCons (eC (.int 2)) (esCons (eTup (esCons (eTup (esCons (eC (.str [97])) (esCons (eC (.int 0)) esNil))) esNil)) (esCons (eTup (esCons (eTup (esCons (eC (.str [97])) (esCons (eC (.int 0)) esNil))) esNil)) esNil)))))) (esCons (eTup (esCons (eC (.int 0)) (esCons (eC (.int 1)) (esCons (eC (.int 2)) (esCons (fL (lLst esNil)) (esCons (eTup esNil) esNil)))))) (esCons (eTup (esCons (eC (.int 0)) (esCons (eC (.int 1)) (esCons (eC (.int 2)) (esCons (eTup esNil) (esCons (eC .non) esNil)))))) esNil))))))) (sSeq (sAsg (gN 3) (eOpH vAdd (eV 3) (fL (lLst (esCons (eTup (esCons (eC (.int 0)) (esCons (eOp vPow (eC (.int 10)) (eC (.int 6))) (esCons (eC .non) (esCons (eTup esNil) (esCons (eTup esNil) esNil)))))) (esCons (eTup (esCons (eC (.int 0)) (esCons (eC (.int 999999)) (esCons (eC .non) (esCons (eTup esNil) (esCons (eTup esNil) esNil)))))) (esCons (eTup (esCons (eC (.int 0)) (esCons (eUn vNeg (eC (.int 1))) (esCons (eC .non) (esCons (eTup esNil) (esCons (eTup esNil) esNil)))))) (esCons (eTup (esCons (eC (.int 0)) (esCons (eC (.int 0)) (esCons (eC (.int 1)) (esCons (eTup esNil) (esCons (eTup esNil) esNil)))))) esNil)))))))) (sSeq (sFor (iFast (eSl (eV 2) oN (oE (eC (.int 12))))) (gN 4) (sSeq (sIf (tV (eOp vIsNot (eP m_is_dealing (esCons (eV 4) esNil)) (eC (.bl true)))) (sRet (eC (.bl false))) sNil) (sSeq (sFor (iRange1 (eC (.int 4))) (gN 5) (sSeq (sAsg (gN 6) (eF m__law_draw (esCons (eV 1) (esCons (eC (.int 2)) esNil)))) (sSeq (sAsg (gN 7) (eF (m__law_bent 8) (esCons (eV 1) (esCons (eV 4) esNil)))) (sSeq (sIf (tV (eOpH vEq (eV 6) (eC (.int 1)))) (sAsg (gN 7) (eF (m__law_bent 8) (esCons (eV 1) (esCons (eV 7) esNil)))) sNil) (sIf (tNot (tV (eF m__law_right (esCons (eV 7) esNil)))) (sRet (eC (.bl false))) sNil))))) (sIf (tNot (tV (eF m__law_right (esCons (eV 4) esNil)))) (sRet (eC (.bl false))) sNil)))) (sRet (eOpH vEqE (fL (lC [7] (iFast (eV 3)) (gN 7) (tNot (tV (eF m__law_right (esCons (eV 7) esNil)))) (eV 7))) (fL (lLst esNil))))))))))))
theorem pf_law : LenFn 1 m_law := defS_len _ _ _
end K01
end

section
set_option linter.all false
set_option Elab.async false
set_option maxRecDepth 100000
set_option maxHeartbeats 4000000
namespace K01
open PySem PySem.Spec PyProof.Rows L2 Sim Mir
def top (i : Nat) : Stmt := PySem.Challenge.pw_historyjudge_k01_what_are_dealings.main.body.getD i (.Pass ⟨0, 0, 0, 0⟩)
section
variable {Γ : Gam} {P : Program} {w : World} {K : PySem.W.Frag} {mg : Str → Option Value} {base : Heap}
abbrev s_is_between : Stmt := top 7
theorem sc_is_between : FnScope ["thing", "least", "most"] ["thing", "least", "most"] (defScope s_is_between) := ⟨rfl, rfl, rfl, by decide +kernel, rfl, by decide +kernel, by decide +kernel⟩
theorem bd_is_between : BindN s_is_between "is_between" ["thing", "least", "most"] := fun _ _ _ _ _ _ us hl => match us, hl with | [_, _, _], _ => rfl
theorem h_is_between (D : Def K mg "is_between" s_is_between) (hK : K = Γ.K) (b_bool : mg "bool" = none) (b_int : mg "int" = none) (b_isinstance : mg "isinstance" = none) : Has P w K mg base "is_between" 1 ["thing", "least", "most"] (spP Γ 3 m_is_between) := by
  refine hasP D bd_is_between sc_is_between rfl rfl (fun f cdv A outer s H E hr => ?_)
  have hc : (cxOf (L2.CX P w) P w K mg base ["thing", "least", "most"] "is_between" (defScope s_is_between) f cdv A outer s H E).calm = true := rfl
  have po := passes_of (X := cxOf (L2.CX P w) P w K mg base ["thing", "least", "most"] "is_between" (defScope s_is_between) f cdv A outer s H E) rfl
  have tk := takes_of (X := cxOf (L2.CX P w) P w K mg base ["thing", "least", "most"] "is_between" (defScope s_is_between) f cdv A outer s H E) rfl rfl rfl rfl
  exact (by exact sbOne (by exact ssRet (by exact sAnd (by exact sIsi hK rfl b_isinstance (by exact sV 0 (pv 0)) (by exact pe_bltn rfl b_int (by decide +kernel) rfl)) (by exact sAnd (by exact sNot (by exact sIsi hK rfl b_isinstance (by exact sV 0 (pv 0)) (by exact pe_bltn rfl b_bool (by decide +kernel) rfl))) (by exact sOne (by exact sCh oLe oLe (by exact sV 1 (pv 1)) (by exact sV 0 (pv 0)) (by exact sV 2 (pv 2))))))))
abbrev s_is_key : Stmt := top 8
theorem sc_is_key : FnScope ["thing", "sign"] ["thing"] (defScope s_is_key) := ⟨rfl, rfl, rfl, by decide +kernel, rfl, by decide +kernel, by decide +kernel⟩
theorem bd_is_key : BindN s_is_key "is_key" ["thing"] := fun _ _ _ _ _ _ us hl => match us, hl with | [_], _ => rfl
theorem h_is_key (D : Def K mg "is_key" s_is_key) (hK : K = Γ.K) (b_all : mg "all" = none) (b_isinstance : mg "isinstance" = none) (b_len : mg "len" = none) (b_str : mg "str" = none) (g_LETTERS : ∃ t, mg "LETTERS" = some (.str "abcdefghijklmnopqrstuvwxyz" t)) (g_MOST_LETTERS : ∃ t, mg "MOST_LETTERS" = some (.int 8 t)) : Has P w K mg base "is_key" 1 ["thing"] (spP Γ 1 m_is_key) := by
  refine hasP D bd_is_key sc_is_key rfl rfl (fun f cdv A outer s H E hr => ?_)
  have hc : (cxOf (L2.CX P w) P w K mg base ["thing", "sign"] "is_key" (defScope s_is_key) f cdv A outer s H E).calm = true := rfl
  have po := passes_of (X := cxOf (L2.CX P w) P w K mg base ["thing", "sign"] "is_key" (defScope s_is_key) f cdv A outer s H E) rfl
  have tk := takes_of (X := cxOf (L2.CX P w) P w K mg base ["thing", "sign"] "is_key" (defScope s_is_key) f cdv A outer s H E) rfl rfl rfl rfl
  exact (by exact sbOne (by exact ssRet (by exact sAnd (by exact sIsi hK rfl b_isinstance (by exact sV 0 (pv 0)) (by exact pe_bltn rfl b_str (by decide +kernel) rfl)) (by exact sAnd (by exact sCh oLe oLe sInt (by exact sB (cLen hK) rfl b_len (by decide +kernel) (by exact saCons (by exact sV 0 (pv 0)) saNil)) (by exact sGlI g_MOST_LETTERS rfl)) (by exact sOne (by exact sB (cAll hc) rfl b_all (by decide +kernel) (by exact saCons (by exact sF (by exact slC hc sc_is_key.nd (by exact siStr (by exact sV 0 (pv 0))) (own := [("sign", 1)]) (blk_of (by kernel_rfl)) (fun _ _ _ _ _ => (by exact sgN 1 (by exact pg_name sc_is_key.nd rfl (by first | exact Or.inl rfl | exact Or.inr rfl)))) (fun _ _ _ _ _ => stNil) (fun _ _ _ _ _ => (by exact sCmpH (oIn hK hr) (by exact sV 1 (pv 1)) (by exact sGlS g_LETTERS rfl) (by with_unfolding_all rfl))) (by decide))) saNil)))))))
abbrev s_is_moment : Stmt := top 9
theorem sc_is_moment : FnScope ["thing"] ["thing"] (defScope s_is_moment) := ⟨rfl, rfl, rfl, by decide +kernel, rfl, by decide +kernel, by decide +kernel⟩
theorem bd_is_moment : BindN s_is_moment "is_moment" ["thing"] := fun _ _ _ _ _ _ us hl => match us, hl with | [_], _ => rfl
theorem h_is_moment (D : Def K mg "is_moment" s_is_moment) (hK : K = Γ.K) (g_LAST_MOMENT : ∃ t, mg "LAST_MOMENT" = some (.int 999999 t)) (h_is_between : Has P w K mg base "is_between" 1 ["thing", "least", "most"] (spP Γ 3 m_is_between)) : Has P w K mg base "is_moment" 2 ["thing"] (spP Γ 1 m_is_moment) := by
  refine hasP D bd_is_moment sc_is_moment rfl rfl (fun f cdv A outer s H E hr => ?_)
  have hc : (cxOf (L2.CX P w) P w K mg base ["thing"] "is_moment" (defScope s_is_moment) f cdv A outer s H E).calm = true := rfl
  have po := passes_of (X := cxOf (L2.CX P w) P w K mg base ["thing"] "is_moment" (defScope s_is_moment) f cdv A outer s H E) rfl
  have tk := takes_of (X := cxOf (L2.CX P w) P w K mg base ["thing"] "is_moment" (defScope s_is_moment) f cdv A outer s H E) rfl rfl rfl rfl
  exact (by exact sbOne (by exact ssRet (by exact sPH h_is_between pf_is_between hr (by omega) rfl tk (by exact saCons (by exact sV 0 (pv 0)) (by exact saCons sInt (by exact saCons (by exact sGlI g_LAST_MOMENT rfl) saNil))))))
abbrev s_is_worth_of : Stmt := top 10
theorem sc_is_worth_of : FnScope ["thing", "least"] ["thing", "least"] (defScope s_is_worth_of) := ⟨rfl, rfl, rfl, by decide +kernel, rfl, by decide +kernel, by decide +kernel⟩
theorem bd_is_worth_of : BindN s_is_worth_of "is_worth_of" ["thing", "least"] := fun _ _ _ _ _ _ us hl => match us, hl with | [_, _], _ => rfl
theorem h_is_worth_of (D : Def K mg "is_worth_of" s_is_worth_of) (hK : K = Γ.K) (b_isinstance : mg "isinstance" = none) (b_len : mg "len" = none) (b_tuple : mg "tuple" = none) (g_MOST_WORTH : ∃ t, mg "MOST_WORTH" = some (.int 999999 t)) (h_is_between : Has P w K mg base "is_between" 1 ["thing", "least", "most"] (spP Γ 3 m_is_between)) (h_is_key : Has P w K mg base "is_key" 1 ["thing"] (spP Γ 1 m_is_key)) : Has P w K mg base "is_worth_of" 2 ["thing", "least"] (spP Γ 2 m_is_worth_of) := by
  refine hasP D bd_is_worth_of sc_is_worth_of rfl rfl (fun f cdv A outer s H E hr => ?_)
  have hc : (cxOf (L2.CX P w) P w K mg base ["thing", "least"] "is_worth_of" (defScope s_is_worth_of) f cdv A outer s H E).calm = true := rfl
  have po := passes_of (X := cxOf (L2.CX P w) P w K mg base ["thing", "least"] "is_worth_of" (defScope s_is_worth_of) f cdv A outer s H E) rfl
  have tk := takes_of (X := cxOf (L2.CX P w) P w K mg base ["thing", "least"] "is_worth_of" (defScope s_is_worth_of) f cdv A outer s H E) rfl rfl rfl rfl
  exact (by exact sbOne (by exact ssRet (by exact sAnd (by exact sIsi hK rfl b_isinstance (by exact sV 0 (pv 0)) (by exact pe_bltn rfl b_tuple (by decide +kernel) rfl)) (by exact sAnd (by exact sCmpH (oEq hK hr) (by exact sB (cLen hK) rfl b_len (by decide +kernel) (by exact saCons (by exact sV 0 (pv 0)) saNil)) sInt (nomark _)) (by exact sAnd (by exact sPH h_is_key pf_is_key hr (by omega) rfl tk (by exact saCons (by exact sIx hK (by exact sV 0 (pv 0)) sInt (fun _ _ => rfl)) saNil)) (by exact sOne (by exact sPH h_is_between pf_is_between hr (by omega) rfl tk (by exact saCons (by exact sIx hK (by exact sV 0 (pv 0)) sInt (fun _ _ => rfl)) (by exact saCons (by exact sV 1 (pv 1)) (by exact saCons (by exact sGlI g_MOST_WORTH rfl) saNil))))))))))
abbrev s_are_rising : Stmt := top 11
theorem sc_are_rising : FnScope ["texts", "one", "other"] ["texts"] (defScope s_are_rising) := ⟨rfl, rfl, rfl, by decide +kernel, rfl, by decide +kernel, by decide +kernel⟩
theorem bd_are_rising : BindN s_are_rising "are_rising" ["texts"] := fun _ _ _ _ _ _ us hl => match us, hl with | [_], _ => rfl
theorem h_are_rising (D : Def K mg "are_rising" s_are_rising) (hK : K = Γ.K) (b_all : mg "all" = none) (b_zip : mg "zip" = none) : Has P w K mg base "are_rising" 1 ["texts"] (spP Γ 1 m_are_rising) := by
  refine hasP D bd_are_rising sc_are_rising rfl rfl (fun f cdv A outer s H E hr => ?_)
  have hc : (cxOf (L2.CX P w) P w K mg base ["texts", "one", "other"] "are_rising" (defScope s_are_rising) f cdv A outer s H E).calm = true := rfl
  have po := passes_of (X := cxOf (L2.CX P w) P w K mg base ["texts", "one", "other"] "are_rising" (defScope s_are_rising) f cdv A outer s H E) rfl
  have tk := takes_of (X := cxOf (L2.CX P w) P w K mg base ["texts", "one", "other"] "are_rising" (defScope s_are_rising) f cdv A outer s H E) rfl rfl rfl rfl
  exact (by exact sbOne (by exact ssRet (by exact sB (cAll hc) rfl b_all (by decide +kernel) (by exact saCons (by exact sF (by exact slC hc sc_are_rising.nd (by exact siZipS hK rfl b_zip (by exact saCons (by exact sF (by exact slSl hK (by exact sV 0 (pv 0)) soN (by exact soE (by exact sNeg sInt)))) (by exact saCons (by exact sF (by exact slSl hK (by exact sV 0 (pv 0)) (by exact soE sInt) soN)) saNil))) (own := [("one", 1), ("other", 2)]) (blk_of (by kernel_rfl)) (fun _ _ _ _ _ => (by exact sgT hK hc (by exact sgCons (by exact sgN 1 (by exact pg_name sc_are_rising.nd rfl (by first | exact Or.inl rfl | exact Or.inr rfl))) (by exact sgCons (by exact sgN 2 (by exact pg_name sc_are_rising.nd rfl (by first | exact Or.inl rfl | exact Or.inr rfl))) sgNil)))) (fun _ _ _ _ _ => stNil) (fun _ _ _ _ _ => (by exact sCmp oLt (by exact sV 1 (pv 1)) (by exact sV 2 (pv 2)) (nomark _))) (by decide))) saNil))))
abbrev s_are_worths : Stmt := top 12
theorem sc_are_worths : FnScope ["thing", "least", "one", "key", "worth"] ["thing", "least"] (defScope s_are_worths) := ⟨rfl, rfl, rfl, by decide +kernel, rfl, by decide +kernel, by decide +kernel⟩
theorem bd_are_worths : BindN s_are_worths "are_worths" ["thing", "least"] := fun _ _ _ _ _ _ us hl => match us, hl with | [_, _], _ => rfl
theorem h_are_worths (D : Def K mg "are_worths" s_are_worths) (hK : K = Γ.K) (b_all : mg "all" = none) (b_isinstance : mg "isinstance" = none) (b_len : mg "len" = none) (b_tuple : mg "tuple" = none) (g_MOST_KEYS : ∃ t, mg "MOST_KEYS" = some (.int 4 t)) (h_are_rising : Has P w K mg base "are_rising" 1 ["texts"] (spP Γ 1 m_are_rising)) (h_is_worth_of : Has P w K mg base "is_worth_of" 2 ["thing", "least"] (spP Γ 2 m_is_worth_of)) : Has P w K mg base "are_worths" 3 ["thing", "least"] (spP Γ 2 m_are_worths) := by
  refine hasP D bd_are_worths sc_are_worths rfl rfl (fun f cdv A outer s H E hr => ?_)
  have hc : (cxOf (L2.CX P w) P w K mg base ["thing", "least", "one", "key", "worth"] "are_worths" (defScope s_are_worths) f cdv A outer s H E).calm = true := rfl
  have po := passes_of (X := cxOf (L2.CX P w) P w K mg base ["thing", "least", "one", "key", "worth"] "are_worths" (defScope s_are_worths) f cdv A outer s H E) rfl
  have tk := takes_of (X := cxOf (L2.CX P w) P w K mg base ["thing", "least", "one", "key", "worth"] "are_worths" (defScope s_are_worths) f cdv A outer s H E) rfl rfl rfl rfl
  exact (by exact sbCons (by exact ssIf (by exact stW (by exact stOr (by exact stNot (by exact stV (by exact sIsi hK rfl b_isinstance (by exact sV 0 (pv 0)) (by exact pe_bltn rfl b_tuple (by decide +kernel) rfl)))) (by exact stOr (by exact stCmp oGt (by exact sB (cLen hK) rfl b_len (by decide +kernel) (by exact saCons (by exact sV 0 (pv 0)) saNil)) (by exact sGlI g_MOST_KEYS rfl) (nomark _)) (by exact stOr1 (by exact stNot (by exact stV (by exact sB (cAll hc) rfl b_all (by decide +kernel) (by exact saCons (by exact sF (by exact slC hc sc_are_worths.nd (by exact siFast hK (by exact sV 0 (pv 0))) (own := [("one", 2)]) (blk_of (by kernel_rfl)) (fun _ _ _ _ _ => (by exact sgN 2 (by exact pg_name sc_are_worths.nd rfl (by first | exact Or.inl rfl | exact Or.inr rfl)))) (fun _ _ _ _ _ => stNil) (fun _ _ _ _ _ => (by exact sPH h_is_worth_of pf_is_worth_of hr (by omega) rfl takes0 (by exact saCons (by exact sV 2 (pv 2)) (by exact saCons (by exact sV 1 (pv 1)) saNil)))) (by decide))) saNil)))))))) (by exact sbOne (by exact ssRet sBl)) sbNil) (by exact sbOne (by exact ssRet (by exact sPH h_are_rising pf_are_rising hr (by omega) rfl tk (by exact saCons (by exact sF (by exact slC hc sc_are_worths.nd (by exact siFast hK (by exact sV 0 (pv 0))) (own := [("key", 3), ("worth", 4)]) (blk_of (by kernel_rfl)) (fun _ _ _ _ _ => (by exact sgT hK hc (by exact sgCons (by exact sgN 3 (by exact pg_name sc_are_worths.nd rfl (by first | exact Or.inl rfl | exact Or.inr rfl))) (by exact sgCons (by exact sgN 4 (by exact pg_name sc_are_worths.nd rfl (by first | exact Or.inl rfl | exact Or.inr rfl))) sgNil)))) (fun _ _ _ _ _ => stNil) (fun _ _ _ _ _ => (by exact sV 3 (pv 3))) (by decide))) saNil)))))
abbrev s_are_reads : Stmt := top 13
theorem sc_are_reads : FnScope ["thing"] ["thing"] (defScope s_are_reads) := ⟨rfl, rfl, rfl, by decide +kernel, rfl, by decide +kernel, by decide +kernel⟩
theorem bd_are_reads : BindN s_are_reads "are_reads" ["thing"] := fun _ _ _ _ _ _ us hl => match us, hl with | [_], _ => rfl
theorem h_are_reads (D : Def K mg "are_reads" s_are_reads) (hK : K = Γ.K) (h_are_worths : Has P w K mg base "are_worths" 3 ["thing", "least"] (spP Γ 2 m_are_worths)) : Has P w K mg base "are_reads" 4 ["thing"] (spP Γ 1 m_are_reads) := by
  refine hasP D bd_are_reads sc_are_reads rfl rfl (fun f cdv A outer s H E hr => ?_)
  have hc : (cxOf (L2.CX P w) P w K mg base ["thing"] "are_reads" (defScope s_are_reads) f cdv A outer s H E).calm = true := rfl
  have po := passes_of (X := cxOf (L2.CX P w) P w K mg base ["thing"] "are_reads" (defScope s_are_reads) f cdv A outer s H E) rfl
  have tk := takes_of (X := cxOf (L2.CX P w) P w K mg base ["thing"] "are_reads" (defScope s_are_reads) f cdv A outer s H E) rfl rfl rfl rfl
  exact (by exact sbOne (by exact ssRet (by exact sPH h_are_worths pf_are_worths hr (by omega) rfl tk (by exact saCons (by exact sV 0 (pv 0)) (by exact saCons sInt saNil)))))
abbrev s_are_writes : Stmt := top 14
theorem sc_are_writes : FnScope ["thing"] ["thing"] (defScope s_are_writes) := ⟨rfl, rfl, rfl, by decide +kernel, rfl, by decide +kernel, by decide +kernel⟩
theorem bd_are_writes : BindN s_are_writes "are_writes" ["thing"] := fun _ _ _ _ _ _ us hl => match us, hl with | [_], _ => rfl
theorem h_are_writes (D : Def K mg "are_writes" s_are_writes) (hK : K = Γ.K) (h_are_worths : Has P w K mg base "are_worths" 3 ["thing", "least"] (spP Γ 2 m_are_worths)) : Has P w K mg base "are_writes" 4 ["thing"] (spP Γ 1 m_are_writes) := by
  refine hasP D bd_are_writes sc_are_writes rfl rfl (fun f cdv A outer s H E hr => ?_)
  have hc : (cxOf (L2.CX P w) P w K mg base ["thing"] "are_writes" (defScope s_are_writes) f cdv A outer s H E).calm = true := rfl
  have po := passes_of (X := cxOf (L2.CX P w) P w K mg base ["thing"] "are_writes" (defScope s_are_writes) f cdv A outer s H E) rfl
  have tk := takes_of (X := cxOf (L2.CX P w) P w K mg base ["thing"] "are_writes" (defScope s_are_writes) f cdv A outer s H E) rfl rfl rfl rfl
  exact (by exact sbOne (by exact ssRet (by exact sPH h_are_worths pf_are_worths hr (by omega) rfl tk (by exact saCons (by exact sV 0 (pv 0)) (by exact saCons sInt saNil)))))
abbrev s_is_dealing : Stmt := top 15
theorem sc_is_dealing : FnScope ["thing", "hand", "begun", "ended", "reads", "writes"] ["thing"] (defScope s_is_dealing) := ⟨rfl, rfl, rfl, by decide +kernel, rfl, by decide +kernel, by decide +kernel⟩
theorem bd_is_dealing : BindN s_is_dealing "is_dealing" ["thing"] := fun _ _ _ _ _ _ us hl => match us, hl with | [_], _ => rfl
theorem h_is_dealing (D : Def K mg "is_dealing" s_is_dealing) (hK : K = Γ.K) (fnv : ∀ f v, Γ.fnv f v → v ≠ .non) (b_isinstance : mg "isinstance" = none) (b_len : mg "len" = none) (b_tuple : mg "tuple" = none) (g_LAST_HAND : ∃ t, mg "LAST_HAND" = some (.int 7 t)) (h_are_reads : Has P w K mg base "are_reads" 4 ["thing"] (spP Γ 1 m_are_reads)) (h_are_writes : Has P w K mg base "are_writes" 4 ["thing"] (spP Γ 1 m_are_writes)) (h_is_between : Has P w K mg base "is_between" 1 ["thing", "least", "most"] (spP Γ 3 m_is_between)) (h_is_moment : Has P w K mg base "is_moment" 2 ["thing"] (spP Γ 1 m_is_moment)) : Has P w K mg base "is_dealing" 5 ["thing"] (spP Γ 1 m_is_dealing) := by
  refine hasP D bd_is_dealing sc_is_dealing rfl rfl (fun f cdv A outer s H E hr => ?_)
  have hc : (cxOf (L2.CX P w) P w K mg base ["thing", "hand", "begun", "ended", "reads", "writes"] "is_dealing" (defScope s_is_dealing) f cdv A outer s H E).calm = true := rfl
  have po := passes_of (X := cxOf (L2.CX P w) P w K mg base ["thing", "hand", "begun", "ended", "reads", "writes"] "is_dealing" (defScope s_is_dealing) f cdv A outer s H E) rfl
  have tk := takes_of (X := cxOf (L2.CX P w) P w K mg base ["thing", "hand", "begun", "ended", "reads", "writes"] "is_dealing" (defScope s_is_dealing) f cdv A outer s H E) rfl rfl rfl rfl
  exact (by exact sbCons (by exact ssIf (by exact stW (by exact stOr (by exact stNot (by exact stV (by exact sIsi hK rfl b_isinstance (by exact sV 0 (pv 0)) (by exact pe_bltn rfl b_tuple (by decide +kernel) rfl)))) (by exact stOr1 (by exact stCmpH (oNe hK hr) (by exact sB (cLen hK) rfl b_len (by decide +kernel) (by exact saCons (by exact sV 0 (pv 0)) saNil)) sInt (nomark _))))) (by exact sbOne (by exact ssRet sBl)) sbNil) (by exact sbCons (by exact ssAsg (by exact sV 0 (pv 0)) (by exact sgT hK hc (by exact sgCons (by exact sgN 1 (by exact pg_name sc_is_dealing.nd rfl (by first | exact Or.inl rfl | exact Or.inr rfl))) (by exact sgCons (by exact sgN 2 (by exact pg_name sc_is_dealing.nd rfl (by first | exact Or.inl rfl | exact Or.inr rfl))) (by exact sgCons (by exact sgN 3 (by exact pg_name sc_is_dealing.nd rfl (by first | exact Or.inl rfl | exact Or.inr rfl))) (by exact sgCons (by exact sgN 4 (by exact pg_name sc_is_dealing.nd rfl (by first | exact Or.inl rfl | exact Or.inr rfl))) (by exact sgCons (by exact sgN 5 (by exact pg_name sc_is_dealing.nd rfl (by first | exact Or.inl rfl | exact Or.inr rfl))) sgNil))))))) (by exact sbCons (by exact ssIf (by exact stW (by exact stOr (by exact stNot (by exact stV (by exact sPH h_is_between pf_is_between hr (by omega) rfl tk (by exact saCons (by exact sV 1 (pv 1)) (by exact saCons sInt (by exact saCons (by exact sGlI g_LAST_HAND rfl) saNil)))))) (by exact stOr (by exact stNot (by exact stV (by exact sPH h_is_moment pf_is_moment hr (by omega) rfl tk (by exact saCons (by exact sV 2 (pv 2)) saNil)))) (by exact stOr (by exact stNot (by exact stV (by exact sPH h_are_reads pf_are_reads hr (by omega) rfl tk (by exact saCons (by exact sV 4 (pv 4)) saNil)))) (by exact stOr1 (by exact stNot (by exact stV (by exact sPH h_are_writes pf_are_writes hr (by omega) rfl tk (by exact saCons (by exact sV 5 (pv 5)) saNil))))))))) (by exact sbOne (by exact ssRet sBl)) sbNil) (by exact sbCons (by exact ssIf (by exact stCmp (oIs fnv) (by exact sV 3 (pv 3)) sNon (nomark _)) (by exact sbOne (by exact ssRet (by exact sCmpH (oEqE hK hr) (by exact sV 4 (pv 4)) (by exact sTup saNil) (nomark _)))) sbNil) (by exact sbOne (by exact ssRet (by exact sAnd (by exact sPH h_is_moment pf_is_moment hr (by omega) rfl tk (by exact saCons (by exact sV 3 (pv 3)) saNil)) (by exact sOne (by exact sCmp oLt (by exact sV 2 (pv 2)) (by exact sV 3 (pv 3)) (nomark _))))))))))
abbrev s__law_deck : Stmt := top 17
theorem sc__law_deck : FnScope ["_law_script", "_law_cells"] ["_law_script"] (defScope s__law_deck) := ⟨rfl, rfl, rfl, by decide +kernel, rfl, by decide +kernel, by decide +kernel⟩
theorem bd__law_deck : BindN s__law_deck "_law_deck" ["_law_script"] := fun _ _ _ _ _ _ us hl => match us, hl with | [_], _ => rfl
theorem h__law_deck (D : Def K mg "_law_deck" s__law_deck) (hK : K = Γ.K) (b_list : mg "list" = none) (b_sum : mg "sum" = none) : Has P w K mg base "_law_deck" 1 ["_law_script"] (spF Γ 1 m__law_deck) := by
  refine hasA D bd__law_deck sc__law_deck rfl rfl (fun f cdv A outer s H E hr => ?_)
  have hc : (cxOf (L2.CX P w) P w K mg base ["_law_script", "_law_cells"] "_law_deck" (defScope s__law_deck) f cdv A outer s H E).calm = true := rfl
  have po := passes_of (X := cxOf (L2.CX P w) P w K mg base ["_law_script", "_law_cells"] "_law_deck" (defScope s__law_deck) f cdv A outer s H E) rfl
  have tk := takes_of (X := cxOf (L2.CX P w) P w K mg base ["_law_script", "_law_cells"] "_law_deck" (defScope s__law_deck) f cdv A outer s H E) rfl rfl rfl rfl
  exact (by exact sbCons (by exact ssAsg (by exact sA (by exact slBT (cList hK) rfl b_list (by decide +kernel) (by exact saCons (by exact sF (by exact slSl hK (by exact sV 0 (pv 0)) soN (by exact soE sInt))) saNil))) (by exact sgN 1 (by exact pg_name sc__law_deck.nd rfl (by first | exact Or.inl rfl | exact Or.inr rfl)))) (by exact sbOne (by exact ssRet (by exact sA (by exact slLst (by exact saCons (by exact sV 1 (pv 1)) (by exact saCons (by exact sBinH (oAdd hK) sInt (by exact sBin oMod (by exact sB (cSum hc) rfl b_sum (by decide +kernel) (by exact saCons (by exact sV 1 (pv 1)) saNil)) sInt)) (by exact saCons sInt saNil))))))))
abbrev s__law_draw : Stmt := top 18
theorem sc__law_draw : FnScope ["_law_deck_here", "_law_many", "_law_cells", "_law_cell", "_law_number"] ["_law_deck_here", "_law_many"] (defScope s__law_draw) := ⟨rfl, rfl, rfl, by decide +kernel, rfl, by decide +kernel, by decide +kernel⟩
theorem bd__law_draw : BindN s__law_draw "_law_draw" ["_law_deck_here", "_law_many"] := fun _ _ _ _ _ _ us hl => match us, hl with | [_, _], _ => rfl
theorem h__law_draw (D : Def K mg "_law_draw" s__law_draw) (hK : K = Γ.K) : Has P w K mg base "_law_draw" 1 ["_law_deck_here", "_law_many"] (spF Γ 2 m__law_draw) := by
  refine hasA D bd__law_draw sc__law_draw rfl rfl (fun f cdv A outer s H E hr => ?_)
  have hc : (cxOf (L2.CX P w) P w K mg base ["_law_deck_here", "_law_many", "_law_cells", "_law_cell", "_law_number"] "_law_draw" (defScope s__law_draw) f cdv A outer s H E).calm = true := rfl
  have po := passes_of (X := cxOf (L2.CX P w) P w K mg base ["_law_deck_here", "_law_many", "_law_cells", "_law_cell", "_law_number"] "_law_draw" (defScope s__law_draw) f cdv A outer s H E) rfl
  have tk := takes_of (X := cxOf (L2.CX P w) P w K mg base ["_law_deck_here", "_law_many", "_law_cells", "_law_cell", "_law_number"] "_law_draw" (defScope s__law_draw) f cdv A outer s H E) rfl rfl rfl rfl
  exact (by exact sbCons (by exact ssPutL (by exact sV 0 (pv 0)) sInt (by exact sBinH (oAdd hK) (by exact sIx hK (by exact sV 0 (pv 0)) sInt (fun _ _ => rfl)) sInt)) (by exact sbCons (by exact ssAsg (by exact sIx hK (by exact sV 0 (pv 0)) sInt (fun _ _ => rfl)) (by exact sgN 2 (by exact pg_name sc__law_draw.nd rfl (by first | exact Or.inl rfl | exact Or.inr rfl)))) (by exact sbCons (by exact ssAsg (by exact sIx hK (by exact sV 0 (pv 0)) sInt (fun _ _ => rfl)) (by exact sgN 3 (by exact pg_name sc__law_draw.nd rfl (by first | exact Or.inl rfl | exact Or.inr rfl)))) (by exact sbCons (by exact ssIf (by exact stCmpH (oNeE hK hr) (by exact sV 2 (pv 2)) (by exact sF (by exact slLst saNil)) (nomark _)) (by exact sbCons (by exact ssAsg (by exact sM tyL_ok mtPopAt PySem.F.plainAttrs_list PySem.F.slot_list_pop PySem.F.type_list_pop (by exact sV 2 (pv 2)) (by exact saCons sInt saNil)) (by exact sgN 3 (by exact pg_name sc__law_draw.nd rfl (by first | exact Or.inl rfl | exact Or.inr rfl)))) (by exact sbCons (by exact ssIf (by exact stCmp oGe (by exact sV 3 (pv 3)) (by exact sBin oPow sInt sInt) (nomark _)) (by exact sbCons (by exact ssE (by exact sM tyL_ok mtInsert PySem.F.plainAttrs_list PySem.F.slot_list_insert PySem.F.type_list_insert (by exact sV 2 (pv 2)) (by exact saCons sInt (by exact saCons (by exact sBin oDiv (by exact sV 3 (pv 3)) (by exact sV 1 (pv 1))) saNil)))) (by exact sbOne (by exact ssRet (by exact sBin oMod (by exact sV 3 (pv 3)) (by exact sV 1 (pv 1)))))) sbNil) (by exact sbOne (by exact ssAsg (by exact sBinH (oAdd hK) (by exact sV 3 (pv 3)) (by exact sIx hK (by exact sV 0 (pv 0)) sInt (fun _ _ => rfl))) (by exact sgN 3 (by exact pg_name sc__law_draw.nd rfl (by first | exact Or.inl rfl | exact Or.inr rfl))))))) sbNil) (by exact sbCons (by exact ssAsg (by exact sBin oMod (by exact sBinH (oAdd hK) (by exact sBinH (oAdd hK) (by exact sBin oMul (by exact sBin oMod (by exact sV 3 (pv 3)) sInt) sInt) (by exact sBin oMul sInt (by exact sIx hK (by exact sV 0 (pv 0)) sInt (fun _ _ => rfl)))) sInt) sInt) (by exact sgN 4 (by exact pg_name sc__law_draw.nd rfl (by first | exact Or.inl rfl | exact Or.inr rfl)))) (by exact sbCons (by exact ssAsg (by exact sBin oMod (by exact sBinH (oAdd hK) (by exact sBinH (oAdd hK) (by exact sBin oMul (by exact sV 4 (pv 4)) (by exact sV 4 (pv 4))) (by exact sBin oMul sInt (by exact sV 4 (pv 4)))) (by exact sIx hK (by exact sV 0 (pv 0)) sInt (fun _ _ => rfl))) sInt) (by exact sgN 4 (by exact pg_name sc__law_draw.nd rfl (by first | exact Or.inl rfl | exact Or.inr rfl)))) (by exact sbCons (by exact ssPutL (by exact sV 0 (pv 0)) sInt (by exact sV 4 (pv 4))) (by exact sbOne (by exact ssRet (by exact sBin oMod (by exact sBin oDiv (by exact sBin oMod (by exact sBin oMul (by exact sV 4 (pv 4)) (by exact sBinH (oAdd hK) (by exact sV 4 (pv 4)) sInt)) sInt) sInt) (by exact sV 1 (pv 1))))))))))))
abbrev s__law_keys : Stmt := top 19
theorem sc__law_keys : FnScope ["_law_deck_here", "_law_many", "_law_letters", "_law_mode", "_law_turn", "_law_base", "_law_size", "_law_spot", "_law_found", "_law_k", "_law_sign"] ["_law_deck_here", "_law_many"] (defScope s__law_keys) := ⟨rfl, rfl, rfl, by decide +kernel, rfl, by decide +kernel, by decide +kernel⟩
theorem bd__law_keys : BindN s__law_keys "_law_keys" ["_law_deck_here", "_law_many"] := fun _ _ _ _ _ _ us hl => match us, hl with | [_, _], _ => rfl
theorem h__law_keys (D : Def K mg "_law_keys" s__law_keys) (hK : K = Γ.K) (b_range : mg "range" = none) (b_sorted : mg "sorted" = none) (h__law_draw : Has P w K mg base "_law_draw" 1 ["_law_deck_here", "_law_many"] (spF Γ 2 m__law_draw)) : Has P w K mg base "_law_keys" 2 ["_law_deck_here", "_law_many"] (spF Γ 2 m__law_keys) := by
  refine hasS D bd__law_keys sc__law_keys rfl rfl (fun f cdv A outer s H E hr => ?_)
  have hc : (cxOf (L2.CX P w) P w K mg base ["_law_deck_here", "_law_many", "_law_letters", "_law_mode", "_law_turn", "_law_base", "_law_size", "_law_spot", "_law_found", "_law_k", "_law_sign"] "_law_keys" (defScope s__law_keys) f cdv A outer s H E).calm = true := rfl
  have po := passes_of (X := cxOf (L2.CX P w) P w K mg base ["_law_deck_here", "_law_many", "_law_letters", "_law_mode", "_law_turn", "_law_base", "_law_size", "_law_spot", "_law_found", "_law_k", "_law_sign"] "_law_keys" (defScope s__law_keys) f cdv A outer s H E) rfl
  have tk := takes_of (X := cxOf (L2.CX P w) P w K mg base ["_law_deck_here", "_law_many", "_law_letters", "_law_mode", "_law_turn", "_law_base", "_law_size", "_law_spot", "_law_found", "_law_k", "_law_sign"] "_law_keys" (defScope s__law_keys) f cdv A outer s H E) rfl rfl rfl rfl
  exact (by exact sbCons (by exact ssAsg sStr (by exact sgN 2 (by exact pg_name sc__law_keys.nd rfl (by first | exact Or.inl rfl | exact Or.inr rfl)))) (by exact sbCons (by exact ssAsg (by exact sFH h__law_draw pf__law_draw hr (by omega) rfl tk (by exact saCons (by exact sV 0 (pv 0)) (by exact saCons sInt saNil))) (by exact sgN 3 (by exact pg_name sc__law_keys.nd rfl (by first | exact Or.inl rfl | exact Or.inr rfl)))) (by exact sbCons (by exact ssAsg (by exact sFH h__law_draw pf__law_draw hr (by omega) rfl tk (by exact saCons (by exact sV 0 (pv 0)) (by exact saCons sInt saNil))) (by exact sgN 4 (by exact pg_name sc__law_keys.nd rfl (by first | exact Or.inl rfl | exact Or.inr rfl)))) (by exact sbCons (by exact ssAsg (by exact sM tyS_ok (mtJoin hK) PySem.F.plainAttrs_str PySem.F.slot_str_join PySem.F.type_str_join sStr (by exact saCons (by exact sF (by exact slC hc sc__law_keys.nd (by exact siRange1 rfl b_range sInt) (own := [("_law_k", 9)]) (blk_of (by kernel_rfl)) (fun _ _ _ _ _ => (by exact sgN 9 (by exact pg_name sc__law_keys.nd rfl (by first | exact Or.inl rfl | exact Or.inr rfl)))) (fun _ _ _ _ _ => stNil) (fun _ _ _ _ _ => (by exact sIx hK (by exact sV 2 (pv 2)) (by exact sFH h__law_draw pf__law_draw hr (by omega) rfl takes0 (by exact saCons (by exact sV 0 (pv 0)) (by exact saCons sInt saNil))) (fun _ _ => rfl))) (by decide))) saNil)) (by exact sgN 5 (by exact pg_name sc__law_keys.nd rfl (by first | exact Or.inl rfl | exact Or.inr rfl)))) (by exact sbCons (by exact ssAsg (by exact sBinH (oAdd hK) sInt (by exact sFH h__law_draw pf__law_draw hr (by omega) rfl tk (by exact saCons (by exact sV 0 (pv 0)) (by exact saCons sInt saNil)))) (by exact sgN 6 (by exact pg_name sc__law_keys.nd rfl (by first | exact Or.inl rfl | exact Or.inr rfl)))) (by exact sbCons (by exact ssAsg (by exact sFH h__law_draw pf__law_draw hr (by omega) rfl tk (by exact saCons (by exact sV 0 (pv 0)) (by exact saCons (by exact sV 6 (pv 6)) saNil))) (by exact sgN 7 (by exact pg_name sc__law_keys.nd rfl (by first | exact Or.inl rfl | exact Or.inr rfl)))) (by exact sbCons (by exact ssIf (by exact stCmpH (oEq hK hr) (by exact sV 3 (pv 3)) sInt (nomark _)) (by exact sbOne (by exact ssRet (by exact sF (by exact slC hc sc__law_keys.nd (by exact siRange1 rfl b_range (by exact sV 1 (pv 1))) (own := [("_law_k", 9)]) (blk_of (by kernel_rfl)) (fun _ _ _ _ _ => (by exact sgN 9 (by exact pg_name sc__law_keys.nd rfl (by first | exact Or.inl rfl | exact Or.inr rfl)))) (fun _ _ _ _ _ => stNil) (fun _ _ _ _ _ => (by exact sSl hK (by exact sV 5 (pv 5)) soN (by exact soE (by exact sBinH (oAdd hK) sInt (by exact sV 9 (pv 9)))))) (by decide))))) sbNil) (by exact sbCons (by exact ssAsg (by exact sA (by exact slLst saNil)) (by exact sgN 8 (by exact pg_name sc__law_keys.nd rfl (by first | exact Or.inl rfl | exact Or.inr rfl)))) (by exact sbCons (by exact ssFor po hc (by exact siRange1 rfl b_range (by exact sV 1 (pv 1))) (by exact sgN 9 (by exact pg_name sc__law_keys.nd rfl (by first | exact Or.inl rfl | exact Or.inr rfl))) (by exact sbCons (by exact ssAsg (by exact sIx hK (by exact sV 2 (pv 2)) (by exact sBin oMod (by exact sBinH (oAdd hK) (by exact sV 4 (pv 4)) (by exact sBin oMul sInt (by exact sV 9 (pv 9)))) sInt) (fun _ _ => rfl)) (by exact sgN 10 (by exact pg_name sc__law_keys.nd rfl (by first | exact Or.inl rfl | exact Or.inr rfl)))) (by exact sbOne (by exact ssE (by exact sM tyL_ok mtAppend PySem.F.plainAttrs_list PySem.F.slot_list_append PySem.F.type_list_append (by exact sV 8 (pv 8)) (by exact saCons (by exact sBinH (oAdd hK) (by exact sBinH (oAdd hK) (by exact sSl hK (by exact sV 5 (pv 5)) soN (by exact soE (by exact sV 7 (pv 7)))) (by exact sV 10 (pv 10))) (by exact sSl hK (by exact sV 5 (pv 5)) (by exact soE (by exact sBinH (oAdd hK) (by exact sV 7 (pv 7)) sInt)) (by exact soE (by exact sV 6 (pv 6))))) saNil)))))) (by exact sbOne (by exact ssRet (by exact sF (by exact slB cSorted rfl b_sorted (by decide +kernel) (by exact saCons (by exact sV 8 (pv 8)) saNil))))))))))))))
abbrev s__law_worths : Stmt := top 20
theorem sc__law_worths : FnScope ["_law_deck_here", "_law_some", "_law_often", "_law_found", "_law_key"] ["_law_deck_here", "_law_some", "_law_often"] (defScope s__law_worths) := ⟨rfl, rfl, rfl, by decide +kernel, rfl, by decide +kernel, by decide +kernel⟩
theorem bd__law_worths : BindN s__law_worths "_law_worths" ["_law_deck_here", "_law_some", "_law_often"] := fun _ _ _ _ _ _ us hl => match us, hl with | [_, _, _], _ => rfl
theorem h__law_worths (D : Def K mg "_law_worths" s__law_worths) (hK : K = Γ.K) (b_len : mg "len" = none) (b_sorted : mg "sorted" = none) (b_tuple : mg "tuple" = none) (h__law_draw : Has P w K mg base "_law_draw" 1 ["_law_deck_here", "_law_many"] (spF Γ 2 m__law_draw)) : Has P w K mg base "_law_worths" 2 ["_law_deck_here", "_law_some", "_law_often"] (spF Γ 3 m__law_worths) := by
  refine hasS D bd__law_worths sc__law_worths rfl rfl (fun f cdv A outer s H E hr => ?_)
  have hc : (cxOf (L2.CX P w) P w K mg base ["_law_deck_here", "_law_some", "_law_often", "_law_found", "_law_key"] "_law_worths" (defScope s__law_worths) f cdv A outer s H E).calm = true := rfl
  have po := passes_of (X := cxOf (L2.CX P w) P w K mg base ["_law_deck_here", "_law_some", "_law_often", "_law_found", "_law_key"] "_law_worths" (defScope s__law_worths) f cdv A outer s H E) rfl
  have tk := takes_of (X := cxOf (L2.CX P w) P w K mg base ["_law_deck_here", "_law_some", "_law_often", "_law_found", "_law_key"] "_law_worths" (defScope s__law_worths) f cdv A outer s H E) rfl rfl rfl rfl
  exact (by exact sbCons (by exact ssAsg (by exact sA (by exact slLst saNil)) (by exact sgN 3 (by exact pg_name sc__law_worths.nd rfl (by first | exact Or.inl rfl | exact Or.inr rfl)))) (by exact sbCons (by exact ssFor po hc (by exact siFast hK (by exact sF (by exact slB (cSortedD hc) rfl b_sorted (by decide +kernel) (by exact saCons (by exact sV 1 (pv 1)) saNil)))) (by exact sgN 4 (by exact pg_name sc__law_worths.nd rfl (by first | exact Or.inl rfl | exact Or.inr rfl))) (by exact sbOne (by exact ssIf (by exact stCmp oLt (by exact sFH h__law_draw pf__law_draw hr (by omega) rfl tk (by exact saCons (by exact sV 0 (pv 0)) (by exact saCons sInt saNil))) (by exact sV 2 (pv 2)) (nomark _)) (by exact sbOne (by exact ssE (by exact sM tyL_ok mtAppend PySem.F.plainAttrs_list PySem.F.slot_list_append PySem.F.type_list_append (by exact sV 3 (pv 3)) (by exact saCons (by exact sTup (by exact saCons (by exact sV 4 (pv 4)) (by exact saCons (by exact sIx hK (by exact sGet hK hr (by exact sV 1 (pv 1)) (by exact sV 4 (pv 4)) (fun _ _ => rfl)) (by exact sFH h__law_draw pf__law_draw hr (by omega) rfl tk (by exact saCons (by exact sV 0 (pv 0)) (by exact saCons (by exact sB (cLen hK) rfl b_len (by decide +kernel) (by exact saCons (by exact sGet hK hr (by exact sV 1 (pv 1)) (by exact sV 4 (pv 4)) (fun _ _ => rfl)) saNil)) saNil))) (fun _ _ => rfl)) saNil))) saNil)))) sbNil))) (by exact sbOne (by exact ssRet (by exact sBT (cTuple hK) rfl b_tuple (by decide +kernel) (by exact saCons (by exact sV 3 (pv 3)) saNil))))))
abbrev s__law_begun : Stmt := top 21
theorem sc__law_begun : FnScope ["_law_deck_here", "_law_hand", "_law_moment", "_law_had", "_law_often", "_law_writes", "_law_key", "_law_worth"] ["_law_deck_here", "_law_hand", "_law_moment", "_law_had", "_law_often"] (defScope s__law_begun) := ⟨rfl, rfl, rfl, by decide +kernel, rfl, by decide +kernel, by decide +kernel⟩
theorem bd__law_begun : BindN s__law_begun "_law_begun" ["_law_deck_here", "_law_hand", "_law_moment", "_law_had", "_law_often"] := fun _ _ _ _ _ _ us hl => match us, hl with | [_, _, _, _, _], _ => rfl
theorem h__law_begun (D : Def K mg "_law_begun" s__law_begun) (hK : K = Γ.K) (b_max : mg "max" = none) (b_sorted : mg "sorted" = none) (b_tuple : mg "tuple" = none) (h__law_draw : Has P w K mg base "_law_draw" 1 ["_law_deck_here", "_law_many"] (spF Γ 2 m__law_draw)) : Has P w K mg base "_law_begun" 2 ["_law_deck_here", "_law_hand", "_law_moment", "_law_had", "_law_often"] (spF Γ 5 m__law_begun) := by
  refine hasS D bd__law_begun sc__law_begun rfl rfl (fun f cdv A outer s H E hr => ?_)
  have hc : (cxOf (L2.CX P w) P w K mg base ["_law_deck_here", "_law_hand", "_law_moment", "_law_had", "_law_often", "_law_writes", "_law_key", "_law_worth"] "_law_begun" (defScope s__law_begun) f cdv A outer s H E).calm = true := rfl
  have po := passes_of (X := cxOf (L2.CX P w) P w K mg base ["_law_deck_here", "_law_hand", "_law_moment", "_law_had", "_law_often", "_law_writes", "_law_key", "_law_worth"] "_law_begun" (defScope s__law_begun) f cdv A outer s H E) rfl
  have tk := takes_of (X := cxOf (L2.CX P w) P w K mg base ["_law_deck_here", "_law_hand", "_law_moment", "_law_had", "_law_often", "_law_writes", "_law_key", "_law_worth"] "_law_begun" (defScope s__law_begun) f cdv A outer s H E) rfl rfl rfl rfl
  exact (by exact sbCons (by exact ssAsg (by exact sA (by exact slLst saNil)) (by exact sgN 5 (by exact pg_name sc__law_begun.nd rfl (by first | exact Or.inl rfl | exact Or.inr rfl)))) (by exact sbCons (by exact ssFor po hc (by exact siFast hK (by exact sF (by exact slB (cSortedD hc) rfl b_sorted (by decide +kernel) (by exact saCons (by exact sV 3 (pv 3)) saNil)))) (by exact sgN 6 (by exact pg_name sc__law_begun.nd rfl (by first | exact Or.inl rfl | exact Or.inr rfl))) (by exact sbOne (by exact ssIf (by exact stCmp oLt (by exact sFH h__law_draw pf__law_draw hr (by omega) rfl tk (by exact saCons (by exact sV 0 (pv 0)) (by exact saCons sInt saNil))) (by exact sV 4 (pv 4)) (nomark _)) (by exact sbCons (by exact ssAsg (by exact sBinH (oAdd hK) (by exact sB (cMax hc) rfl b_max (by decide +kernel) (by exact saCons (by exact sGet hK hr (by exact sV 3 (pv 3)) (by exact sV 6 (pv 6)) (fun _ _ => rfl)) saNil)) (by exact sIx hK (by exact sF (by exact slLst (by exact saCons sInt (by exact saCons (by exact sBinH (oAdd hK) sInt (by exact sFH h__law_draw pf__law_draw hr (by omega) rfl tk (by exact saCons (by exact sV 0 (pv 0)) (by exact saCons sInt saNil)))) (by exact saCons sInt saNil))))) (by exact sFH h__law_draw pf__law_draw hr (by omega) rfl tk (by exact saCons (by exact sV 0 (pv 0)) (by exact saCons sInt saNil))) (fun _ _ => rfl))) (by exact sgN 7 (by exact pg_name sc__law_begun.nd rfl (by first | exact Or.inl rfl | exact Or.inr rfl)))) (by exact sbCons (by exact ssE (by exact sM tyL_ok mtAppend PySem.F.plainAttrs_list PySem.F.slot_list_append PySem.F.type_list_append (by exact sGet hK hr (by exact sV 3 (pv 3)) (by exact sV 6 (pv 6)) (fun _ _ => rfl)) (by exact saCons (by exact sV 7 (pv 7)) saNil))) (by exact sbOne (by exact ssE (by exact sM tyL_ok mtAppend PySem.F.plainAttrs_list PySem.F.slot_list_append PySem.F.type_list_append (by exact sV 5 (pv 5)) (by exact saCons (by exact sTup (by exact saCons (by exact sV 6 (pv 6)) (by exact saCons (by exact sV 7 (pv 7)) saNil))) saNil)))))) sbNil))) (by exact sbOne (by exact ssRet (by exact sTup (by exact saCons (by exact sV 1 (pv 1)) (by exact saCons (by exact sV 2 (pv 2)) (by exact saCons sNon (by exact saCons (by exact sTup saNil) (by exact saCons (by exact sBT (cTuple hK) rfl b_tuple (by decide +kernel) (by exact saCons (by exact sV 5 (pv 5)) saNil)) saNil))))))))))
abbrev s__law_dealings : Stmt := top 22
theorem sc__law_dealings : FnScope ["_law_deck_here", "_law_many", "_law_keys_here", "_law_first", "_law_step", "_law_hands", "_law_moment", "_law_often", "_law_had", "_law_rows", "_law_open_at", "_law_turn", "_law_hand", "_law_at", "_law_reads", "_law_k", "_law_key", "_law_worth"] ["_law_deck_here", "_law_many", "_law_keys_here"] (defScope s__law_dealings) := ⟨rfl, rfl, rfl, by decide +kernel, rfl, by decide +kernel, by decide +kernel⟩
theorem bd__law_dealings : BindN s__law_dealings "_law_dealings" ["_law_deck_here", "_law_many", "_law_keys_here"] := fun _ _ _ _ _ _ us hl => match us, hl with | [_, _, _], _ => rfl
theorem h__law_dealings (D : Def K mg "_law_dealings" s__law_dealings) (hK : K = Γ.K) (b_dict : mg "dict" = none) (b_len : mg "len" = none) (b_range : mg "range" = none) (b_tuple : mg "tuple" = none) (h__law_begun : Has P w K mg base "_law_begun" 2 ["_law_deck_here", "_law_hand", "_law_moment", "_law_had", "_law_often"] (spF Γ 5 m__law_begun)) (h__law_draw : Has P w K mg base "_law_draw" 1 ["_law_deck_here", "_law_many"] (spF Γ 2 m__law_draw)) (h__law_worths : Has P w K mg base "_law_worths" 2 ["_law_deck_here", "_law_some", "_law_often"] (spF Γ 3 m__law_worths)) : Has P w K mg base "_law_dealings" 3 ["_law_deck_here", "_law_many", "_law_keys_here"] (spF Γ 3 m__law_dealings) := by
  refine hasS D bd__law_dealings sc__law_dealings rfl rfl (fun f cdv A outer s H E hr => ?_)
  have hc : (cxOf (L2.CX P w) P w K mg base ["_law_deck_here", "_law_many", "_law_keys_here", "_law_first", "_law_step", "_law_hands", "_law_moment", "_law_often", "_law_had", "_law_rows", "_law_open_at", "_law_turn", "_law_hand", "_law_at", "_law_reads", "_law_k", "_law_key", "_law_worth"] "_law_dealings" (defScope s__law_dealings) f cdv A outer s H E).calm = true := rfl
  have po := passes_of (X := cxOf (L2.CX P w) P w K mg base ["_law_deck_here", "_law_many", "_law_keys_here", "_law_first", "_law_step", "_law_hands", "_law_moment", "_law_often", "_law_had", "_law_rows", "_law_open_at", "_law_turn", "_law_hand", "_law_at", "_law_reads", "_law_k", "_law_key", "_law_worth"] "_law_dealings" (defScope s__law_dealings) f cdv A outer s H E) rfl
  have tk := takes_of (X := cxOf (L2.CX P w) P w K mg base ["_law_deck_here", "_law_many", "_law_keys_here", "_law_first", "_law_step", "_law_hands", "_law_moment", "_law_often", "_law_had", "_law_rows", "_law_open_at", "_law_turn", "_law_hand", "_law_at", "_law_reads", "_law_k", "_law_key", "_law_worth"] "_law_dealings" (defScope s__law_dealings) f cdv A outer s H E) rfl rfl rfl rfl
  exact (by exact sbCons (by exact ssAsg (by exact sTup (by exact saCons (by exact sFH h__law_draw pf__law_draw hr (by omega) rfl tk (by exact saCons (by exact sV 0 (pv 0)) (by exact saCons sInt saNil))) (by exact saCons (by exact sIx hK (by exact sF (by exact slLst (by exact saCons sInt (by exact saCons sInt saNil)))) (by exact sFH h__law_draw pf__law_draw hr (by omega) rfl tk (by exact saCons (by exact sV 0 (pv 0)) (by exact saCons sInt saNil))) (fun _ _ => rfl)) saNil))) (by exact sgT hK hc (by exact sgCons (by exact sgN 3 (by exact pg_name sc__law_dealings.nd rfl (by first | exact Or.inl rfl | exact Or.inr rfl))) (by exact sgCons (by exact sgN 4 (by exact pg_name sc__law_dealings.nd rfl (by first | exact Or.inl rfl | exact Or.inr rfl))) sgNil)))) (by exact sbCons (by exact ssLcF hc sc__law_dealings.nd rfl rfl rfl (by exact siRange1 rfl b_range (by exact sBinH (oAdd hK) sInt (by exact sFH h__law_draw pf__law_draw hr (by omega) rfl tk (by exact saCons (by exact sV 0 (pv 0)) (by exact saCons sInt saNil))))) (own := [("_law_k", 15)]) (blk_of (by kernel_rfl)) (fun _ _ _ _ _ => (by exact sgN 15 (by exact pg_name sc__law_dealings.nd rfl (by first | exact Or.inl rfl | exact Or.inr rfl)))) (fun _ _ _ _ _ => stNil) (fun _ _ _ _ _ => (by exact sBin oMod (by exact sBinH (oAdd hK) (by exact sV 3 (pv 3)) (by exact sBin oMul (by exact sV 4 (pv 4)) (by exact sV 15 (pv 15)))) sInt)) (by decide)) (by exact sbCons (by exact ssAsg (by exact sIx hK (by exact sF (by exact slLst (by exact saCons sInt (by exact saCons sInt (by exact saCons sInt (by exact saCons sInt (by exact saCons sInt saNil))))))) (by exact sFH h__law_draw pf__law_draw hr (by omega) rfl tk (by exact saCons (by exact sV 0 (pv 0)) (by exact saCons sInt saNil))) (fun _ _ => rfl)) (by exact sgN 6 (by exact pg_name sc__law_dealings.nd rfl (by first | exact Or.inl rfl | exact Or.inr rfl)))) (by exact sbCons (by exact ssAsg (by exact sBinH (oAdd hK) sInt (by exact sFH h__law_draw pf__law_draw hr (by omega) rfl tk (by exact saCons (by exact sV 0 (pv 0)) (by exact saCons sInt saNil)))) (by exact sgN 7 (by exact pg_name sc__law_dealings.nd rfl (by first | exact Or.inl rfl | exact Or.inr rfl)))) (by exact sbCons (by exact ssAsg (by exact sDict hK hc rfl b_dict (by exact sF (by exact slC hc sc__law_dealings.nd (by exact siFast hK (by exact sV 2 (pv 2))) (own := [("_law_key", 16)]) (blk_of (by kernel_rfl)) (fun _ _ _ _ _ => (by exact sgN 16 (by exact pg_name sc__law_dealings.nd rfl (by first | exact Or.inl rfl | exact Or.inr rfl)))) (fun _ _ _ _ _ => stNil) (fun _ _ _ _ _ => (by exact sTup (by exact saCons (by exact sV 16 (pv 16)) (by exact saCons (by exact sA (by exact slLst (by exact saCons sInt saNil))) saNil)))) (by decide)))) (by exact sgN 8 (by exact pg_name sc__law_dealings.nd rfl (by first | exact Or.inl rfl | exact Or.inr rfl)))) (by exact sbCons (by exact ssSw2 hc sc__law_dealings.nd (by exact saCons (by exact sA (by exact slLst saNil)) (by exact saCons sDK saNil)) (by rfl) (by rfl) (by decide) (by first | rfl | kernel_rfl) (by first | rfl | kernel_rfl) (by kernel_rfl)) (by exact sbCons (by exact ssFor po hc (by exact siRange1 rfl b_range (by exact sBinH (oAdd hK) (by exact sBin oMul sInt (by exact sV 1 (pv 1))) sInt)) (by exact sgN 11 (by exact pg_name sc__law_dealings.nd rfl (by first | exact Or.inl rfl | exact Or.inr rfl))) (by exact sbCons (by exact ssAsg (by exact sIx hK (by exact sV 5 (pv 5)) (by exact sFH h__law_draw pf__law_draw hr (by omega) rfl tk (by exact saCons (by exact sV 0 (pv 0)) (by exact saCons (by exact sB (cLen hK) rfl b_len (by decide +kernel) (by exact saCons (by exact sV 5 (pv 5)) saNil)) saNil))) (fun _ _ => rfl)) (by exact sgN 12 (by exact pg_name sc__law_dealings.nd rfl (by first | exact Or.inl rfl | exact Or.inr rfl)))) (by exact sbCons (by exact ssIf (by exact stCmpH (oIn hK hr) (by exact sV 12 (pv 12)) (by exact sV 10 (pv 10)) (by with_unfolding_all rfl)) (by exact sbCons (by exact ssAsg (by exact sDPop (by exact sV 10 (pv 10)) (by exact sV 12 (pv 12)) ⟨rfl, rfl, rfl, rfl⟩) (by exact sgN 13 (by exact pg_name sc__law_dealings.nd rfl (by first | exact Or.inl rfl | exact Or.inr rfl)))) (by exact sbCons (by exact ssAsg (by exact sFH h__law_worths pf__law_worths hr (by omega) rfl tk (by exact saCons (by exact sV 0 (pv 0)) (by exact saCons (by exact sV 8 (pv 8)) (by exact saCons (by exact sV 7 (pv 7)) saNil)))) (by exact sgN 14 (by exact pg_name sc__law_dealings.nd rfl (by first | exact Or.inl rfl | exact Or.inr rfl)))) (by exact sbCons (by exact ssIf (by exact stCmpH (oEq hK hr) (by exact sFH h__law_draw pf__law_draw hr (by omega) rfl tk (by exact saCons (by exact sV 0 (pv 0)) (by exact saCons sInt saNil))) sInt (nomark _)) (by exact sbOne (by exact ssAsg (by exact sBT (cTuple hK) rfl b_tuple (by decide +kernel) (by exact saCons (by exact sF (by exact slC hc sc__law_dealings.nd (by exact siFast hK (by exact sV 14 (pv 14))) (own := [("_law_key", 16), ("_law_worth", 17)]) (blk_of (by kernel_rfl)) (fun _ _ _ _ _ => (by exact sgT hK hc (by exact sgCons (by exact sgN 16 (by exact pg_name sc__law_dealings.nd rfl (by first | exact Or.inl rfl | exact Or.inr rfl))) (by exact sgCons (by exact sgN 17 (by exact pg_name sc__law_dealings.nd rfl (by first | exact Or.inl rfl | exact Or.inr rfl))) sgNil)))) (fun _ _ _ _ _ => stNil) (fun _ _ _ _ _ => (by exact sTup (by exact saCons (by exact sV 16 (pv 16)) (by exact saCons sInt saNil)))) (by decide))) saNil)) (by exact sgN 14 (by exact pg_name sc__law_dealings.nd rfl (by first | exact Or.inl rfl | exact Or.inr rfl))))) sbNil) (by exact sbOne (by exact ssPutL (by exact sV 9 (pv 9)) (by exact sV 13 (pv 13)) (by exact sBinH (oAdd hK) (by exact sBinH (oAdd hK) (by exact sSl hK (by exact sIx hK (by exact sV 9 (pv 9)) (by exact sV 13 (pv 13)) (fun _ _ => rfl)) soN (by exact soE sInt)) (by exact sTup (by exact saCons (by exact sV 6 (pv 6)) (by exact saCons (by exact sV 14 (pv 14)) saNil)))) (by exact sSl hK (by exact sIx hK (by exact sV 9 (pv 9)) (by exact sV 13 (pv 13)) (fun _ _ => rfl)) (by exact soE sInt) soN))))))) (by exact sbOne (by exact ssIf (by exact stCmp oLt (by exact sB (cLen hK) rfl b_len (by decide +kernel) (by exact saCons (by exact sV 9 (pv 9)) saNil)) (by exact sV 1 (pv 1)) (nomark _)) (by exact sbCons (by exact ssPutD hr (by exact sV 10 (pv 10)) (by exact sV 12 (pv 12)) (by exact sB (cLen hK) rfl b_len (by decide +kernel) (by exact saCons (by exact sV 9 (pv 9)) saNil))) (by exact sbOne (by exact ssE (by exact sM tyL_ok mtAppend PySem.F.plainAttrs_list PySem.F.slot_list_append PySem.F.type_list_append (by exact sV 9 (pv 9)) (by exact saCons (by exact sFH h__law_begun pf__law_begun hr (by omega) rfl tk (by exact saCons (by exact sV 0 (pv 0)) (by exact saCons (by exact sV 12 (pv 12)) (by exact saCons (by exact sV 6 (pv 6)) (by exact saCons (by exact sV 8 (pv 8)) (by exact saCons (by exact sV 7 (pv 7)) saNil)))))) saNil))))) sbNil))) (by exact sbOne (by exact ssAsg (by exact sBinH (oAdd hK) (by exact sV 6 (pv 6)) (by exact sIx hK (by exact sF (by exact slLst (by exact saCons sInt (by exact saCons sInt (by exact saCons (by exact sBinH (oAdd hK) sInt (by exact sFH h__law_draw pf__law_draw hr (by omega) rfl tk (by exact saCons (by exact sV 0 (pv 0)) (by exact saCons sInt saNil)))) saNil))))) (by exact sFH h__law_draw pf__law_draw hr (by omega) rfl tk (by exact saCons (by exact sV 0 (pv 0)) (by exact saCons sInt saNil))) (fun _ _ => rfl))) (by exact sgN 6 (by exact pg_name sc__law_dealings.nd rfl (by first | exact Or.inl rfl | exact Or.inr rfl)))))))) (by exact sbOne (by exact ssRet (by exact sBT (cTuple hK) rfl b_tuple (by decide +kernel) (by exact saCons (by exact sV 9 (pv 9)) saNil)))))))))))
abbrev s__law_some_dealings : Stmt := top 23
theorem sc__law_some_dealings : FnScope ["_law_deck_here", "_law_great", "_law_keys_here"] ["_law_deck_here"] (defScope s__law_some_dealings) := ⟨rfl, rfl, rfl, by decide +kernel, rfl, by decide +kernel, by decide +kernel⟩
theorem bd__law_some_dealings : BindN s__law_some_dealings "_law_some_dealings" ["_law_deck_here"] := fun _ _ _ _ _ _ us hl => match us, hl with | [_], _ => rfl
theorem h__law_some_dealings (D : Def K mg "_law_some_dealings" s__law_some_dealings) (hK : K = Γ.K) (b_int : mg "int" = none) (h__law_dealings : Has P w K mg base "_law_dealings" 3 ["_law_deck_here", "_law_many", "_law_keys_here"] (spF Γ 3 m__law_dealings)) (h__law_draw : Has P w K mg base "_law_draw" 1 ["_law_deck_here", "_law_many"] (spF Γ 2 m__law_draw)) (h__law_keys : Has P w K mg base "_law_keys" 2 ["_law_deck_here", "_law_many"] (spF Γ 2 m__law_keys)) : Has P w K mg base "_law_some_dealings" 4 ["_law_deck_here"] (spF Γ 1 m__law_some_dealings) := by
  refine hasS D bd__law_some_dealings sc__law_some_dealings rfl rfl (fun f cdv A outer s H E hr => ?_)
  have hc : (cxOf (L2.CX P w) P w K mg base ["_law_deck_here", "_law_great", "_law_keys_here"] "_law_some_dealings" (defScope s__law_some_dealings) f cdv A outer s H E).calm = true := rfl
  have po := passes_of (X := cxOf (L2.CX P w) P w K mg base ["_law_deck_here", "_law_great", "_law_keys_here"] "_law_some_dealings" (defScope s__law_some_dealings) f cdv A outer s H E) rfl
  have tk := takes_of (X := cxOf (L2.CX P w) P w K mg base ["_law_deck_here", "_law_great", "_law_keys_here"] "_law_some_dealings" (defScope s__law_some_dealings) f cdv A outer s H E) rfl rfl rfl rfl
  exact (by exact sbCons (by exact ssAsg (by exact sCmpH (oEq hK hr) (by exact sFH h__law_draw pf__law_draw hr (by omega) rfl tk (by exact saCons (by exact sV 0 (pv 0)) (by exact saCons sInt saNil))) sInt (nomark _)) (by exact sgN 1 (by exact pg_name sc__law_some_dealings.nd rfl (by first | exact Or.inl rfl | exact Or.inr rfl)))) (by exact sbCons (by exact ssAsg (by exact sFH h__law_keys pf__law_keys hr (by omega) rfl tk (by exact saCons (by exact sV 0 (pv 0)) (by exact saCons (by exact sBinH (oAdd hK) sInt (by exact sFH h__law_draw pf__law_draw hr (by omega) rfl tk (by exact saCons (by exact sV 0 (pv 0)) (by exact saCons sInt saNil)))) saNil))) (by exact sgN 2 (by exact pg_name sc__law_some_dealings.nd rfl (by first | exact Or.inl rfl | exact Or.inr rfl)))) (by exact sbOne (by exact ssRet (by exact sFH h__law_dealings pf__law_dealings hr (by omega) rfl tk (by exact saCons (by exact sV 0 (pv 0)) (by exact saCons (by exact sIx hK (by exact sF (by exact slLst (by exact saCons (by exact sFH h__law_draw pf__law_draw hr (by omega) rfl tk (by exact saCons (by exact sV 0 (pv 0)) (by exact saCons sInt saNil))) (by exact saCons sInt saNil)))) (by exact sBT cInt rfl b_int (by decide +kernel) (by exact saCons (by exact sV 1 (pv 1)) saNil)) (fun _ _ => rfl)) (by exact saCons (by exact sV 2 (pv 2)) saNil))))))))
abbrev s__law_is_number : Stmt := top 24
theorem sc__law_is_number : FnScope ["_law_thing", "_law_least", "_law_most"] ["_law_thing", "_law_least", "_law_most"] (defScope s__law_is_number) := ⟨rfl, rfl, rfl, by decide +kernel, rfl, by decide +kernel, by decide +kernel⟩
theorem bd__law_is_number : BindN s__law_is_number "_law_is_number" ["_law_thing", "_law_least", "_law_most"] := fun _ _ _ _ _ _ us hl => match us, hl with | [_, _, _], _ => rfl
theorem h__law_is_number (D : Def K mg "_law_is_number" s__law_is_number) (hK : K = Γ.K) (b_bool : mg "bool" = none) (b_int : mg "int" = none) (b_isinstance : mg "isinstance" = none) : Has P w K mg base "_law_is_number" 1 ["_law_thing", "_law_least", "_law_most"] (spP Γ 3 m__law_is_number) := by
  refine hasP D bd__law_is_number sc__law_is_number rfl rfl (fun f cdv A outer s H E hr => ?_)
  have hc : (cxOf (L2.CX P w) P w K mg base ["_law_thing", "_law_least", "_law_most"] "_law_is_number" (defScope s__law_is_number) f cdv A outer s H E).calm = true := rfl
  have po := passes_of (X := cxOf (L2.CX P w) P w K mg base ["_law_thing", "_law_least", "_law_most"] "_law_is_number" (defScope s__law_is_number) f cdv A outer s H E) rfl
  have tk := takes_of (X := cxOf (L2.CX P w) P w K mg base ["_law_thing", "_law_least", "_law_most"] "_law_is_number" (defScope s__law_is_number) f cdv A outer s H E) rfl rfl rfl rfl
  exact (by exact sbOne (by exact ssRet (by exact sAnd (by exact sIsi hK rfl b_isinstance (by exact sV 0 (pv 0)) (by exact pe_bltn rfl b_int (by decide +kernel) rfl)) (by exact sAnd (by exact sNot (by exact sIsi hK rfl b_isinstance (by exact sV 0 (pv 0)) (by exact pe_bltn rfl b_bool (by decide +kernel) rfl))) (by exact sOne (by exact sCh oLe oLe (by exact sV 1 (pv 1)) (by exact sV 0 (pv 0)) (by exact sV 2 (pv 2))))))))
abbrev s__law_is_worth : Stmt := top 25
theorem sc__law_is_worth : FnScope ["_law_thing", "_law_least", "_law_letters", "_law_sign"] ["_law_thing", "_law_least"] (defScope s__law_is_worth) := ⟨rfl, rfl, rfl, by decide +kernel, rfl, by decide +kernel, by decide +kernel⟩
theorem bd__law_is_worth : BindN s__law_is_worth "_law_is_worth" ["_law_thing", "_law_least"] := fun _ _ _ _ _ _ us hl => match us, hl with | [_, _], _ => rfl
theorem h__law_is_worth (D : Def K mg "_law_is_worth" s__law_is_worth) (hK : K = Γ.K) (b_isinstance : mg "isinstance" = none) (b_len : mg "len" = none) (b_str : mg "str" = none) (b_tuple : mg "tuple" = none) (h__law_is_number : Has P w K mg base "_law_is_number" 1 ["_law_thing", "_law_least", "_law_most"] (spP Γ 3 m__law_is_number)) : Has P w K mg base "_law_is_worth" 2 ["_law_thing", "_law_least"] (spP Γ 2 m__law_is_worth) := by
  refine hasP D bd__law_is_worth sc__law_is_worth rfl rfl (fun f cdv A outer s H E hr => ?_)
  have hc : (cxOf (L2.CX P w) P w K mg base ["_law_thing", "_law_least", "_law_letters", "_law_sign"] "_law_is_worth" (defScope s__law_is_worth) f cdv A outer s H E).calm = true := rfl
  have po := passes_of (X := cxOf (L2.CX P w) P w K mg base ["_law_thing", "_law_least", "_law_letters", "_law_sign"] "_law_is_worth" (defScope s__law_is_worth) f cdv A outer s H E) rfl
  have tk := takes_of (X := cxOf (L2.CX P w) P w K mg base ["_law_thing", "_law_least", "_law_letters", "_law_sign"] "_law_is_worth" (defScope s__law_is_worth) f cdv A outer s H E) rfl rfl rfl rfl
  exact (by exact sbCons (by exact ssIf (by exact stW (by exact stOr (by exact stNot (by exact stV (by exact sIsi hK rfl b_isinstance (by exact sV 0 (pv 0)) (by exact pe_bltn rfl b_tuple (by decide +kernel) rfl)))) (by exact stOr (by exact stCmpH (oNe hK hr) (by exact sB (cLen hK) rfl b_len (by decide +kernel) (by exact saCons (by exact sV 0 (pv 0)) saNil)) sInt (nomark _)) (by exact stOr1 (by exact stNot (by exact stV (by exact sIsi hK rfl b_isinstance (by exact sIx hK (by exact sV 0 (pv 0)) sInt (fun _ _ => rfl)) (by exact pe_bltn rfl b_str (by decide +kernel) rfl)))))))) (by exact sbOne (by exact ssRet sBl)) sbNil) (by exact sbCons (by exact ssAsg sStr (by exact sgN 2 (by exact pg_name sc__law_is_worth.nd rfl (by first | exact Or.inl rfl | exact Or.inr rfl)))) (by exact sbCons (by exact ssIf (by exact stW (by exact stOr (by exact stNot (by exact stCh oLe oLe sInt (by exact sB (cLen hK) rfl b_len (by decide +kernel) (by exact saCons (by exact sIx hK (by exact sV 0 (pv 0)) sInt (fun _ _ => rfl)) saNil)) sInt)) (by exact stOr1 (by exact stCmpH (oNeE hK hr) (by exact sF (by exact slC hc sc__law_is_worth.nd (by exact siStr (by exact sIx hK (by exact sV 0 (pv 0)) sInt (fun _ _ => rfl))) (own := [("_law_sign", 3)]) (blk_of (by kernel_rfl)) (fun _ _ _ _ _ => (by exact sgN 3 (by exact pg_name sc__law_is_worth.nd rfl (by first | exact Or.inl rfl | exact Or.inr rfl)))) (fun _ _ _ _ _ => (by exact stOne (by exact stCmpH (oNotIn hK hr) (by exact sV 3 (pv 3)) (by exact sV 2 (pv 2)) (by with_unfolding_all rfl)))) (fun _ _ _ _ _ => (by exact sV 3 (pv 3))) (by decide))) (by exact sF (by exact slLst saNil)) (nomark _))))) (by exact sbOne (by exact ssRet sBl)) sbNil) (by exact sbOne (by exact ssRet (by exact sPH h__law_is_number pf__law_is_number hr (by omega) rfl tk (by exact saCons (by exact sIx hK (by exact sV 0 (pv 0)) sInt (fun _ _ => rfl)) (by exact saCons (by exact sV 1 (pv 1)) (by exact saCons sInt saNil)))))))))
abbrev s__law_are_worths : Stmt := top 26
theorem sc__law_are_worths : FnScope ["_law_thing", "_law_least", "_law_keys_here", "_law_one", "_law_key", "_law_worth"] ["_law_thing", "_law_least"] (defScope s__law_are_worths) := ⟨rfl, rfl, rfl, by decide +kernel, rfl, by decide +kernel, by decide +kernel⟩
theorem bd__law_are_worths : BindN s__law_are_worths "_law_are_worths" ["_law_thing", "_law_least"] := fun _ _ _ _ _ _ us hl => match us, hl with | [_, _], _ => rfl
theorem h__law_are_worths (D : Def K mg "_law_are_worths" s__law_are_worths) (hK : K = Γ.K) (b_isinstance : mg "isinstance" = none) (b_len : mg "len" = none) (b_set : mg "set" = none) (b_sorted : mg "sorted" = none) (b_tuple : mg "tuple" = none) (h__law_is_worth : Has P w K mg base "_law_is_worth" 2 ["_law_thing", "_law_least"] (spP Γ 2 m__law_is_worth)) : Has P w K mg base "_law_are_worths" 3 ["_law_thing", "_law_least"] (spP Γ 2 m__law_are_worths) := by
  refine hasP D bd__law_are_worths sc__law_are_worths rfl rfl (fun f cdv A outer s H E hr => ?_)
  have hc : (cxOf (L2.CX P w) P w K mg base ["_law_thing", "_law_least", "_law_keys_here", "_law_one", "_law_key", "_law_worth"] "_law_are_worths" (defScope s__law_are_worths) f cdv A outer s H E).calm = true := rfl
  have po := passes_of (X := cxOf (L2.CX P w) P w K mg base ["_law_thing", "_law_least", "_law_keys_here", "_law_one", "_law_key", "_law_worth"] "_law_are_worths" (defScope s__law_are_worths) f cdv A outer s H E) rfl
  have tk := takes_of (X := cxOf (L2.CX P w) P w K mg base ["_law_thing", "_law_least", "_law_keys_here", "_law_one", "_law_key", "_law_worth"] "_law_are_worths" (defScope s__law_are_worths) f cdv A outer s H E) rfl rfl rfl rfl
  exact (by exact sbCons (by exact ssIf (by exact stW (by exact stOr (by exact stNot (by exact stV (by exact sIsi hK rfl b_isinstance (by exact sV 0 (pv 0)) (by exact pe_bltn rfl b_tuple (by decide +kernel) rfl)))) (by exact stOr1 (by exact stCmp oGt (by exact sB (cLen hK) rfl b_len (by decide +kernel) (by exact saCons (by exact sV 0 (pv 0)) saNil)) sInt (nomark _))))) (by exact sbOne (by exact ssRet sBl)) sbNil) (by exact sbCons (by exact ssIf (by exact stCmpH (oNeE hK hr) (by exact sF (by exact slC hc sc__law_are_worths.nd (by exact siFast hK (by exact sV 0 (pv 0))) (own := [("_law_one", 3)]) (blk_of (by kernel_rfl)) (fun _ _ _ _ _ => (by exact sgN 3 (by exact pg_name sc__law_are_worths.nd rfl (by first | exact Or.inl rfl | exact Or.inr rfl)))) (fun _ _ _ _ _ => (by exact stOne (by exact stNot (by exact stV (by exact sPH h__law_is_worth pf__law_is_worth hr (by omega) rfl takes0 (by exact saCons (by exact sV 3 (pv 3)) (by exact saCons (by exact sV 1 (pv 1)) saNil))))))) (fun _ _ _ _ _ => (by exact sV 3 (pv 3))) (by decide))) (by exact sF (by exact slLst saNil)) (nomark _)) (by exact sbOne (by exact ssRet sBl)) sbNil) (by exact sbCons (by exact ssLcF hc sc__law_are_worths.nd rfl rfl rfl (by exact siFast hK (by exact sV 0 (pv 0))) (own := [("_law_key", 4), ("_law_worth", 5)]) (blk_of (by kernel_rfl)) (fun _ _ _ _ _ => (by exact sgT hK hc (by exact sgCons (by exact sgN 4 (by exact pg_name sc__law_are_worths.nd rfl (by first | exact Or.inl rfl | exact Or.inr rfl))) (by exact sgCons (by exact sgN 5 (by exact pg_name sc__law_are_worths.nd rfl (by first | exact Or.inl rfl | exact Or.inr rfl))) sgNil)))) (fun _ _ _ _ _ => stNil) (fun _ _ _ _ _ => (by exact sV 4 (pv 4))) (by decide)) (by exact sbOne (by exact ssRet (by exact sCmpH (oEq hK hr) (by exact sV 2 (pv 2)) (by exact sF (by exact slSortSet hK hc rfl b_sorted rfl b_set (by exact sV 2 (pv 2)))) (nomark _)))))))
abbrev s__law_is_dealing : Stmt := top 27
theorem sc__law_is_dealing : FnScope ["_law_thing", "_law_hand", "_law_begun_here", "_law_ended", "_law_reads", "_law_writes"] ["_law_thing"] (defScope s__law_is_dealing) := ⟨rfl, rfl, rfl, by decide +kernel, rfl, by decide +kernel, by decide +kernel⟩
theorem bd__law_is_dealing : BindN s__law_is_dealing "_law_is_dealing" ["_law_thing"] := fun _ _ _ _ _ _ us hl => match us, hl with | [_], _ => rfl
theorem h__law_is_dealing (D : Def K mg "_law_is_dealing" s__law_is_dealing) (hK : K = Γ.K) (fnv : ∀ f v, Γ.fnv f v → v ≠ .non) (b_isinstance : mg "isinstance" = none) (b_len : mg "len" = none) (b_tuple : mg "tuple" = none) (h__law_are_worths : Has P w K mg base "_law_are_worths" 3 ["_law_thing", "_law_least"] (spP Γ 2 m__law_are_worths)) (h__law_is_number : Has P w K mg base "_law_is_number" 1 ["_law_thing", "_law_least", "_law_most"] (spP Γ 3 m__law_is_number)) : Has P w K mg base "_law_is_dealing" 4 ["_law_thing"] (spP Γ 1 m__law_is_dealing) := by
  refine hasP D bd__law_is_dealing sc__law_is_dealing rfl rfl (fun f cdv A outer s H E hr => ?_)
  have hc : (cxOf (L2.CX P w) P w K mg base ["_law_thing", "_law_hand", "_law_begun_here", "_law_ended", "_law_reads", "_law_writes"] "_law_is_dealing" (defScope s__law_is_dealing) f cdv A outer s H E).calm = true := rfl
  have po := passes_of (X := cxOf (L2.CX P w) P w K mg base ["_law_thing", "_law_hand", "_law_begun_here", "_law_ended", "_law_reads", "_law_writes"] "_law_is_dealing" (defScope s__law_is_dealing) f cdv A outer s H E) rfl
  have tk := takes_of (X := cxOf (L2.CX P w) P w K mg base ["_law_thing", "_law_hand", "_law_begun_here", "_law_ended", "_law_reads", "_law_writes"] "_law_is_dealing" (defScope s__law_is_dealing) f cdv A outer s H E) rfl rfl rfl rfl
  exact (by exact sbCons (by exact ssIf (by exact stW (by exact stOr (by exact stNot (by exact stV (by exact sIsi hK rfl b_isinstance (by exact sV 0 (pv 0)) (by exact pe_bltn rfl b_tuple (by decide +kernel) rfl)))) (by exact stOr1 (by exact stCmpH (oNe hK hr) (by exact sB (cLen hK) rfl b_len (by decide +kernel) (by exact saCons (by exact sV 0 (pv 0)) saNil)) sInt (nomark _))))) (by exact sbOne (by exact ssRet sBl)) sbNil) (by exact sbCons (by exact ssAsg (by exact sV 0 (pv 0)) (by exact sgT hK hc (by exact sgCons (by exact sgN 1 (by exact pg_name sc__law_is_dealing.nd rfl (by first | exact Or.inl rfl | exact Or.inr rfl))) (by exact sgCons (by exact sgN 2 (by exact pg_name sc__law_is_dealing.nd rfl (by first | exact Or.inl rfl | exact Or.inr rfl))) (by exact sgCons (by exact sgN 3 (by exact pg_name sc__law_is_dealing.nd rfl (by first | exact Or.inl rfl | exact Or.inr rfl))) (by exact sgCons (by exact sgN 4 (by exact pg_name sc__law_is_dealing.nd rfl (by first | exact Or.inl rfl | exact Or.inr rfl))) (by exact sgCons (by exact sgN 5 (by exact pg_name sc__law_is_dealing.nd rfl (by first | exact Or.inl rfl | exact Or.inr rfl))) sgNil))))))) (by exact sbCons (by exact ssIf (by exact stW (by exact stOr (by exact stNot (by exact stV (by exact sPH h__law_is_number pf__law_is_number hr (by omega) rfl tk (by exact saCons (by exact sV 1 (pv 1)) (by exact saCons sInt (by exact saCons sInt saNil)))))) (by exact stOr1 (by exact stNot (by exact stV (by exact sPH h__law_is_number pf__law_is_number hr (by omega) rfl tk (by exact saCons (by exact sV 2 (pv 2)) (by exact saCons sInt (by exact saCons sInt saNil))))))))) (by exact sbOne (by exact ssRet sBl)) sbNil) (by exact sbCons (by exact ssIf (by exact stW (by exact stOr (by exact stNot (by exact stV (by exact sPH h__law_are_worths pf__law_are_worths hr (by omega) rfl tk (by exact saCons (by exact sV 4 (pv 4)) (by exact saCons sInt saNil))))) (by exact stOr1 (by exact stNot (by exact stV (by exact sPH h__law_are_worths pf__law_are_worths hr (by omega) rfl tk (by exact saCons (by exact sV 5 (pv 5)) (by exact saCons sInt saNil)))))))) (by exact sbOne (by exact ssRet sBl)) sbNil) (by exact sbCons (by exact ssIf (by exact stCmp (oIs fnv) (by exact sV 3 (pv 3)) sNon (nomark _)) (by exact sbOne (by exact ssRet (by exact sCmpH (oEqE hK hr) (by exact sV 4 (pv 4)) (by exact sTup saNil) (nomark _)))) sbNil) (by exact sbOne (by exact ssRet (by exact sAnd (by exact sPH h__law_is_number pf__law_is_number hr (by omega) rfl tk (by exact saCons (by exact sV 3 (pv 3)) (by exact saCons sInt (by exact saCons sInt saNil)))) (by exact sOne (by exact sCmp oLt (by exact sV 2 (pv 2)) (by exact sV 3 (pv 3)) (nomark _)))))))))))
abbrev s__law_odd : Stmt := top 28
theorem sc__law_odd : FnScope ["_law_deck_here", "_law_thing", "_law_some", "_law_one"] ["_law_deck_here", "_law_thing"] (defScope s__law_odd) := ⟨rfl, rfl, rfl, by decide +kernel, rfl, by decide +kernel, by decide +kernel⟩
theorem bd__law_odd : BindN s__law_odd "_law_odd" ["_law_deck_here", "_law_thing"] := fun _ _ _ _ _ _ us hl => match us, hl with | [_, _], _ => rfl
theorem h__law_odd (D : Def K mg "_law_odd" s__law_odd) (hK : K = Γ.K) (b_len : mg "len" = none) (b_tuple : mg "tuple" = none) (h__law_draw : Has P w K mg base "_law_draw" 1 ["_law_deck_here", "_law_many"] (spF Γ 2 m__law_draw)) : Has P w K mg base "_law_odd" 2 ["_law_deck_here", "_law_thing"] (spF Γ 2 m__law_odd) := by
  refine hasS D bd__law_odd sc__law_odd rfl rfl (fun f cdv A outer s H E hr => ?_)
  have hc : (cxOf (L2.CX P w) P w K mg base ["_law_deck_here", "_law_thing", "_law_some", "_law_one"] "_law_odd" (defScope s__law_odd) f cdv A outer s H E).calm = true := rfl
  have po := passes_of (X := cxOf (L2.CX P w) P w K mg base ["_law_deck_here", "_law_thing", "_law_some", "_law_one"] "_law_odd" (defScope s__law_odd) f cdv A outer s H E) rfl
  have tk := takes_of (X := cxOf (L2.CX P w) P w K mg base ["_law_deck_here", "_law_thing", "_law_some", "_law_one"] "_law_odd" (defScope s__law_odd) f cdv A outer s H E) rfl rfl rfl rfl
  exact (by exact sbCons (by exact ssAsg (by exact sF (by exact slLst (by exact saCons sNon (by exact saCons sBl (by exact saCons sBl (by exact saCons sInt (by exact saCons sInt (by exact saCons (by exact sNeg sInt) (by exact saCons sInt (by exact saCons (by exact sBin oPow sInt sInt) (by exact saCons (by exact sBin oPow sInt sInt) (by exact saCons sStr (by exact saCons sStr (by exact saCons sStr (by exact saCons sStr (by exact saCons (by exact sTup saNil) (by exact saCons (by exact sF (by exact slLst saNil)) (by exact saCons sFDK saNil)))))))))))))))))) (by exact sgN 2 (by exact pg_name sc__law_odd.nd rfl (by first | exact Or.inl rfl | exact Or.inr rfl)))) (by exact sbCons (by exact ssAsg (by exact sBinH (oAdd hK) (by exact sV 2 (pv 2)) (by exact sF (by exact slLst (by exact saCons (by exact sTup (by exact saCons sStr saNil)) (by exact saCons (by exact sTup (by exact saCons sStr (by exact saCons sInt saNil))) (by exact saCons (by exact sBT (cTuple hK) rfl b_tuple (by decide +kernel) (by exact saCons (by exact sF (by exact slC hc sc__law_odd.nd (by exact siStr sStr) (own := [("_law_one", 3)]) (blk_of (by kernel_rfl)) (fun _ _ _ _ _ => (by exact sgN 3 (by exact pg_name sc__law_odd.nd rfl (by first | exact Or.inl rfl | exact Or.inr rfl)))) (fun _ _ _ _ _ => stNil) (fun _ _ _ _ _ => (by exact sTup (by exact saCons (by exact sV 3 (pv 3)) (by exact saCons sInt saNil)))) (by decide))) saNil)) saNil)))))) (by exact sgN 2 (by exact pg_name sc__law_odd.nd rfl (by first | exact Or.inl rfl | exact Or.inr rfl)))) (by exact sbCons (by exact ssAsg (by exact sBinH (oAdd hK) (by exact sV 2 (pv 2)) (by exact sF (by exact slLst (by exact saCons (by exact sF (by exact slLst (by exact saCons (by exact sV 1 (pv 1)) saNil))) (by exact saCons (by exact sTup (by exact saCons (by exact sV 1 (pv 1)) saNil)) (by exact saCons (by exact sFD1 sInt (by exact sV 1 (pv 1))) (by exact saCons (by exact sTup (by exact saCons (by exact sV 1 (pv 1)) (by exact saCons (by exact sV 1 (pv 1)) saNil))) (by exact saCons (by exact sTup (by exact saCons (by exact sTup (by exact saCons sStr (by exact saCons sInt saNil))) saNil)) (by exact saCons (by exact sTup (by exact saCons (by exact sTup (by exact saCons sStr (by exact saCons sInt saNil))) (by exact saCons (by exact sTup (by exact saCons sStr (by exact saCons sInt saNil))) saNil))) (by exact saCons (by exact sTup (by exact saCons (by exact sTup (by exact saCons sStr (by exact saCons sInt saNil))) saNil)) saNil)))))))))) (by exact sgN 2 (by exact pg_name sc__law_odd.nd rfl (by first | exact Or.inl rfl | exact Or.inr rfl)))) (by exact sbCons (by exact ssAsg (by exact sBinH (oAdd hK) (by exact sV 2 (pv 2)) (by exact sF (by exact slLst (by exact saCons (by exact sTup (by exact saCons (by exact sTup (by exact saCons sStr (by exact saCons sInt saNil))) (by exact saCons (by exact sTup (by exact saCons sStr (by exact saCons sInt saNil))) saNil))) (by exact saCons (by exact sTup (by exact saCons (by exact sTup (by exact saCons sStr (by exact saCons sBl saNil))) saNil)) (by exact saCons (by exact sTup (by exact saCons (by exact sTup (by exact saCons sStr (by exact saCons sInt saNil))) saNil)) (by exact saCons (by exact sTup (by exact saCons (by exact sTup (by exact saCons sStr (by exact saCons (by exact sBin oPow sInt sInt) saNil))) saNil)) saNil))))))) (by exact sgN 2 (by exact pg_name sc__law_odd.nd rfl (by first | exact Or.inl rfl | exact Or.inr rfl)))) (by exact sbOne (by exact ssRet (by exact sIx hK (by exact sV 2 (pv 2)) (by exact sFH h__law_draw pf__law_draw hr (by omega) rfl tk (by exact saCons (by exact sV 0 (pv 0)) (by exact saCons (by exact sB (cLen hK) rfl b_len (by decide +kernel) (by exact saCons (by exact sV 2 (pv 2)) saNil)) saNil))) (fun _ _ => rfl))))))))
abbrev s__law_bent : Stmt := top 29
theorem sc__law_bent : FnScope ["_law_deck_here", "_law_thing", "_law_at", "_law_kind"] ["_law_deck_here", "_law_thing"] (defScope s__law_bent) := ⟨rfl, rfl, rfl, by decide +kernel, rfl, by decide +kernel, by decide +kernel⟩
theorem bd__law_bent : BindN s__law_bent "_law_bent" ["_law_deck_here", "_law_thing"] := fun _ _ _ _ _ _ us hl => match us, hl with | [_, _], _ => rfl
theorem t__law_bent (D : Def K mg "_law_bent" s__law_bent) (hK : K = Γ.K) (b_int : mg "int" = none) (b_isinstance : mg "isinstance" = none) (b_len : mg "len" = none) (b_list : mg "list" = none) (b_str : mg "str" = none) (b_tuple : mg "tuple" = none) (h__law_draw : Has P w K mg base "_law_draw" 1 ["_law_deck_here", "_law_many"] (spF Γ 2 m__law_draw)) (h__law_odd : Has P w K mg base "_law_odd" 2 ["_law_deck_here", "_law_thing"] (spF Γ 2 m__law_odd)) (d k : Nat) (hk : 2 ≤ k) (ih : Has P w K mg base "_law_bent" k ["_law_deck_here", "_law_thing"] (spF Γ 2 (m__law_bent d))) : Has P w K mg base "_law_bent" (k + 1) ["_law_deck_here", "_law_thing"] (spF Γ 2 (m__law_bent (d + 1))) := by
  refine hasS D bd__law_bent sc__law_bent rfl rfl (fun f cdv A outer s H E hr => ?_)
  have hc : (cxOf (L2.CX P w) P w K mg base ["_law_deck_here", "_law_thing", "_law_at", "_law_kind"] "_law_bent" (defScope s__law_bent) f cdv A outer s H E).calm = true := rfl
  have po := passes_of (X := cxOf (L2.CX P w) P w K mg base ["_law_deck_here", "_law_thing", "_law_at", "_law_kind"] "_law_bent" (defScope s__law_bent) f cdv A outer s H E) rfl
  have tk := takes_of (X := cxOf (L2.CX P w) P w K mg base ["_law_deck_here", "_law_thing", "_law_at", "_law_kind"] "_law_bent" (defScope s__law_bent) f cdv A outer s H E) rfl rfl rfl rfl
  exact (by exact sbCons (by exact ssIf (by exact stW (by exact stAnd (by exact stV (by exact sIsi hK rfl b_isinstance (by exact sV 1 (pv 1)) (by exact pe_bltn rfl b_tuple (by decide +kernel) rfl))) (by exact stAnd (by exact stCmpH (oNeE hK hr) (by exact sV 1 (pv 1)) (by exact sTup saNil) (nomark _)) (by exact stAnd1 (by exact stCmp oGt (by exact sFH h__law_draw pf__law_draw hr (by omega) rfl tk (by exact saCons (by exact sV 0 (pv 0)) (by exact saCons sInt saNil))) sInt (nomark _)))))) (by exact sbCons (by exact ssAsg (by exact sFH h__law_draw pf__law_draw hr (by omega) rfl tk (by exact saCons (by exact sV 0 (pv 0)) (by exact saCons (by exact sB (cLen hK) rfl b_len (by decide +kernel) (by exact saCons (by exact sV 1 (pv 1)) saNil)) saNil))) (by exact sgN 2 (by exact pg_name sc__law_bent.nd rfl (by first | exact Or.inl rfl | exact Or.inr rfl)))) (by exact sbOne (by exact ssRet (by exact sBinH (oAdd hK) (by exact sBinH (oAdd hK) (by exact sSl hK (by exact sV 1 (pv 1)) soN (by exact soE (by exact sV 2 (pv 2)))) (by exact sTup (by exact saCons (by exact sFH ih (pf__law_bent d) hr (Nat.le_refl _) rfl tk (by exact saCons (by exact sV 0 (pv 0)) (by exact saCons (by exact sIx hK (by exact sV 1 (pv 1)) (by exact sV 2 (pv 2)) (fun _ _ => rfl)) saNil))) saNil))) (by exact sSl hK (by exact sV 1 (pv 1)) (by exact soE (by exact sBinH (oAdd hK) (by exact sV 2 (pv 2)) sInt)) soN))))) sbNil) (by exact sbCons (by exact ssAsg (by exact sFH h__law_draw pf__law_draw hr (by omega) rfl tk (by exact saCons (by exact sV 0 (pv 0)) (by exact saCons sInt saNil))) (by exact sgN 3 (by exact pg_name sc__law_bent.nd rfl (by first | exact Or.inl rfl | exact Or.inr rfl)))) (by exact sbCons (by exact ssIf (by exact stW (by exact stAnd (by exact stV (by exact sIsi hK rfl b_isinstance (by exact sV 1 (pv 1)) (by exact pe_bltn rfl b_tuple (by decide +kernel) rfl))) (by exact stAnd1 (by exact stCmp oLt (by exact sV 3 (pv 3)) sInt (nomark _))))) (by exact sbOne (by exact ssRet (by exact sIx hK (by exact sF (by exact slLst (by exact saCons (by exact sF (by exact slBT (cList hK) rfl b_list (by decide +kernel) (by exact saCons (by exact sV 1 (pv 1)) saNil))) (by exact saCons (by exact sBinH (oAdd hK) (by exact sV 1 (pv 1)) (by exact sTup (by exact saCons sInt saNil))) (by exact saCons (by exact sSl hK (by exact sV 1 (pv 1)) soN (by exact soE (by exact sNeg sInt))) (by exact saCons (by exact sRevT hK (by exact sV 1 (pv 1))) (by exact saCons (by exact sBinH (oAdd hK) (by exact sV 1 (pv 1)) (by exact sSl hK (by exact sV 1 (pv 1)) (by exact soE (by exact sNeg sInt)) soN)) saNil))))))) (by exact sV 3 (pv 3)) (fun _ _ => rfl)))) sbNil) (by exact sbCons (by exact ssIf (by exact stW (by exact stAnd (by exact stV (by exact sIsi hK rfl b_isinstance (by exact sV 1 (pv 1)) (by exact pe_bltn rfl b_str (by decide +kernel) rfl))) (by exact stAnd1 (by exact stCmp oLt (by exact sV 3 (pv 3)) sInt (nomark _))))) (by exact sbOne (by exact ssRet (by exact sIx hK (by exact sF (by exact slLst (by exact saCons (by exact sBinH (oAdd hK) (by exact sV 1 (pv 1)) sStr) (by exact saCons (by exact sM0 tyS_ok mtUpper PySem.F.plainAttrs_str PySem.F.slot_str_upper PySem.F.type_str_upper (by exact sV 1 (pv 1))) (by exact saCons (by exact sSl hK (by exact sV 1 (pv 1)) (by exact soE sInt) soN) (by exact saCons (by exact sBinH (oAdd hK) (by exact sV 1 (pv 1)) sStr) saNil)))))) (by exact sV 3 (pv 3)) (fun _ _ => rfl)))) sbNil) (by exact sbCons (by exact ssIf (by exact stW (by exact stAnd (by exact stV (by exact sIsi hK rfl b_isinstance (by exact sV 1 (pv 1)) (by exact pe_bltn rfl b_int (by decide +kernel) rfl))) (by exact stAnd1 (by exact stCmp oLt (by exact sV 3 (pv 3)) sInt (nomark _))))) (by exact sbOne (by exact ssRet (by exact sIx hK (by exact sF (by exact slLst (by exact saCons (by exact sBinH (oAdd hK) (by exact sV 1 (pv 1)) sInt) (by exact saCons (by exact sBin oSub (by exact sV 1 (pv 1)) sInt) (by exact saCons sInt (by exact saCons (by exact sBin oSub sInt (by exact sV 1 (pv 1))) (by exact saCons (by exact sCmpH (oEq hK hr) (by exact sV 1 (pv 1)) sInt (nomark _)) saNil))))))) (by exact sV 3 (pv 3)) (fun _ _ => rfl)))) sbNil) (by exact sbOne (by exact ssRet (by exact sFH h__law_odd pf__law_odd hr (by omega) rfl tk (by exact saCons (by exact sV 0 (pv 0)) (by exact saCons (by exact sV 1 (pv 1)) saNil))))))))))
theorem h__law_bent (D : Def K mg "_law_bent" s__law_bent) (hK : K = Γ.K) (b_int : mg "int" = none) (b_isinstance : mg "isinstance" = none) (b_len : mg "len" = none) (b_list : mg "list" = none) (b_str : mg "str" = none) (b_tuple : mg "tuple" = none) (h__law_draw : Has P w K mg base "_law_draw" 1 ["_law_deck_here", "_law_many"] (spF Γ 2 m__law_draw)) (h__law_odd : Has P w K mg base "_law_odd" 2 ["_law_deck_here", "_law_thing"] (spF Γ 2 m__law_odd)) : ∀ d, Has P w K mg base "_law_bent" (2 + d) ["_law_deck_here", "_law_thing"] (spF Γ 2 (m__law_bent d))
  | 0 => hasZ D bd__law_bent rfl
  | d + 1 => t__law_bent D hK b_int b_isinstance b_len b_list b_str b_tuple h__law_draw h__law_odd d (2 + d) (Nat.le_add_right _ _) (h__law_bent D hK b_int b_isinstance b_len b_list b_str b_tuple h__law_draw h__law_odd d)
abbrev s__law_right : Stmt := top 30
theorem sc__law_right : FnScope ["_law_thing", "_law_kept"] ["_law_thing"] (defScope s__law_right) := ⟨rfl, rfl, rfl, by decide +kernel, rfl, by decide +kernel, by decide +kernel⟩
theorem bd__law_right : BindN s__law_right "_law_right" ["_law_thing"] := fun _ _ _ _ _ _ us hl => match us, hl with | [_], _ => rfl
theorem h__law_right (D : Def K mg "_law_right" s__law_right) (hK : K = Γ.K) (hsys : ∃ o, base.get? sysModules = some o) (b_repr : mg "repr" = none) (h__law_is_dealing : Has P w K mg base "_law_is_dealing" 4 ["_law_thing"] (spP Γ 1 m__law_is_dealing)) (h_is_dealing : Has P w K mg base "is_dealing" 5 ["thing"] (spP Γ 1 m_is_dealing)) : HasG P w K mg base "_law_right" 6 ["_law_thing"] (spF Γ 1 m__law_right) := by
  refine hasSG D bd__law_right sc__law_right rfl rfl (fun f cdv A outer s H E hgd hr => ?_)
  have hc : (cxOf (L2.CX P w) P w K mg base ["_law_thing", "_law_kept"] "_law_right" (defScope s__law_right) f cdv A outer s H E).calm = true := rfl
  have po := passes_of (X := cxOf (L2.CX P w) P w K mg base ["_law_thing", "_law_kept"] "_law_right" (defScope s__law_right) f cdv A outer s H E) rfl
  have tk := takes_of (X := cxOf (L2.CX P w) P w K mg base ["_law_thing", "_law_kept"] "_law_right" (defScope s__law_right) f cdv A outer s H E) rfl rfl rfl rfl
  exact (by exact sbCons (by exact ssAsg (by exact sB (cRepr hK hgd hr hsys) rfl b_repr (by decide +kernel) (by exact saCons (by exact sV 0 (pv 0)) saNil)) (by exact sgN 1 (by exact pg_name sc__law_right.nd rfl (by first | exact Or.inl rfl | exact Or.inr rfl)))) (by exact sbOne (by exact ssRet (by exact sAnd (by exact sCmpH (oEq hK hr) (by exact sB (cRepr hK hgd hr hsys) rfl b_repr (by decide +kernel) (by exact saCons (by exact sPH h_is_dealing pf_is_dealing hr (by omega) rfl tk (by exact saCons (by exact sV 0 (pv 0)) saNil)) saNil)) (by exact sB (cRepr hK hgd hr hsys) rfl b_repr (by decide +kernel) (by exact saCons (by exact sPH h__law_is_dealing pf__law_is_dealing hr (by omega) rfl tk (by exact saCons (by exact sV 0 (pv 0)) saNil)) saNil)) (nomark _)) (by exact sOne (by exact sCmpH (oEq hK hr) (by exact sB (cRepr hK hgd hr hsys) rfl b_repr (by decide +kernel) (by exact saCons (by exact sV 0 (pv 0)) saNil)) (by exact sV 1 (pv 1)) (nomark _)))))))
abbrev s_law : Stmt := top 31
theorem sc_law : FnScope ["_law_script", "_law_deck_here", "_law_rows", "_law_odd_here", "_law_row", "_law_k", "_law_twice", "_law_thing"] ["_law_script"] (defScope s_law) := ⟨rfl, rfl, rfl, by decide +kernel, rfl, by decide +kernel, by decide +kernel⟩
theorem bd_law : BindN s_law "law" ["_law_script"] := fun _ _ _ _ _ _ us hl => match us, hl with | [_], _ => rfl
theorem h_law (D : Def K mg "law" s_law) (hK : K = Γ.K) (fnv : ∀ f v, Γ.fnv f v → v ≠ .non) (hsys : ∃ o, base.get? sysModules = some o) (b_range : mg "range" = none) (h__law_bent : Has P w K mg base "_law_bent" 10 ["_law_deck_here", "_law_thing"] (spF Γ 2 (m__law_bent 8))) (h__law_deck : Has P w K mg base "_law_deck" 1 ["_law_script"] (spF Γ 1 m__law_deck)) (h__law_draw : Has P w K mg base "_law_draw" 1 ["_law_deck_here", "_law_many"] (spF Γ 2 m__law_draw)) (h__law_right : HasG P w K mg base "_law_right" 6 ["_law_thing"] (spF Γ 1 m__law_right)) (h__law_some_dealings : Has P w K mg base "_law_some_dealings" 4 ["_law_deck_here"] (spF Γ 1 m__law_some_dealings)) (h_is_dealing : Has P w K mg base "is_dealing" 5 ["thing"] (spP Γ 1 m_is_dealing)) : HasG P w K mg base "law" 11 ["_law_script"] (spF Γ 1 m_law) := by
  refine hasSG D bd_law sc_law rfl rfl (fun f cdv A outer s H E hgd hr => ?_)
  have hc : (cxOf (L2.CX P w) P w K mg base ["_law_script", "_law_deck_here", "_law_rows", "_law_odd_here", "_law_row", "_law_k", "_law_twice", "_law_thing"] "law" (defScope s_law) f cdv A outer s H E).calm = true := rfl
  have po := passes_of (X := cxOf (L2.CX P w) P w K mg base ["_law_script", "_law_deck_here", "_law_rows", "_law_odd_here", "_law_row", "_law_k", "_law_twice", "_law_thing"] "law" (defScope s_law) f cdv A outer s H E) rfl
  have tk := takes_of (X := cxOf (L2.CX P w) P w K mg base ["_law_script", "_law_deck_here", "_law_rows", "_law_odd_here", "_law_row", "_law_k", "_law_twice", "_law_thing"] "law" (defScope s_law) f cdv A outer s H E) rfl rfl rfl rfl
  exact (by exact sbCons (by exact ssAsg (by exact sFH h__law_deck pf__law_deck hr (by omega) rfl tk (by exact saCons (by exact sV 0 (pv 0)) saNil)) (by exact sgN 1 (by exact pg_name sc_law.nd rfl (by first | exact Or.inl rfl | exact Or.inr rfl)))) (by exact sbCons (by exact ssAsg (by exact sBinH (oAdd hK) (by exact sFH h__law_some_dealings pf__law_some_dealings hr (by omega) rfl tk (by exact saCons (by exact sV 1 (pv 1)) saNil)) (by exact sTup (by exact saCons (by exact sTup (by exact saCons sInt (by exact saCons sInt (by exact saCons sNon (by exact saCons (by exact sTup saNil) (by exact saCons (by exact sTup saNil) saNil)))))) (by exact saCons (by exact sTup (by exact saCons sInt (by exact saCons sInt (by exact saCons sInt (by exact saCons (by exact sTup saNil) (by exact saCons (by exact sTup saNil) saNil)))))) saNil)))) (by exact sgN 2 (by exact pg_name sc_law.nd rfl (by first | exact Or.inl rfl | exact Or.inr rfl)))) (by exact sbCons (by exact ssAsg (by exact sF (by exact slLst (by exact saCons sNon (by exact saCons sBl (by exact saCons sInt (by exact saCons sStr (by exact saCons (by exact sTup saNil) (by exact saCons (by exact sF (by exact slLst saNil)) (by exact saCons sFDK (by exact saCons (by exact sTup (by exact saCons sInt (by exact saCons sInt (by exact saCons sInt (by exact saCons (by exact sTup saNil) saNil))))) (by exact saCons (by exact sTup (by exact saCons sInt (by exact saCons sInt (by exact saCons sInt (by exact saCons (by exact sTup saNil) (by exact saCons (by exact sTup saNil) (by exact saCons (by exact sTup saNil) saNil))))))) (by exact saCons (by exact sF (by exact slLst (by exact saCons sInt (by exact saCons sInt (by exact saCons sInt (by exact saCons (by exact sTup saNil) (by exact saCons (by exact sTup saNil) saNil))))))) saNil)))))))))))) (by exact sgN 3 (by exact pg_name sc_law.nd rfl (by first | exact Or.inl rfl | exact Or.inr rfl)))) (by exact sbCons (by exact ssAsg (by exact sBinH (oAdd hK) (by exact sV 3 (pv 3)) (by exact sF (by exact slLst (by exact saCons (by exact sTup (by exact saCons sInt (by exact saCons sInt (by exact saCons sInt (by exact saCons (by exact sTup saNil) (by exact saCons (by exact sTup saNil) saNil)))))) (by exact saCons (by exact sTup (by exact saCons sInt (by exact saCons sInt (by exact saCons sInt (by exact saCons (by exact sTup saNil) (by exact saCons (by exact sTup saNil) saNil)))))) (by exact saCons (by exact sTup (by exact saCons sInt (by exact saCons sInt (by exact saCons sInt (by exact saCons (by exact sTup saNil) (by exact saCons (by exact sTup saNil) saNil)))))) (by exact saCons (by exact sTup (by exact saCons sInt (by exact saCons (by exact sNeg sInt) (by exact saCons sInt (by exact saCons (by exact sTup saNil) (by exact saCons (by exact sTup saNil) saNil)))))) saNil))))))) (by exact sgN 3 (by exact pg_name sc_law.nd rfl (by first | exact Or.inl rfl | exact Or.inr rfl)))) (by exact sbCons (by exact ssAsg (by exact sBinH (oAdd hK) (by exact sV 3 (pv 3)) (by exact sF (by exact slLst (by exact saCons (by exact sTup (by exact saCons sInt (by exact saCons sInt (by exact saCons (by exact sBin oPow sInt sInt) (by exact saCons (by exact sTup saNil) (by exact saCons (by exact sTup saNil) saNil)))))) (by exact saCons (by exact sTup (by exact saCons sInt (by exact saCons sBl (by exact saCons sInt (by exact saCons (by exact sTup saNil) (by exact saCons (by exact sTup saNil) saNil)))))) (by exact saCons (by exact sTup (by exact saCons sInt (by exact saCons sInt (by exact saCons sNon (by exact saCons (by exact sTup (by exact saCons (by exact sTup (by exact saCons sStr (by exact saCons sInt saNil))) saNil)) (by exact saCons (by exact sTup saNil) saNil)))))) saNil)))))) (by exact sgN 3 (by exact pg_name sc_law.nd rfl (by first | exact Or.inl rfl | exact Or.inr rfl)))) (by exact sbCons (by exact ssAsg (by exact sBinH (oAdd hK) (by exact sV 3 (pv 3)) (by exact sF (by exact slLst (by exact saCons (by exact sTup (by exact saCons sInt (by exact saCons sInt (by exact saCons sInt (by exact saCons (by exact sTup (by exact saCons (by exact sTup (by exact saCons sStr (by exact saCons sInt saNil))) saNil)) (by exact saCons (by exact sTup (by exact saCons (by exact sTup (by exact saCons sStr (by exact saCons sInt saNil))) saNil)) saNil)))))) (by exact saCons (by exact sTup (by exact saCons sInt (by exact saCons sInt (by exact saCons sInt (by exact saCons (by exact sF (by exact slLst saNil)) (by exact saCons (by exact sTup saNil) saNil)))))) (by exact saCons (by exact sTup (by exact saCons sInt (by exact saCons sInt (by exact saCons sInt (by exact saCons (by exact sTup saNil) (by exact saCons sNon saNil)))))) saNil)))))) (by exact sgN 3 (by exact pg_name sc_law.nd rfl (by first | exact Or.inl rfl | exact Or.inr rfl)))) (by exact sbCons (by exact ssAsg (by exact sBinH (oAdd hK) (by exact sV 3 (pv 3)) (by exact sF (by exact slLst (by exact saCons (by exact sTup (by exact saCons sInt (by exact saCons (by exact sBin oPow sInt sInt) (by exact saCons sNon (by exact saCons (by exact sTup saNil) (by exact saCons (by exact sTup saNil) saNil)))))) (by exact saCons (by exact sTup (by exact saCons sInt (by exact saCons sInt (by exact saCons sNon (by exact saCons (by exact sTup saNil) (by exact saCons (by exact sTup saNil) saNil)))))) (by exact saCons (by exact sTup (by exact saCons sInt (by exact saCons (by exact sNeg sInt) (by exact saCons sNon (by exact saCons (by exact sTup saNil) (by exact saCons (by exact sTup saNil) saNil)))))) (by exact saCons (by exact sTup (by exact saCons sInt (by exact saCons sInt (by exact saCons sInt (by exact saCons (by exact sTup saNil) (by exact saCons (by exact sTup saNil) saNil)))))) saNil))))))) (by exact sgN 3 (by exact pg_name sc_law.nd rfl (by first | exact Or.inl rfl | exact Or.inr rfl)))) (by exact sbCons (by exact ssFor po hc (by exact siFast hK (by exact sSl hK (by exact sV 2 (pv 2)) soN (by exact soE sInt))) (by exact sgN 4 (by exact pg_name sc_law.nd rfl (by first | exact Or.inl rfl | exact Or.inr rfl))) (by exact sbCons (by exact ssIf (by exact stCmp (oIsNot fnv) (by exact sPH h_is_dealing pf_is_dealing hr (by omega) rfl tk (by exact saCons (by exact sV 4 (pv 4)) saNil)) sBl (nomark _)) (by exact sbOne (by exact ssRet sBl)) sbNil) (by exact sbCons (by exact ssFor po hc (by exact siRange1 rfl b_range sInt) (by exact sgN 5 (by exact pg_name sc_law.nd rfl (by first | exact Or.inl rfl | exact Or.inr rfl))) (by exact sbCons (by exact ssAsg (by exact sFH h__law_draw pf__law_draw hr (by omega) rfl tk (by exact saCons (by exact sV 1 (pv 1)) (by exact saCons sInt saNil))) (by exact sgN 6 (by exact pg_name sc_law.nd rfl (by first | exact Or.inl rfl | exact Or.inr rfl)))) (by exact sbCons (by exact ssAsg (by exact sFH h__law_bent (pf__law_bent 8) hr (by omega) rfl tk (by exact saCons (by exact sV 1 (pv 1)) (by exact saCons (by exact sV 4 (pv 4)) saNil))) (by exact sgN 7 (by exact pg_name sc_law.nd rfl (by first | exact Or.inl rfl | exact Or.inr rfl)))) (by exact sbCons (by exact ssIf (by exact stCmpH (oEq hK hr) (by exact sV 6 (pv 6)) sInt (nomark _)) (by exact sbOne (by exact ssAsg (by exact sFH h__law_bent (pf__law_bent 8) hr (by omega) rfl tk (by exact saCons (by exact sV 1 (pv 1)) (by exact saCons (by exact sV 7 (pv 7)) saNil))) (by exact sgN 7 (by exact pg_name sc_law.nd rfl (by first | exact Or.inl rfl | exact Or.inr rfl))))) sbNil) (by exact sbOne (by exact ssIf (by exact stNot (by exact stV (by exact sFHG h__law_right pf__law_right hgd hr (by omega) rfl tk (by exact saCons (by exact sV 7 (pv 7)) saNil)))) (by exact sbOne (by exact ssRet sBl)) sbNil)))))) (by exact sbOne (by exact ssIf (by exact stNot (by exact stV (by exact sFHG h__law_right pf__law_right hgd hr (by omega) rfl tk (by exact saCons (by exact sV 4 (pv 4)) saNil)))) (by exact sbOne (by exact ssRet sBl)) sbNil))))) (by exact sbOne (by exact ssRet (by exact sCmpH (oEqE hK hr) (by exact sF (by exact slC hc sc_law.nd (by exact siFast hK (by exact sV 3 (pv 3))) (own := [("_law_thing", 7)]) (blk_of (by kernel_rfl)) (fun _ _ _ _ _ => (by exact sgN 7 (by exact pg_name sc_law.nd rfl (by first | exact Or.inl rfl | exact Or.inr rfl)))) (fun _ _ _ _ _ => (by exact stOne (by exact stNot (by exact stV (by exact sFHG h__law_right pf__law_right hgd hr (by omega) rfl takes0 (by exact saCons (by exact sV 7 (pv 7)) saNil)))))) (fun _ _ _ _ _ => (by exact sV 7 (pv 7))) (by decide))) (by exact sF (by exact slLst saNil)) (nomark _))))))))))))
theorem join (D_is_between : Def K mg "is_between" s_is_between) (D_is_key : Def K mg "is_key" s_is_key) (D_is_moment : Def K mg "is_moment" s_is_moment) (D_is_worth_of : Def K mg "is_worth_of" s_is_worth_of) (D_are_rising : Def K mg "are_rising" s_are_rising) (D_are_worths : Def K mg "are_worths" s_are_worths) (D_are_reads : Def K mg "are_reads" s_are_reads) (D_are_writes : Def K mg "are_writes" s_are_writes) (D_is_dealing : Def K mg "is_dealing" s_is_dealing) (D__law_deck : Def K mg "_law_deck" s__law_deck) (D__law_draw : Def K mg "_law_draw" s__law_draw) (D__law_keys : Def K mg "_law_keys" s__law_keys) (D__law_worths : Def K mg "_law_worths" s__law_worths) (D__law_begun : Def K mg "_law_begun" s__law_begun) (D__law_dealings : Def K mg "_law_dealings" s__law_dealings) (D__law_some_dealings : Def K mg "_law_some_dealings" s__law_some_dealings) (D__law_is_number : Def K mg "_law_is_number" s__law_is_number) (D__law_is_worth : Def K mg "_law_is_worth" s__law_is_worth) (D__law_are_worths : Def K mg "_law_are_worths" s__law_are_worths) (D__law_is_dealing : Def K mg "_law_is_dealing" s__law_is_dealing) (D__law_odd : Def K mg "_law_odd" s__law_odd) (D__law_bent : Def K mg "_law_bent" s__law_bent) (D__law_right : Def K mg "_law_right" s__law_right) (D_law : Def K mg "law" s_law) (hK : K = Γ.K) (fnv : ∀ f v, Γ.fnv f v → v ≠ .non) (hsys : ∃ o, base.get? sysModules = some o) (b_all : mg "all" = none) (b_bool : mg "bool" = none) (b_dict : mg "dict" = none) (b_int : mg "int" = none) (b_isinstance : mg "isinstance" = none) (b_len : mg "len" = none) (b_list : mg "list" = none) (b_max : mg "max" = none) (b_range : mg "range" = none) (b_repr : mg "repr" = none) (b_set : mg "set" = none) (b_sorted : mg "sorted" = none) (b_str : mg "str" = none) (b_sum : mg "sum" = none) (b_tuple : mg "tuple" = none) (b_zip : mg "zip" = none) (g_LAST_HAND : ∃ t, mg "LAST_HAND" = some (.int 7 t)) (g_LAST_MOMENT : ∃ t, mg "LAST_MOMENT" = some (.int 999999 t)) (g_LETTERS : ∃ t, mg "LETTERS" = some (.str "abcdefghijklmnopqrstuvwxyz" t)) (g_MOST_KEYS : ∃ t, mg "MOST_KEYS" = some (.int 4 t)) (g_MOST_LETTERS : ∃ t, mg "MOST_LETTERS" = some (.int 8 t)) (g_MOST_WORTH : ∃ t, mg "MOST_WORTH" = some (.int 999999 t)) : HasG P w K mg base "law" 11 ["_law_script"] (spF Γ 1 m_law) := by
  have h_is_between := h_is_between (Γ := Γ) (P := P) (w := w) (base := base) D_is_between hK b_bool b_int b_isinstance
  have h_is_key := h_is_key (Γ := Γ) (P := P) (w := w) (base := base) D_is_key hK b_all b_isinstance b_len b_str g_LETTERS g_MOST_LETTERS
  have h_is_moment := h_is_moment (Γ := Γ) (P := P) (w := w) (base := base) D_is_moment hK g_LAST_MOMENT h_is_between
  have h_is_worth_of := h_is_worth_of (Γ := Γ) (P := P) (w := w) (base := base) D_is_worth_of hK b_isinstance b_len b_tuple g_MOST_WORTH h_is_between h_is_key
  have h_are_rising := h_are_rising (Γ := Γ) (P := P) (w := w) (base := base) D_are_rising hK b_all b_zip
  have h_are_worths := h_are_worths (Γ := Γ) (P := P) (w := w) (base := base) D_are_worths hK b_all b_isinstance b_len b_tuple g_MOST_KEYS h_are_rising h_is_worth_of
  have h_are_reads := h_are_reads (Γ := Γ) (P := P) (w := w) (base := base) D_are_reads hK h_are_worths
  have h_are_writes := h_are_writes (Γ := Γ) (P := P) (w := w) (base := base) D_are_writes hK h_are_worths
  have h_is_dealing := h_is_dealing (Γ := Γ) (P := P) (w := w) (base := base) D_is_dealing hK fnv b_isinstance b_len b_tuple g_LAST_HAND h_are_reads h_are_writes h_is_between h_is_moment
  have h__law_deck := h__law_deck (Γ := Γ) (P := P) (w := w) (base := base) D__law_deck hK b_list b_sum
  have h__law_draw := h__law_draw (Γ := Γ) (P := P) (w := w) (base := base) D__law_draw hK
  have h__law_keys := h__law_keys (Γ := Γ) (P := P) (w := w) (base := base) D__law_keys hK b_range b_sorted h__law_draw
  have h__law_worths := h__law_worths (Γ := Γ) (P := P) (w := w) (base := base) D__law_worths hK b_len b_sorted b_tuple h__law_draw
  have h__law_begun := h__law_begun (Γ := Γ) (P := P) (w := w) (base := base) D__law_begun hK b_max b_sorted b_tuple h__law_draw
  have h__law_dealings := h__law_dealings (Γ := Γ) (P := P) (w := w) (base := base) D__law_dealings hK b_dict b_len b_range b_tuple h__law_begun h__law_draw h__law_worths
  have h__law_some_dealings := h__law_some_dealings (Γ := Γ) (P := P) (w := w) (base := base) D__law_some_dealings hK b_int h__law_dealings h__law_draw h__law_keys
  have h__law_is_number := h__law_is_number (Γ := Γ) (P := P) (w := w) (base := base) D__law_is_number hK b_bool b_int b_isinstance
  have h__law_is_worth := h__law_is_worth (Γ := Γ) (P := P) (w := w) (base := base) D__law_is_worth hK b_isinstance b_len b_str b_tuple h__law_is_number
  have h__law_are_worths := h__law_are_worths (Γ := Γ) (P := P) (w := w) (base := base) D__law_are_worths hK b_isinstance b_len b_set b_sorted b_tuple h__law_is_worth
  have h__law_is_dealing := h__law_is_dealing (Γ := Γ) (P := P) (w := w) (base := base) D__law_is_dealing hK fnv b_isinstance b_len b_tuple h__law_are_worths h__law_is_number
  have h__law_odd := h__law_odd (Γ := Γ) (P := P) (w := w) (base := base) D__law_odd hK b_len b_tuple h__law_draw
  have h__law_bent := h__law_bent (Γ := Γ) (P := P) (w := w) (base := base) D__law_bent hK b_int b_isinstance b_len b_list b_str b_tuple h__law_draw h__law_odd 8
  have h__law_right := h__law_right (Γ := Γ) (P := P) (w := w) (base := base) D__law_right hK hsys b_repr h__law_is_dealing h_is_dealing
  have h_law := h_law (Γ := Γ) (P := P) (w := w) (base := base) D_law hK fnv hsys b_range h__law_bent h__law_deck h__law_draw h__law_right h__law_some_dealings h_is_dealing
  exact h_law
end
end K01
end

section
set_option Elab.async false
set_option linter.all false
set_option maxRecDepth 100000
set_option maxHeartbeats 0
namespace K01
open PySem PySem.Spec PyProof.Rows L2
def topH (i : Nat) : Stmt := PySem.Challenge.pw_historyjudge_k01_what_are_dealings.main.body.getD i (.Pass ⟨0, 0, 0, 0⟩)
def d_is_between : He.DefD := ⟨("is_between", none), "is_between", "is_between", defArgs (topH 7), defBody (topH 7), defScope (topH 7), [], []⟩
def d_is_key : He.DefD := ⟨("is_key", none), "is_key", "is_key", defArgs (topH 8), defBody (topH 8), defScope (topH 8), [], []⟩
def d_is_moment : He.DefD := ⟨("is_moment", none), "is_moment", "is_moment", defArgs (topH 9), defBody (topH 9), defScope (topH 9), [], []⟩
def d_is_worth_of : He.DefD := ⟨("is_worth_of", none), "is_worth_of", "is_worth_of", defArgs (topH 10), defBody (topH 10), defScope (topH 10), [], []⟩
def d_are_rising : He.DefD := ⟨("are_rising", none), "are_rising", "are_rising", defArgs (topH 11), defBody (topH 11), defScope (topH 11), [], []⟩
def d_are_worths : He.DefD := ⟨("are_worths", none), "are_worths", "are_worths", defArgs (topH 12), defBody (topH 12), defScope (topH 12), [], []⟩
def d_are_reads : He.DefD := ⟨("are_reads", none), "are_reads", "are_reads", defArgs (topH 13), defBody (topH 13), defScope (topH 13), [], []⟩
def d_are_writes : He.DefD := ⟨("are_writes", none), "are_writes", "are_writes", defArgs (topH 14), defBody (topH 14), defScope (topH 14), [], []⟩
def d_is_dealing : He.DefD := ⟨("is_dealing", none), "is_dealing", "is_dealing", defArgs (topH 15), defBody (topH 15), defScope (topH 15), [], []⟩
def d__law_deck : He.DefD := ⟨("_law_deck", none), "_law_deck", "_law_deck", defArgs (topH 17), defBody (topH 17), defScope (topH 17), [], []⟩
def d__law_draw : He.DefD := ⟨("_law_draw", none), "_law_draw", "_law_draw", defArgs (topH 18), defBody (topH 18), defScope (topH 18), [], []⟩
def d__law_keys : He.DefD := ⟨("_law_keys", none), "_law_keys", "_law_keys", defArgs (topH 19), defBody (topH 19), defScope (topH 19), [], []⟩
def d__law_worths : He.DefD := ⟨("_law_worths", none), "_law_worths", "_law_worths", defArgs (topH 20), defBody (topH 20), defScope (topH 20), [], []⟩
def d__law_begun : He.DefD := ⟨("_law_begun", none), "_law_begun", "_law_begun", defArgs (topH 21), defBody (topH 21), defScope (topH 21), [], []⟩
def d__law_dealings : He.DefD := ⟨("_law_dealings", none), "_law_dealings", "_law_dealings", defArgs (topH 22), defBody (topH 22), defScope (topH 22), [], []⟩
def d__law_some_dealings : He.DefD := ⟨("_law_some_dealings", none), "_law_some_dealings", "_law_some_dealings", defArgs (topH 23), defBody (topH 23), defScope (topH 23), [], []⟩
def d__law_is_number : He.DefD := ⟨("_law_is_number", none), "_law_is_number", "_law_is_number", defArgs (topH 24), defBody (topH 24), defScope (topH 24), [], []⟩
def d__law_is_worth : He.DefD := ⟨("_law_is_worth", none), "_law_is_worth", "_law_is_worth", defArgs (topH 25), defBody (topH 25), defScope (topH 25), [], []⟩
def d__law_are_worths : He.DefD := ⟨("_law_are_worths", none), "_law_are_worths", "_law_are_worths", defArgs (topH 26), defBody (topH 26), defScope (topH 26), [], []⟩
def d__law_is_dealing : He.DefD := ⟨("_law_is_dealing", none), "_law_is_dealing", "_law_is_dealing", defArgs (topH 27), defBody (topH 27), defScope (topH 27), [], []⟩
def d__law_odd : He.DefD := ⟨("_law_odd", none), "_law_odd", "_law_odd", defArgs (topH 28), defBody (topH 28), defScope (topH 28), [], []⟩
def d__law_bent : He.DefD := ⟨("_law_bent", none), "_law_bent", "_law_bent", defArgs (topH 29), defBody (topH 29), defScope (topH 29), [], []⟩
def d__law_right : He.DefD := ⟨("_law_right", none), "_law_right", "_law_right", defArgs (topH 30), defBody (topH 30), defScope (topH 30), [], []⟩
def d_law : He.DefD := ⟨("law", none), "law", "law", defArgs (topH 31), defBody (topH 31), defScope (topH 31), [], []⟩
def fn : List He.DefD := [d_is_between, d_is_key, d_is_moment, d_is_worth_of, d_are_rising, d_are_worths, d_are_reads, d_are_writes, d_is_dealing, d__law_deck, d__law_draw, d__law_keys, d__law_worths, d__law_begun, d__law_dealings, d__law_some_dealings, d__law_is_number, d__law_is_worth, d__law_are_worths, d__law_is_dealing, d__law_odd, d__law_bent, d__law_right, d_law]
def fa : List He.Fa := [.glo "is_between", .glo "is_key", .glo "is_moment", .glo "is_worth_of", .glo "are_rising", .glo "are_worths", .glo "are_reads", .glo "are_writes", .glo "is_dealing", .glo "_law_deck", .glo "_law_draw", .glo "_law_keys", .glo "_law_worths", .glo "_law_begun", .glo "_law_dealings", .glo "_law_some_dealings", .glo "_law_is_number", .glo "_law_is_worth", .glo "_law_are_worths", .glo "_law_is_dealing", .glo "_law_odd", .glo "_law_bent", .glo "_law_right", .glo "law", .free "all", .free "bool", .free "dict", .free "int", .free "isinstance", .free "len", .free "list", .free "max", .free "range", .free "repr", .free "set", .free "sorted", .free "str", .free "sum", .free "tuple", .free "zip", .str "LETTERS" "abcdefghijklmnopqrstuvwxyz", .int "MOST_LETTERS" 8, .int "MOST_WORTH" 999999, .int "LAST_HAND" 7, .int "LAST_MOMENT" 999999, .int "MOST_KEYS" 4]
abbrev R : PySem.W.OpenRow := PySem.W.OpenLaw.row PySem.Challenge.rw_historyjudge_k01_what_are_dealings
abbrev hk : PySem.W.Hook := He.hookD 4 fa fn
def ob (s : PySem.W.SharedT) : He.AlD := He.obsDG 4 fa fn (HandSHeadRun.getT s)
theorem ob_eq (s : PySem.W.SharedT) : ob s = hk.obs s.abs := He.obsDG_eq (HandSHeadRun.getT_eq s)
def names : List PySem.Str := ["is_between", "is_key", "is_moment", "is_worth_of", "are_rising", "are_worths", "are_reads", "are_writes", "is_dealing", "_law_deck", "_law_draw", "_law_keys", "_law_worths", "_law_begun", "_law_dealings", "_law_some_dealings", "_law_is_number", "_law_is_worth", "_law_are_worths", "_law_is_dealing", "_law_odd", "_law_bent", "_law_right", "LETTERS", "MOST_LETTERS", "MOST_WORTH", "LAST_HAND", "LAST_MOMENT", "MOST_KEYS"]
theorem run (w : World) : HandSHeadRun.RunEq R (PySem.W.view R.prog [31]) hk ob 4000 names w := by
  intro os
  kernel_rfl
end K01
end

section
set_option linter.all false
set_option Elab.async false
set_option maxRecDepth 100000
set_option maxHeartbeats 4000000
namespace K01
open PySem PySem.Spec PyProof.Rows L2 Sim Mir
section
variable {Γ : Gam} {P : Program} {w : World} {K : PySem.W.Frag} {mg : Str → Option Value} {base h : Heap}
theorem D_is_between (X : K.In h) (G : h.Ns mainGlobals mg) (c : He.SaysD fa fn K) : Def K mg "is_between" s_is_between := by
  obtain ⟨fd, F⟩ := c.def_ 0 (d := d_is_between) rfl
  exact ⟨_, fd, He.glo_ok X G (c.fact 0 (f := .glo "is_between") rfl), F⟩
theorem D_is_key (X : K.In h) (G : h.Ns mainGlobals mg) (c : He.SaysD fa fn K) : Def K mg "is_key" s_is_key := by
  obtain ⟨fd, F⟩ := c.def_ 1 (d := d_is_key) rfl
  exact ⟨_, fd, He.glo_ok X G (c.fact 1 (f := .glo "is_key") rfl), F⟩
theorem D_is_moment (X : K.In h) (G : h.Ns mainGlobals mg) (c : He.SaysD fa fn K) : Def K mg "is_moment" s_is_moment := by
  obtain ⟨fd, F⟩ := c.def_ 2 (d := d_is_moment) rfl
  exact ⟨_, fd, He.glo_ok X G (c.fact 2 (f := .glo "is_moment") rfl), F⟩
theorem D_is_worth_of (X : K.In h) (G : h.Ns mainGlobals mg) (c : He.SaysD fa fn K) : Def K mg "is_worth_of" s_is_worth_of := by
  obtain ⟨fd, F⟩ := c.def_ 3 (d := d_is_worth_of) rfl
  exact ⟨_, fd, He.glo_ok X G (c.fact 3 (f := .glo "is_worth_of") rfl), F⟩
theorem D_are_rising (X : K.In h) (G : h.Ns mainGlobals mg) (c : He.SaysD fa fn K) : Def K mg "are_rising" s_are_rising := by
  obtain ⟨fd, F⟩ := c.def_ 4 (d := d_are_rising) rfl
  exact ⟨_, fd, He.glo_ok X G (c.fact 4 (f := .glo "are_rising") rfl), F⟩
theorem D_are_worths (X : K.In h) (G : h.Ns mainGlobals mg) (c : He.SaysD fa fn K) : Def K mg "are_worths" s_are_worths := by
  obtain ⟨fd, F⟩ := c.def_ 5 (d := d_are_worths) rfl
  exact ⟨_, fd, He.glo_ok X G (c.fact 5 (f := .glo "are_worths") rfl), F⟩
theorem D_are_reads (X : K.In h) (G : h.Ns mainGlobals mg) (c : He.SaysD fa fn K) : Def K mg "are_reads" s_are_reads := by
  obtain ⟨fd, F⟩ := c.def_ 6 (d := d_are_reads) rfl
  exact ⟨_, fd, He.glo_ok X G (c.fact 6 (f := .glo "are_reads") rfl), F⟩
theorem D_are_writes (X : K.In h) (G : h.Ns mainGlobals mg) (c : He.SaysD fa fn K) : Def K mg "are_writes" s_are_writes := by
  obtain ⟨fd, F⟩ := c.def_ 7 (d := d_are_writes) rfl
  exact ⟨_, fd, He.glo_ok X G (c.fact 7 (f := .glo "are_writes") rfl), F⟩
theorem D_is_dealing (X : K.In h) (G : h.Ns mainGlobals mg) (c : He.SaysD fa fn K) : Def K mg "is_dealing" s_is_dealing := by
  obtain ⟨fd, F⟩ := c.def_ 8 (d := d_is_dealing) rfl
  exact ⟨_, fd, He.glo_ok X G (c.fact 8 (f := .glo "is_dealing") rfl), F⟩
theorem D__law_deck (X : K.In h) (G : h.Ns mainGlobals mg) (c : He.SaysD fa fn K) : Def K mg "_law_deck" s__law_deck := by
  obtain ⟨fd, F⟩ := c.def_ 9 (d := d__law_deck) rfl
  exact ⟨_, fd, He.glo_ok X G (c.fact 9 (f := .glo "_law_deck") rfl), F⟩
theorem D__law_draw (X : K.In h) (G : h.Ns mainGlobals mg) (c : He.SaysD fa fn K) : Def K mg "_law_draw" s__law_draw := by
  obtain ⟨fd, F⟩ := c.def_ 10 (d := d__law_draw) rfl
  exact ⟨_, fd, He.glo_ok X G (c.fact 10 (f := .glo "_law_draw") rfl), F⟩
theorem D__law_keys (X : K.In h) (G : h.Ns mainGlobals mg) (c : He.SaysD fa fn K) : Def K mg "_law_keys" s__law_keys := by
  obtain ⟨fd, F⟩ := c.def_ 11 (d := d__law_keys) rfl
  exact ⟨_, fd, He.glo_ok X G (c.fact 11 (f := .glo "_law_keys") rfl), F⟩
theorem D__law_worths (X : K.In h) (G : h.Ns mainGlobals mg) (c : He.SaysD fa fn K) : Def K mg "_law_worths" s__law_worths := by
  obtain ⟨fd, F⟩ := c.def_ 12 (d := d__law_worths) rfl
  exact ⟨_, fd, He.glo_ok X G (c.fact 12 (f := .glo "_law_worths") rfl), F⟩
theorem D__law_begun (X : K.In h) (G : h.Ns mainGlobals mg) (c : He.SaysD fa fn K) : Def K mg "_law_begun" s__law_begun := by
  obtain ⟨fd, F⟩ := c.def_ 13 (d := d__law_begun) rfl
  exact ⟨_, fd, He.glo_ok X G (c.fact 13 (f := .glo "_law_begun") rfl), F⟩
theorem D__law_dealings (X : K.In h) (G : h.Ns mainGlobals mg) (c : He.SaysD fa fn K) : Def K mg "_law_dealings" s__law_dealings := by
  obtain ⟨fd, F⟩ := c.def_ 14 (d := d__law_dealings) rfl
  exact ⟨_, fd, He.glo_ok X G (c.fact 14 (f := .glo "_law_dealings") rfl), F⟩
theorem D__law_some_dealings (X : K.In h) (G : h.Ns mainGlobals mg) (c : He.SaysD fa fn K) : Def K mg "_law_some_dealings" s__law_some_dealings := by
  obtain ⟨fd, F⟩ := c.def_ 15 (d := d__law_some_dealings) rfl
  exact ⟨_, fd, He.glo_ok X G (c.fact 15 (f := .glo "_law_some_dealings") rfl), F⟩
theorem D__law_is_number (X : K.In h) (G : h.Ns mainGlobals mg) (c : He.SaysD fa fn K) : Def K mg "_law_is_number" s__law_is_number := by
  obtain ⟨fd, F⟩ := c.def_ 16 (d := d__law_is_number) rfl
  exact ⟨_, fd, He.glo_ok X G (c.fact 16 (f := .glo "_law_is_number") rfl), F⟩
theorem D__law_is_worth (X : K.In h) (G : h.Ns mainGlobals mg) (c : He.SaysD fa fn K) : Def K mg "_law_is_worth" s__law_is_worth := by
  obtain ⟨fd, F⟩ := c.def_ 17 (d := d__law_is_worth) rfl
  exact ⟨_, fd, He.glo_ok X G (c.fact 17 (f := .glo "_law_is_worth") rfl), F⟩
theorem D__law_are_worths (X : K.In h) (G : h.Ns mainGlobals mg) (c : He.SaysD fa fn K) : Def K mg "_law_are_worths" s__law_are_worths := by
  obtain ⟨fd, F⟩ := c.def_ 18 (d := d__law_are_worths) rfl
  exact ⟨_, fd, He.glo_ok X G (c.fact 18 (f := .glo "_law_are_worths") rfl), F⟩
theorem D__law_is_dealing (X : K.In h) (G : h.Ns mainGlobals mg) (c : He.SaysD fa fn K) : Def K mg "_law_is_dealing" s__law_is_dealing := by
  obtain ⟨fd, F⟩ := c.def_ 19 (d := d__law_is_dealing) rfl
  exact ⟨_, fd, He.glo_ok X G (c.fact 19 (f := .glo "_law_is_dealing") rfl), F⟩
theorem D__law_odd (X : K.In h) (G : h.Ns mainGlobals mg) (c : He.SaysD fa fn K) : Def K mg "_law_odd" s__law_odd := by
  obtain ⟨fd, F⟩ := c.def_ 20 (d := d__law_odd) rfl
  exact ⟨_, fd, He.glo_ok X G (c.fact 20 (f := .glo "_law_odd") rfl), F⟩
theorem D__law_bent (X : K.In h) (G : h.Ns mainGlobals mg) (c : He.SaysD fa fn K) : Def K mg "_law_bent" s__law_bent := by
  obtain ⟨fd, F⟩ := c.def_ 21 (d := d__law_bent) rfl
  exact ⟨_, fd, He.glo_ok X G (c.fact 21 (f := .glo "_law_bent") rfl), F⟩
theorem D__law_right (X : K.In h) (G : h.Ns mainGlobals mg) (c : He.SaysD fa fn K) : Def K mg "_law_right" s__law_right := by
  obtain ⟨fd, F⟩ := c.def_ 22 (d := d__law_right) rfl
  exact ⟨_, fd, He.glo_ok X G (c.fact 22 (f := .glo "_law_right") rfl), F⟩
theorem D_law (X : K.In h) (G : h.Ns mainGlobals mg) (c : He.SaysD fa fn K) : Def K mg "law" s_law := by
  obtain ⟨fd, F⟩ := c.def_ 23 (d := d_law) rfl
  exact ⟨_, fd, He.glo_ok X G (c.fact 23 (f := .glo "law") rfl), F⟩
theorem b_all (X : K.In h) (G : h.Ns mainGlobals mg) (c : He.SaysD fa fn K) : mg "all" = none := He.free_ok X G (c.fact 24 (f := .free "all") rfl)
theorem b_bool (X : K.In h) (G : h.Ns mainGlobals mg) (c : He.SaysD fa fn K) : mg "bool" = none := He.free_ok X G (c.fact 25 (f := .free "bool") rfl)
theorem b_dict (X : K.In h) (G : h.Ns mainGlobals mg) (c : He.SaysD fa fn K) : mg "dict" = none := He.free_ok X G (c.fact 26 (f := .free "dict") rfl)
theorem b_int (X : K.In h) (G : h.Ns mainGlobals mg) (c : He.SaysD fa fn K) : mg "int" = none := He.free_ok X G (c.fact 27 (f := .free "int") rfl)
theorem b_isinstance (X : K.In h) (G : h.Ns mainGlobals mg) (c : He.SaysD fa fn K) : mg "isinstance" = none := He.free_ok X G (c.fact 28 (f := .free "isinstance") rfl)
theorem b_len (X : K.In h) (G : h.Ns mainGlobals mg) (c : He.SaysD fa fn K) : mg "len" = none := He.free_ok X G (c.fact 29 (f := .free "len") rfl)
theorem b_list (X : K.In h) (G : h.Ns mainGlobals mg) (c : He.SaysD fa fn K) : mg "list" = none := He.free_ok X G (c.fact 30 (f := .free "list") rfl)
theorem b_max (X : K.In h) (G : h.Ns mainGlobals mg) (c : He.SaysD fa fn K) : mg "max" = none := He.free_ok X G (c.fact 31 (f := .free "max") rfl)
theorem b_range (X : K.In h) (G : h.Ns mainGlobals mg) (c : He.SaysD fa fn K) : mg "range" = none := He.free_ok X G (c.fact 32 (f := .free "range") rfl)
theorem b_repr (X : K.In h) (G : h.Ns mainGlobals mg) (c : He.SaysD fa fn K) : mg "repr" = none := He.free_ok X G (c.fact 33 (f := .free "repr") rfl)
theorem b_set (X : K.In h) (G : h.Ns mainGlobals mg) (c : He.SaysD fa fn K) : mg "set" = none := He.free_ok X G (c.fact 34 (f := .free "set") rfl)
theorem b_sorted (X : K.In h) (G : h.Ns mainGlobals mg) (c : He.SaysD fa fn K) : mg "sorted" = none := He.free_ok X G (c.fact 35 (f := .free "sorted") rfl)
theorem b_str (X : K.In h) (G : h.Ns mainGlobals mg) (c : He.SaysD fa fn K) : mg "str" = none := He.free_ok X G (c.fact 36 (f := .free "str") rfl)
theorem b_sum (X : K.In h) (G : h.Ns mainGlobals mg) (c : He.SaysD fa fn K) : mg "sum" = none := He.free_ok X G (c.fact 37 (f := .free "sum") rfl)
theorem b_tuple (X : K.In h) (G : h.Ns mainGlobals mg) (c : He.SaysD fa fn K) : mg "tuple" = none := He.free_ok X G (c.fact 38 (f := .free "tuple") rfl)
theorem b_zip (X : K.In h) (G : h.Ns mainGlobals mg) (c : He.SaysD fa fn K) : mg "zip" = none := He.free_ok X G (c.fact 39 (f := .free "zip") rfl)
theorem g_LETTERS (X : K.In h) (G : h.Ns mainGlobals mg) (c : He.SaysD fa fn K) : ∃ t, mg "LETTERS" = some (.str "abcdefghijklmnopqrstuvwxyz" t) := He.str_ok X G (c.fact 40 (f := .str "LETTERS" "abcdefghijklmnopqrstuvwxyz") rfl)
theorem g_MOST_LETTERS (X : K.In h) (G : h.Ns mainGlobals mg) (c : He.SaysD fa fn K) : ∃ t, mg "MOST_LETTERS" = some (.int 8 t) := He.int_ok X G (c.fact 41 (f := .int "MOST_LETTERS" 8) rfl)
theorem g_MOST_WORTH (X : K.In h) (G : h.Ns mainGlobals mg) (c : He.SaysD fa fn K) : ∃ t, mg "MOST_WORTH" = some (.int 999999 t) := He.int_ok X G (c.fact 42 (f := .int "MOST_WORTH" 999999) rfl)
theorem g_LAST_HAND (X : K.In h) (G : h.Ns mainGlobals mg) (c : He.SaysD fa fn K) : ∃ t, mg "LAST_HAND" = some (.int 7 t) := He.int_ok X G (c.fact 43 (f := .int "LAST_HAND" 7) rfl)
theorem g_LAST_MOMENT (X : K.In h) (G : h.Ns mainGlobals mg) (c : He.SaysD fa fn K) : ∃ t, mg "LAST_MOMENT" = some (.int 999999 t) := He.int_ok X G (c.fact 44 (f := .int "LAST_MOMENT" 999999) rfl)
theorem g_MOST_KEYS (X : K.In h) (G : h.Ns mainGlobals mg) (c : He.SaysD fa fn K) : ∃ t, mg "MOST_KEYS" = some (.int 4 t) := He.int_ok X G (c.fact 45 (f := .int "MOST_KEYS" 4) rfl)
end
end K01
end

section
set_option linter.all false
set_option autoImplicit false
set_option maxHeartbeats 0
/-! PL1: how mirrors end: the logic of the plain laws. What comes behind (Po, PoS) stands where simp does not look. -/
namespace Mir
class Po (α : Type) where
  p : α → Hm → Prop
class PoS where
  N : Env → Hm → Prop
  V : Val → Hm → Prop
  B : Env → Hm → Prop
  C : Env → Hm → Prop
@[simp] theorem Po.p_mk {α : Type} (f : α → Hm → Prop) (a : α) (h : Hm) : @Po.p α ⟨f⟩ a h = f a h := id rfl
section
variable (N : Env → Hm → Prop) (V : Val → Hm → Prop) (B C : Env → Hm → Prop) (e : Env) (h : Hm) (v : Val)
@[simp] theorem PoS.n_mk : @PoS.N ⟨N, V, B, C⟩ e h = N e h := id rfl
@[simp] theorem PoS.v_mk : @PoS.V ⟨N, V, B, C⟩ v h = V v h := id rfl
@[simp] theorem PoS.b_mk : @PoS.B ⟨N, V, B, C⟩ e h = B e h := id rfl
@[simp] theorem PoS.c_mk : @PoS.C ⟨N, V, B, C⟩ e h = C e h := id rfl
end
def R.satI {α : Type} (r : R α) [Q : Po α] : Prop := match r with
  | .ok a h => Q.p a h
  | _ => False
abbrev R.sat {α : Type} (r : R α) (Q : α → Hm → Prop) : Prop := @R.satI α r ⟨Q⟩
section
variable {α β : Type}
@[simp ↓] theorem R.sat_def (r : R α) (Q : α → Hm → Prop) : r.sat Q = @R.satI α r ⟨Q⟩ := id rfl
@[simp] theorem R.satI_ok (a : α) (h : Hm) (Q : Po α) : @R.satI α (.ok a h) Q = Q.p a h := id rfl
@[simp] theorem R.satI_err (e : Exc) (h : Hm) (Q : Po α) : @R.satI α (.err e h) Q = False := id rfl
@[simp] theorem R.satI_bad (Q : Po α) : @R.satI α .bad Q = False := id rfl
@[simp ↓] theorem R.satI_bind (r : R α) (k : α → Hm → R β) (Q : Po β) : @R.satI β (r.bind k) Q = @R.satI α r ⟨fun a h => @R.satI β (k a h) Q⟩ := by
  cases r <;> rfl
@[simp ↓] theorem R.satI_bindN (r : R α) (k : α → Hm → R β) (Q : Po β) : @R.satI β (r.bindN k) Q = @R.satI α r ⟨fun a h => @R.satI β (k a h) Q⟩ := by
  cases r <;> rfl
theorem R.sat_bindN (r : R α) (k : α → Hm → R β) (Q : β → Hm → Prop) : (r.bindN k).sat Q = r.sat fun a h => (k a h).sat Q := by
  cases r <;> rfl
theorem R.sat_mono {r : R α} {Q Q' : α → Hm → Prop} (h : r.sat Q) (k : ∀ a h, Q a h → Q' a h) : r.sat Q' := by
  cases r with
  | ok a h1 => exact k a h1 h
  | err e h1 => exact h
  | bad => exact h
theorem R.sat_elim {r : R α} {Q : α → Hm → Prop} (h : r.sat Q) : ∃ a h1, r = .ok a h1 ∧ Q a h1 := by
  cases r with
  | ok a h1 => exact ⟨a, h1, rfl, h⟩
  | err e h1 => exact h.elim
  | bad => exact h.elim
end
def SR.satI (r : SR) [Q : PoS] : Prop := match r with
  | .nx env h => Q.N env h
  | .rt v h => Q.V v h
  | .bk env h => Q.B env h
  | .ct env h => Q.C env h
  | _ => False
abbrev SR.sat (r : SR) (N : Env → Hm → Prop) (V : Val → Hm → Prop) (B C : Env → Hm → Prop) : Prop := @SR.satI r ⟨N, V, B, C⟩
section
variable {α : Type} (N : Env → Hm → Prop) (V : Val → Hm → Prop) (B C : Env → Hm → Prop) (Q : PoS) (env : Env) (h : Hm) (v : Val)
@[simp ↓] theorem SR.sat_def (r : SR) : r.sat N V B C = @SR.satI r ⟨N, V, B, C⟩ := id rfl
@[simp] theorem SR.satI_nx : @SR.satI (.nx env h) Q = Q.N env h := id rfl
@[simp] theorem SR.satI_rt : @SR.satI (.rt v h) Q = Q.V v h := id rfl
@[simp] theorem SR.satI_bk : @SR.satI (.bk env h) Q = Q.B env h := id rfl
@[simp] theorem SR.satI_ct : @SR.satI (.ct env h) Q = Q.C env h := id rfl
@[simp] theorem SR.satI_er (e : Exc) : @SR.satI (.er e env h) Q = False := id rfl
@[simp] theorem SR.satI_bad : @SR.satI .bad Q = False := id rfl
@[simp ↓] theorem SR.satI_sq (r : SR) (k : Env → Hm → SR) : @SR.satI (r.sq k) Q = @SR.satI r ⟨fun env h => @SR.satI (k env h) Q, Q.V, Q.B, Q.C⟩ := by
  cases r <;> rfl
@[simp ↓] theorem SR.satI_tn (r : SR) (k : Env → Hm → SR) : @SR.satI (r.tn k) Q = @SR.satI r ⟨fun env h => @SR.satI (k env h) Q, Q.V, Q.N, fun env h => @SR.satI (k env h) Q⟩ := by
  cases r <;> rfl
@[simp ↓] theorem R.satI_st (r : R α) (k : α → Hm → SR) : @SR.satI (r.st env k) Q = @R.satI α r ⟨fun a h => @SR.satI (k a h) Q⟩ := by
  cases r <;> rfl
theorem SR.sat_sq (r : SR) (k : Env → Hm → SR) : (r.sq k).sat N V B C = r.sat (fun env h => (k env h).sat N V B C) V B C := by
  cases r <;> rfl
theorem SR.sat_tn (r : SR) (k : Env → Hm → SR) : (r.tn k).sat N V B C = r.sat (fun env h => (k env h).sat N V B C) V N (fun env h => (k env h).sat N V B C) := by
  cases r <;> rfl
end
theorem SR.sat_mono {r : SR} {N N' : Env → Hm → Prop} {V V' : Val → Hm → Prop} {B B' C C' : Env → Hm → Prop} (h : r.sat N V B C)
    (hN : ∀ a h, N a h → N' a h) (hV : ∀ a h, V a h → V' a h) (hB : ∀ a h, B a h → B' a h) (hC : ∀ a h, C a h → C' a h) : r.sat N' V' B' C' := by
  cases r with
  | nx a b => exact hN _ _ h
  | rt a b => exact hV _ _ h
  | bk a b => exact hB _ _ h
  | ct a b => exact hC _ _ h
  | er a b c => exact h
  | bad => exact h
@[simp ↓] theorem eV_sat (i : Nat) (env : Env) (h : Hm) (Q : Po Val) : @R.satI _ (eV i env h) Q = @R.satI _ (match env[i]? with | some (some x) => R.ok x h | _ => .bad) Q := id rfl
@[simp ↓] theorem eC_sat (v : Val) (env : Env) (h : Hm) (Q : Po Val) : @R.satI _ (eC v env h) Q = @R.satI _ (R.ok v h) Q := id rfl
@[simp ↓] theorem eOp_sat (g : Val → Val → Option Val) (a b : E) (env : Env) (h : Hm) (Q : Po Val) : @R.satI _ (eOp g a b env h) Q = @R.satI _ (a env h) ⟨fun x h1 => @R.satI _ ((b env h1).bind fun y h2 => ofO h2 (g x y)) Q⟩ := R.satI_bind _ _ _
@[simp ↓] theorem eOpH_sat (g : Hm → Val → Val → Option Val) (a b : E) (env : Env) (h : Hm) (Q : Po Val) : @R.satI _ (eOpH g a b env h) Q = @R.satI _ (a env h) ⟨fun x h1 => @R.satI _ ((b env h1).bind fun y h2 => ofO h2 (g h2 x y)) Q⟩ := R.satI_bind _ _ _
@[simp ↓] theorem eUn_sat (g : Val → Option Val) (a : E) (env : Env) (h : Hm) (Q : Po Val) : @R.satI _ (eUn g a env h) Q = @R.satI _ (a env h) ⟨fun x h1 => @R.satI _ (ofO h1 (g x)) Q⟩ := R.satI_bind _ _ _
@[simp ↓] theorem eUnH_sat (g : Hm → Val → Option Val) (a : E) (env : Env) (h : Hm) (Q : Po Val) : @R.satI _ (eUnH g a env h) Q = @R.satI _ (a env h) ⟨fun x h1 => @R.satI _ (ofO h1 (g h1 x)) Q⟩ := R.satI_bind _ _ _
@[simp ↓] theorem eIf_sat (t : T) (a b : E) (env : Env) (h : Hm) (Q : Po Val) : @R.satI _ (eIf t a b env h) Q = @R.satI _ (t env h) ⟨fun c h1 => @R.satI _ (if c then a env h1 else b env h1) Q⟩ := R.satI_bind _ _ _
@[simp ↓] theorem eAnd_sat (a b : E) (env : Env) (h : Hm) (Q : Po Val) : @R.satI _ (eAnd a b env h) Q = @R.satI _ (a env h) ⟨fun x h1 => @R.satI _ (match x with | .bl c => if c then b env h1 else .ok (.bl false) h1 | _ => .bad) Q⟩ := R.satI_bind _ _ _
@[simp ↓] theorem eOr_sat (a b : E) (env : Env) (h : Hm) (Q : Po Val) : @R.satI _ (eOr a b env h) Q = @R.satI _ (a env h) ⟨fun x h1 => @R.satI _ (match x with | .bl c => if c then .ok (.bl true) h1 else b env h1 | _ => .bad) Q⟩ := R.satI_bind _ _ _
@[simp ↓] theorem eNot_sat (a : E) (env : Env) (h : Hm) (Q : Po Val) : @R.satI _ (eNot a env h) Q = @R.satI _ (a env h) ⟨fun x h1 => @R.satI _ (match x with | .bl c => .ok (.bl (!c)) h1 | _ => .bad) Q⟩ := R.satI_bind _ _ _
@[simp ↓] theorem eChain_sat (g g' : Val → Val → Option Val) (a b c : E) (env : Env) (h : Hm) (Q : Po Val) : @R.satI _ (eChain g g' a b c env h) Q = @R.satI _ (a env h) ⟨fun x h1 => @R.satI _ ((b env h1).bind fun y h2 => match g x y with | some (.bl true) => (c env h2).bind fun z h3 => ofO h3 (g' y z) | some (.bl false) => .ok (.bl false) h2 | _ => .bad) Q⟩ := R.satI_bind _ _ _
@[simp ↓] theorem oN_sat  (env : Env) (h : Hm) (Q : Po (Option Int)) : @R.satI _ (oN env h) Q = @R.satI _ (R.ok none h) Q := id rfl
@[simp ↓] theorem oE_sat (a : E) (env : Env) (h : Hm) (Q : Po (Option Int)) : @R.satI _ (oE a env h) Q = @R.satI _ (a env h) ⟨fun x h1 => @R.satI _ (match x with | .int i => R.ok (some i) h1 | _ => .bad) Q⟩ := R.satI_bind _ _ _
@[simp ↓] theorem eSl_sat (a : E) (lo hi : O) (env : Env) (h : Hm) (Q : Po Val) : @R.satI _ (eSl a lo hi env h) Q = @R.satI _ (a env h) ⟨fun x h1 => @R.satI _ ((lo env h1).bind fun l h2 => (hi env h2).bind fun u h3 => ofO h3 (vSl x l u)) Q⟩ := R.satI_bind _ _ _
@[simp ↓] theorem lSl_sat (a : E) (lo hi : O) (env : Env) (h : Hm) (Q : Po (List Val)) : @R.satI _ (lSl a lo hi env h) Q = @R.satI _ (a env h) ⟨fun x h1 => @R.satI _ ((lo env h1).bind fun l h2 => (hi env h2).bind fun u h3 => match asS h3 x with | some xs => .ok (cut xs l u) h3 | none => .bad) Q⟩ := R.satI_bind _ _ _
@[simp ↓] theorem lRev_sat (a : E) (env : Env) (h : Hm) (Q : Po (List Val)) : @R.satI _ (lRev a env h) Q = @R.satI _ (a env h) ⟨fun x h1 => @R.satI _ (match asS h1 x with | some xs => .ok xs.reverse h1 | none => .bad) Q⟩ := R.satI_bind _ _ _
@[simp ↓] theorem eB_sat (g : Hm → List Val → Option Val) (r : Es) (env : Env) (h : Hm) (Q : Po Val) : @R.satI _ (eB g r env h) Q = @R.satI _ (r env h) ⟨fun xs h1 => @R.satI _ (ofO h1 (g h1 xs)) Q⟩ := R.satI_bind _ _ _
@[simp ↓] theorem lB_sat (g : Hm → List Val → Option (List Val)) (r : Es) (env : Env) (h : Hm) (Q : Po (List Val)) : @R.satI _ (lB g r env h) Q = @R.satI _ (r env h) ⟨fun xs h1 => @R.satI _ (lO h1 (g h1 xs)) Q⟩ := R.satI_bind _ _ _
@[simp ↓] theorem eM_sat (ty : Hm → Val → Bool) (g : Hm → Val → List Val → Option (Val × Hm)) (o : E) (r : Es) (env : Env) (h : Hm) (Q : Po Val) : @R.satI _ (eM ty g o r env h) Q = @R.satI _ (o env h) ⟨fun x h1 => @R.satI _ (if ty h1 x then (r env h1).bind fun xs h2 => rM h2 (g h2 x xs) else .bad) Q⟩ := R.satI_bind _ _ _
@[simp ↓] theorem tV_sat (a : E) (env : Env) (h : Hm) (Q : Po Bool) : @R.satI _ (tV a env h) Q = @R.satI _ (a env h) ⟨fun x h1 => @R.satI _ (match x with | .bl c => R.ok c h1 | _ => .bad) Q⟩ := R.satI_bind _ _ _
@[simp ↓] theorem tAnd_sat (a b : T) (env : Env) (h : Hm) (Q : Po Bool) : @R.satI _ (tAnd a b env h) Q = @R.satI _ (a env h) ⟨fun c h1 => @R.satI _ (if c then b env h1 else .ok false h1) Q⟩ := R.satI_bind _ _ _
@[simp ↓] theorem tOr_sat (a b : T) (env : Env) (h : Hm) (Q : Po Bool) : @R.satI _ (tOr a b env h) Q = @R.satI _ (a env h) ⟨fun c h1 => @R.satI _ (if c then .ok true h1 else b env h1) Q⟩ := R.satI_bind _ _ _
@[simp ↓] theorem tNot_sat (a : T) (env : Env) (h : Hm) (Q : Po Bool) : @R.satI _ (tNot a env h) Q = @R.satI _ (a env h) ⟨fun c h1 => @R.satI _ (R.ok (!c) h1) Q⟩ := R.satI_bind _ _ _
@[simp ↓] theorem tYes_sat  (env : Env) (h : Hm) (Q : Po Bool) : @R.satI _ (tYes env h) Q = @R.satI _ (R.ok true h) Q := id rfl
@[simp ↓] theorem esNil_sat  (env : Env) (h : Hm) (Q : Po (List Val)) : @R.satI _ (esNil env h) Q = @R.satI _ (R.ok [] h) Q := id rfl
@[simp ↓] theorem esCons_sat (a : E) (r : Es) (env : Env) (h : Hm) (Q : Po (List Val)) : @R.satI _ (esCons a r env h) Q = @R.satI _ (a env h) ⟨fun x h1 => @R.satI _ ((r env h1).bind fun xs h2 => .ok (x :: xs) h2) Q⟩ := R.satI_bind _ _ _
@[simp ↓] theorem esCons_c (v : Val) (r : Es) (env : Env) (h : Hm) (Q : Po (List Val)) : @R.satI _ (esCons (eC v) r env h) Q = @R.satI _ (r env h) ⟨fun xs h => @R.satI _ (R.ok (v :: xs) h) Q⟩ := R.satI_bind (r env h) (fun xs h2 => R.ok (v :: xs) h2) Q
@[simp ↓] theorem eTup_sat (r : Es) (env : Env) (h : Hm) (Q : Po Val) : @R.satI _ (eTup r env h) Q = @R.satI _ (r env h) ⟨fun xs h1 => @R.satI _ (if xs.length ≤ line then .ok (.tup xs) h1 else .bad) Q⟩ := R.satI_bind _ _ _
@[simp ↓] theorem lLst_sat (r : Es) (env : Env) (h : Hm) (Q : Po (List Val)) : @R.satI _ (lLst r env h) Q = @R.satI _ (r env h) ⟨fun xs h1 => @R.satI _ (if xs.length ≤ line then .ok xs h1 else .bad) Q⟩ := R.satI_bind _ _ _
@[simp ↓] theorem fL_sat (r : Es) (env : Env) (h : Hm) (Q : Po Val) : @R.satI _ (fL r env h) Q = @R.satI _ (r env h) ⟨fun xs h1 => @R.satI _ (R.ok (.lst xs) h1) Q⟩ := R.satI_bind _ _ _
@[simp ↓] theorem aL_sat (r : Es) (env : Env) (h : Hm) (Q : Po Val) : @R.satI _ (aL r env h) Q = @R.satI _ (r env h) ⟨fun xs h1 => @R.satI _ (R.ok (.ref h1.length) (h1 ++ [.lst xs])) Q⟩ := R.satI_bind _ _ _
@[simp ↓] theorem eP_sat (f : PFn) (r : Es) (env : Env) (h : Hm) (Q : Po Val) : @R.satI _ (eP f r env h) Q = @R.satI _ (r env h) ⟨fun xs h1 => @R.satI _ (match f xs with | .ok v => .ok v h1 | .err e => .err e h1 | .bad => .bad) Q⟩ := R.satI_bind _ _ _
@[simp ↓] theorem eF_sat (f : Fn) (r : Es) (env : Env) (h : Hm) (Q : Po Val) : @R.satI _ (eF f r env h) Q = @R.satI _ (r env h) ⟨fun xs h1 => @R.satI _ (f xs h1) Q⟩ := R.satI_bind _ _ _
@[simp ↓] theorem aDict_sat (a : E) (env : Env) (h : Hm) (Q : Po Val) : @R.satI _ (aDict a env h) Q = @R.satI _ (a env h) ⟨fun x h1 => @R.satI _ (match (asL h1 x).bind pairsO with | some kvs => .ok (.ref h1.length) (h1 ++ [.dk (dMerge [] kvs)]) | none => .bad) Q⟩ := R.satI_bind _ _ _
@[simp ↓] theorem aDK_sat  (env : Env) (h : Hm) (Q : Po Val) : @R.satI _ (aDK env h) Q = @R.satI _ (R.ok (.ref h.length) (h ++ [.dk []])) Q := id rfl
@[simp ↓] theorem fDK_sat  (env : Env) (h : Hm) (Q : Po Val) : @R.satI _ (fDK env h) Q = @R.satI _ (R.ok (.dct []) h) Q := id rfl
@[simp ↓] theorem fD1_sat (k v : E) (env : Env) (h : Hm) (Q : Po Val) : @R.satI _ (fD1 k v env h) Q = @R.satI _ (k env h) ⟨fun x h1 => @R.satI _ ((v env h1).bind fun y h2 => if isK x then .ok (.dct [(x, y)]) h2 else .bad) Q⟩ := R.satI_bind _ _ _
@[simp ↓] theorem iFast_sat (a : E) (env : Env) (h : Hm) (Q : Po (List Val × (Hm → Bool))) : @R.satI _ (iFast a env h) Q = @R.satI _ (a env h) ⟨fun x h1 => @R.satI _ (match x with | .tup xs => R.ok (xs, fun _ => true) h1 | .lst xs => .ok (xs, fun _ => true) h1 | .scr ns => .ok (ns.map .int, fun _ => true) h1 | _ => .bad : R (List Val × (Hm → Bool))) Q⟩ := R.satI_bind _ _ _
@[simp ↓] theorem iRange1_sat (a : E) (env : Env) (h : Hm) (Q : Po (List Val × (Hm → Bool))) : @R.satI _ (iRange1 a env h) Q = @R.satI _ (a env h) ⟨fun x h1 => @R.satI _ (match x with | .int n => if near n then R.ok (rng 0 n.toNat, fun _ => true) h1 else .bad | _ => .bad : R (List Val × (Hm → Bool))) Q⟩ := R.satI_bind _ _ _
@[simp ↓] theorem iRange2_sat (a b : E) (env : Env) (h : Hm) (Q : Po (List Val × (Hm → Bool))) : @R.satI _ (iRange2 a b env h) Q = @R.satI _ (a env h) ⟨fun x h1 => @R.satI _ ((b env h1).bind fun y h2 => match x, y with | .int i, .int j => if near i && near j then R.ok (rng i (j - i).toNat, fun _ => true) h2 else .bad | _, _ => .bad : R (List Val × (Hm → Bool))) Q⟩ := R.satI_bind _ _ _
@[simp ↓] theorem iStr_sat (a : E) (env : Env) (h : Hm) (Q : Po (List Val × (Hm → Bool))) : @R.satI _ (iStr a env h) Q = @R.satI _ (a env h) ⟨fun x h1 => @R.satI _ (match x with | .str s => R.ok (s.map fun c => .str [c], fun _ => true) h1 | _ => .bad : R (List Val × (Hm → Bool))) Q⟩ := R.satI_bind _ _ _
@[simp ↓] theorem iZipS_sat (r : Es) (env : Env) (h : Hm) (Q : Po (List Val × (Hm → Bool))) : @R.satI _ (iZipS r env h) Q = @R.satI _ (r env h) ⟨fun vs h1 => @R.satI _ (match vs with | [.lst xs, .lst ys] => if xs.length = ys.length then R.ok (zipV xs ys, fun _ => true) h1 else .bad | _ => .bad : R (List Val × (Hm → Bool))) Q⟩ := R.satI_bind _ _ _
@[simp ↓] theorem lC_sat (vs : List Nat) (it : I) (g : G) (t : T) (e : E) (env : Env) (h : Hm) (Q : Po (List Val)) : @R.satI _ (lC vs it g t e env h) Q = @R.satI _ (it env h) ⟨fun p h1 => @R.satI _ (lcGo p.2 g t e (wipe env vs) p.1 [] h1) Q⟩ := R.satI_bind _ _ _
@[simp ↓] theorem sNil_sat  (env : Env) (h : Hm) (Q : PoS) : @SR.satI (sNil env h) Q = @SR.satI (.nx env h) Q := id rfl
@[simp ↓] theorem sSeq_sat (a b : S) (env : Env) (h : Hm) (Q : PoS) : @SR.satI (sSeq a b env h) Q = @SR.satI (a env h) ⟨fun env h => @SR.satI (b env h) Q, Q.V, Q.B, Q.C⟩ := SR.satI_sq _ _ _
@[simp ↓] theorem sE_sat (a : E) (env : Env) (h : Hm) (Q : PoS) : @SR.satI (sE a env h) Q = @R.satI _ (a env h) ⟨fun _ h1 => @SR.satI (.nx env h1) Q⟩ := R.satI_st _ _ _ _
@[simp ↓] theorem sRet_sat (a : E) (env : Env) (h : Hm) (Q : PoS) : @SR.satI (sRet a env h) Q = @R.satI _ (a env h) ⟨fun v h1 => @SR.satI (.rt v h1) Q⟩ := R.satI_st _ _ _ _
@[simp ↓] theorem sIf_sat (t : T) (a b : S) (env : Env) (h : Hm) (Q : PoS) : @SR.satI (sIf t a b env h) Q = @R.satI _ (t env h) ⟨fun c h1 => @SR.satI (if c then a env h1 else b env h1) Q⟩ := R.satI_st _ _ _ _
@[simp ↓] theorem sAsg_sat (g : G) (a : E) (env : Env) (h : Hm) (Q : PoS) : @SR.satI (sAsg g a env h) Q = @R.satI _ (a env h) ⟨fun v h1 => @SR.satI (gS (g v env h1) fun env1 h2 => .nx env1 h2) Q⟩ := R.satI_st _ _ _ _
@[simp ↓] theorem sPut_sat (g : Hm → Val → Val → Val → Option Hm) (o i e : E) (env : Env) (h : Hm) (Q : PoS) : @SR.satI (sPut g o i e env h) Q = @R.satI _ (e env h) ⟨fun v h1 => @SR.satI ((o env h1).st env fun x h2 => (i env h2).st env fun y h3 => match g h3 x y v with | some h4 => .nx env h4 | none => .bad) Q⟩ := R.satI_st _ _ _ _
@[simp ↓] theorem sFor_sat (it : I) (g : G) (b : S) (env : Env) (h : Hm) (Q : PoS) : @SR.satI (sFor it g b env h) Q = @R.satI _ (it env h) ⟨fun p h1 => @SR.satI (forGo p.2 g b p.1 env h1) Q⟩ := R.satI_st _ _ _ _
@[simp ↓] theorem sBrk_sat  (env : Env) (h : Hm) (Q : PoS) : @SR.satI (sBrk env h) Q = @SR.satI (.bk env h) Q := id rfl
@[simp ↓] theorem sCt_sat  (env : Env) (h : Hm) (Q : PoS) : @SR.satI (sCt env h) Q = @SR.satI (.ct env h) Q := id rfl
@[simp ↓] theorem sSw2_sat (i j : Nat) (r : Es) (env : Env) (h : Hm) (Q : PoS) : @SR.satI (sSw2 i j r env h) Q = @R.satI _ (r env h) ⟨fun xs h1 => @SR.satI (match xs with | [x, y] => .nx ((env.set i (some x)).set j (some y)) h1 | _ => .bad) Q⟩ := R.satI_st _ _ _ _
@[simp ↓] theorem sSw3_sat (i j l : Nat) (r : Es) (env : Env) (h : Hm) (Q : PoS) : @SR.satI (sSw3 i j l r env h) Q = @R.satI _ (r env h) ⟨fun xs h1 => @SR.satI (match xs with | [x, y, z] => .nx (((env.set i (some x)).set j (some y)).set l (some z)) h1 | _ => .bad) Q⟩ := R.satI_st _ _ _ _
@[simp ↓] theorem gS_gN (i : Nat) (v : Val) (env : Env) (h : Hm) (k : Env → Hm → SR) : gS (gN i v env h) k = k (env.set i (some v)) h := id rfl
@[simp ↓] theorem gR_gN {α : Type} (i : Nat) (v : Val) (env : Env) (h : Hm) (k : Env → Hm → R α) : gR (gN i v env h) k = k (env.set i (some v)) h := id rfl
theorem lcGo_n (chk : Hm → Bool) (g : G) (t : T) (e : E) (env : Env) (acc : List Val) (h : Hm) (Q : Po (List Val)) : @R.satI _ (lcGo chk g t e env [] acc h) Q = @R.satI _ (if chk h then .ok acc h else .bad) Q := id rfl
theorem lcGo_c (chk : Hm → Bool) (i : Nat) (t : T) (e : E) (env : Env) (x : Val) (xs : List Val) (acc : List Val) (h : Hm) (Q : Po (List Val)) (hc : chk h = true) : @R.satI _ (lcGo chk (gN i) t e env (x :: xs) acc h) Q = @R.satI _ (t (env.set i (some x)) h) ⟨fun c h2 => @R.satI _ (if c then (e (env.set i (some x)) h2).bindN fun y h3 => if acc.length < line then lcGo chk (gN i) t e env xs (acc ++ [y]) h3 else .bad else lcGo chk (gN i) t e env xs acc h2) Q⟩ := by
  rw [lcGo, if_pos hc]
  exact R.satI_bindN _ _ _
@[simp ↓] theorem gT_tup (gs : List G) (xs : List Val) (env : Env) (h : Hm) : gT gs (.tup xs) env h = gNs gs xs env h := id rfl
@[simp ↓] theorem gNs_gN (i : Nat) (gs : List G) (v : Val) (vs : List Val) (env : Env) (h : Hm) : gNs (gN i :: gs) (v :: vs) env h = gNs gs vs (env.set i (some v)) h := id rfl
@[simp ↓] theorem gNs_nil (env : Env) (h : Hm) : gNs [] [] env h = some (env, h) := id rfl
@[simp] theorem frame_s (n : Nat) (xs : List Val) : frame n xs = xs.map some ++ List.replicate (n - xs.length) none := id rfl
@[simp] theorem wipe_nil (env : Env) : wipe env [] = env := id rfl
@[simp] theorem wipe_cons (env : Env) (i : Nat) (is : List Nat) : wipe env (i :: is) = wipe (env.set i none) is := id rfl
/-! ### operators -/
section
variable (i j : Int) (b c : Bool) (h : Hm) (x y : Val)
@[simp] theorem vAdd_i : vAdd h (.int i) (.int j) = some (.int (i + j)) := id rfl
@[simp] theorem vAdd_ib : vAdd h (.int i) (.bl b) = some (.int (i + b2i b)) := id rfl
@[simp] theorem vAdd_bi : vAdd h (.bl b) (.int i) = some (.int (b2i b + i)) := id rfl
@[simp] theorem vAdd_s (s t : Cs) : vAdd h (.str s) (.str t) = if s.length + t.length ≤ line then some (.str (s ++ t)) else none := id rfl
@[simp] theorem vAdd_t (s t : List Val) : vAdd h (.tup s) (.tup t) = if s.length + t.length ≤ line then some (.tup (s ++ t)) else none := id rfl
@[simp] theorem vAdd_l (s t : List Val) : vAdd h (.lst s) (.lst t) = if s.length + t.length ≤ line then some (.lst (s ++ t)) else none := id rfl
@[simp] theorem vSub_i : vSub (.int i) (.int j) = some (.int (i - j)) := id rfl
@[simp] theorem vSub_ib : vSub (.int i) (.bl b) = some (.int (i - b2i b)) := id rfl
@[simp] theorem vSub_bi : vSub (.bl b) (.int i) = some (.int (b2i b - i)) := id rfl
@[simp] theorem vDiv_i : vDiv (.int i) (.int j) = if 0 < j ∧ j < 1073741824 then some (.int (i / j)) else none := id rfl
@[simp] theorem vMod_i : vMod (.int i) (.int j) = if 0 < j then some (.int (i % j)) else none := id rfl
@[simp] theorem vPow_i : vPow (.int i) (.int j) = if 0 ≤ j ∧ j ≤ 1000000 ∧ i.natAbs < 2 ^ 64 then some (.int (i ^ j.toNat)) else none := id rfl
@[simp] theorem vLt_i : vLt (.int i) (.int j) = some (.bl (decide (i < j))) := id rfl
@[simp] theorem vLt_s (s t : Cs) : vLt (.str s) (.str t) = some (.bl (decide (s < t))) := id rfl
@[simp] theorem vLe_i : vLe (.int i) (.int j) = some (.bl (decide (i ≤ j))) := id rfl
@[simp] theorem vGt_i : vGt (.int i) (.int j) = some (.bl (decide (j < i))) := id rfl
@[simp] theorem vGe_i : vGe (.int i) (.int j) = some (.bl (decide (j ≤ i))) := id rfl
@[simp] theorem vNeg_i : vNeg (.int i) = some (.int (-i)) := id rfl
@[simp] theorem vIs_n : vIs x .non = some (.bl (isNon x)) := by cases x <;> rfl
@[simp] theorem vIsNot_n : vIsNot x .non = some (.bl (!isNon x)) := by cases x <;> rfl
@[simp] theorem vIs_b : vIs (.bl b) (.bl c) = some (.bl (decide (b = c))) := id rfl
@[simp] theorem vIsNot_b : vIsNot (.bl b) (.bl c) = some (.bl (!decide (b = c))) := id rfl
@[simp] theorem isNon_n : isNon .non = true := id rfl
@[simp] theorem isNon_i : isNon (.int i) = false := id rfl
@[simp] theorem isNon_b : isNon (.bl b) = false := id rfl
@[simp] theorem isNon_s (s : Cs) : isNon (.str s) = false := id rfl
@[simp] theorem isNon_t (s : List Val) : isNon (.tup s) = false := id rfl
@[simp] theorem isNon_l (s : List Val) : isNon (.lst s) = false := id rfl
@[simp] theorem isNon_d (s : List (Val × Val)) : isNon (.dct s) = false := id rfl
@[simp] theorem isNon_r (s : Nat) : isNon (.ref s) = false := id rfl
@[simp] theorem isNon_o (c : String) (s : List (String × Val)) : isNon (.obj c s) = false := id rfl
@[simp] theorem b2i_s : b2i b = if b then 1 else 0 := id rfl
@[simp] theorem asL_r (k : Nat) : asL h (.ref k) = match h[k]? with | some (.lst xs) => some xs | _ => none := id rfl
@[simp] theorem tyL_s : tyL h x = (asL h x).isSome := id rfl
@[simp] theorem tyS_s (s : Cs) : tyS h (.str s) = true := id rfl
@[simp] theorem vIx_t (xs : List Val) : vIx h (.tup xs) (.int i) = atI xs i := id rfl
@[simp] theorem vIx_l (xs : List Val) : vIx h (.lst xs) (.int i) = atI xs i := id rfl
@[simp] theorem vIx_s (s : Cs) : vIx h (.str s) (.int i) = if s.length ≤ line then (atI s i).map fun c => .str [c] else none := id rfl
@[simp] theorem vIx_r (k : Nat) : vIx h (.ref k) (.int i) = match asL h (.ref k) with | some xs => atI xs i | none => none := id rfl
@[simp] theorem setL_r (k : Nat) (v : Val) : setL h (.ref k) (.int i) v = match h[k]? with | some (.lst xs) => (if 0 ≤ i ∧ i < xs.length then some (h.set k (.lst (xs.set i.toNat v))) else none) | _ => none := id rfl
@[simp] theorem onL_r (k : Nat) (g : List Val → Option (Val × List Val)) : onL h (.ref k) g = match h[k]? with | some (.lst xs) => (match g xs with | some p => if p.2.length ≤ line then some (p.1, h.set k (.lst p.2)) else none | none => none) | _ => none := id rfl
@[simp] theorem mPopAt_s : mPopAt h x [.int i] = if 0 ≤ i ∧ i < 2 ^ 63 then onL h x fun xs => (xs[i.toNat]?).map fun y => (y, xs.eraseIdx i.toNat) else none := id rfl
@[simp] theorem mInsert_s : mInsert h x [.int i, y] = if 0 ≤ i ∧ i < 2 ^ 63 then onL h x fun xs => some (.non, xs.take i.toNat ++ [y] ++ xs.drop i.toNat) else none := id rfl
@[simp] theorem mAppend_s : mAppend h x [y] = onL h x fun xs => some (.non, xs ++ [y]) := id rfl
@[simp] theorem vNeE_s : vNeE h x y = (isE h x y).map fun b => .bl (!b) := id rfl
@[simp] theorem vEqE_s : vEqE h x y = (isE h x y).map .bl := id rfl
@[simp] theorem isE_t (xs : List Val) : isE h (.tup xs) (.tup []) = some xs.isEmpty := id rfl
@[simp] theorem isE_l (xs : List Val) : isE h (.lst xs) (.lst []) = some xs.isEmpty := id rfl
@[simp] theorem isE_r (k : Nat) : isE h (.ref k) (.lst []) = match asL h (.ref k) with | some xs => some xs.isEmpty | _ => none := by
  simp only [isE]
  cases asL h (.ref k) <;> rfl
@[simp] theorem line_s : line = 16777216 := id rfl
end
/-- loops -/
theorem forGo_sat {chk : Hm → Bool} {g : G} {b : S} {V : Val → Hm → Prop} (I : List Val → Env → Hm → Prop)
    (hc : ∀ xs env h, I xs env h → chk h = true)
    (hb : ∀ x xs env h, I (x :: xs) env h → ∃ env1 h1, g x env h = some (env1, h1) ∧ (b env1 h1).sat (I xs) V (I []) (I xs)) :
    ∀ xs env h, I xs env h → (forGo chk g b xs env h).sat (I []) V (fun _ _ => False) (fun _ _ => False)
  | [], env, h, i => by
    rw [forGo, if_pos (hc _ _ _ i)]
    exact i
  | x :: xs, env, h, i => by
    obtain ⟨env1, h1, e, s⟩ := hb x xs env h i
    rw [forGo, if_pos (hc _ _ _ i), e]
    show (SR.tn (b env1 h1) _).sat _ _ _ _
    rw [SR.sat_tn]
    exact SR.sat_mono s (fun a h i => forGo_sat I hc hb xs a h i) (fun _ _ v => v) (fun _ _ i => i) (fun a h i => forGo_sat I hc hb xs a h i)
/-- a list's making, e pure in the names, the heap moves on -/
theorem lcGo_sat {chk : Hm → Bool} {g : G} {t : T} {e : E} {env : Env} (I : List Val → List Val → Hm → Prop)
    (hc : ∀ xs acc h, I xs acc h → chk h = true)
    (hb : ∀ x xs acc h, I (x :: xs) acc h → ∃ env1 h1, g x env h = some (env1, h1) ∧ (t env1 h1).sat fun c h2 => if c then (e env1 h2).sat fun y h3 => acc.length < line ∧ I xs (acc ++ [y]) h3 else I xs acc h2) :
    ∀ xs acc h, I xs acc h → (lcGo chk g t e env xs acc h).sat fun ys h => I [] ys h
  | [], acc, h, i => by
    rw [lcGo, if_pos (hc _ _ _ i)]
    exact i
  | x :: xs, acc, h, i => by
    obtain ⟨env1, h1, e', s⟩ := hb x xs acc h i
    rw [lcGo, if_pos (hc _ _ _ i), e']
    show (R.bindN (t env1 h1) _).sat _
    rw [R.sat_bindN]
    refine R.sat_mono s fun c h2 s => ?_
    cases c with
    | true =>
      simp only [if_true] at s ⊢
      rw [R.sat_bindN]
      refine R.sat_mono s fun y h3 s => ?_
      rw [if_pos s.1]
      exact lcGo_sat I hc hb xs _ _ s.2
    | false => exact lcGo_sat I hc hb xs _ _ s
/-- defs -/
theorem defA_sat {np n : Nat} {b : S} {xs : List Val} {h : Hm} {Q : Val → Hm → Prop} (hl : xs.length = np)
    (hb : (b (frame n xs) h).sat (fun _ h1 => Q .non h1) Q (fun _ _ => False) fun _ _ => False) : (defA np n b xs h).sat Q := by
  unfold defA
  rw [if_pos hl]
  cases e : b (frame n xs) h <;> rw [e] at hb <;> first | exact hb | exact hb.elim
/-- .. where what is handed back and what stood at the call is as it was, or is put otherwise within -/
theorem frz_pure (n : Nat) (h : Hm) (d : Nat) (v : Val) (hv : pureV v = true) : frz n h d v = some v := by
  cases d <;> simp [frz, hv]
/-- what a def hands back that cuts the heap -/
def Back (n : Nat) (Q : Val → Hm → Prop) (v : Val) (h1 : Hm) : Prop := pureV v = true ∧ (h1.take n).all (belowO n) = true ∧ Q v (h1.take n)
theorem R.sat_gen {α : Type} {r : R α} {Q : α → Hm → Prop} (k : ∀ Q' : α → Hm → Prop, (∀ v h, Q v h → Q' v h) → r.sat Q') : r.sat Q := k Q fun _ _ h => h
theorem defS_sat {np n : Nat} {b : S} {xs : List Val} {h : Hm} {Q : Val → Hm → Prop} (hl : xs.length = np)
    (hb : ∀ Q' : Val → Hm → Prop, (∀ v h1, Back h.length Q v h1 → Q' v h1) → (b (frame n xs) h).sat (fun _ h1 => Q' .non h1) Q' (fun _ _ => False) fun _ _ => False) : (defS np n b xs h).sat Q := by
  have hb := hb _ fun _ _ h => h
  unfold defS
  rw [if_pos hl]
  cases e : b (frame n xs) h with
  | rt v h1 =>
    rw [e] at hb
    show (cutH _ _ _).sat _
    unfold cutH
    obtain ⟨h2, h3, h4⟩ := hb
    rw [frz_pure _ _ _ _ h2]
    simp only [h3, if_true]
    exact h4
  | nx v h1 =>
    rw [e] at hb
    show (cutH _ _ _).sat _
    unfold cutH
    obtain ⟨h2, h3, h4⟩ := hb
    rw [frz_pure _ _ _ _ (by rfl)]
    simp only [h3, if_true]
    exact h4
  | _ => rw [e] at hb; exact hb.elim
theorem defP_eq {np n : Nat} {b : S} {xs : List Val} {v : Val} (hl : xs.length = np) (hp : pureL xs = true)
    (hb : (b (frame n xs) []).sat (fun _ _ => v = .non) (fun w _ => w = v ∧ pureV v = true) (fun _ _ => False) fun _ _ => False) : defP np n b xs = .ok v := by
  unfold defP
  rw [if_pos ⟨hl, hp⟩]
  cases e : b (frame n xs) [] with
  | rt w h1 =>
    rw [e] at hb
    obtain ⟨rfl, h2⟩ := hb
    simp only [frz_pure _ _ _ _ h2]
  | nx w h1 => rw [e] at hb; rw [show v = .non from hb]
  | _ => rw [e] at hb; exact hb.elim
theorem atI_ex {α : Type} {xs : List α} {i : Int} (h0 : 0 ≤ i) (h1 : i < xs.length) : ∃ x, atI xs i = some x ∧ x ∈ xs ∧ xs[i.toNat]? = some x := by
  unfold atI
  rw [if_pos h0]
  have : i.toNat < xs.length := by omega
  exact ⟨xs[i.toNat], List.getElem?_eq_getElem this, List.getElem_mem this, List.getElem?_eq_getElem this⟩
@[simp] theorem atI_lit {α : Type} (xs : List α) (n : Nat) : atI xs (no_index (@OfNat.ofNat Int n (@instOfNat n))) = xs[n]? := by
  show (if (0:Int) ≤ (n : Int) then xs[(n : Int).toNat]? else _) = _
  rw [if_pos (Int.natCast_nonneg n)]
  rfl
@[simp] theorem small_emod {x c : Int} (h0 : 0 < c) (h1 : c < 18446744073709551616) : small (x % c) = true := by
  have := Int.emod_nonneg x (Int.ne_of_gt h0)
  have := Int.emod_lt_of_pos x h0
  unfold small
  rw [decide_eq_true_eq]
  omega
@[simp] theorem small_lit (n : Nat) (h : n < 18446744073709551616) : small (no_index (@OfNat.ofNat Int n (@instOfNat n))) = true := by
  show small (n : Int) = true
  unfold small
  rw [decide_eq_true_eq]
  omega
@[simp] theorem near_lit (n : Nat) (h : n < 4611686018427387904) : near (no_index (@OfNat.ofNat Int n (@instOfNat n))) = true := by
  show near (n : Int) = true
  unfold near
  rw [decide_eq_true_eq]
  omega
@[simp] theorem near_of {i : Int} (h0 : 0 ≤ i) (h : i < 4611686018427387904) : near i = true := by
  unfold near
  rw [decide_eq_true_eq]
  omega
@[simp] theorem vMul_l {i j : Int} (h : -18446744073709551616 < i ∧ i < 18446744073709551616) : vMul (.int i) (.int j) = some (.int (i * j)) := by
  have : small i = true := by unfold small; rw [decide_eq_true_eq]; omega
  simp only [vMul, this, Bool.true_or, if_true]
@[simp] theorem vMul_r {i j : Int} (h : -18446744073709551616 < j ∧ j < 18446744073709551616) : vMul (.int i) (.int j) = some (.int (i * j)) := by
  have : small j = true := by unfold small; rw [decide_eq_true_eq]; omega
  simp only [vMul, this, Bool.or_true, if_true]
theorem small_of {i : Int} (h0 : 0 ≤ i) (h : i < 18446744073709551616) : small i = true := by
  unfold small
  rw [decide_eq_true_eq]
  omega
theorem ite_sat {α : Type} {c : Prop} [Decidable c] {a b : R α} {Q : α → Hm → Prop} (h : c → a.sat Q) (k : ¬c → b.sat Q) : (if c then a else b).sat Q := by
  split
  · exact h ‹_›
  · exact k ‹_›
theorem ite_satS {c : Prop} [Decidable c] {a b : SR} {N : Env → Hm → Prop} {V : Val → Hm → Prop} {B C : Env → Hm → Prop} (h : c → a.sat N V B C) (k : ¬c → b.sat N V B C) : (if c then a else b).sat N V B C := by
  split
  · exact h ‹_›
  · exact k ‹_›
end Mir
end

section
set_option linter.all false
set_option autoImplicit false
set_option maxHeartbeats 0
/-! PL2: sorting, the heap's places. -/
namespace Mir
section
variable {α : Type} {le : α → α → Bool}
theorem ins_mem {x z : α} : ∀ {l : List α}, z ∈ ins le x l ↔ z = x ∨ z ∈ l
  | [] => by simp [ins]
  | y :: r => by
    unfold ins
    split
    · simp
    · simp only [List.mem_cons, ins_mem (l := r)]
      grind
theorem ins_len {x : α} : ∀ {l : List α}, (ins le x l).length = l.length + 1
  | [] => rfl
  | y :: r => by
    unfold ins
    split
    · rfl
    · simp [ins_len (l := r)]
theorem srt_mem {z : α} : ∀ {l : List α}, z ∈ srt le l ↔ z ∈ l
  | [] => Iff.rfl
  | x :: r => by rw [srt, ins_mem, srt_mem (l := r), List.mem_cons]
theorem srt_len : ∀ {l : List α}, (srt le l).length = l.length
  | [] => rfl
  | x :: r => by rw [srt, ins_len, srt_len (l := r)]; rfl
theorem ins_pw {R : α → α → Prop} (ht : ∀ x y z, R x y → R y z → R x z) (hl : ∀ x y, le x y = true → x ≠ y → R x y) (hn : ∀ x y, le x y = false → R y x) {x : α} :
    ∀ {l : List α}, l.Pairwise R → x ∉ l → (ins le x l).Pairwise R
  | [], _, _ => by simp [ins]
  | y :: r, h, hx => by
    obtain ⟨h1, h2⟩ := List.pairwise_cons.mp h
    have hxy : x ≠ y := fun e => hx (by simp [e])
    unfold ins
    split
    · rename_i e
      refine List.pairwise_cons.mpr ⟨fun z hz => ?_, h⟩
      rcases List.mem_cons.mp hz with rfl | hz
      · exact hl _ _ e hxy
      · exact ht _ _ _ (hl _ _ e hxy) (h1 z hz)
    · rename_i e
      refine List.pairwise_cons.mpr ⟨fun z hz => ?_, ins_pw ht hl hn h2 fun h => hx (List.mem_cons_of_mem _ h)⟩
      rcases ins_mem.mp hz with rfl | hz
      · exact hn _ _ (by simpa using e)
      · exact h1 z hz
theorem srt_pw {R : α → α → Prop} (ht : ∀ x y z, R x y → R y z → R x z) (hl : ∀ x y, le x y = true → x ≠ y → R x y) (hn : ∀ x y, le x y = false → R y x) :
    ∀ {l : List α}, l.Nodup → (srt le l).Pairwise R
  | [], _ => by simp [srt]
  | x :: r, h => by
    obtain ⟨h1, h2⟩ := List.nodup_cons.mp h
    rw [srt]
    exact ins_pw ht hl hn (srt_pw ht hl hn h2) fun h => h1 (srt_mem.mp h)
end
theorem leS_lt {x y : Cs} (h : leS x y = true) (ne : x ≠ y) : x < y := by
  unfold leS at h
  simp only [Bool.not_eq_true', decide_eq_false_iff_not] at h
  by_cases k : x < y
  · exact k
  · exact absurd (List.le_antisymm (by exact h) (by exact k)) ne
theorem leS_nlt {x y : Cs} (h : leS x y = false) : y < x := by
  unfold leS at h
  simpa using h
theorem srtS_pw {l : List Cs} (h : l.Nodup) : (srt leS l).Pairwise (· < ·) :=
  srt_pw (le := leS) (R := fun a b => a < b) (fun _ _ _ h k => List.lt_trans h k) (fun _ _ h k => leS_lt h k) (fun _ _ h => leS_nlt h) h
/-! ### places -/
mutual
theorem below_mono {n m : Nat} (h : n ≤ m) : ∀ v, below n v = true → below m v = true
  | .non, _ => rfl
  | .bl _, _ => rfl
  | .int _, _ => rfl
  | .str _, _ => rfl
  | .fn _, _ => rfl
  | .scr _, _ => rfl
  | .ref i, k => by simp only [below, decide_eq_true_eq] at k ⊢; omega
  | .tup xs, k => by simp only [below] at k ⊢; exact belowL_mono h xs k
  | .lst xs, k => by simp only [below] at k ⊢; exact belowL_mono h xs k
  | .dct xs, k => by simp only [below] at k ⊢; exact belowKV_mono h xs k
  | .obj _ xs, k => by simp only [below] at k ⊢; exact belowF_mono h xs k
theorem belowL_mono {n m : Nat} (h : n ≤ m) : ∀ v, belowL n v = true → belowL m v = true
  | [], _ => rfl
  | x :: r, k => by
    simp only [belowL, Bool.and_eq_true] at k ⊢
    exact ⟨below_mono h _ k.1, belowL_mono h _ k.2⟩
theorem belowKV_mono {n m : Nat} (h : n ≤ m) : ∀ v, belowKV n v = true → belowKV m v = true
  | [], _ => rfl
  | (x, y) :: r, k => by
    simp only [belowKV, Bool.and_eq_true] at k ⊢
    exact ⟨⟨below_mono h _ k.1.1, below_mono h _ k.1.2⟩, belowKV_mono h _ k.2⟩
theorem belowF_mono {n m : Nat} (h : n ≤ m) : ∀ v, belowF n v = true → belowF m v = true
  | [], _ => rfl
  | (x, y) :: r, k => by
    simp only [belowF, Bool.and_eq_true] at k ⊢
    exact ⟨below_mono h _ k.1, belowF_mono h _ k.2⟩
end
theorem belowO_mono {n m : Nat} (h : n ≤ m) : ∀ v, belowO n v = true → belowO m v = true
  | .lst xs, k => by simp only [belowO] at k ⊢; exact belowL_mono h xs k
  | .dk xs, k => by simp only [belowO] at k ⊢; exact belowKV_mono h xs k
  | .dt xs, k => by simp only [belowO] at k ⊢; exact belowKV_mono h xs k
  | .ins _ xs, k => by simp only [belowO] at k ⊢; exact belowF_mono h xs k
mutual
theorem pure_below {n : Nat} : ∀ v, pureV v = true → below n v = true
  | .non, _ => rfl
  | .bl _, _ => rfl
  | .int _, _ => rfl
  | .str _, _ => rfl
  | .fn _, _ => rfl
  | .scr _, _ => rfl
  | .tup xs, k => by simp only [below, pureV] at k ⊢; exact pure_belowL xs k
  | .lst xs, k => by simp only [below, pureV] at k ⊢; exact pure_belowL xs k
  | .dct xs, k => by simp only [below, pureV] at k ⊢; exact pure_belowKV xs k
  | .obj _ xs, k => by simp only [below, pureV] at k ⊢; exact pure_belowF xs k
theorem pure_belowL {n : Nat} : ∀ v, pureL v = true → belowL n v = true
  | [], _ => rfl
  | x :: r, k => by
    simp only [belowL, pureL, Bool.and_eq_true] at k ⊢
    exact ⟨pure_below _ k.1, pure_belowL _ k.2⟩
theorem pure_belowKV {n : Nat} : ∀ v, pureKV v = true → belowKV n v = true
  | [], _ => rfl
  | (x, y) :: r, k => by
    simp only [belowKV, pureKV, Bool.and_eq_true] at k ⊢
    exact ⟨⟨pure_below _ k.1.1, pure_below _ k.1.2⟩, pure_belowKV _ k.2⟩
theorem pure_belowF {n : Nat} : ∀ v, pureF v = true → belowF n v = true
  | [], _ => rfl
  | (x, y) :: r, k => by
    simp only [belowF, pureF, Bool.and_eq_true] at k ⊢
    exact ⟨pure_below _ k.1, pure_belowF _ k.2⟩
end
theorem pureL_iff : ∀ {l : List Val}, pureL l = true ↔ ∀ x ∈ l, pureV x = true
  | [] => by simp
  | x :: r => by simp [pureL_iff (l := r)]
theorem belowL_iff {n : Nat} : ∀ {l : List Val}, belowL n l = true ↔ ∀ x ∈ l, below n x = true
  | [] => by simp
  | x :: r => by simp [belowL_iff (l := r)]
theorem belowKV_iff {n : Nat} : ∀ {l : List (Val × Val)}, belowKV n l = true ↔ ∀ x ∈ l, below n x.1 = true ∧ below n x.2 = true
  | [] => by simp
  | (x, y) :: r => by simp [belowKV_iff (l := r)]
theorem pureL_ints (ns : List Int) : pureL (ns.map .int) = true := pureL_iff.mpr fun x hx => by
  obtain ⟨i, _, rfl⟩ := List.mem_map.mp hx
  rfl
theorem pureL_strs (ns : List Cs) : pureL (ns.map .str) = true := pureL_iff.mpr fun x hx => by
  obtain ⟨i, _, rfl⟩ := List.mem_map.mp hx
  rfl
theorem intsO_map : ∀ ns : List Int, intsO (ns.map .int) = some ns
  | [] => rfl
  | n :: r => by simp [intsO, intsO_map r]
theorem strsO_map : ∀ ns : List Cs, strsO (ns.map .str) = some ns
  | [] => rfl
  | n :: r => by simp [strsO, strsO_map r]
theorem blsO_map : ∀ ns : List Bool, blsO (ns.map .bl) = some ns
  | [] => rfl
  | n :: r => by simp [blsO, blsO_map r]
theorem intsO_strs : ∀ ns : List Cs, ns ≠ [] → intsO (ns.map .str) = none
  | [], h => absurd rfl h
  | n :: r, _ => by simp [intsO]
/-! ### loops by numbers -/
theorem rng_len (lo : Int) (n : Nat) : (rng lo n).length = n := by simp [rng]
theorem rng_get {lo : Int} {n i : Nat} {x : Val} (h : (rng lo n)[i]? = some x) : i < n ∧ x = .int (lo + i) := by
  simp only [rng, List.getElem?_map] at h
  by_cases k : i < n
  · rw [List.getElem?_range k] at h
    exact ⟨k, by simpa using h.symm⟩
  · rw [List.getElem?_eq_none (by simpa using k)] at h
    simp at h
theorem rng_get0 {n i : Nat} {x : Val} (h : (rng 0 n)[i]? = some x) : i < n ∧ x = .int i := by
  have := rng_get h
  rw [Int.zero_add] at this
  exact this
theorem forGo_idx {chk : Hm → Bool} {g : G} {b : S} {V : Val → Hm → Prop} {xs : List Val} {env : Env} {h : Hm} (I : Nat → Env → Hm → Prop)
    (h0 : I 0 env h) (hc : ∀ i env h, I i env h → chk h = true)
    (hb : ∀ i x env h (N : Env → Hm → Prop), xs[i]? = some x → I i env h → (∀ env h, I (i + 1) env h → N env h) → ∃ env1 h1, g x env h = some (env1, h1) ∧ (b env1 h1).sat N V (I xs.length) N) :
    (forGo chk g b xs env h).sat (I xs.length) V (fun _ _ => False) (fun _ _ => False) := by
  have := forGo_sat (chk := chk) (g := g) (b := b) (V := V) (I := fun ys env h => ∃ i, ys = xs.drop i ∧ i ≤ xs.length ∧ I i env h) (fun _ _ _ ⟨i, _, _, k⟩ => hc _ _ _ k) ?_ xs env h ⟨0, by simp, Nat.zero_le _, h0⟩
  · refine SR.sat_mono this ?_ (fun _ _ v => v) (fun _ _ v => v) (fun _ _ v => v)
    rintro env h ⟨i, e, l, k⟩
    have : xs.length ≤ i := List.drop_eq_nil_iff.mp e.symm
    rw [show xs.length = i by omega]
    exact k
  · rintro x ys env h ⟨i, e, l, k⟩
    have hi : i < xs.length := by
      apply Decidable.byContradiction
      intro q
      rw [List.drop_eq_nil_of_le (by omega)] at e
      cases e
    rw [List.drop_eq_getElem_cons hi] at e
    cases e
    obtain ⟨env1, h1, e, s⟩ := hb i _ env h _ (List.getElem?_eq_getElem hi) k fun _ _ h => h
    exact ⟨env1, h1, e, SR.sat_mono s (fun _ _ j => ⟨i + 1, rfl, hi, j⟩) (fun _ _ v => v) (fun _ _ j => ⟨xs.length, by simp, Nat.le_refl _, j⟩) (fun _ _ j => ⟨i + 1, rfl, hi, j⟩)⟩
theorem lcGo_idx {chk : Hm → Bool} {g : G} {t : T} {e : E} {env : Env} {xs : List Val} {h : Hm} (I : Nat → List Val → Hm → Prop)
    (h0 : I 0 [] h) (hc : ∀ i acc h, I i acc h → chk h = true)
    (hb : ∀ i x acc h (N : List Val → Hm → Prop), xs[i]? = some x → I i acc h → (∀ acc h, I (i + 1) acc h → N acc h) → ∃ env1 h1, g x env h = some (env1, h1) ∧ (t env1 h1).sat fun c h2 => if c then (e env1 h2).sat fun y h3 => acc.length < line ∧ N (acc ++ [y]) h3 else N acc h2) :
    (lcGo chk g t e env xs [] h).sat fun ys h => I xs.length ys h := by
  have := lcGo_sat (chk := chk) (g := g) (t := t) (e := e) (env := env) (I := fun ys acc h => ∃ i, ys = xs.drop i ∧ i ≤ xs.length ∧ I i acc h) (fun _ _ _ ⟨i, _, _, k⟩ => hc _ _ _ k) ?_ xs [] h ⟨0, by simp, Nat.zero_le _, h0⟩
  · refine R.sat_mono this ?_
    rintro env h ⟨i, e, l, k⟩
    have : xs.length ≤ i := List.drop_eq_nil_iff.mp e.symm
    rw [show xs.length = i by omega]
    exact k
  · rintro x ys acc h ⟨i, e, l, k⟩
    have hi : i < xs.length := by
      apply Decidable.byContradiction
      intro q
      rw [List.drop_eq_nil_of_le (by omega)] at e
      cases e
    rw [List.drop_eq_getElem_cons hi] at e
    cases e
    obtain ⟨env1, h1, e, s⟩ := hb i _ acc h _ (List.getElem?_eq_getElem hi) k fun _ _ h => h
    refine ⟨env1, h1, e, R.sat_mono s fun c h2 s => ?_⟩
    cases c with
    | true => exact R.sat_mono s fun y h3 ⟨l, j⟩ => ⟨l, i + 1, rfl, hi, j⟩
    | false => exact ⟨i + 1, rfl, hi, s⟩
theorem sat_eq {α : Type} {r : R α} {a : α} {h : Hm} (k : r.sat fun x h' => x = a ∧ h' = h) : r = .ok a h := by
  obtain ⟨x, h1, e, rfl, rfl⟩ := R.sat_elim k
  exact e
/-- a list's making that touches no heap -/
theorem lcGo_map {α : Type} {chk : Hm → Bool} {g : G} {t : T} {e : E} {env : Env} {h : Hm} (mk : α → Val) (p : α → Bool) (f : α → Val) (hc : chk h = true) :
    ∀ (as : List α) (acc : List Val), acc.length + as.length ≤ line → (∀ a ∈ as, ∃ env1, g (mk a) env h = some (env1, h) ∧ ((t env1 h).sat fun c h' => c = p a ∧ h' = h) ∧ (p a = true → (e env1 h).sat fun v h' => v = f a ∧ h' = h)) →
      lcGo chk g t e env (as.map mk) acc h = .ok (acc ++ (as.filter p).map f) h
  | [], acc, _, _ => by
    simp [lcGo, hc]
  | a :: as, acc, hl, H => by
    obtain ⟨env1, h1, h2, h3⟩ := H a List.mem_cons_self
    replace h2 := sat_eq h2
    replace h3 := fun q => sat_eq (h3 q)
    have H' := fun b hb => H b (List.mem_cons_of_mem _ hb)
    rw [List.length_cons] at hl
    rw [List.map_cons, lcGo, if_pos hc, h1]
    show R.bindN (t env1 h) _ = _
    rw [h2]
    cases hp : p a with
    | true =>
      show R.bindN (e env1 h) _ = _
      rw [h3 hp]
      show (if acc.length < line then _ else _) = _
      rw [if_pos (by omega), lcGo_map mk p f hc as (acc ++ [f a]) (by rw [List.length_append]; show acc.length + 1 + _ ≤ _; omega) H']
      simp [hp]
    | false =>
      show lcGo chk g t e env (as.map mk) acc h = _
      rw [lcGo_map mk p f hc as acc (by omega) H']
      simp [hp]
theorem lcGo_all {α : Type} {chk : Hm → Bool} {g : G} {e : E} {env : Env} {h : Hm} (mk : α → Val) (f : α → Val) (hc : chk h = true) (as : List α) (hl : as.length ≤ line)
    (H : ∀ a ∈ as, ∃ env1, g (mk a) env h = some (env1, h) ∧ (e env1 h).sat fun v h' => v = f a ∧ h' = h) : lcGo chk g tYes e env (as.map mk) [] h = .ok (as.map f) h := by
  rw [lcGo_map mk (fun _ => true) f hc as [] (by simpa using hl) fun a ha => by
    obtain ⟨env1, h1, h2⟩ := H a ha
    exact ⟨env1, h1, ⟨rfl, rfl⟩, fun _ => h2⟩, List.filter_eq_self.mpr (fun _ _ => rfl)]
  rfl
/-! ### ==, slices -/
@[simp] theorem vEq_int (h : Hm) (i j : Int) : vEq h (.int i) (.int j) = some (.bl (i == j)) := by
  unfold vEq
  rw [frz_pure _ _ _ _ (by rfl), frz_pure _ _ _ _ (by rfl)]
  rfl
@[simp] theorem vNe_int (h : Hm) (i j : Int) : vNe h (.int i) (.int j) = some (.bl (i != j)) := by
  unfold vNe
  rw [frz_pure _ _ _ _ (by rfl), frz_pure _ _ _ _ (by rfl)]
  rfl
@[simp] theorem vEq_str (h : Hm) (i j : Cs) : vEq h (.str i) (.str j) = some (.bl (i == j)) := by
  unfold vEq
  rw [frz_pure _ _ _ _ (by rfl), frz_pure _ _ _ _ (by rfl)]
  rfl
theorem vEq_of {h : Hm} {x y : Val} (px : pureV x = true) (py : pureV y = true) (dx : isD 60 x = true) (dy : isD 60 y = true) : vEq h x y = some (.bl (eqv x y)) := by
  unfold vEq
  rw [frz_pure _ _ _ _ px, frz_pure _ _ _ _ py]
  simp [dx, dy]
theorem sIx_pos {n d : Nat} {i : Int} (h : 0 ≤ i) : sIx n d (some i) = min i.toNat n := by
  show (if i < 0 then _ else _) = _
  rw [if_neg (by omega)]
theorem cut_to {α : Type} {xs : List α} {i : Int} (h : 0 ≤ i) : cut xs none (some i) = xs.take i.toNat := by
  unfold cut
  rw [sIx_pos h]
  show List.take (min i.toNat xs.length - 0) xs = _
  rw [List.take_eq_take_iff]
  omega
theorem cut_from {α : Type} {xs : List α} {i : Int} (h : 0 ≤ i) : cut xs (some i) none = xs.drop i.toNat := by
  unfold cut
  rw [sIx_pos h]
  show List.take (xs.length - _) _ = _
  by_cases k : i.toNat ≤ xs.length
  · rw [Nat.min_eq_left k, List.take_of_length_le (by simp)]
  · rw [Nat.min_eq_right (by omega), List.drop_eq_nil_of_le (by omega), List.drop_eq_nil_of_le (by omega)]
    simp
theorem cut_mid {α : Type} {xs : List α} {i j : Int} (h : 0 ≤ i) (h' : 0 ≤ j) : cut xs (some i) (some j) = (xs.drop i.toNat).take (j.toNat - i.toNat) := by
  unfold cut
  rw [sIx_pos h, sIx_pos h']
  by_cases k : i.toNat ≤ xs.length
  · rw [Nat.min_eq_left k, List.take_eq_take_iff, List.length_drop]
    omega
  · rw [Nat.min_eq_right (a := i.toNat) (by omega), List.drop_eq_nil_of_le (by omega), List.drop_eq_nil_of_le (by omega)]
    simp
/-- a rest of the heap whose things lie in it -/
def Bel (r : Hm) : Prop := ∀ o ∈ r, belowO (r.length + 2) o = true
theorem Bel.app {r : Hm} {o : MO} (h : Bel r) (k : belowO (r.length + 3) o = true) : Bel (r ++ [o]) := fun x hx => by
  have e : (r ++ [o]).length + 2 = r.length + 3 := by simp
  rw [e]
  rcases List.mem_append.mp hx with hx | hx
  · exact belowO_mono (Nat.le_succ _) _ (h x hx)
  · rw [List.mem_singleton.mp hx]; exact k
theorem Bel.set {r : Hm} {o : MO} {i : Nat} (h : Bel r) (k : belowO (r.length + 2) o = true) : Bel (r.set i o) := fun x hx => by
  rw [List.length_set]
  rcases List.mem_or_eq_of_mem_set hx with hx | rfl
  · exact h x hx
  · exact k
end Mir
end

section
set_option linter.all false
set_option autoImplicit false
set_option maxHeartbeats 0
set_option maxRecDepth 100000
namespace K01
open Mir
/-- the deck: cells, a number, a count; behind these two the rest of the heap -/
def D (cs : List Int) (s k : Int) (r : Hm) : Hm := .lst (cs.map .int) :: .lst [.ref 0, .int s, .int k] :: r
def Dk (r h : Hm) : Prop := ∃ cs s k, cs.length ≤ 63 ∧ h = D cs s k r
theorem draw_sat {r h : Hm} {m : Int} (hd : Dk r h) (h0 : 0 < m) (h1 : m < 1073741824) :
    (m__law_draw [.ref 1, .int m] h).sat fun v h' => ∃ i : Int, v = .int i ∧ 0 ≤ i ∧ i < m ∧ Dk r h' := by
  obtain ⟨cs, s, k, hl, rfl⟩ := hd
  have e : ∀ cs s k, cs.length ≤ 63 → Dk r (MO.lst (List.map Val.int cs) :: MO.lst [Val.ref 0, Val.int s, Val.int k] :: r) := fun cs s k h => ⟨cs, s, k, h, rfl⟩
  have e0 : ∀ s k, Dk r (MO.lst [] :: MO.lst [Val.ref 0, Val.int s, Val.int k] :: r) := fun s k => e [] s k (by decide)
  have a0 : ∀ x : Int, 0 ≤ x % m := fun x => Int.emod_nonneg x (by omega)
  have a1 : ∀ x : Int, x % m < m := fun x => Int.emod_lt_of_pos x h0
  cases cs with
  | nil =>
    refine defA_sat rfl ?_
    unfold D
    simp (maxSteps := 1000000) (disch := omega) [if_pos, if_neg, List.getElem?_cons_zero, h0, h1, e0, a0, a1]
  | cons c cs =>
    have l1 : cs.length ≤ line := by simp [line] at hl ⊢; omega
    have l2 : cs.length < line := by simp [line] at hl ⊢; omega
    have l3 : cs.length + 1 ≤ line := l2
    simp at hl
    have e1 : ∀ s k, Dk r (MO.lst (List.map Val.int cs) :: MO.lst [Val.ref 0, Val.int s, Val.int k] :: r) := fun s k => e cs s k (by omega)
    have e2 : ∀ x s k, Dk r (MO.lst (Val.int x :: List.map Val.int cs) :: MO.lst [Val.ref 0, Val.int s, Val.int k] :: r) := fun x s k => e (x :: cs) s k (by simp; omega)
    refine defA_sat rfl ?_
    unfold D
    simp (maxSteps := 1000000) (disch := omega) [if_pos, if_neg, List.getElem?_cons_zero, h0, h1, l1, l2]
    refine ite_satS (fun h => ?_) (fun h => ?_)
    · simp (maxSteps := 1000000) (disch := omega) [if_pos, if_neg, List.getElem?_cons_zero, h0, h1, l3, e2, a0, a1]
    · simp (maxSteps := 1000000) (disch := omega) [if_pos, if_neg, List.getElem?_cons_zero, h0, h1, l3, e1, a0, a1]
end K01
end

section
set_option linter.all false
set_option autoImplicit false
set_option maxHeartbeats 0
set_option maxRecDepth 100000
namespace K01
open Mir
theorem Dk.len {r h : Hm} (d : Dk r h) : h.length = r.length + 2 := by
  obtain ⟨_, _, _, _, rfl⟩ := d
  rfl
theorem Dk.get {r h : Hm} (d : Dk r h) (i : Nat) : h[i + 2]? = r[i]? := by
  obtain ⟨_, _, _, _, rfl⟩ := d
  rfl
theorem Dk.app {r h : Hm} (d : Dk r h) (x : MO) : Dk (r ++ [x]) (h ++ [x]) := by
  obtain ⟨cs, s, k, l, rfl⟩ := d
  exact ⟨cs, s, k, l, rfl⟩
theorem Dk.set {r h : Hm} (d : Dk r h) (i : Nat) (x : MO) : Dk (r.set i x) (h.set (i + 2) x) := by
  obtain ⟨cs, s, k, l, rfl⟩ := d
  exact ⟨cs, s, k, l, rfl⟩
theorem Dk.cut {r r' h : Hm} (d : Dk r' h) (n : Nat) (hn : n = r.length + 2) (e : r'.take r.length = r) (b : Bel r) : (h.take n).all (belowO n) = true ∧ Dk r (h.take n) := by
  subst hn
  obtain ⟨cs, s, k, l, rfl⟩ := d
  have : (D cs s k r').take (r.length + 2) = D cs s k r := by
    show MO.lst _ :: MO.lst _ :: r'.take r.length = _
    rw [e]
    rfl
  rw [this]
  refine ⟨?_, cs, s, k, l, rfl⟩
  rw [List.all_eq_true]
  intro o ho
  rcases List.mem_cons.mp ho with rfl | ho
  · exact pure_belowL _ (pureL_ints _)
  rcases List.mem_cons.mp ho with rfl | ho
  · simp
  · exact b o ho
/-- a key's signs -/
def letters : Cs := [97, 98, 99, 100, 101, 102, 103, 104, 105, 106, 107, 108, 109, 110, 111, 112, 113, 114, 115, 116, 117, 118, 119, 120, 121, 122]
def keyOk (s : Cs) : Bool := decide (1 ≤ s.length) && decide (s.length ≤ 8) && s.all fun c => decide (c ∈ letters)
theorem keys_sat {r h : Hm} {m : Int} (hd : Dk r h) (hb : Bel r) (h0 : 0 ≤ m) (h1 : m ≤ 4) :
    (m__law_keys [.ref 1, .int m] h).sat fun v h' => ∃ ks : List Cs, v = .lst (ks.map .str) ∧ ks.length = m.toNat ∧ (∀ k ∈ ks, keyOk k = true) ∧ Dk r h' := by
  refine defS_sat rfl fun Q hQ => ?_
  rw [hd.len] at hQ
  simp (maxSteps := 1000000) (disch := omega) [if_pos, if_neg, List.getElem?_cons_zero]
  (refine Mir.R.sat_mono (draw_sat hd (by first | decide | omega) (by first | decide | omega)) ?_; clear hd; rintro _ _ ⟨mode, e, mode0, mode1, hd⟩; subst e)
  simp (maxSteps := 1000000) (disch := omega) [if_pos, if_neg, List.getElem?_cons_zero]
  (refine Mir.R.sat_mono (draw_sat hd (by first | decide | omega) (by first | decide | omega)) ?_; clear hd; rintro _ _ ⟨turn, e, turn0, turn1, hd⟩; subst e)
  simp (maxSteps := 1000000) (disch := omega) [if_pos, if_neg, List.getElem?_cons_zero]
  refine R.sat_mono (lcGo_idx (fun i acc h => Dk r h ∧ ∃ b : List Cs, acc = b.map .str ∧ b.length = i ∧ ∀ c ∈ b, ∃ d ∈ letters, c = [d]) ⟨hd, [], rfl, rfl, by simp⟩ (fun _ _ _ _ => rfl) ?_) ?_
  · rintro i x acc h N e ⟨hd, b, rfl, hl, hc⟩ hN
    obtain ⟨hi, rfl⟩ := rng_get0 e
    refine ⟨_, _, rfl, ?_⟩
    simp (maxSteps := 1000000) (disch := omega) [if_pos, if_neg, List.getElem?_cons_zero]
    (refine Mir.R.sat_mono (draw_sat hd (by first | decide | omega) (by first | decide | omega)) ?_; clear hd; rintro _ _ ⟨a, e, a0, a1, hd⟩; subst e)
    obtain ⟨c, e, hc2, _⟩ := atI_ex (xs := letters) a0 (by simpa [letters] using a1)
    unfold letters at e
    simp (maxSteps := 1000000) (disch := omega) [if_pos, if_neg, List.getElem?_cons_zero, e, line]
    refine ⟨by omega, hN _ _ ⟨hd, b ++ [[c]], by simp, by simp [hl], ?_⟩⟩
    intro d hd
    rcases List.mem_append.mp hd with hd | hd
    · exact hc d hd
    · exact ⟨c, hc2, by simpa using hd⟩
  clear hd
  rintro _ h ⟨hd, bs, rfl, hl, hc⟩
  have hl : bs.length = 8 := hl
  have hj : ∃ b : Cs, joinC [] bs = b ∧ b.length = 8 ∧ (∀ d ∈ b, d ∈ letters) ∧ (bs.map List.length).sum = 8 := by
    clear hd
    refine ⟨_, rfl, ?_⟩
    match bs, hl, hc with
    | [x0, x1, x2, x3, x4, x5, x6, x7], _, hc =>
      simp only [List.mem_cons, List.not_mem_nil, or_false, forall_eq_or_imp, forall_eq] at hc
      obtain ⟨⟨d0, h0, rfl⟩, ⟨d1, h1, rfl⟩, ⟨d2, h2, rfl⟩, ⟨d3, h3, rfl⟩, ⟨d4, h4, rfl⟩, ⟨d5, h5, rfl⟩, ⟨d6, h6, rfl⟩, ⟨d7, h7, rfl⟩⟩ := hc
      refine ⟨rfl, ?_, rfl⟩
      simp [joinC, *]
  obtain ⟨b, hj, hbl, hbc, hs⟩ := hj
  simp (maxSteps := 1000000) (disch := omega) [if_pos, if_neg, List.getElem?_cons_zero, mJoin, strsO_map, hs, hj]
  (refine Mir.R.sat_mono (draw_sat hd (by first | decide | omega) (by first | decide | omega)) ?_; clear hd; rintro _ _ ⟨sz, e, sz0, sz1, hd⟩; subst e)
  simp (maxSteps := 1000000) (disch := omega) [if_pos, if_neg, List.getElem?_cons_zero]
  refine R.sat_mono (draw_sat hd (by omega) (by omega)) ?_
  clear hd
  rintro _ h ⟨spot, e, spot0, spot1, hd⟩
  subst e
  simp (maxSteps := 1000000) (disch := omega) [if_pos, if_neg, List.getElem?_cons_zero]
  refine ite_satS (fun e => ?_) (fun e => ?_)
  · simp (maxSteps := 1000000) (disch := omega) [if_pos, if_neg, List.getElem?_cons_zero, near_of h0 (show m < _ by omega)]
    refine R.sat_mono (lcGo_idx (fun i acc h => Dk r h ∧ ∃ ks : List Cs, acc = ks.map .str ∧ ks.length = i ∧ ∀ c ∈ ks, keyOk c = true) ⟨hd, [], rfl, rfl, by simp⟩ (fun _ _ _ _ => rfl) ?_) ?_
    · rintro i x acc h N e ⟨hd, ks, rfl, hl, hc⟩ hN
      obtain ⟨hi, rfl⟩ := rng_get0 e
      refine ⟨_, _, rfl, ?_⟩
      simp (maxSteps := 1000000) (disch := omega) [if_pos, if_neg, List.getElem?_cons_zero, vSl, line, hbl, cut_to (show (0:Int) ≤ 1 + (i:Int) by omega)]
      refine ⟨by omega, hN _ _ ⟨hd, ks ++ [b.take (1 + (i:Int)).toNat], by simp, by simp [hl], ?_⟩⟩
      intro d hd
      rcases List.mem_append.mp hd with hd | hd
      · exact hc d hd
      · rw [List.mem_singleton.mp hd]
        unfold keyOk
        simp only [Bool.and_eq_true, decide_eq_true_eq, List.all_eq_true, List.length_take]
        exact ⟨by omega, fun c hc => hbc c (List.mem_of_mem_take hc)⟩
    · clear hd
      rintro _ h ⟨hd, ks, rfl, hl, hc⟩
      rw [rng_len] at hl
      obtain ⟨h1, h2⟩ := hd.cut _ rfl (by simp) hb
      simp (maxSteps := 1000000) (disch := omega) [if_pos, if_neg, List.getElem?_cons_zero]
      exact hQ _ _ ⟨pureL_strs _, h1, ks, rfl, hl, hc, h2⟩
  · simp (maxSteps := 1000000) (disch := omega) [if_pos, if_neg, List.getElem?_cons_zero, near_of h0 (show m < _ by omega)]
    rw [hd.len]
    have hd := hd.app (.lst [])
    refine SR.sat_mono (forGo_idx (fun i env h => ∃ (x9 x10 : Option Val) (ks : List Cs), env = [some (Val.ref 1), some (Val.int m), some (Val.str letters), some (Val.int mode), some (Val.int turn), some (Val.str b), some (Val.int (1 + sz)), some (Val.int spot), some (Val.ref (List.length r + 2)), x9, x10] ∧
      Dk (r ++ [.lst (ks.map .str)]) h ∧ ks.length = i ∧ ∀ c ∈ ks, keyOk c = true) ⟨none, none, [], rfl, hd, rfl, by simp⟩ (fun _ _ _ _ => rfl) ?_) ?_ (fun _ _ h => h) (fun _ _ h => h) (fun _ _ h => h)
    · rintro i x env h N e ⟨x9, x10, ks, rfl, hd, hl, hc⟩ hN
      obtain ⟨hi, rfl⟩ := rng_get0 e
      refine ⟨_, _, rfl, ?_⟩
      obtain ⟨c, e, hc2, _⟩ := atI_ex (xs := letters) (i := (turn + 7 * (i:Int)) % 26) (by omega) (by simp [letters]; omega)
      unfold letters at e
      have hg := hd.get r.length
      rw [List.getElem?_concat_length] at hg
      have l1 : spot.toNat + 1 ≤ 8 := by omega
      simp (maxSteps := 1000000) (disch := omega) [if_pos, if_neg, List.getElem?_cons_zero, vSl, letters, e, hbl, cut_to spot0, cut_mid (show 0 ≤ spot + 1 by omega) (show 0 ≤ 1 + sz by omega), mAppend, hg]
      refine hN _ _ ⟨_, _, ks ++ [b.take spot.toNat ++ c :: (b.drop (spot + 1).toNat).take ((1 + sz).toNat - (spot + 1).toNat)], rfl, ?_, by simp [hl], ?_⟩
      · have := hd.set r.length (.lst (ks.map .str ++ [.str (b.take spot.toNat ++ c :: (b.drop (spot + 1).toNat).take ((1 + sz).toNat - (spot + 1).toNat))]))
        simpa using this
      · intro d hd
        rcases List.mem_append.mp hd with hd | hd
        · exact hc d hd
        · rw [List.mem_singleton.mp hd]
          unfold keyOk
          simp only [Bool.and_eq_true, decide_eq_true_eq, List.all_eq_true, List.length_append, List.length_cons, List.length_take, List.length_drop]
          refine ⟨by omega, fun c hc => ?_⟩
          rcases List.mem_append.mp hc with hc | hc
          · exact hbc c (List.mem_of_mem_take hc)
          · rcases List.mem_cons.mp hc with rfl | hc
            · exact hc2
            · exact hbc c (List.mem_of_mem_drop (List.mem_of_mem_take hc))
    · clear hd
      rintro _ h ⟨x9, x10, ks, rfl, hd, hl, hc⟩
      rw [rng_len] at hl
      have hg := hd.get r.length
      rw [List.getElem?_concat_length] at hg
      obtain ⟨h1, h2⟩ := hd.cut _ rfl (by simp) hb
      by_cases hk : ks = []
      · subst hk
        simp (maxSteps := 1000000) (disch := omega) [if_pos, if_neg, List.getElem?_cons_zero, bSorted, hg, intsO, srt]
        exact hQ _ _ ⟨rfl, h1, [], rfl, hl, by simp, h2⟩
      · simp (maxSteps := 1000000) (disch := omega) [if_pos, if_neg, List.getElem?_cons_zero, bSorted, hg, intsO_strs _ hk, strsO_map]
        exact hQ _ _ ⟨pureL_strs _, h1, srt leS ks, rfl, by rw [srt_len]; exact hl, fun c h => hc c (srt_mem.mp h), h2⟩
end K01
end

section
set_option linter.all false
set_option autoImplicit false
set_option maxHeartbeats 0
set_option maxRecDepth 100000
namespace K01
open Mir
/-- the worths of each key so far: a dict of the heap, its lists -/
structure Had (lo hi : Nat) (r : Hm) (kvs : List (Val × Val)) (ks : List Cs) (C : Int) : Prop where
  keys : kvs.map (·.1) = ks.map .str
  nd : ks.Nodup
  le : ks.length ≤ 4
  ok : ∀ k ∈ ks, keyOk k = true
  at_ : ∀ k ∈ ks, ∃ (l : Nat) (ws : List Int), dGet kvs (.str k) = some (.ref (l + 2)) ∧ lo ≤ l ∧ l < hi ∧ r[l]? = some (.lst (ws.map .int)) ∧ ws ≠ [] ∧ (ws.length : Int) ≤ C + 1 ∧ ∀ w ∈ ws, 0 ≤ w ∧ w ≤ 90 * C
theorem strs_ok {ks : List Cs} (h : ∀ k ∈ ks, keyOk k = true) : ks.all (fun s => s.all (· < 0x110000)) = true := by
  rw [List.all_eq_true]
  intro k hk
  have := h k hk
  unfold keyOk at this
  simp only [Bool.and_eq_true, List.all_eq_true, decide_eq_true_eq] at this ⊢
  intro c hc
  have := this.2 c hc
  unfold letters at this
  simp at this
  omega
def pair (p : Cs × Int) : Val := .tup [.str p.1, .int p.2]
/-- keys, rising, each with a worth -/
structure Ws (ps : List (Cs × Int)) (lo hi : Int) : Prop where
  up : (ps.map Prod.fst).Pairwise (· < ·)
  le : ps.length ≤ 4
  ok : ∀ p ∈ ps, keyOk p.1 = true
  bd : ∀ p ∈ ps, lo ≤ p.2 ∧ p.2 ≤ hi
theorem pure_pairs (ps : List (Cs × Int)) : pureL (ps.map pair) = true := pureL_iff.mpr fun x hx => by
  obtain ⟨p, _, rfl⟩ := List.mem_map.mp hx
  rfl
theorem worths_sat {r h : Hm} {j lo hi : Nat} {o : Int} {kvs : List (Val × Val)} {ks : List Cs} {C : Int} (hd : Dk r h) (hb : Bel r) (hj : r[j]? = some (.dk kvs)) (hh : Had lo hi r kvs ks C) (hC : C ≤ 1000) :
    (m__law_worths [.ref 1, .ref (j + 2), .int o] h).sat fun v h' => ∃ ps : List (Cs × Int), v = .tup (ps.map pair) ∧ Ws ps 0 (90 * C) ∧ Dk r h' := by
  refine defS_sat rfl fun Q hQ => ?_
  rw [hd.len] at hQ
  simp (maxSteps := 1000000) (disch := omega) [if_pos, if_neg, List.getElem?_cons_zero]
  rw [hd.len]
  have hd := hd.app (.lst [])
  have hj2 := hd.get j
  have hlt : j < r.length := by
    rw [List.getElem?_eq_some_iff] at hj
    exact hj.1
  rw [List.getElem?_append_left hlt, hj] at hj2
  have hl := hh.le
  simp (maxSteps := 1000000) (disch := omega) [if_pos, if_neg, List.getElem?_cons_zero, bSortedD, hj2, hh.keys, strsO_map, strs_ok hh.ok]
  have hS : (srt leS ks).Pairwise (· < ·) := srtS_pw hh.nd
  have hSl : (srt leS ks).length = ks.length := srt_len
  generalize hSd : srt leS ks = S at *
  have hSk : ∀ k ∈ S, k ∈ ks := fun k hk => by rw [← hSd] at hk; exact srt_mem.mp hk
  refine SR.sat_mono (forGo_idx (fun i env h => ∃ (x4 : Option Val) (ps : List (Cs × Int)), env = [some (Val.ref 1), some (Val.ref (j + 2)), some (Val.int o), some (Val.ref (List.length r + 2)), x4] ∧
    Dk (r ++ [.lst (ps.map pair)]) h ∧ ((ps.map Prod.fst) ++ S.drop i).Pairwise (· < ·) ∧ ps.length ≤ i ∧ (∀ p ∈ ps, p.1 ∈ ks) ∧ ∀ p ∈ ps, 0 ≤ p.2 ∧ p.2 ≤ 90 * C) ⟨none, [], rfl, hd, by simpa using hS, by simp, by simp, by simp⟩ (fun _ _ _ _ => rfl) ?_) ?_ (fun _ _ h => h) (fun _ _ h => h) (fun _ _ h => h)
  · clear hd hj2
    rintro i x env h N e ⟨x4, ps, rfl, hd, hpw, hpl, hpk, hpb⟩ hN
    rw [List.getElem?_map] at e
    have hi : i < S.length := by
      apply Decidable.byContradiction
      intro q
      rw [List.getElem?_eq_none (by omega)] at e
      cases e
    rw [List.getElem?_eq_getElem hi] at e
    cases e
    have hk := hSk _ (List.getElem_mem hi)
    rw [List.drop_eq_getElem_cons hi] at hpw
    generalize S[i] = k at *
    refine ⟨_, _, rfl, ?_⟩
    simp (maxSteps := 1000000) (disch := omega) [if_pos, if_neg, List.getElem?_cons_zero]
    (refine Mir.R.sat_mono (draw_sat hd (by first | decide | omega) (by first | decide | omega)) ?_; clear hd; rintro _ _ ⟨a, e, a0, a1, hd⟩; subst e)
    simp (maxSteps := 1000000) (disch := omega) [if_pos, if_neg, List.getElem?_cons_zero]
    refine ite_satS (fun e => ?_) (fun e => ?_)
    · obtain ⟨l, ws, g1, _, _, g2, g3, g4, g5⟩ := hh.at_ k hk
      have hlt2 : l < r.length := by
        rw [List.getElem?_eq_some_iff] at g2
        exact g2.1
      have hj2 := hd.get j
      have hg := hd.get l
      rw [List.getElem?_append_left hlt, hj] at hj2
      rw [List.getElem?_append_left hlt2, g2] at hg
      have : ws.length ≠ 0 := by simpa using g3
      have hg2 := hd.get r.length
      rw [List.getElem?_concat_length] at hg2
      simp (maxSteps := 1000000) (disch := omega) [if_pos, if_neg, List.getElem?_cons_zero, vGet, asD, hj2, isK, g1, bLen, hg, hg2]
      refine R.sat_mono (draw_sat hd (by omega) (by omega)) ?_
      clear hd hj2 hg hg2
      rintro _ h ⟨b, e, b0, b1, hd⟩
      subst e
      have hg := hd.get l
      rw [List.getElem?_append_left hlt2, g2] at hg
      obtain ⟨w, e1, e2, _⟩ := atI_ex (xs := ws.map Val.int) b0 (by simpa using b1)
      obtain ⟨w, e3, rfl⟩ := List.mem_map.mp e2
      have hg2 := hd.get r.length
      rw [List.getElem?_concat_length] at hg2
      simp (maxSteps := 1000000) (disch := omega) [if_pos, if_neg, List.getElem?_cons_zero, hg, hg2, e1, mAppend]
      refine hN _ _ ⟨_, ps ++ [(k, w)], rfl, by simpa [pair] using hd.set r.length (.lst (ps.map pair ++ [pair (k, w)])), by simpa using hpw, by simp; omega, ?_, ?_⟩
      · intro p hp
        rcases List.mem_append.mp hp with hp | hp
        · exact hpk p hp
        · rw [List.mem_singleton.mp hp]; exact hk
      · intro p hp
        rcases List.mem_append.mp hp with hp | hp
        · exact hpb p hp
        · rw [List.mem_singleton.mp hp]; exact g5 w e3
    · simp (maxSteps := 1000000) (disch := omega) [if_pos, if_neg, List.getElem?_cons_zero]
      exact hN _ _ ⟨_, ps, rfl, hd, List.Pairwise.sublist (List.Sublist.append_left (List.sublist_cons_self _ _) _) hpw, by omega, hpk, hpb⟩
  · clear hd hj2
    rintro env h ⟨x4, ps, rfl, hd, hpw, hpl, hpk, hpb⟩
    obtain ⟨h1, h2⟩ := hd.cut _ rfl (by simp) hb
    rw [List.length_map, List.drop_eq_nil_of_le (Nat.le_refl _), List.append_nil] at hpw
    rw [List.length_map] at hpl
    have hg2 := hd.get r.length
    rw [List.getElem?_concat_length] at hg2
    simp (maxSteps := 1000000) (disch := omega) [if_pos, if_neg, List.getElem?_cons_zero, bTuple, hg2]
    exact hQ _ _ ⟨pure_pairs ps, h1, ps, rfl, ⟨hpw, by omega, fun p hp => hh.ok _ (hpk p hp), hpb⟩, h2⟩
end K01
end

section
set_option linter.all false
set_option autoImplicit false
set_option maxHeartbeats 0
set_option maxRecDepth 100000
namespace K01
open Mir
theorem maxL_mem : ∀ (r : List Int) (m : Int), maxL m r ∈ m :: r
  | [], m => by simp [maxL]
  | x :: r, m => by
    unfold maxL
    have := maxL_mem r (if m < x then x else m)
    rcases List.mem_cons.mp this with h | h
    · rw [h]
      split <;> simp
    · exact List.mem_cons_of_mem _ (List.mem_cons_of_mem _ h)
theorem asL_ref {h : Hm} {i : Nat} {xs : List Val} (e : h[i]? = some (.lst xs)) : asL h (.ref i) = some xs := by
  simp only [asL, e]
theorem bMax_lst {h : Hm} {x : Val} {ws : List Int} (e : asL h x = some (ws.map .int)) (ne : ws ≠ []) : ∃ M, M ∈ ws ∧ bMax h [x] = some (.int M) := by
  cases ws with
  | nil => exact absurd rfl ne
  | cons m t =>
    refine ⟨maxL m t, maxL_mem t m, ?_⟩
    simp only [bMax, e, Option.bind_some, intsO_map]
/-- the rest is as it was, but for the lists from lo to hi -/
def Fr (lo hi : Nat) (r r' : Hm) : Prop := r'.length = r.length ∧ ∀ i, (i < lo ∨ hi ≤ i) → r'[i]? = r[i]?
theorem Fr.refl {lo hi : Nat} {r : Hm} : Fr lo hi r r := ⟨rfl, fun _ _ => rfl⟩
theorem Fr.set {lo hi l : Nat} {r r' : Hm} {o : MO} (h : Fr lo hi r r') (h1 : lo ≤ l) (h2 : l < hi) : Fr lo hi r (r'.set l o) := by
  refine ⟨by rw [List.length_set]; exact h.1, fun i hi => ?_⟩
  rw [List.getElem?_set_ne (by omega)]
  exact h.2 i hi
theorem Had.set {lo hi : Nat} {r : Hm} {kvs : List (Val × Val)} {ks : List Cs} {C : Int} {l : Nat} {ws : List Int} {w : Int} (h : Had lo hi r kvs ks C)
    (g2 : r[l]? = some (.lst (ws.map .int))) (g4 : (ws.length : Int) ≤ C + 1) (g5 : ∀ w ∈ ws, 0 ≤ w ∧ w ≤ 90 * C) (hw : 0 ≤ w ∧ w ≤ 90 * (C + 1)) : Had lo hi (r.set l (.lst ((ws ++ [w]).map .int))) kvs ks (C + 1) := by
  refine ⟨h.keys, h.nd, h.le, h.ok, fun k hk => ?_⟩
  obtain ⟨l2, ws2, k1, k2, k3, k4, k5, k6, k7⟩ := h.at_ k hk
  by_cases e : l2 = l
  · subst e
    refine ⟨l2, ws ++ [w], k1, k2, k3, ?_, by simp, by simp; omega, fun x hx => ?_⟩
    · rw [List.getElem?_set_self (List.getElem?_eq_some_iff.mp g2).1]
    · rcases List.mem_append.mp hx with hx | hx
      · have := g5 x hx; omega
      · rw [List.mem_singleton.mp hx]; exact hw
  · refine ⟨l2, ws2, k1, k2, k3, by rw [List.getElem?_set_ne (by omega)]; exact k4, k5, by omega, fun x hx => ?_⟩
    have := k7 x hx; omega
theorem Had.mono {lo hi : Nat} {r : Hm} {kvs : List (Val × Val)} {ks : List Cs} {C C' : Int} (h : Had lo hi r kvs ks C) (hc : C ≤ C') : Had lo hi r kvs ks C' := by
  refine ⟨h.keys, h.nd, h.le, h.ok, fun k hk => ?_⟩
  obtain ⟨l2, ws2, k1, k2, k3, k4, k5, k6, k7⟩ := h.at_ k hk
  exact ⟨l2, ws2, k1, k2, k3, k4, k5, by omega, fun x hx => by have := k7 x hx; omega⟩
theorem begun_sat {r h : Hm} {j lo hi : Nat} {o hand mom : Int} {kvs : List (Val × Val)} {ks : List Cs} {C : Int} (hd : Dk r h) (hb : Bel r) (hj : r[j]? = some (.dk kvs)) (hjh : hi ≤ j) (hh : Had lo hi r kvs ks C) (hC0 : 0 ≤ C) (hC : C ≤ 1000) :
    (m__law_begun [.ref 1, .int hand, .int mom, .ref (j + 2), .int o] h).sat fun v h' => ∃ (ps : List (Cs × Int)) (r' : Hm), v = .tup [.int hand, .int mom, .non, .tup [], .tup (ps.map pair)] ∧ Ws ps 1 (90 * (C + 4)) ∧ Dk r' h' ∧ Bel r' ∧ Fr lo hi r r' ∧ Had lo hi r' kvs ks (C + 4) := by
  refine defS_sat rfl fun Q hQ => ?_
  rw [hd.len] at hQ
  simp (maxSteps := 1000000) (disch := omega) [if_pos, if_neg, List.getElem?_cons_zero]
  rw [hd.len]
  have hd := hd.app (.lst [])
  have hj2 := hd.get j
  have hlt : j < r.length := by
    rw [List.getElem?_eq_some_iff] at hj
    exact hj.1
  rw [List.getElem?_append_left hlt, hj] at hj2
  have hl := hh.le
  simp (maxSteps := 1000000) (disch := omega) [if_pos, if_neg, List.getElem?_cons_zero, bSortedD, hj2, hh.keys, strsO_map, strs_ok hh.ok]
  have hS : (srt leS ks).Pairwise (· < ·) := srtS_pw hh.nd
  have hSl : (srt leS ks).length = ks.length := srt_len
  generalize hSd : srt leS ks = S at *
  have hSk : ∀ k ∈ S, k ∈ ks := fun k hk => by rw [← hSd] at hk; exact srt_mem.mp hk
  refine SR.sat_mono (forGo_idx (fun i env h => ∃ (x6 x7 : Option Val) (ps : List (Cs × Int)) (R : Hm), env = [some (Val.ref 1), some (.int hand), some (.int mom), some (Val.ref (j + 2)), some (Val.int o), some (Val.ref (r.length + 2)), x6, x7] ∧
    Dk (R ++ [.lst (ps.map pair)]) h ∧ Bel R ∧ Fr lo hi r R ∧ Had lo hi R kvs ks (C + i) ∧ ((ps.map Prod.fst) ++ S.drop i).Pairwise (· < ·) ∧ ps.length ≤ i ∧ (∀ p ∈ ps, p.1 ∈ ks) ∧ ∀ p ∈ ps, 1 ≤ p.2 ∧ p.2 ≤ 90 * (C + i)) ⟨none, none, [], r, rfl, hd, hb, Fr.refl, by simpa using hh, by simpa using hS, by simp, by simp, by simp⟩ (fun _ _ _ _ => rfl) ?_) ?_ (fun _ _ h => h) (fun _ _ h => h) (fun _ _ h => h)
  · clear hd hj2 hh hb
    rintro i x env h N e ⟨x6, x7, ps, R, rfl, hd, hb, hf, hh, hpw, hpl, hpk, hpb⟩ hN
    rw [List.getElem?_map] at e
    have his : i < S.length := by
      apply Decidable.byContradiction
      intro q
      rw [List.getElem?_eq_none (by omega)] at e
      cases e
    rw [List.getElem?_eq_getElem his] at e
    cases e
    have hk := hSk _ (List.getElem_mem his)
    rw [List.drop_eq_getElem_cons his] at hpw
    generalize S[i] = k at *
    refine ⟨_, _, rfl, ?_⟩
    simp (maxSteps := 1000000) (disch := omega) [if_pos, if_neg, List.getElem?_cons_zero]
    (refine Mir.R.sat_mono (draw_sat hd (by first | decide | omega) (by first | decide | omega)) ?_; clear hd; rintro _ _ ⟨a, e, a0, a1, hd⟩; subst e)
    simp (maxSteps := 1000000) (disch := omega) [if_pos, if_neg, List.getElem?_cons_zero]
    have hRl : R.length = r.length := hf.1
    refine ite_satS (fun e => ?_) (fun e => ?_)
    · obtain ⟨l, ws, g1, g01, g02, g2, g3, g4, g5⟩ := hh.at_ k hk
      have hlt2 : l < R.length := by
        rw [List.getElem?_eq_some_iff] at g2
        exact g2.1
      have hjR : R[j]? = some (.dk kvs) := by rw [hf.2 j (.inr hjh)]; exact hj
      have hj2 := hd.get j
      have hg := hd.get l
      rw [List.getElem?_append_left (by omega), hjR] at hj2
      rw [List.getElem?_append_left hlt2, g2] at hg
      obtain ⟨M, hM, eM⟩ := bMax_lst (asL_ref hg) g3
      simp (maxSteps := 1000000) (disch := omega) [if_pos, if_neg, List.getElem?_cons_zero, vGet, asD, hj2, isK, g1, eM]
      (refine Mir.R.sat_mono (draw_sat hd (by first | decide | omega) (by first | decide | omega)) ?_; clear hd; rintro _ _ ⟨b, e, b0, b1, hd⟩; subst e)
      simp (maxSteps := 1000000) (disch := omega) [if_pos, if_neg, List.getElem?_cons_zero]
      (refine Mir.R.sat_mono (draw_sat hd (by first | decide | omega) (by first | decide | omega)) ?_; clear hd; rintro _ _ ⟨c, e, c0, c1, hd⟩; subst e)
      obtain ⟨v, e1, hv⟩ : ∃ v : Int, atI [Val.int 1, Val.int (1 + b), Val.int 90] c = some (.int v) ∧ 1 ≤ v ∧ v ≤ 90 := by
        obtain ⟨x, e1, e2, _⟩ := atI_ex (xs := [Val.int 1, Val.int (1 + b), Val.int 90]) c0 (by simpa using c1)
        simp only [List.mem_cons, List.not_mem_nil, or_false] at e2
        rcases e2 with rfl | rfl | rfl
        · exact ⟨_, e1, by omega⟩
        · exact ⟨_, e1, by omega⟩
        · exact ⟨_, e1, by omega⟩
      have hm := g5 _ hM
      clear hj2 hg eM
      have hj2 := hd.get j
      have hg := hd.get l
      rw [List.getElem?_append_left (by omega), hjR] at hj2
      rw [List.getElem?_append_left hlt2, g2] at hg
      have hg2 := hd.get R.length
      rw [List.getElem?_concat_length, hRl] at hg2
      have hne : ¬ (l + 2 = r.length + 2) := by omega
      simp (maxSteps := 1000000) (disch := omega) [if_pos, if_neg, List.getElem?_cons_zero, e1, vGet, asD, hj2, isK, g1, hg, mAppend, List.getElem?_set_ne hne, hg2]
      have hd1 := (hd.set l (.lst (ws.map .int ++ [.int (M + v)]))).set R.length (.lst (ps.map pair ++ [pair (k, M + v)]))
      rw [List.set_append_left _ _ hlt2, List.set_append_right _ _ (by simp)] at hd1
      have hbd : ((C + i) + 1 : Int) = C + ((i + 1 : Nat) : Int) := by omega
      refine hN _ _ ⟨_, _, ps ++ [(k, M + v)], R.set l (.lst ((ws ++ [M + v]).map .int)), rfl, ?_, hb.set (pure_belowL _ (pureL_ints _)), hf.set g01 g02, ?_, by simpa using hpw, by simp; omega, ?_, ?_⟩
      · simpa [pair, hRl] using hd1
      · rw [← hbd]
        exact hh.set g2 g4 g5 (by omega)
      · intro p hp
        rcases List.mem_append.mp hp with hp | hp
        · exact hpk p hp
        · rw [List.mem_singleton.mp hp]; exact hk
      · intro p hp
        rcases List.mem_append.mp hp with hp | hp
        · have := hpb p hp; omega
        · rw [List.mem_singleton.mp hp]
          show 1 ≤ M + v ∧ M + v ≤ _
          omega
    · simp (maxSteps := 1000000) (disch := omega) [if_pos, if_neg, List.getElem?_cons_zero]
      exact hN _ _ ⟨_, _, ps, R, rfl, hd, hb, hf, hh.mono (by omega), List.Pairwise.sublist (List.Sublist.append_left (List.sublist_cons_self _ _) _) hpw, by omega, hpk, fun p hp => by have := hpb p hp; omega⟩
  · clear hd hj2 hh hb
    rintro env h ⟨x6, x7, ps, R, rfl, hd, hb, hf, hh, hpw, hpl, hpk, hpb⟩
    rw [List.length_map] at hh hpl hpb hpw
    rw [List.drop_eq_nil_of_le (Nat.le_refl _), List.append_nil] at hpw
    have hRl : R.length = r.length := hf.1
    obtain ⟨h1, h2⟩ := hd.cut _ (by rw [hRl]) (by simp) hb
    have hg2 := hd.get R.length
    rw [List.getElem?_concat_length, hRl] at hg2
    simp (maxSteps := 1000000) (disch := omega) [if_pos, if_neg, List.getElem?_cons_zero, bTuple, hg2]
    exact hQ _ _ ⟨by simp [pure_pairs], h1, ps, R, rfl, ⟨hpw, by omega, fun p hp => hh.ok _ (hpk p hp), fun p hp => by have := hpb p hp; omega⟩, h2, hb, hf, hh.mono (by omega)⟩
end K01
end

section
set_option linter.all false
set_option autoImplicit false
set_option maxHeartbeats 0
set_option maxRecDepth 100000
namespace K01
open Mir
/-- a dealing -/
structure Dl where
  hand : Int
  begun : Int
  ended : Option Int
  reads : List (Cs × Int)
  writes : List (Cs × Int)
def endV : Option Int → Val
  | none => .non
  | some e => .int e
def dlV (d : Dl) : Val := .tup [.int d.hand, .int d.begun, endV d.ended, .tup (d.reads.map pair), .tup (d.writes.map pair)]
structure Good (d : Dl) : Prop where
  hand : 0 ≤ d.hand ∧ d.hand ≤ 7
  begun : 0 ≤ d.begun ∧ d.begun ≤ 999999
  reads : Ws d.reads 0 999999
  writes : Ws d.writes 1 999999
  ended : match d.ended with | none => d.reads = [] | some e => d.begun < e ∧ e ≤ 999999
theorem pure_end (e : Option Int) : pureV (endV e) = true := by cases e <;> rfl
theorem pure_dl (d : Dl) : pureV (dlV d) = true := by simp [dlV, pure_pairs, pure_end]
theorem pure_dls (ds : List Dl) : pureL (ds.map dlV) = true := pureL_iff.mpr fun x hx => by
  obtain ⟨p, _, rfl⟩ := List.mem_map.mp hx
  exact pure_dl p
theorem Ws.mono {ps : List (Cs × Int)} {lo hi lo' hi' : Int} (h : Ws ps lo hi) (h1 : lo' ≤ lo) (h2 : hi ≤ hi') : Ws ps lo' hi' :=
  ⟨h.up, h.le, h.ok, fun p hp => by have := h.bd p hp; omega⟩
/-! dicts -/
def sv (p : Cs × Val) : Val × Val := (.str p.1, p.2)
theorem dPut_sv {qs : List (Cs × Val)} {k : Cs} {v : Val} (hn : (qs.map Prod.fst).Nodup) : ∃ qs' : List (Cs × Val), dPut (qs.map sv) (.str k) v = qs'.map sv ∧ (qs'.map Prod.fst).Nodup ∧ (∀ q ∈ qs', q ∈ qs ∨ q = (k, v)) ∧ qs'.length ≤ qs.length + 1 := by
  unfold dPut
  by_cases h : ((qs.map sv).any fun kv => kEq kv.1 (.str k)) = true
  · rw [if_pos h]
    refine ⟨qs.map fun p => if p.1 == k then (p.1, v) else p, ?_, ?_, ?_, ?_⟩
    · rw [List.map_map, List.map_map]
      refine List.map_congr_left fun p _ => ?_
      show (if kEq (Val.str p.1) (.str k) then _ else _) = sv _
      unfold kEq
      by_cases e : p.1 == k <;> simp [e, sv]
    · have : (qs.map fun p => if p.1 == k then (p.1, v) else p).map Prod.fst = qs.map Prod.fst := by
        rw [List.map_map]
        refine List.map_congr_left fun p _ => ?_
        show (if p.1 == k then (p.1, v) else p).1 = p.1
        split <;> rfl
      rw [this]
      exact hn
    · intro q hq
      obtain ⟨p, hp, rfl⟩ := List.mem_map.mp hq
      by_cases e : p.1 == k
      · rw [if_pos e]
        exact .inr (by rw [← eq_of_beq e])
      · rw [if_neg e]
        exact .inl hp
    · simp
  · rw [if_neg h]
    refine ⟨qs ++ [(k, v)], by simp [sv], ?_, ?_, by simp⟩
    · rw [List.map_append, List.nodup_append]
      refine ⟨hn, by simp, fun a ha b hb => ?_⟩
      obtain ⟨p, hp, rfl⟩ := List.mem_map.mp ha
      simp only [List.map_cons, List.map_nil, List.mem_singleton] at hb
      intro e
      have e : p.1 = k := e.trans hb
      apply h
      rw [List.any_eq_true]
      refine ⟨sv p, List.mem_map_of_mem hp, ?_⟩
      show kEq (Val.str p.1) (.str k) = true
      simp [kEq, e]
    · intro q hq
      rcases List.mem_append.mp hq with hq | hq
      · exact .inl hq
      · exact .inr (List.mem_singleton.mp hq)
theorem dMerge_sv : ∀ (ps qs : List (Cs × Val)), (qs.map Prod.fst).Nodup → ∃ qs' : List (Cs × Val), dMerge (qs.map sv) (ps.map sv) = qs'.map sv ∧ (qs'.map Prod.fst).Nodup ∧ (∀ q ∈ qs', q ∈ qs ∨ q ∈ ps) ∧ qs'.length ≤ qs.length + ps.length
  | [], qs, hn => ⟨qs, rfl, hn, fun q h => .inl h, by simp⟩
  | p :: ps, qs, hn => by
    obtain ⟨q1, e1, n1, m1, l1⟩ := dPut_sv (k := p.1) (v := p.2) hn
    obtain ⟨q2, e2, n2, m2, l2⟩ := dMerge_sv ps q1 n1
    refine ⟨q2, ?_, n2, fun q hq => ?_, by simp; omega⟩
    · rw [← e2, ← e1]
      rfl
    · rcases m2 q hq with h | h
      · rcases m1 q h with h | h
        · exact .inl h
        · exact .inr (by rw [h]; exact List.mem_cons_self)
      · exact .inr (List.mem_cons_of_mem _ h)
theorem pairsO_sv : ∀ ps : List (Cs × Val), pairsO (ps.map fun p => .tup [.str p.1, p.2]) = some (ps.map sv)
  | [] => rfl
  | p :: ps => by
    simp only [List.map_cons, pairsO, isK, if_true, pairsO_sv ps, Option.map_some]
    rfl
theorem dGet_sv {qs : List (Cs × Val)} {k : Cs} (h : k ∈ qs.map Prod.fst) : ∃ q ∈ qs, q.1 = k ∧ dGet (qs.map sv) (.str k) = some q.2 := by
  unfold dGet
  cases e : (qs.map sv).find? fun kv => kEq kv.1 (.str k) with
  | none =>
    rw [List.find?_eq_none] at e
    obtain ⟨p, hp, rfl⟩ := List.mem_map.mp h
    have := e (sv p) (List.mem_map_of_mem hp)
    exact absurd (by simp [sv, kEq]) this
  | some x =>
    have h1 := List.mem_of_find?_eq_some e
    have h2 := List.find?_some e
    obtain ⟨p, hp, rfl⟩ := List.mem_map.mp h1
    refine ⟨p, hp, ?_, rfl⟩
    have h2 : kEq (Val.str p.1) (.str k) = true := h2
    simpa [kEq] using h2
end K01
end

section
set_option linter.all false
set_option autoImplicit false
set_option maxHeartbeats 0
set_option maxRecDepth 100000
namespace K01
open Mir
/-- the dict of the worths, made -/
theorem had_made {r : Hm} {ks : List Cs} (hk : ks.length ≤ 4) (ok : ∀ k ∈ ks, keyOk k = true) :
    ∃ kvs ks', pairsO (ks.zipIdx.map fun p => Val.tup [.str p.1, .ref (r.length + p.2 + 2)]) = some kvs ∧ Had r.length (r.length + ks.length) (r ++ List.replicate ks.length (.lst [.int 0]) ++ [.dk (dMerge [] kvs)]) (dMerge [] kvs) ks' 0 ∧ belowKV (r.length + ks.length + 2) (dMerge [] kvs) = true := by
  obtain ⟨qs, e, hn, hm, hl⟩ := dMerge_sv (ks.zipIdx.map fun p => (p.1, Val.ref (r.length + p.2 + 2))) [] (by simp)
  have e2 := pairsO_sv (ks.zipIdx.map fun p => (p.1, Val.ref (r.length + p.2 + 2)))
  rw [List.map_map] at e2
  refine ⟨_, qs.map Prod.fst, e2, ?_, ?_⟩
  · rw [show dMerge [] _ = _ from e]
    have mm : ∀ q ∈ qs, ∃ i, i < ks.length ∧ q.1 ∈ ks ∧ q.2 = .ref (r.length + i + 2) := by
      intro q hq
      rcases hm q hq with h | h
      · simp at h
      · obtain ⟨⟨k, i⟩, hp, rfl⟩ := List.mem_map.mp h
        have := List.mem_zipIdx hp
        exact ⟨i, by omega, by rw [this.2.2]; exact List.getElem_mem _, rfl⟩
    refine ⟨by rw [List.map_map, List.map_map]; rfl, hn, by simp at hl ⊢; omega, ?_, ?_⟩
    · intro k hk
      obtain ⟨q, hq, rfl⟩ := List.mem_map.mp hk
      obtain ⟨i, _, h, _⟩ := mm q hq
      exact ok _ h
    · intro k hk
      obtain ⟨q, hq, rfl, eg⟩ := dGet_sv hk
      obtain ⟨i, hi, _, h⟩ := mm q hq
      refine ⟨r.length + i, [0], by rw [eg, h], by omega, by omega, ?_, by simp, by simp, by simp⟩
      rw [List.append_assoc, List.getElem?_append_right (by omega), List.getElem?_append_left (by simp; omega)]
      simp [List.getElem?_replicate, hi]
  · rw [show dMerge [] _ = _ from e, belowKV_iff]
    intro x hx
    obtain ⟨q, hq, rfl⟩ := List.mem_map.mp hx
    refine ⟨rfl, ?_⟩
    rcases hm q hq with h | h
    · simp at h
    · obtain ⟨⟨k, i⟩, hp, rfl⟩ := List.mem_map.mp h
      have := List.mem_zipIdx hp
      simp [sv]
      omega
/-- the hands that are open -/
def OpOk (n : Nat) (opn : List (Val × Val)) : Prop := ∀ kv ∈ opn, ∃ (x : Int) (at_ : Nat), kv = (.int x, .int at_) ∧ at_ < n
/-- the state of the loop -/
structure St (r : Hm) (j : Nat) (kvs : List (Val × Val)) (ks' : List Cs) (many : Int) (i : Nat) (lim : Int) (h : Hm) (ds : List Dl) (opn : List (Val × Val)) (R : Hm) : Prop where
  hd : Dk R h
  hb : Bel R
  len : R.length = j + 3
  pre : ∀ k, k < r.length → R[k]? = r[k]?
  had : R[j]? = some (.dk kvs)
  rows : R[j + 1]? = some (.lst (ds.map dlV))
  op : R[j + 2]? = some (.dk opn)
  hh : Had r.length j R kvs ks' (4 * ds.length)
  le : (ds.length : Int) ≤ many
  good : ∀ d ∈ ds, Good d ∧ d.begun < lim
  opl : opn.length ≤ i
  opo : OpOk ds.length opn
theorem St.cells {r : Hm} {j : Nat} {kvs : List (Val × Val)} {ks' : List Cs} {many : Int} {i : Nat} {lim : Int} {h : Hm} {ds : List Dl} {opn : List (Val × Val)} {R : Hm} (s : St r j kvs ks' many i lim h ds opn R) :
    h[j + 2]? = some (.dk kvs) ∧ h[j + 3]? = some (.lst (ds.map dlV)) ∧ h[j + 4]? = some (.dk opn) :=
  ⟨(s.hd.get j).trans s.had, (s.hd.get (j + 1)).trans s.rows, (s.hd.get (j + 2)).trans s.op⟩
theorem St.deck {r : Hm} {j : Nat} {kvs : List (Val × Val)} {ks' : List Cs} {many : Int} {i : Nat} {lim : Int} {h h' : Hm} {ds : List Dl} {opn : List (Val × Val)} {R : Hm} (s : St r j kvs ks' many i lim h ds opn R) (hd : Dk R h') : St r j kvs ks' many i lim h' ds opn R := { s with hd := hd }
theorem hand_ix {hs : List Int} {a : Int} (h0 : 0 ≤ a) (h1 : a < hs.length) : ∃ x, x ∈ hs ∧ atI (hs.map Val.int) a = some (.int x) := by
  obtain ⟨x, e, m, _⟩ := atI_ex (xs := hs.map Val.int) h0 (by simpa using h1)
  obtain ⟨y, hy, rfl⟩ := List.mem_map.mp m
  exact ⟨y, hy, e⟩
theorem dGet_mem {kvs : List (Val × Val)} {k v : Val} (h : dGet kvs k = some v) : ∃ x ∈ kvs, x.2 = v := by
  unfold dGet at h
  cases e : kvs.find? (fun kv => kEq kv.1 k) with
  | none => rw [e] at h; cases h
  | some x =>
    rw [e] at h
    exact ⟨x, List.mem_of_find?_eq_some e, by simpa using h⟩
theorem OpOk.drop {n : Nat} {opn : List (Val × Val)} {k : Val} (h : OpOk n opn) : OpOk n (dDrop opn k) := fun kv hk => h kv (List.mem_filter.mp hk).1
theorem OpOk.put {n : Nat} {opn : List (Val × Val)} {x : Int} (h : OpOk n opn) : OpOk (n + 1) (dPut opn (.int x) (.int n)) := by
  intro kv hk
  unfold dPut at hk
  split at hk
  · obtain ⟨y, hy, rfl⟩ := List.mem_map.mp hk
    obtain ⟨a, b, rfl, hb⟩ := h y hy
    split
    · exact ⟨a, n, rfl, by omega⟩
    · exact ⟨a, b, rfl, by omega⟩
  · rcases List.mem_append.mp hk with hk | hk
    · obtain ⟨a, b, rfl, hb⟩ := h _ hk
      exact ⟨a, b, rfl, by omega⟩
    · rw [List.mem_singleton.mp hk]
      exact ⟨x, n, rfl, by omega⟩
theorem dPut_len {kvs : List (Val × Val)} {k v : Val} : (dPut kvs k v).length ≤ kvs.length + 1 := by
  unfold dPut
  split <;> simp
theorem belowKV_op {m n : Nat} {opn : List (Val × Val)} (h : OpOk n opn) : belowKV m opn = true := belowKV_iff.mpr fun kv hk => by
  obtain ⟨a, b, rfl, _⟩ := h kv hk
  exact ⟨rfl, rfl⟩
theorem Had.set_ne {lo hi : Nat} {r : Hm} {kvs : List (Val × Val)} {ks : List Cs} {C : Int} (h : Had lo hi r kvs ks C) (l : Nat) (hl : hi ≤ l) (o : MO) : Had lo hi (r.set l o) kvs ks C := by
  refine ⟨h.keys, h.nd, h.le, h.ok, fun k hk => ?_⟩
  obtain ⟨l2, ws2, k1, k2, k3, k4, k5⟩ := h.at_ k hk
  exact ⟨l2, ws2, k1, k2, k3, by rw [List.getElem?_set_ne (by omega)]; exact k4, k5⟩
theorem Had.app {lo hi : Nat} {r : Hm} {kvs : List (Val × Val)} {ks : List Cs} {C : Int} (h : Had lo hi r kvs ks C) (o : List MO) : Had lo hi (r ++ o) kvs ks C := by
  refine ⟨h.keys, h.nd, h.le, h.ok, fun k hk => ?_⟩
  obtain ⟨l2, ws2, k1, k2, k3, k4, k5⟩ := h.at_ k hk
  exact ⟨l2, ws2, k1, k2, k3, by rw [List.getElem?_append_left (List.getElem?_eq_some_iff.mp k4).1]; exact k4, k5⟩
end K01
end

section
set_option linter.all false
set_option autoImplicit false
set_option maxHeartbeats 0
set_option maxRecDepth 100000
namespace K01
open Mir
theorem vInB_dk {h : Hm} {i : Nat} {x : Int} {kvs : List (Val × Val)} (e : h[i]? = some (.dk kvs)) : vInB h (.int x) (.ref i) = some (.bl (dGet kvs (.int x)).isSome) := by
  simp [vInB, vIn, asD, e, isK]
theorem St.init {r h : Hm} {n : Nat} {kv : List (Val × Val)} {ks' : List Cs} {many : Int} {mom : Int} (hd : Dk (r ++ List.replicate n (.lst [.int 0])) h) (hb : Bel r) (hm0 : 0 ≤ many)
    (hh : Had r.length (r.length + n) (r ++ List.replicate n (.lst [.int 0]) ++ [.dk kv]) kv ks' 0) (hbel : belowKV (r.length + n + 2) kv = true) :
    St r (r.length + n) kv ks' many 0 mom (h ++ [MO.dk kv, MO.lst [], MO.dk []]) [] [] (r ++ List.replicate n (.lst [.int 0]) ++ [.dk kv, .lst [], .dk []]) := by
    refine ⟨?_, ?_, by simp; omega, ?_, ?_, ?_, ?_, ?_, by simpa using hm0, by simp, by simp, fun _ h => absurd h (by simp)⟩
    · have := ((hd.app (.dk kv)).app (.lst [])).app (.dk [])
      simpa using this
    · have b1 : ∀ n, Bel (r ++ List.replicate n (.lst [.int 0])) := by
        intro n
        induction n with
        | zero => simpa using hb
        | succ n ih =>
          rw [List.replicate_succ', ← List.append_assoc]
          exact ih.app (by simp)
      have := (((b1 n).app (o := .dk kv) (belowO_mono (n := r.length + n + 2) (by simp) _ hbel)).app (o := .lst []) (by simp)).app (o := .dk []) (by simp)
      simpa using this
    · intro k hk
      rw [List.append_assoc, List.getElem?_append_left hk]
    · rw [List.getElem?_append_right (by simp)]; simp
    · rw [List.getElem?_append_right (by simp), show r.length + n + 1 - (r ++ List.replicate n (MO.lst [Val.int 0])).length = 1 by simp]; rfl
    · rw [List.getElem?_append_right (by simp), show r.length + n + 2 - (r ++ List.replicate n (MO.lst [Val.int 0])).length = 2 by simp]; rfl
    · have := hh.app [.lst [], .dk []]
      simpa using this
theorem St.setOp {r : Hm} {j : Nat} {kvs : List (Val × Val)} {ks' : List Cs} {many : Int} {i i' : Nat} {lim : Int} {h : Hm} {ds : List Dl} {opn opn' : List (Val × Val)} {R : Hm} (s : St r j kvs ks' many i lim h ds opn R) (hj : r.length ≤ j) (h1 : OpOk ds.length opn') (h2 : opn'.length ≤ i') :
    St r j kvs ks' many i' lim (h.set (j + 4) (.dk opn')) ds opn' (R.set (j + 2) (.dk opn')) where
  hd := s.hd.set (j + 2) _
  hb := s.hb.set (belowKV_op h1)
  len := by rw [List.length_set]; exact s.len
  pre := fun k hk => by rw [List.getElem?_set_ne (by omega)]; exact s.pre k hk
  had := by rw [List.getElem?_set_ne (by omega)]; exact s.had
  rows := by rw [List.getElem?_set_ne (by omega)]; exact s.rows
  op := by rw [List.getElem?_set_self (by have := s.len; omega)]
  hh := s.hh.set_ne _ (by omega) _
  le := s.le
  good := s.good
  opl := h2
  opo := h1
theorem St.setRow {r : Hm} {j : Nat} {kvs : List (Val × Val)} {ks' : List Cs} {many : Int} {i : Nat} {lim lim' : Int} {h : Hm} {ds : List Dl} {opn : List (Val × Val)} {R : Hm} (s : St r j kvs ks' many i lim h ds opn R) (hj : r.length ≤ j) (at_ : Nat) (d : Dl) (hg : Good d ∧ d.begun < lim') (hl : lim ≤ lim') :
    St r j kvs ks' many i lim' (h.set (j + 3) (.lst ((ds.set at_ d).map dlV))) (ds.set at_ d) opn (R.set (j + 1) (.lst ((ds.set at_ d).map dlV))) where
  hd := s.hd.set (j + 1) _
  hb := s.hb.set (pure_belowL _ (pure_dls _))
  len := by rw [List.length_set]; exact s.len
  pre := fun k hk => by rw [List.getElem?_set_ne (by omega)]; exact s.pre k hk
  had := by rw [List.getElem?_set_ne (by omega)]; exact s.had
  rows := by rw [List.getElem?_set_self (by have := s.len; omega)]
  op := by rw [List.getElem?_set_ne (by omega)]; exact s.op
  hh := by rw [List.length_set]; exact s.hh.set_ne _ (by omega) _
  le := by rw [List.length_set]; exact s.le
  good := fun x hx => by
    rcases List.mem_or_eq_of_mem_set hx with hx | rfl
    · have := s.good x hx; exact ⟨this.1, by omega⟩
    · exact hg
  opl := s.opl
  opo := by rw [List.length_set]; exact s.opo
theorem dealings_sat {r h : Hm} {many : Int} {ks : List Cs} (hd : Dk r h) (hb : Bel r) (hm0 : 0 ≤ many) (hm : many ≤ 40) (hk : ks.length ≤ 4) (ok : ∀ k ∈ ks, keyOk k = true) :
    (m__law_dealings [.ref 1, .int many, .lst (ks.map .str)] h).sat fun v h' => ∃ ds : List Dl, v = .tup (ds.map dlV) ∧ (∀ d ∈ ds, Good d) ∧ (ds.length : Int) ≤ many ∧ Dk r h' := by
  refine defS_sat rfl fun Q hQ => ?_
  rw [hd.len] at hQ
  simp (maxSteps := 1000000) (disch := omega) [if_pos, if_neg, List.getElem?_cons_zero]
  (refine Mir.R.sat_mono (draw_sat hd (by first | decide | omega) (by first | decide | omega)) ?_; clear hd; rintro _ _ ⟨first, e, first0, first1, hd⟩; subst e)
  simp (maxSteps := 1000000) (disch := omega) [if_pos, if_neg, List.getElem?_cons_zero]
  (refine Mir.R.sat_mono (draw_sat hd (by first | decide | omega) (by first | decide | omega)) ?_; clear hd; rintro _ _ ⟨sp, e, sp0, sp1, hd⟩; subst e)
  obtain ⟨step, e1, hstep⟩ : ∃ v : Int, atI [Val.int 1, Val.int 3] sp = some (.int v) ∧ 1 ≤ v ∧ v ≤ 3 := by
    obtain ⟨x, e1, e2, _⟩ := atI_ex (xs := [Val.int 1, Val.int 3]) sp0 (by simpa using sp1)
    simp only [List.mem_cons, List.not_mem_nil, or_false] at e2
    rcases e2 with rfl | rfl
    · exact ⟨_, e1, by omega⟩
    · exact ⟨_, e1, by omega⟩
  simp (maxSteps := 1000000) (disch := omega) [if_pos, if_neg, List.getElem?_cons_zero, e1]
  (refine Mir.R.sat_mono (draw_sat hd (by first | decide | omega) (by first | decide | omega)) ?_; clear hd; rintro _ _ ⟨nh, e, nh0, nh1, hd⟩; subst e)
  simp (maxSteps := 1000000) (disch := omega) [if_pos, if_neg, List.getElem?_cons_zero, near_of (i := 1 + nh) (by omega) (by omega)]
  refine R.sat_mono (lcGo_idx (fun i acc h => Dk r h ∧ ∃ hs : List Int, acc = hs.map .int ∧ hs.length = i ∧ ∀ x ∈ hs, 0 ≤ x ∧ x ≤ 7) ⟨hd, [], rfl, rfl, by simp⟩ (fun _ _ _ _ => rfl) ?_) ?_
  · rintro i x acc h N e ⟨hd, hs, rfl, hl, hc⟩ hN
    obtain ⟨hi, rfl⟩ := rng_get0 e
    refine ⟨_, _, rfl, ?_⟩
    have hsm : small step = true := small_of (by omega) (by omega)
    simp (maxSteps := 1000000) (disch := omega) [if_pos, if_neg, List.getElem?_cons_zero, hsm]
    refine ⟨by omega, hN _ _ ⟨hd, hs ++ [(first + step * i) % 8], by simp, by simp [hl], ?_⟩⟩
    intro x hx
    rcases List.mem_append.mp hx with hx | hx
    · exact hc x hx
    · rw [List.mem_singleton.mp hx]; omega
  clear hd
  rintro _ h ⟨hd, hs, rfl, hsl, hsb⟩
  rw [rng_len] at hsl
  simp (maxSteps := 1000000) (disch := omega) [if_pos, if_neg, List.getElem?_cons_zero]
  (refine Mir.R.sat_mono (draw_sat hd (by first | decide | omega) (by first | decide | omega)) ?_; clear hd; rintro _ _ ⟨mo, e, mo0, mo1, hd⟩; subst e)
  obtain ⟨mom, e2, hmom⟩ : ∃ v : Int, atI [Val.int 0, Val.int 7, Val.int 95, Val.int 990, Val.int 998000] mo = some (.int v) ∧ 0 ≤ v ∧ v ≤ 998000 := by
    obtain ⟨x, e1, e2, _⟩ := atI_ex (xs := [Val.int 0, Val.int 7, Val.int 95, Val.int 990, Val.int 998000]) mo0 (by simpa using mo1)
    simp only [List.mem_cons, List.not_mem_nil, or_false] at e2
    rcases e2 with rfl | rfl | rfl | rfl | rfl
    all_goals exact ⟨_, e1, by omega⟩
  simp (maxSteps := 1000000) (disch := omega) [if_pos, if_neg, List.getElem?_cons_zero, e2]
  (refine Mir.R.sat_mono (draw_sat hd (by first | decide | omega) (by first | decide | omega)) ?_; clear hd; rintro _ _ ⟨of, e, of0, of1, hd⟩; subst e)
  simp (maxSteps := 1000000) (disch := omega) [if_pos, if_neg, List.getElem?_cons_zero, aDict]
  obtain ⟨kvs, ks', ep, hh, hbel⟩ := had_made (r := r) hk ok
  refine R.sat_mono (lcGo_idx (fun i acc h => Dk (r ++ List.replicate i (.lst [.int 0])) h ∧ acc = (ks.zipIdx.map fun p => Val.tup [.str p.1, .ref (r.length + p.2 + 2)]).take i ∧ i ≤ ks.length) ⟨by simpa using hd, rfl, Nat.zero_le _⟩ (fun _ _ _ _ => rfl) ?_) ?_
  · rintro i x acc h N e ⟨hd, rfl, hl⟩ hN
    have hi : i < ks.length := by
      apply Decidable.byContradiction
      intro q
      rw [List.getElem?_eq_none (by simp; omega)] at e
      cases e
    rw [List.getElem?_map, List.getElem?_eq_getElem hi] at e
    cases e
    refine ⟨_, _, rfl, ?_⟩
    have hlen := hd.len
    simp at hlen
    simp (maxSteps := 1000000) (disch := omega) [if_pos, if_neg, List.getElem?_cons_zero, hlen]
    refine ⟨by omega, hN _ _ ⟨?_, ?_, hi⟩⟩
    · have := hd.app (.lst [.int 0])
      rw [List.append_assoc, ← List.replicate_succ'] at this
      exact this
    · rw [List.take_succ_eq_append_getElem (by simpa using hi)]
      simp
  clear hd
  rintro _ h ⟨hd, rfl, _⟩
  rw [List.length_map, List.take_of_length_le (by simp)] 
  rw [List.length_map] at hd
  simp (maxSteps := 1000000) (disch := omega) [if_pos, if_neg, List.getElem?_cons_zero, ep, near_of (i := 2 * many + 3) (by omega) (by omega)]
  have hlen := hd.len
  simp at hlen
  rw [hlen]
  have hst := St.init (mom := mom) hd hb hm0 hh hbel
  clear hd hlen hh
  generalize hj : r.length + ks.length = j at *
  generalize dMerge [] kvs = kvs' at *
  refine SR.sat_mono (forGo_idx (fun i env h => ∃ (x11 x12 x13 x14 : Option Val) (m : Int) (ds : List Dl) (opn : List (Val × Val)) (rr : Hm), env = [some (Val.ref 1), some (Val.int many), some (Val.lst (List.map Val.str ks)), some (Val.int first),
            some (Val.int step), some (Val.lst (List.map Val.int hs)), some (Val.int m), some (Val.int (1 + of)),
            some (Val.ref (j + 2)), some (Val.ref (j + 3)), some (Val.ref (j + 4)),
            x11, x12, x13, x14, none, none, none] ∧ St r j kvs' ks' many i m h ds opn rr ∧ 0 ≤ m ∧ m ≤ 998000 + 9 * i) ⟨none, none, none, none, mom, [], [], _, rfl, hst, by omega, by omega⟩ (fun _ _ _ _ => rfl) ?_) ?_ (fun _ _ h => h) (fun _ _ h => h) (fun _ _ h => h)
  · clear hst
    rintro i x env h N e ⟨x11, x12, x13, x14, m, ds, opn, rr, rfl, hs0, m0, m1⟩ hN
    obtain ⟨hi, rfl⟩ := rng_get0 e
    refine ⟨_, _, rfl, ?_⟩
    have hd := hs0.hd
    simp (maxSteps := 1000000) (disch := omega) [if_pos, if_neg, List.getElem?_cons_zero, bLen, hsl]
    refine R.sat_mono (draw_sat hd (by omega) (by omega)) ?_
    clear hd
    rintro _ h ⟨a, e, a0, a1, hd⟩
    subst e
    replace hs0 := hs0.deck hd
    obtain ⟨hand, hhs, eh⟩ := hand_ix (hs := hs) a0 (by omega)
    have hhb := hsb hand hhs
    obtain ⟨c1, c2, c3⟩ := hs0.cells
    simp (maxSteps := 1000000) (disch := omega) [if_pos, if_neg, List.getElem?_cons_zero, eh, vInB_dk c3]
    obtain ⟨Mid, hMid⟩ : ∃ Mid : Env → Hm → Prop, ∀ env h, Mid env h ↔ ∃ (x11 x12 x13 x14 : Option Val) (ds : List Dl) (opn : List (Val × Val)) (rr : Hm), env = [some (Val.ref 1), some (Val.int many), some (Val.lst (List.map Val.str ks)), some (Val.int first),
            some (Val.int step), some (Val.lst (List.map Val.int hs)), some (Val.int m), some (Val.int (1 + of)),
            some (Val.ref (j + 2)), some (Val.ref (j + 3)), some (Val.ref (j + 4)),
            x11, x12, x13, x14, none, none, none] ∧ St r j kvs' ks' many (i + 1) (m + 1) h ds opn rr := ⟨_, fun _ _ => Iff.rfl⟩
    have hrj : r.length ≤ j := by omega
    have hopl := hs0.opl
    have hle := hs0.le
    refine SR.sat_mono (N := Mid) ?_ ?_ (fun _ _ h => h) (fun _ _ h => h) (fun _ _ h => h)
    · refine ite_satS (fun eo => ?_) (fun eo => ?_)
      · obtain ⟨v, ev⟩ := Option.isSome_iff_exists.mp eo
        obtain ⟨kv, hkv, rfl⟩ := dGet_mem ev
        obtain ⟨y, at_, rfl, hat⟩ := hs0.opo kv hkv
        have hs1 := hs0.setOp (i' := i + 1) (opn' := dDrop opn (.int hand)) hrj hs0.opo.drop (Nat.le_trans (List.length_filter_le _ _) (by omega))
        simp (maxSteps := 1000000) (disch := omega) [if_pos, if_neg, List.getElem?_cons_zero, tyD, mDPop, c3, isK, ev]
        refine R.sat_mono (worths_sat hs1.hd hs1.hb hs1.had hs1.hh (by omega)) ?_
        clear hs0 c1 c2 c3 hd
        rintro _ h ⟨ps, rfl, hps, hd⟩
        replace hs1 := hs1.deck hd
        simp (maxSteps := 1000000) (disch := omega) [if_pos, if_neg, List.getElem?_cons_zero]
        refine R.sat_mono (draw_sat hd (by decide) (by decide)) ?_
        clear hd
        rintro _ h ⟨nine, e, nine0, nine1, hd⟩
        subst e
        replace hs1 := hs1.deck hd
        obtain ⟨c1, c2, c3⟩ := hs1.cells
        have hrow : (ds.map dlV)[at_]? = some (dlV ds[at_]) := by rw [List.getElem?_map, List.getElem?_eq_getElem hat]; rfl
        have hgd := hs1.good _ (List.getElem_mem hat)
        generalize ds[at_] = d at hrow hgd
        have hm2 : m ≤ 998747 := by omega
        have fin : ∀ ps', Ws ps' 0 999999 → Mid [some (Val.ref 1), some (Val.int many), some (Val.lst (List.map Val.str ks)), some (Val.int first),
            some (Val.int step), some (Val.lst (List.map Val.int hs)), some (Val.int m), some (Val.int (1 + of)),
            some (Val.ref (j + 2)), some (Val.ref (j + 3)), some (Val.ref (j + 4)),
            some (Val.int i), some (Val.int hand), some (Val.int at_), some (.tup (ps'.map pair)), none, none, none] (h.set (j + 3) (.lst ((ds.map dlV).set at_ (.tup [.int d.hand, .int d.begun, .int m, .tup (ps'.map pair), .tup (d.writes.map pair)])))) := by
          intro ps' hps'
          have hs2 := hs1.setRow (lim' := m + 1) hrj at_ ⟨d.hand, d.begun, some m, ps', d.writes⟩ ⟨⟨hgd.1.hand, hgd.1.begun, hps', hgd.1.writes, hgd.2, by show m ≤ 999999; omega⟩, by show d.begun < m + 1; omega⟩ (by omega)
          rw [List.map_set] at hs2
          exact (hMid _ _).mpr ⟨_, _, _, _, _, _, _, rfl, hs2⟩
        have hatl : (at_ : Int) < ((ds.map dlV).length : Int) := by rw [List.length_map]; omega
        have hatI : atI (ds.map dlV) (at_ : Int) = some (dlV d) := by
          unfold atI
          rw [if_pos (by omega)]
          exact hrow
        have hk1 : cut [Val.int d.hand, .int d.begun, endV d.ended, .tup (d.reads.map pair), .tup (d.writes.map pair)] none (some 2) = [Val.int d.hand, .int d.begun] := by
          rw [cut_to (by omega)]; rfl
        have hk2 : cut [Val.int d.hand, .int d.begun, endV d.ended, .tup (d.reads.map pair), .tup (d.writes.map pair)] (some 4) none = [.tup (d.writes.map pair)] := by
          rw [cut_from (by omega)]; rfl
        simp (maxSteps := 1000000) (disch := omega) [if_pos, if_neg, List.getElem?_cons_zero]
        refine ite_satS (fun e9 => ?_) (fun e9 => ?_)
        · simp (maxSteps := 1000000) (disch := omega) [if_pos, if_neg, List.getElem?_cons_zero]
          refine R.sat_mono (lcGo_idx (fun k acc h' => h' = h ∧ acc = (ps.map fun p => pair (p.1, 999999)).take k ∧ k ≤ ps.length) ⟨rfl, rfl, Nat.zero_le _⟩ (fun _ _ _ _ => rfl) ?_) ?_
          · rintro k x acc h' N e ⟨rfl, rfl, hl⟩ hN
            have hk : k < ps.length := by
              apply Decidable.byContradiction
              intro q
              rw [List.getElem?_eq_none (by simp; omega)] at e
              cases e
            rw [List.getElem?_map, List.getElem?_eq_getElem hk] at e
            cases e
            refine ⟨_, _, rfl, ?_⟩
            have hl4 := hps.le
            simp (maxSteps := 1000000) (disch := omega) [if_pos, if_neg, List.getElem?_cons_zero]
            refine ⟨by omega, hN _ _ ⟨rfl, ?_, hk⟩⟩
            rw [List.take_succ_eq_append_getElem (by simpa using hk)]
            simp [pair]
          · rintro _ _ ⟨rfl, rfl, _⟩
            rw [List.length_map, List.take_of_length_le (by simp)]
            have hps9 : Ws (ps.map fun p => (p.1, 999999)) 0 999999 := by
              refine ⟨by rw [List.map_map]; exact hps.up, by rw [List.length_map]; exact hps.le, fun p hp => ?_, fun p hp => ?_⟩
              · obtain ⟨q, hq, rfl⟩ := List.mem_map.mp hp
                exact hps.ok q hq
              · obtain ⟨q, hq, rfl⟩ := List.mem_map.mp hp
                show (0:Int) ≤ 999999 ∧ (999999:Int) ≤ 999999
                omega
            have := fin _ hps9
            rw [List.map_map] at this
            simp (maxSteps := 1000000) (disch := omega) [if_pos, if_neg, List.getElem?_cons_zero, bTuple, c2, hatI, vSl, dlV, hk1, hk2, hatl]
            exact this
        · simp (maxSteps := 1000000) (disch := omega) [if_pos, if_neg, List.getElem?_cons_zero, c2, hatI, vSl, dlV, hk1, hk2, hatl]
          exact fin _ (hps.mono (by omega) (by omega))
      · simp (maxSteps := 1000000) (disch := omega) [if_pos, if_neg, List.getElem?_cons_zero, bLen, c2]
        refine ite_satS (fun el => ?_) (fun el => ?_)
        · simp (maxSteps := 1000000) (disch := omega) [if_pos, if_neg, List.getElem?_cons_zero, c2, bLen, setD, c3, isK]
          have hop := hs0.opo.put (x := hand)
          refine R.sat_mono (begun_sat (j := j) (lo := r.length) (hi := j) (hs0.hd.set (j + 2) (.dk (dPut opn (.int hand) (.int ds.length)))) (hs0.hb.set (belowKV_op hop)) (by rw [List.getElem?_set_ne (by omega)]; exact hs0.had) (Nat.le_refl _) (hs0.hh.set_ne _ (by omega) _) (by omega) (by omega)) ?_
          rintro _ h' ⟨ps, r', rfl, hps, hd', hb', hf', hh'⟩
          have hlr := hs0.len
          have hl' : r'.length = j + 3 := by rw [hf'.1, List.length_set]; exact hlr
          have e0 : r'[j]? = some (.dk kvs') := by rw [hf'.2 j (by omega), List.getElem?_set_ne (by omega)]; exact hs0.had
          have e1 : r'[j + 1]? = some (.lst (ds.map dlV)) := by rw [hf'.2 (j + 1) (by omega), List.getElem?_set_ne (by omega)]; exact hs0.rows
          have e2 : r'[j + 2]? = some (.dk (dPut opn (.int hand) (.int ds.length))) := by rw [hf'.2 (j + 2) (by omega), List.getElem?_set_self (by omega)]
          have hg := (hd'.get (j + 1)).trans e1
          simp (maxSteps := 1000000) (disch := omega) [if_pos, if_neg, List.getElem?_cons_zero, mAppend, hg]
          refine (hMid _ _).mpr ⟨_, _, _, _, ds ++ [⟨hand, m, none, [], ps⟩], dPut opn (.int hand) (.int ds.length), r'.set (j + 1) (.lst ((ds ++ [(⟨hand, m, none, [], ps⟩ : Dl)]).map dlV)), rfl, ?_, hb'.set (pure_belowL _ (pure_dls _)), by rw [List.length_set]; exact hl', fun k hk => ?_, ?_, ?_, ?_, ?_, ?_, ?_, ?_, ?_⟩
          · have := hd'.set (j + 1) (.lst ((ds ++ [(⟨hand, m, none, [], ps⟩ : Dl)]).map dlV))
            simpa [dlV, endV] using this
          · rw [List.getElem?_set_ne (by omega), hf'.2 k (by omega), List.getElem?_set_ne (by omega)]
            exact hs0.pre k hk
          · rw [List.getElem?_set_ne (by omega)]; exact e0
          · rw [List.getElem?_set_self (by omega)]
          · rw [List.getElem?_set_ne (by omega)]; exact e2
          · have := hh'.set_ne (j + 1) (by omega) (.lst ((ds ++ [(⟨hand, m, none, [], ps⟩ : Dl)]).map dlV))
            exact this.mono (by simp; omega)
          · simp at el ⊢; omega
          · intro d hd
            rcases List.mem_append.mp hd with hd | hd
            · have := hs0.good d hd; exact ⟨this.1, by omega⟩
            · rw [List.mem_singleton.mp hd]
              exact ⟨⟨by exact hhb, by show 0 ≤ m ∧ m ≤ 999999; omega, ⟨by simp, by simp, by simp, by simp⟩, hps.mono (by omega) (by omega), rfl⟩, by show m < m + 1; omega⟩
          · exact Nat.le_trans dPut_len (by omega)
          · rw [List.length_append]; exact hop
        · simp (maxSteps := 1000000) (disch := omega) [if_pos, if_neg, List.getElem?_cons_zero]
          exact (hMid _ _).mpr ⟨_, _, _, _, ds, opn, rr, rfl, { hs0 with good := fun d hd => by have := hs0.good d hd; exact ⟨this.1, by omega⟩, opl := by have := hs0.opl; omega }⟩
    · clear hd hs0 c1 c2 c3
      intro env h hmid
      obtain ⟨x11, x12, x13, x14, ds, opn, rr, rfl, hs0⟩ := (hMid _ _).mp hmid
      have hd := hs0.hd
      simp (maxSteps := 1000000) (disch := omega) [if_pos, if_neg, List.getElem?_cons_zero]
      (refine Mir.R.sat_mono (draw_sat hd (by first | decide | omega) (by first | decide | omega)) ?_; clear hd; rintro _ _ ⟨b, e, b0, b1, hd⟩; subst e)
      simp (maxSteps := 1000000) (disch := omega) [if_pos, if_neg, List.getElem?_cons_zero]
      (refine Mir.R.sat_mono (draw_sat hd (by first | decide | omega) (by first | decide | omega)) ?_; clear hd; rintro _ _ ⟨c, e, c0, c1, hd⟩; subst e)
      obtain ⟨v, e1, hv⟩ : ∃ v : Int, atI [Val.int 1, Val.int 1, Val.int (1 + b)] c = some (.int v) ∧ 1 ≤ v ∧ v ≤ 9 := by
        obtain ⟨x, e1, e2, _⟩ := atI_ex (xs := [Val.int 1, Val.int 1, Val.int (1 + b)]) c0 (by simpa using c1)
        simp only [List.mem_cons, List.not_mem_nil, or_false] at e2
        rcases e2 with rfl | rfl | rfl
        all_goals exact ⟨_, e1, by omega⟩
      simp (maxSteps := 1000000) (disch := omega) [if_pos, if_neg, List.getElem?_cons_zero, e1]
      have hs1 := hs0.deck hd
      exact hN _ _ ⟨_, _, _, _, m + v, ds, opn, rr, rfl, { hs1 with good := fun d hd => by have := hs1.good d hd; exact ⟨this.1, by omega⟩ }, by omega, by omega⟩
  · clear hst
    rintro env h ⟨x11, x12, x13, x14, m, ds, opn, rr, rfl, hs0, m0, m1⟩
    obtain ⟨c1, c2, c3⟩ := hs0.cells
    simp (maxSteps := 1000000) (disch := omega) [if_pos, if_neg, List.getElem?_cons_zero, bTuple, c2]
    have hl := hs0.len
    have ht : rr.take r.length = r := by
      apply List.ext_getElem?
      intro k
      rw [List.getElem?_take]
      split
      · exact hs0.pre k ‹_›
      · rw [List.getElem?_eq_none (by omega)]
    obtain ⟨h1, h2⟩ := hs0.hd.cut (r := r) _ rfl ht hb
    exact hQ _ _ ⟨pure_dls ds, h1, ds, rfl, fun d hd => (hs0.good d hd).1, hs0.le, h2⟩
end K01
end

section
set_option linter.all false
set_option autoImplicit false
set_option maxHeartbeats 0
set_option maxRecDepth 100000
namespace K01
open Mir
theorem some_dealings_sat {r h : Hm} (hd : Dk r h) (hb : Bel r) :
    (m__law_some_dealings [.ref 1] h).sat fun v h' => ∃ ds : List Dl, v = .tup (ds.map dlV) ∧ (∀ d ∈ ds, Good d) ∧ ds.length ≤ 40 ∧ Dk r h' := by
  refine defS_sat rfl fun Q hQ => ?_
  rw [hd.len] at hQ
  simp (maxSteps := 1000000) (disch := omega) [if_pos, if_neg, List.getElem?_cons_zero]
  (refine Mir.R.sat_mono (draw_sat hd (by first | decide | omega) (by first | decide | omega)) ?_; clear hd; rintro _ _ ⟨great, e, great0, great1, hd⟩; subst e)
  simp (maxSteps := 1000000) (disch := omega) [if_pos, if_neg, List.getElem?_cons_zero]
  (refine Mir.R.sat_mono (draw_sat hd (by first | decide | omega) (by first | decide | omega)) ?_; clear hd; rintro _ _ ⟨nk, e, nk0, nk1, hd⟩; subst e)
  simp (maxSteps := 1000000) (disch := omega) [if_pos, if_neg, List.getElem?_cons_zero]
  refine R.sat_mono (keys_sat hd hb (by omega) (by omega)) ?_
  clear hd
  rintro _ h ⟨ks, rfl, hkl, hko, hd⟩
  simp (maxSteps := 1000000) (disch := omega) [if_pos, if_neg, List.getElem?_cons_zero]
  refine R.sat_mono (draw_sat hd (by decide) (by decide)) ?_
  clear hd
  rintro _ h ⟨many, e, many0, many1, hd⟩
  subst e
  have fin : ∀ m, 0 ≤ m → m ≤ 40 → (m__law_dealings [Val.ref 1, Val.int m, Val.lst (List.map Val.str ks)] h).sat Q := by
    intro m m0 m1
    refine R.sat_mono (dealings_sat hd hb m0 m1 (by omega) hko) ?_
    rintro _ h ⟨ds, rfl, hg, hl, hd⟩
    obtain ⟨h1, h2⟩ := hd.cut (r := r) _ rfl (by simp) hb
    exact hQ _ _ ⟨pure_dls ds, h1, ds, rfl, hg, by omega, h2⟩
  by_cases hg : great = 5
  · subst hg
    simp (maxSteps := 1000000) (disch := omega) [if_pos, if_neg, List.getElem?_cons_zero, bInt]
    exact fin 40 (by omega) (by omega)
  · have hg : (great == 5) = false := by simpa using hg
    simp (maxSteps := 1000000) (disch := omega) [if_pos, if_neg, List.getElem?_cons_zero, bInt, hg]
    exact fin many (by omega) (by omega)
theorem deck_sat {ns : List Int} (hl : ns.length ≤ 63) : (m__law_deck [.scr ns] []).sat fun v h' => v = .ref 1 ∧ Dk [] h' := by
  refine defA_sat rfl ?_
  have ht : (ns.map Val.int).take 63 = ns.map .int := List.take_of_length_le (by simpa using hl)
  simp (maxSteps := 1000000) (disch := omega) [if_pos, if_neg, List.getElem?_cons_zero, asS, bList, cut_to (show (0:Int) ≤ 63 by omega), bSum, ht, intsO_map]
  exact ⟨ns, _, _, hl, rfl⟩
end K01
end

section
set_option linter.all false
set_option autoImplicit false
set_option maxHeartbeats 0
set_option maxRecDepth 100000
namespace K01
open Mir
/-- a text's sign here -/
def okC (c : Nat) : Bool := decide (c = 32 ∨ (65 ≤ c ∧ c ≤ 90) ∨ (97 ≤ c ∧ c ≤ 122))
/-- data so deep -/
def dat : Nat → Val → Bool
  | _, .non => true
  | _, .bl _ => true
  | d, .int i => decide (i.natAbs < 10 ^ 45 + d)
  | _, .str s => s.all okC
  | d + 1, .tup xs => xs.all (dat d)
  | d + 1, .lst xs => xs.all (dat d)
  | d + 1, .dct kvs => kvs.all fun kv => (match kv.1 with | .int i => decide (i.natAbs < 2 ^ 150) | _ => false) && dat d kv.2
  | _, _ => false
mutual
def wt : Val → Nat
  | .str s => s.length
  | .tup xs => wtL xs
  | .lst xs => wtL xs
  | .dct kvs => wtK kvs
  | _ => 0
def wtL : List Val → Nat
  | [] => 0
  | x :: r => wt x + 1 + wtL r
def wtK : List (Val × Val) → Nat
  | [] => 0
  | (k, v) :: r => wt k + wt v + 2 + wtK r
end
theorem dat_mono : ∀ {d e : Nat} {v : Val}, d ≤ e → dat d v = true → dat e v = true
  | _, _, .non, _, _ => by simp [dat]
  | _, _, .bl _, _, _ => by simp [dat]
  | _, _, .int _, _, h => by simp only [dat, decide_eq_true_eq] at h ⊢; omega
  | _, _, .str _, _, h => by simpa [dat] using h
  | 0, _, .tup _, _, h => by simp [dat] at h
  | 0, _, .lst _, _, h => by simp [dat] at h
  | 0, _, .dct _, _, h => by simp [dat] at h
  | _ + 1, 0, .tup _, k, h => by omega
  | _ + 1, 0, .lst _, k, h => by omega
  | _ + 1, 0, .dct _, k, h => by omega
  | d + 1, e + 1, .tup xs, k, h => by
    simp only [dat, List.all_eq_true] at h ⊢
    exact fun x hx => dat_mono (by omega) (h x hx)
  | d + 1, e + 1, .lst xs, k, h => by
    simp only [dat, List.all_eq_true] at h ⊢
    exact fun x hx => dat_mono (by omega) (h x hx)
  | d + 1, e + 1, .dct xs, k, h => by
    simp only [dat, List.all_eq_true, Bool.and_eq_true] at h ⊢
    exact fun x hx => ⟨(h x hx).1, dat_mono (by omega) (h x hx).2⟩
  | 0, _, .obj _ _, _, h => by simp [dat] at h
  | 0, _, .ref _, _, h => by simp [dat] at h
  | 0, _, .fn _, _, h => by simp [dat] at h
  | 0, _, .scr _, _, h => by simp [dat] at h
  | _ + 1, _, .obj _ _, _, h => by simp [dat] at h
  | _ + 1, _, .ref _, _, h => by simp [dat] at h
  | _ + 1, _, .fn _, _, h => by simp [dat] at h
  | _ + 1, _, .scr _, _, h => by simp [dat] at h
theorem pureKV_iff : ∀ {l : List (Val × Val)}, pureKV l = true ↔ ∀ x ∈ l, pureV x.1 = true ∧ pureV x.2 = true
  | [] => by simp
  | (x, y) :: r => by simp [pureKV_iff (l := r)]
theorem dat_pure : ∀ {d : Nat} {v : Val}, dat d v = true → pureV v = true
  | _, .non, _ => rfl
  | _, .bl _, _ => rfl
  | _, .int _, _ => rfl
  | _, .str _, _ => rfl
  | 0, .tup _, h => by simp [dat] at h
  | 0, .lst _, h => by simp [dat] at h
  | 0, .dct _, h => by simp [dat] at h
  | d + 1, .tup xs, h => by
    simp only [dat, List.all_eq_true] at h
    exact pureL_iff.mpr fun x hx => dat_pure (h x hx)
  | d + 1, .lst xs, h => by
    simp only [dat, List.all_eq_true] at h
    exact pureL_iff.mpr fun x hx => dat_pure (h x hx)
  | d + 1, .dct xs, h => by
    simp only [dat, List.all_eq_true, Bool.and_eq_true] at h
    refine pureKV_iff.mpr fun x hx => ⟨?_, dat_pure (h x hx).2⟩
    have := (h x hx).1
    split at this
    · rename_i e; rw [e]; rfl
    · cases this
  | 0, .obj _ _, h => by simp [dat] at h
  | 0, .ref _, h => by simp [dat] at h
  | 0, .fn _, h => by simp [dat] at h
  | 0, .scr _, h => by simp [dat] at h
  | _ + 1, .obj _ _, h => by simp [dat] at h
  | _ + 1, .ref _, h => by simp [dat] at h
  | _ + 1, .fn _, h => by simp [dat] at h
  | _ + 1, .scr _, h => by simp [dat] at h
/-! repr -/
theorem okC_lt {s : Cs} (h : s.all okC = true) : ∀ c ∈ s, c < 200 := by
  intro c hc
  have := List.all_eq_true.mp h c hc
  unfold okC at this
  have := of_decide_eq_true this
  omega
theorem shown_int {i : Int} (h : i.natAbs < 2 ^ 150) : (PySem.PyData.shown (.int i)).length ≤ 200 := by
  have hlog : i.natAbs.log2 < 150 := by
    rcases Nat.eq_zero_or_pos i.natAbs with e | e
    · rw [e]; decide
    · exact (Nat.log2_lt (by omega)).mpr h
  have e := PySem.int_text_length_le (k := 150) (by decide) hlog
  show (PySem.Str.ofString (toString i)).length ≤ 200
  rw [PySem.ofString_length]
  omega
theorem toPs_map : ∀ xs : List Val, Sim.toPs xs = xs.map Sim.toP
  | [] => rfl
  | x :: r => by simp [Sim.toPs, toPs_map r]
theorem okPs_iff : ∀ {xs : List Val}, okPs xs = true ↔ ∀ x ∈ xs, okP x = true
  | [] => by simp [okPs]
  | x :: r => by simp [okPs, okPs_iff (xs := r)]
theorem okPk_iff : ∀ {xs : List (Val × Val)}, okPk xs = true ↔ ∀ x ∈ xs, okK x.1 = true ∧ okP x.2 = true
  | [] => by simp [okPk]
  | (x, y) :: r => by simp [okPk, okPk_iff (xs := r)]
theorem okI_of {i : Int} (h : i.natAbs < 2 ^ 150) : okI i = true := by
  unfold okI
  rw [decide_eq_true_eq]
  rcases Nat.eq_zero_or_pos i.natAbs with e | e
  · rw [e]; decide
  · have := (Nat.log2_lt (by omega)).mpr h
    omega
theorem dat_ok : ∀ {d : Nat} {v : Val}, d ≤ 1000 → dat d v = true → okP v = true ∧ (Sim.toP v).depth ≤ d ∧ (Sim.toP v).leavesShort 200 = true ∧ (Sim.toP v).bulk = wt v
  | _, .non, _, _ => ⟨rfl, Nat.zero_le _, rfl, rfl⟩
  | _, .bl _, _, _ => ⟨rfl, Nat.zero_le _, rfl, rfl⟩
  | d, .int i, hd, h => by
    simp only [dat, decide_eq_true_eq] at h
    have h : i.natAbs < 2 ^ 150 := by omega
    exact ⟨okI_of h, Nat.zero_le _, by simp only [Sim.toP, PySem.PyData.leavesShort, decide_eq_true_eq]; exact shown_int h, rfl⟩
  | _, .str s, _, h => by
    simp only [dat] at h
    refine ⟨rfl, Nat.zero_le _, ?_, ?_⟩
    · simp only [Sim.toP, PySem.PyData.leavesShort, List.all_eq_true, decide_eq_true_eq]
      intro c hc
      have := okC_lt h c (by rw [Sim.toS_tl] at hc; exact hc)
      omega
    · simp only [Sim.toP, PySem.PyData.bulk, wt]
      have := congrArg List.length (Sim.toS_tl s)
      simpa using this
  | 0, .tup _, _, h => by simp [dat] at h
  | 0, .lst _, _, h => by simp [dat] at h
  | 0, .dct _, _, h => by simp [dat] at h
  | d + 1, .tup xs, hd, h => by
    simp only [dat, List.all_eq_true] at h
    have k := fun x hx => dat_ok (by omega) (h x hx)
    obtain ⟨k1, k2, k3, k4⟩ := dats_ok xs k
    exact ⟨by simpa [okP] using k1, by simp only [Sim.toP, PySem.PyData.depth]; omega, by simp only [Sim.toP, PySem.PyData.leavesShort]; exact k3, by simp only [Sim.toP, PySem.PyData.bulk, wt]; exact k4⟩
  | d + 1, .lst xs, hd, h => by
    simp only [dat, List.all_eq_true] at h
    have k := fun x hx => dat_ok (by omega) (h x hx)
    obtain ⟨k1, k2, k3, k4⟩ := dats_ok xs k
    exact ⟨by simpa [okP] using k1, by simp only [Sim.toP, PySem.PyData.depth]; omega, by simp only [Sim.toP, PySem.PyData.leavesShort]; exact k3, by simp only [Sim.toP, PySem.PyData.bulk, wt]; exact k4⟩
  | d + 1, .dct xs, hd, h => by
    simp only [dat, List.all_eq_true, Bool.and_eq_true] at h
    have k := fun x hx => dat_ok (by omega) (h x hx).2
    have k' : ∀ x ∈ xs, ∃ i : Int, x.1 = .int i ∧ i.natAbs < 2 ^ 150 := fun x hx => by
      have := (h x hx).1
      split at this
      · rename_i i e; exact ⟨i, e, of_decide_eq_true this⟩
      · cases this
    obtain ⟨k1, k2, k3, k4⟩ := datk_ok xs k k'
    exact ⟨by simpa [okP] using k1, by simp only [Sim.toP, PySem.PyData.depth]; omega, by simp only [Sim.toP, PySem.PyData.leavesShort]; exact k3, by simp only [Sim.toP, PySem.PyData.bulk, wt]; exact k4⟩
  | 0, .obj _ _, _, h => by simp [dat] at h
  | 0, .ref _, _, h => by simp [dat] at h
  | 0, .fn _, _, h => by simp [dat] at h
  | 0, .scr _, _, h => by simp [dat] at h
  | _ + 1, .obj _ _, _, h => by simp [dat] at h
  | _ + 1, .ref _, _, h => by simp [dat] at h
  | _ + 1, .fn _, _, h => by simp [dat] at h
  | _ + 1, .scr _, _, h => by simp [dat] at h
where
  dats_ok {d : Nat} : ∀ (xs : List Val), (∀ x ∈ xs, okP x = true ∧ (Sim.toP x).depth ≤ d ∧ (Sim.toP x).leavesShort 200 = true ∧ (Sim.toP x).bulk = wt x) →
      okPs xs = true ∧ PySem.PyData.depthAll (Sim.toPs xs) ≤ d ∧ PySem.PyData.leavesShortAll 200 (Sim.toPs xs) = true ∧ PySem.PyData.bulkAll (Sim.toPs xs) = wtL xs
    | [], _ => ⟨rfl, Nat.zero_le _, rfl, rfl⟩
    | x :: r, h => by
      obtain ⟨a1, a2, a3, a4⟩ := h x List.mem_cons_self
      obtain ⟨b1, b2, b3, b4⟩ := dats_ok r fun y hy => h y (List.mem_cons_of_mem _ hy)
      refine ⟨by simp [okPs, a1, b1], ?_, ?_, ?_⟩
      · simp only [Sim.toPs, PySem.PyData.depthAll]; omega
      · simp only [Sim.toPs, PySem.PyData.leavesShortAll, a3, b3, Bool.and_self]
      · simp only [Sim.toPs, PySem.PyData.bulkAll, wtL]; omega
  datk_ok {d : Nat} : ∀ (xs : List (Val × Val)), (∀ x ∈ xs, okP x.2 = true ∧ (Sim.toP x.2).depth ≤ d ∧ (Sim.toP x.2).leavesShort 200 = true ∧ (Sim.toP x.2).bulk = wt x.2) → (∀ x ∈ xs, ∃ i : Int, x.1 = .int i ∧ i.natAbs < 2 ^ 150) →
      okPk xs = true ∧ PySem.PyData.depthKv (Sim.toPk xs) ≤ d ∧ PySem.PyData.leavesShortKv 200 (Sim.toPk xs) = true ∧ PySem.PyData.bulkKv (Sim.toPk xs) = wtK xs
    | [], _, _ => ⟨rfl, Nat.zero_le _, rfl, rfl⟩
    | (k, v) :: r, h, h' => by
      obtain ⟨a1, a2, a3, a4⟩ := h _ List.mem_cons_self
      obtain ⟨b1, b2, b3, b4⟩ := datk_ok r (fun y hy => h y (List.mem_cons_of_mem _ hy)) (fun y hy => h' y (List.mem_cons_of_mem _ hy))
      obtain ⟨i, e, hi⟩ := h' _ List.mem_cons_self
      have e : k = .int i := e
      subst e
      have hs := shown_int hi
      refine ⟨by simp [okPk, okK, okI_of hi, a1, b1], ?_, ?_, ?_⟩
      · simp only [Sim.toPk, Sim.toP, PySem.PyData.depthKv, PySem.PyData.depth] at a2 ⊢; omega
      · simp only [Sim.toPk, Sim.toP, PySem.PyData.leavesShortKv, PySem.PyData.leavesShort, a3, b3, Bool.and_self, Bool.and_true, decide_eq_true_eq]; exact hs
      · simp only [Sim.toPk, Sim.toP, PySem.PyData.bulkKv, PySem.PyData.bulk, wtK, wt] at a4 ⊢; omega
theorem repr_ok {h : Hm} {d : Nat} {v : Val} (hd : dat d v = true) (hdl : d ≤ 60) (hw : wt v ≤ 80000) : bRepr h [v] = some (.str (rep v)) := by
  obtain ⟨h1, h2, h3, h4⟩ := dat_ok (by omega) hd
  have hl : (rep v).length ≤ line := by
    have := PySem.PyData.shown_le_bulk 200 (by decide) _ h3
    rw [h4] at this
    have e : (PySem.PyData.shown (Sim.toP v)).length = (PySem.PyData.shown (Sim.toP v)).cps.toList.length := rfl
    unfold rep line
    omega
  unfold bRepr
  simp only [frz_pure _ _ _ _ (dat_pure hd)]
  rw [if_pos ⟨h1, by omega, hl⟩]
end K01
end

section
set_option linter.all false
set_option autoImplicit false
set_option maxHeartbeats 0
set_option maxRecDepth 100000
namespace K01
open Mir
def numB (v : Val) (a b : Int) : Bool := match v with
  | .int i => decide (a ≤ i) && decide (i ≤ b)
  | _ => false
def keyB : Val → Bool
  | .str s => keyOk s
  | _ => false
def worthB (lo : Int) : Val → Bool
  | .tup [k, w] => keyB k && numB w lo 999999
  | _ => false
def fstS : Val → Cs
  | .tup (.str s :: _) => s
  | _ => []
def upB : List Cs → Bool
  | x :: y :: r => decide (x < y) && upB (y :: r)
  | _ => true
def worthsB (lo : Int) : Val → Bool
  | .tup xs => decide (xs.length ≤ 4) && xs.all (worthB lo) && upB (xs.map fstS)
  | _ => false
def endB (b : Int) (reads : Val) : Val → Bool
  | .non => (match reads with | .tup xs => xs.isEmpty | _ => false)
  | .int e => decide (0 ≤ e) && decide (e ≤ 999999) && decide (b < e)
  | _ => false
def isDl : Val → Bool
  | .tup [hand, begun, ended, reads, writes] => numB hand 0 7 && numB begun 0 999999 && worthsB 0 reads && worthsB 1 writes && (match begun with | .int b => endB b reads ended | _ => false)
  | _ => false
/-- what is walked here: data, not too great -/
structure Da (d : Nat) (v : Val) : Prop where
  dat : dat d v = true
  wt : wt v ≤ 80000
theorem wtL_len : ∀ xs : List Val, xs.length ≤ wtL xs
  | [] => Nat.le_refl _
  | x :: r => by have := wtL_len r; simp only [wtL, List.length_cons]; omega
theorem wtL_mem : ∀ {xs : List Val} {x : Val}, x ∈ xs → wt x ≤ wtL xs
  | y :: r, x, h => by
    simp only [wtL]
    rcases List.mem_cons.mp h with rfl | h
    · omega
    · have := wtL_mem h; omega
theorem Da.elem {d : Nat} {xs : List Val} {x : Val} (h : Da (d + 1) (.tup xs)) (hx : x ∈ xs) : Da d x := by
  have h1 := h.dat
  simp only [K01.dat, List.all_eq_true] at h1
  refine ⟨h1 x hx, ?_⟩
  have := wtL_mem hx
  have h2 := h.wt
  simp only [K01.wt] at h2
  omega
theorem Da.ne0 {d : Nat} {xs : List Val} (h : Da d (.tup xs)) : ∃ e, d = e + 1 := by
  cases d with
  | zero => have := h.dat; simp [K01.dat] at this
  | succ e => exact ⟨e, rfl⟩
theorem Da.len {d : Nat} {xs : List Val} (h : Da d (.tup xs)) : xs.length ≤ 80000 := by
  have h2 := h.wt
  simp only [K01.wt] at h2
  have := wtL_len xs
  omega
theorem Da.pure {d : Nat} {v : Val} (h : Da d v) : pureV v = true := dat_pure h.dat
@[simp] def isT : Val → Bool
  | .tup _ => true
  | _ => false
@[simp] def isI : Val → Bool
  | .int _ => true
  | .bl _ => true
  | _ => false
@[simp] def isB : Val → Bool
  | .bl _ => true
  | _ => false
@[simp] def isS : Val → Bool
  | .str _ => true
  | _ => false

theorem Da.kind {d : Nat} {v : Val} {h : Hm} (hd : Da d v) : ∃ k, kindOf h v = some k ∧ kit k "tuple" = isT v ∧ kit k "int" = isI v ∧ kit k "bool" = isB v ∧ kit k "str" = isS v := by
  have hd := hd.dat
  cases v with
  | obj c fs => cases d <;> simp [K01.dat] at hd
  | ref i => cases d <;> simp [K01.dat] at hd
  | fn i => cases d <;> simp [K01.dat] at hd
  | scr i => cases d <;> simp [K01.dat] at hd
  | _ => exact ⟨_, rfl, by simp [isT]; decide +kernel, by simp [isI]; decide +kernel, by simp [isB]; decide +kernel, by simp [isS]; decide +kernel⟩
theorem isi_tup {d : Nat} {v : Val} {h : Hm} (hd : Da d v) : bIsi "tuple" h [v] = some (.bl (isT v)) := by
  obtain ⟨k, h1, h2, _⟩ := hd.kind (h := h)
  simp only [bIsi, h1, Option.map_some, h2]
theorem isi_int {d : Nat} {v : Val} {h : Hm} (hd : Da d v) : bIsi "int" h [v] = some (.bl (isI v)) := by
  obtain ⟨k, h1, _, h2, _⟩ := hd.kind (h := h)
  simp only [bIsi, h1, Option.map_some, h2]
theorem isi_bool {d : Nat} {v : Val} {h : Hm} (hd : Da d v) : bIsi "bool" h [v] = some (.bl (isB v)) := by
  obtain ⟨k, h1, _, _, h2, _⟩ := hd.kind (h := h)
  simp only [bIsi, h1, Option.map_some, h2]
theorem isi_str {d : Nat} {v : Val} {h : Hm} (hd : Da d v) : bIsi "str" h [v] = some (.bl (isS v)) := by
  obtain ⟨k, h1, _, _, _, h2⟩ := hd.kind (h := h)
  simp only [bIsi, h1, Option.map_some, h2]
theorem between_eq {d : Nat} {v : Val} {a b : Int} (hd : Da d v) : m_is_between [v, .int a, .int b] = .ok (.bl (numB v a b)) := by
  refine defP_eq rfl (by simp [hd.pure]) ?_
  cases v with
  | int i =>
    simp (maxSteps := 1000000) (disch := omega) [if_pos, if_neg, List.getElem?_cons_zero, isi_int hd, isi_bool hd]
    by_cases h : a ≤ i <;> simp [h, numB]
  | bl i => simp (maxSteps := 1000000) (disch := omega) [if_pos, if_neg, List.getElem?_cons_zero, isi_int hd, isi_bool hd, numB]
  | _ => simp (maxSteps := 1000000) (disch := omega) [if_pos, if_neg, List.getElem?_cons_zero, isi_int hd, isi_bool hd, numB]
theorem number_eq {d : Nat} {v : Val} {a b : Int} (hd : Da d v) : m__law_is_number [v, .int a, .int b] = .ok (.bl (numB v a b)) := by
  refine defP_eq rfl (by simp [hd.pure]) ?_
  cases v with
  | int i =>
    simp (maxSteps := 1000000) (disch := omega) [if_pos, if_neg, List.getElem?_cons_zero, isi_int hd, isi_bool hd]
    by_cases h : a ≤ i <;> simp [h, numB]
  | bl i => simp (maxSteps := 1000000) (disch := omega) [if_pos, if_neg, List.getElem?_cons_zero, isi_int hd, isi_bool hd, numB]
  | _ => simp (maxSteps := 1000000) (disch := omega) [if_pos, if_neg, List.getElem?_cons_zero, isi_int hd, isi_bool hd, numB]
theorem moment_eq {d : Nat} {v : Val} (hd : Da d v) : m_is_moment [v] = .ok (.bl (numB v 0 999999)) := by
  refine defP_eq rfl (by simp [hd.pure]) ?_
  simp (maxSteps := 1000000) (disch := omega) [if_pos, if_neg, List.getElem?_cons_zero, between_eq hd]
theorem filter_none {α : Type} (p : α → Bool) : ∀ l : List α, (l.filter fun a => !p a).isEmpty = l.all p
  | [] => rfl
  | a :: r => by
    cases h : p a with
    | true => simp only [List.filter_cons, h, Bool.not_true, List.all_cons, Bool.true_and, ← filter_none p r, if_false, Bool.false_eq_true]
    | false => simp [List.filter_cons, h]
theorem key_eq {d : Nat} {v : Val} (hd : Da d v) : m_is_key [v] = .ok (.bl (keyB v)) := by
  refine defP_eq rfl (by simp [hd.pure]) ?_
  cases v with
  | str s =>
    have hl : s.length ≤ 80000 := hd.wt
    simp (maxSteps := 1000000) (disch := omega) [if_pos, if_neg, List.getElem?_cons_zero, isi_str hd, bLen]
    by_cases h1 : (1:Int) ≤ s.length
    · by_cases h2 : (s.length : Int) ≤ 8
      · simp (maxSteps := 1000000) (disch := omega) [if_pos, if_neg, List.getElem?_cons_zero, h1, h2]
        rw [lcGo_all (fun c => Val.str [c]) (fun c => Val.bl (decide (c ∈ letters))) rfl s (by simp [line]; omega) fun c _ => ⟨_, rfl, ?_⟩]
        · have := blsO_map (s.map fun c => decide (c ∈ letters))
          rw [List.map_map] at this
          simp (maxSteps := 1000000) (disch := omega) [if_pos, if_neg, List.getElem?_cons_zero, bAll, show (List.map (fun c => Val.bl (decide (c ∈ letters))) s) = List.map (Val.bl ∘ fun c => decide (c ∈ letters)) s from rfl, this]
          simp only [keyB, keyOk, show decide (1 ≤ s.length) = true by simpa using (by omega : 1 ≤ s.length), show decide (s.length ≤ 8) = true by simpa using (by omega : s.length ≤ 8), Bool.true_and]
        · simp (maxSteps := 1000000) (disch := omega) [if_pos, if_neg, List.getElem?_cons_zero, vInB, vIn, letters]
      · simp (maxSteps := 1000000) (disch := omega) [if_pos, if_neg, List.getElem?_cons_zero, h1, h2]
        simp [keyB, keyOk]
        omega
    · simp (maxSteps := 1000000) (disch := omega) [if_pos, if_neg, List.getElem?_cons_zero, h1]
      simp [keyB, keyOk]
      omega
  | _ => simp (maxSteps := 1000000) (disch := omega) [if_pos, if_neg, List.getElem?_cons_zero, isi_str hd, keyB]
theorem two {d : Nat} {xs : List Val} (hd : Da d (.tup xs)) (h : xs.length = 2) : ∃ a b, xs = [a, b] ∧ ∃ e, Da e a ∧ Da e b := by
  obtain ⟨e, rfl⟩ := hd.ne0
  match xs, h with
  | [a, b], _ => exact ⟨a, b, rfl, e, hd.elem (by simp), hd.elem (by simp)⟩
theorem worth_eq {d : Nat} {v : Val} {lo : Int} (hd : Da d v) : m_is_worth_of [v, .int lo] = .ok (.bl (worthB lo v)) := by
  refine defP_eq rfl (by simp [hd.pure]) ?_
  cases v with
  | tup xs =>
    have hl := hd.len
    simp (maxSteps := 1000000) (disch := omega) [if_pos, if_neg, List.getElem?_cons_zero, isi_tup hd, bLen]
    by_cases h2 : xs.length = 2
    · obtain ⟨a, b, rfl, e, ha, hb⟩ := two hd h2
      simp (maxSteps := 1000000) (disch := omega) [if_pos, if_neg, List.getElem?_cons_zero, key_eq ha]
      cases hk : keyB a with
      | true => simp (maxSteps := 1000000) (disch := omega) [if_pos, if_neg, List.getElem?_cons_zero, between_eq hb, worthB, hk]
      | false => simp (maxSteps := 1000000) (disch := omega) [if_pos, if_neg, List.getElem?_cons_zero, worthB, hk]
    · have h3 : ((xs.length : Int) == 2) = false := by simp; omega
      simp (maxSteps := 1000000) (disch := omega) [if_pos, if_neg, List.getElem?_cons_zero, h3]
      have : worthB lo (.tup xs) = false := by
        match xs, h2 with
        | [], _ => rfl
        | [_], _ => rfl
        | [_, _], h => exact absurd rfl h
        | _ :: _ :: _ :: _, _ => rfl
      simp [this]
  | _ => simp (maxSteps := 1000000) (disch := omega) [if_pos, if_neg, List.getElem?_cons_zero, isi_tup hd, worthB]
theorem lworth_eq {d : Nat} {v : Val} {lo : Int} (hd : Da d v) : m__law_is_worth [v, .int lo] = .ok (.bl (worthB lo v)) := by
  refine defP_eq rfl (by simp [hd.pure]) ?_
  cases v with
  | tup xs =>
    have hl := hd.len
    simp (maxSteps := 1000000) (disch := omega) [if_pos, if_neg, List.getElem?_cons_zero, isi_tup hd, bLen]
    by_cases h2 : xs.length = 2
    · obtain ⟨a, b, rfl, e, ha, hb⟩ := two hd h2
      cases a with
      | str s =>
        have hl : s.length ≤ 80000 := ha.wt
        simp (maxSteps := 1000000) (disch := omega) [if_pos, if_neg, List.getElem?_cons_zero, isi_str ha, bLen]
        by_cases h1 : (1:Int) ≤ s.length
        · by_cases h3 : (s.length : Int) ≤ 8
          · simp (maxSteps := 1000000) (disch := omega) [if_pos, if_neg, List.getElem?_cons_zero, h1, h3]
            rw [lcGo_map (fun c => Val.str [c]) (fun c => !decide (c ∈ letters)) (fun c => Val.str [c]) rfl s [] (by simp [line]; omega) fun c _ => ⟨_, rfl, ?_, fun _ => ?_⟩]
            · rw [List.nil_append]
              have hF : (List.filter (fun c => !decide (c ∈ letters)) s).isEmpty = s.all fun c => decide (c ∈ letters) := filter_none _ _
              have hk : keyB (.str s) = s.all fun c => decide (c ∈ letters) := by
                simp only [keyB, keyOk, show decide (1 ≤ s.length) = true by simpa using (by omega : 1 ≤ s.length), show decide (s.length ≤ 8) = true by simpa using (by omega : s.length ≤ 8), Bool.true_and]
              rw [← hk] at hF
              generalize List.filter (fun c => !decide (c ∈ letters)) s = F at hF
              cases F with
              | nil => 
                have hk2 : keyB (.str s) = true := by rw [← hF]; rfl
                simp (maxSteps := 1000000) (disch := omega) [if_pos, if_neg, List.getElem?_cons_zero, number_eq hb, worthB, hk2]
              | cons x F =>
                have hk2 : keyB (.str s) = false := by rw [← hF]; rfl
                simp (maxSteps := 1000000) (disch := omega) [if_pos, if_neg, List.getElem?_cons_zero, worthB, hk2]
            · simp (maxSteps := 1000000) (disch := omega) [if_pos, if_neg, List.getElem?_cons_zero, vNotIn, vIn, letters]
            · simp (maxSteps := 1000000) (disch := omega) [if_pos, if_neg, List.getElem?_cons_zero]
          · simp (maxSteps := 1000000) (disch := omega) [if_pos, if_neg, List.getElem?_cons_zero, h1, h3]
            simp [worthB, keyB, keyOk]
            omega
        · simp (maxSteps := 1000000) (disch := omega) [if_pos, if_neg, List.getElem?_cons_zero, h1]
          simp [worthB, keyB, keyOk]
          omega
      | _ => simp (maxSteps := 1000000) (disch := omega) [if_pos, if_neg, List.getElem?_cons_zero, isi_str ha, worthB, keyB]
    · have h3 : ((xs.length : Int) != 2) = true := by simp; omega
      simp (maxSteps := 1000000) (disch := omega) [if_pos, if_neg, List.getElem?_cons_zero, h3]
      have : worthB lo (.tup xs) = false := by
        match xs, h2 with
        | [], _ => rfl
        | [_], _ => rfl
        | [_, _], h => exact absurd rfl h
        | _ :: _ :: _ :: _, _ => rfl
      simp [this]
  | _ => simp (maxSteps := 1000000) (disch := omega) [if_pos, if_neg, List.getElem?_cons_zero, isi_tup hd, worthB]
theorem cut_m1 {α : Type} {xs : List α} : cut xs none (some (-1)) = xs.dropLast := by
  unfold cut
  show (xs.drop 0).take ((-1 + (xs.length : Int)).toNat - 0) = _
  rw [List.drop_zero, Nat.sub_zero, List.dropLast_eq_take]
  congr 1
  omega
theorem zip_next : ∀ {ss : List Cs}, upB ss = ((ss.dropLast.zip ss.tail).all fun p => decide (p.1 < p.2))
  | [] => rfl
  | [_] => rfl
  | x :: y :: r => by
    have := zip_next (ss := y :: r)
    simp only [upB, this, List.dropLast_cons_cons, List.tail_cons, List.zip_cons_cons, List.all_cons]
theorem rising_eq {ss : List Cs} (hl : ss.length ≤ 80000) : m_are_rising [.lst (ss.map .str)] = .ok (.bl (upB ss)) := by
  refine defP_eq rfl (by simp [pureL_strs]) ?_
  simp (maxSteps := 1000000) (disch := omega) [if_pos, if_neg, List.getElem?_cons_zero, asS, cut_m1, cut_from (show (0:Int) ≤ 1 by omega)]
  have hz : zipV (ss.map Val.str).dropLast (ss.map Val.str).tail = (ss.dropLast.zip ss.tail).map fun p => Val.tup [.str p.1, .str p.2] := by
    unfold zipV
    rw [← List.map_dropLast, ← List.map_tail, List.zip_map, List.map_map]
    rfl
  rw [hz, lcGo_all (fun p : Cs × Cs => Val.tup [.str p.1, .str p.2]) (fun p => Val.bl (decide (p.1 < p.2))) rfl _ (by simp [line]; omega) fun p _ => ⟨_, rfl, by simp (maxSteps := 1000000) (disch := omega) [if_pos, if_neg, List.getElem?_cons_zero]⟩]
  have := blsO_map ((ss.dropLast.zip ss.tail).map fun p => decide (p.1 < p.2))
  rw [List.map_map] at this
  simp (maxSteps := 1000000) (disch := omega) [if_pos, if_neg, List.getElem?_cons_zero, bAll, show (List.map (fun p : Cs × Cs => Val.bl (decide (p.1 < p.2))) (ss.dropLast.zip ss.tail)) = List.map (Val.bl ∘ fun p => decide (p.1 < p.2)) (ss.dropLast.zip ss.tail) from rfl, this]
  exact zip_next.symm
theorem dd_nd : ∀ (r l : List Cs), l.Nodup → (dd l r).Nodup ∧ ∀ x, x ∈ dd l r ↔ x ∈ l ∨ x ∈ r
  | [], l, h => ⟨h, fun x => by simp [dd]⟩
  | k :: r, l, h => by
    unfold dd
    by_cases hk : k ∈ l
    · rw [if_pos hk]
      obtain ⟨h1, h2⟩ := dd_nd r l h
      refine ⟨h1, fun x => ?_⟩
      rw [h2, List.mem_cons]
      grind
    · rw [if_neg hk]
      obtain ⟨h1, h2⟩ := dd_nd r (k :: l) (List.nodup_cons.mpr ⟨hk, h⟩)
      refine ⟨h1, fun x => ?_⟩
      rw [h2, List.mem_cons, List.mem_cons]
      grind
theorem pw_eq : ∀ {a b : List Cs}, a.Pairwise (· < ·) → b.Pairwise (· < ·) → (∀ x, x ∈ a ↔ x ∈ b) → a = b
  | [], [], _, _, _ => rfl
  | [], y :: b, _, _, h => absurd ((h y).mpr (by simp)) (by simp)
  | x :: a, [], _, _, h => absurd ((h x).mp (by simp)) (by simp)
  | x :: a, y :: b, ha, hb, h => by
    obtain ⟨a1, a2⟩ := List.pairwise_cons.mp ha
    obtain ⟨b1, b2⟩ := List.pairwise_cons.mp hb
    have hxy : x = y := by
      rcases List.mem_cons.mp ((h x).mp (by simp)) with e | e
      · exact e
      · rcases List.mem_cons.mp ((h y).mpr (by simp)) with f | f
        · exact f.symm
        · exact absurd (List.lt_trans (b1 x e) (a1 y f)) (List.lt_irrefl y)
    subst hxy
    congr 1
    refine pw_eq a2 b2 fun z => ?_
    have hz := h z
    simp only [List.mem_cons] at hz
    constructor
    · intro hza
      rcases hz.mp (.inr hza) with rfl | e
      · exact absurd (a1 z hza) (List.lt_irrefl z)
      · exact e
    · intro hzb
      rcases hz.mpr (.inr hzb) with rfl | e
      · exact absurd (b1 z hzb) (List.lt_irrefl z)
      · exact e
theorem upB_pw : ∀ {ss : List Cs}, upB ss = true ↔ ss.Pairwise (· < ·)
  | [] => by simp [upB]
  | [x] => by simp [upB]
  | x :: y :: r => by
    rw [List.pairwise_cons, ← upB_pw (ss := y :: r), upB, Bool.and_eq_true, decide_eq_true_eq]
    constructor
    · rintro ⟨h1, h2⟩
      refine ⟨fun z hz => ?_, h2⟩
      rcases List.mem_cons.mp hz with rfl | hz
      · exact h1
      · exact List.lt_trans h1 ((List.pairwise_cons.mp (upB_pw.mp h2)).1 z hz)
    · rintro ⟨h1, h2⟩
      exact ⟨h1 y (by simp), h2⟩
theorem sorted_set {ss : List Cs} : (ss == srt leS (dd [] ss)) = upB ss := by
  obtain ⟨h1, h2⟩ := dd_nd ss [] (by simp)
  have hp := srtS_pw h1
  rw [Bool.eq_iff_iff, beq_iff_eq, upB_pw]
  constructor
  · intro e
    rw [e]
    exact hp
  · intro h
    exact pw_eq h hp fun x => by rw [srt_mem, h2]; simp
theorem eqvL_strs : ∀ a b : List Cs, eqvL (a.map .str) (b.map .str) = (a == b)
  | [], [] => rfl
  | [], _ :: _ => rfl
  | _ :: _, [] => rfl
  | x :: a, y :: b => by
    simp only [List.map_cons, eqvL, eqv, eqvL_strs a b]
    rfl
theorem fst_of {lo : Int} {v : Val} (h : worthB lo v = true) : ∃ k w, v = .tup [.str k, w] ∧ fstS v = k := by
  unfold worthB at h
  split at h
  · rename_i k w
    cases k with
    | str s => exact ⟨s, w, rfl, rfl⟩
    | _ => simp [keyB] at h
  · cases h
theorem worths_eq {d : Nat} {v : Val} {lo : Int} (hd : Da d v) : m_are_worths [v, .int lo] = .ok (.bl (worthsB lo v)) := by
  refine defP_eq rfl (by simp [hd.pure]) ?_
  cases v with
  | tup xs =>
    obtain ⟨e, rfl⟩ := hd.ne0
    have hl := hd.len
    simp (maxSteps := 1000000) (disch := omega) [if_pos, if_neg, List.getElem?_cons_zero, isi_tup hd, bLen]
    by_cases h4 : (4:Int) < xs.length
    · simp (maxSteps := 1000000) (disch := omega) [if_pos, if_neg, List.getElem?_cons_zero, h4]
      have : worthsB lo (.tup xs) = false := by
        simp only [worthsB, show decide (xs.length ≤ 4) = false by simpa using (by omega : 4 < xs.length), Bool.false_and]
      simp [this]
    · simp (maxSteps := 1000000) (disch := omega) [if_pos, if_neg, List.getElem?_cons_zero, h4]
      have := lcGo_all (chk := fun _ => true) (g := gN 2) (e := eP m_is_worth_of (esCons (eV 2) (esCons (eV 1) esNil))) (env := [some (Val.tup xs), some (Val.int lo), none, none, none]) (h := []) id (fun x => Val.bl (worthB lo x)) rfl xs (by simp [line]; omega) fun x hx => ⟨_, rfl, by simp (maxSteps := 1000000) (disch := omega) [if_pos, if_neg, List.getElem?_cons_zero, worth_eq (hd.elem hx)]⟩
      rw [List.map_id] at this
      rw [this]
      have hb := blsO_map (xs.map fun x => worthB lo x)
      rw [List.map_map] at hb
      have hb : blsO (List.map (fun x => Val.bl (worthB lo x)) xs) = some (xs.map fun x => worthB lo x) := hb
      have hall : (xs.map fun x => worthB lo x).all id = xs.all fun x => worthB lo x := by rw [List.all_map]; rfl
      generalize (xs.map fun x => worthB lo x) = bs at hb hall
      generalize List.map (fun x => Val.bl (worthB lo x)) xs = ws at hb
      cases hw : xs.all fun x => worthB lo x with
      | false =>
        rw [hw] at hall
        simp (maxSteps := 1000000) (disch := omega) [if_pos, if_neg, List.getElem?_cons_zero, bAll, hb, hall]
        have : worthsB lo (.tup xs) = false := by
          simp only [worthsB, show xs.all (worthB lo) = false from hw, Bool.and_false, Bool.false_and]
        simp [this]
      | true =>
        rw [hw] at hall
        simp (maxSteps := 1000000) (disch := omega) [if_pos, if_neg, List.getElem?_cons_zero, bAll, hb, hall]
        have := lcGo_all (chk := fun _ => true) (g := gT [gN 3, gN 4]) (e := eV 3) (env := [some (Val.tup xs), some (Val.int lo), none, none, none]) (h := []) id (fun x => Val.str (fstS x)) rfl xs (by simp [line]; omega) fun x hx => by
          obtain ⟨k, w, rfl, hk⟩ := fst_of (List.all_eq_true.mp hw x hx)
          exact ⟨_, rfl, by simp (maxSteps := 1000000) (disch := omega) [if_pos, if_neg, List.getElem?_cons_zero, hk]⟩
        rw [List.map_id] at this
        rw [this]
        have hr := rising_eq (ss := xs.map fstS) (by simpa using hl)
        rw [List.map_map] at hr
        have hr : m_are_rising [Val.lst (List.map (fun x => Val.str (fstS x)) xs)] = P.ok (Val.bl (upB (List.map fstS xs))) := hr
        simp (maxSteps := 1000000) (disch := omega) [if_pos, if_neg, List.getElem?_cons_zero, hr]
        simp only [worthsB, show xs.all (worthB lo) = true from hw, show decide (xs.length ≤ 4) = true by simpa using (by omega : xs.length ≤ 4), Bool.true_and]
  | _ => simp (maxSteps := 1000000) (disch := omega) [if_pos, if_neg, List.getElem?_cons_zero, isi_tup hd, worthsB]
theorem lworths_eq {d : Nat} {v : Val} {lo : Int} (hd : Da d v) : m__law_are_worths [v, .int lo] = .ok (.bl (worthsB lo v)) := by
  refine defP_eq rfl (by simp [hd.pure]) ?_
  cases v with
  | tup xs =>
    obtain ⟨e, rfl⟩ := hd.ne0
    have hl := hd.len
    simp (maxSteps := 1000000) (disch := omega) [if_pos, if_neg, List.getElem?_cons_zero, isi_tup hd, bLen]
    by_cases h4 : (4:Int) < xs.length
    · simp (maxSteps := 1000000) (disch := omega) [if_pos, if_neg, List.getElem?_cons_zero, h4]
      have : worthsB lo (.tup xs) = false := by
        simp only [worthsB, show decide (xs.length ≤ 4) = false by simpa using (by omega : 4 < xs.length), Bool.false_and]
      simp [this]
    · simp (maxSteps := 1000000) (disch := omega) [if_pos, if_neg, List.getElem?_cons_zero, h4]
      have := lcGo_map (chk := fun _ => true) (g := gN 3) (t := tNot (tV (eP m__law_is_worth (esCons (eV 3) (esCons (eV 1) esNil))))) (e := eV 3) (env := [some (Val.tup xs), some (Val.int lo), none, none, none, none]) (h := []) id (fun x => !worthB lo x) id rfl xs [] (by simp [line]; omega) fun x hx => ⟨_, rfl, by simp (maxSteps := 1000000) (disch := omega) [if_pos, if_neg, List.getElem?_cons_zero, lworth_eq (hd.elem hx)], fun _ => by simp (maxSteps := 1000000) (disch := omega) [if_pos, if_neg, List.getElem?_cons_zero]⟩
      rw [List.map_id] at this
      rw [this]
      have hF : (xs.filter fun x => !worthB lo x).isEmpty = xs.all fun x => worthB lo x := filter_none _ _
      rw [List.nil_append, List.map_id]
      generalize (xs.filter fun x => !worthB lo x) = F at hF
      cases hw : xs.all fun x => worthB lo x with
      | false =>
        rw [hw] at hF
        simp (maxSteps := 1000000) (disch := omega) [if_pos, if_neg, List.getElem?_cons_zero, hF]
        have : worthsB lo (.tup xs) = false := by
          simp only [worthsB, show xs.all (worthB lo) = false from hw, Bool.and_false, Bool.false_and]
        simp [this]
      | true =>
        rw [hw] at hF
        simp (maxSteps := 1000000) (disch := omega) [if_pos, if_neg, List.getElem?_cons_zero, hF]
        have := lcGo_all (chk := fun _ => true) (g := gT [gN 4, gN 5]) (e := eV 4) (env := [some (Val.tup xs), some (Val.int lo), none, none, none, none]) (h := []) id (fun x => Val.str (fstS x)) rfl xs (by simp [line]; omega) fun x hx => by
          obtain ⟨k, w, rfl, hk⟩ := fst_of (List.all_eq_true.mp hw x hx)
          exact ⟨_, rfl, by simp (maxSteps := 1000000) (disch := omega) [if_pos, if_neg, List.getElem?_cons_zero, hk]⟩
        rw [List.map_id] at this
        rw [this]
        have hm : xs.map (fun x => Val.str (fstS x)) = (xs.map fstS).map .str := by rw [List.map_map]; rfl
        rw [hm]
        have hll : (xs.map fstS).length < 64 := by simp; omega
        have hW : worthsB lo (.tup xs) = upB (xs.map fstS) := by
          simp only [worthsB, show xs.all (worthB lo) = true from hw, show decide (xs.length ≤ 4) = true by simpa using (by omega : xs.length ≤ 4), Bool.true_and]
        rw [hW]
        generalize xs.map fstS = ss at hll
        have isd : ∀ l : List Cs, isD 60 (.lst (l.map .str)) = true := fun l => by
          simp only [isD, List.all_eq_true]
          intro x hx
          obtain ⟨y, _, rfl⟩ := List.mem_map.mp hx
          rfl
        simp (maxSteps := 1000000) (disch := omega) [if_pos, if_neg, List.getElem?_cons_zero, bSortSet, strsO_map, hll, vEq_of (x := .lst (ss.map .str)) (y := .lst ((srt leS (dd [] ss)).map .str)) (pureL_strs _) (pureL_strs _) (isd _) (isd _), eqv, eqvL_strs, sorted_set]
  | _ => simp (maxSteps := 1000000) (disch := omega) [if_pos, if_neg, List.getElem?_cons_zero, isi_tup hd, worthsB]
theorem five {d : Nat} {xs : List Val} (hd : Da d (.tup xs)) (h : xs.length = 5) : ∃ a b c e f, xs = [a, b, c, e, f] ∧ ∃ k, Da k a ∧ Da k b ∧ Da k c ∧ Da k e ∧ Da k f := by
  obtain ⟨k, rfl⟩ := hd.ne0
  match xs, h with
  | [a, b, c, e, f], _ => exact ⟨a, b, c, e, f, rfl, k, hd.elem (by simp), hd.elem (by simp), hd.elem (by simp), hd.elem (by simp), hd.elem (by simp)⟩
theorem reads_eq {d : Nat} {v : Val} (hd : Da d v) : m_are_reads [v] = .ok (.bl (worthsB 0 v)) := by
  refine defP_eq rfl (by simp [hd.pure]) ?_
  simp (maxSteps := 1000000) (disch := omega) [if_pos, if_neg, List.getElem?_cons_zero, worths_eq hd]
theorem writes_eq {d : Nat} {v : Val} (hd : Da d v) : m_are_writes [v] = .ok (.bl (worthsB 1 v)) := by
  refine defP_eq rfl (by simp [hd.pure]) ?_
  simp (maxSteps := 1000000) (disch := omega) [if_pos, if_neg, List.getElem?_cons_zero, worths_eq hd]
theorem isDl_ne {xs : List Val} (h : xs.length ≠ 5) : isDl (.tup xs) = false := by
  match xs, h with
  | [], _ => rfl
  | [_], _ => rfl
  | [_, _], _ => rfl
  | [_, _, _], _ => rfl
  | [_, _, _, _], _ => rfl
  | [_, _, _, _, _], h => exact absurd rfl h
  | _ :: _ :: _ :: _ :: _ :: _ :: _, _ => rfl
theorem numB_int {v : Val} {a b : Int} (h : numB v a b = true) : ∃ i, v = .int i ∧ a ≤ i ∧ i ≤ b := by
  unfold numB at h
  split at h
  · rw [Bool.and_eq_true, decide_eq_true_eq, decide_eq_true_eq] at h
    exact ⟨_, rfl, h⟩
  · cases h
theorem worthsB_tup {v : Val} {lo : Int} (h : worthsB lo v = true) : ∃ xs, v = .tup xs := by
  unfold worthsB at h
  split at h
  · exact ⟨_, rfl⟩
  · cases h
@[simp] theorem numB_non {a b : Int} : numB (.non) a b = false := rfl
@[simp] theorem numB_bl {x : Bool} {a b : Int} : numB (.bl x) a b = false := rfl
@[simp] theorem numB_str {x : Cs} {a b : Int} : numB (.str x) a b = false := rfl
@[simp] theorem numB_tup {x : List Val} {a b : Int} : numB (.tup x) a b = false := rfl
@[simp] theorem numB_lst {x : List Val} {a b : Int} : numB (.lst x) a b = false := rfl
@[simp] theorem numB_dct {x : List (Val × Val)} {a b : Int} : numB (.dct x) a b = false := rfl
@[simp] theorem numB_ref {x : Nat} {a b : Int} : numB (.ref x) a b = false := rfl
@[simp] theorem numB_fn {x : String} {a b : Int} : numB (.fn x) a b = false := rfl
@[simp] theorem numB_scr {x : List Int} {a b : Int} : numB (.scr x) a b = false := rfl
@[simp] theorem numB_obj {y : String} {x : List (String × Val)} {a b : Int} : numB (.obj y x) a b = false := rfl
theorem dealing_eq {d : Nat} {v : Val} (hd : Da d v) : m_is_dealing [v] = .ok (.bl (isDl v)) := by
  refine defP_eq rfl (by simp [hd.pure]) ?_
  cases v with
  | tup xs =>
    have hl := hd.len
    by_cases h5 : xs.length = 5
    · obtain ⟨a, b, c, e, f, rfl, k, ha, hb, hc, he, hf⟩ := five hd h5
      simp only [isDl]
      cases h1 : numB a 0 7 with
      | false => simp (maxSteps := 1000000) (disch := omega) [if_pos, if_neg, List.getElem?_cons_zero, isi_tup hd, bLen, h1, between_eq ha, moment_eq hb, moment_eq hc, reads_eq he, writes_eq hf]
      | true =>
      cases h2 : numB b 0 999999 with
      | false => simp (maxSteps := 1000000) (disch := omega) [if_pos, if_neg, List.getElem?_cons_zero, isi_tup hd, bLen, h1, h2, between_eq ha, moment_eq hb, moment_eq hc, reads_eq he, writes_eq hf]
      | true =>
      cases h3 : worthsB 0 e with
      | false => simp (maxSteps := 1000000) (disch := omega) [if_pos, if_neg, List.getElem?_cons_zero, isi_tup hd, bLen, h1, h2, h3, between_eq ha, moment_eq hb, moment_eq hc, reads_eq he, writes_eq hf]
      | true =>
      cases h4 : worthsB 1 f with
      | false => simp (maxSteps := 1000000) (disch := omega) [if_pos, if_neg, List.getElem?_cons_zero, isi_tup hd, bLen, h1, h2, h3, h4, between_eq ha, moment_eq hb, moment_eq hc, reads_eq he, writes_eq hf]
      | true =>
      obtain ⟨b, rfl, hb0, hb1⟩ := numB_int h2
      obtain ⟨es, rfl⟩ := worthsB_tup h3
      cases c with
      | int c =>
        cases h6 : numB (.int c) 0 999999 with
        | true => 
          simp (maxSteps := 1000000) (disch := omega) [if_pos, if_neg, List.getElem?_cons_zero, isi_tup hd, bLen, h1, h2, h3, h4, h6, between_eq ha, moment_eq hb, moment_eq hc, reads_eq he, writes_eq hf]
          simp only [numB, Bool.and_eq_true] at h6
          simp [endB, h6.1, h6.2, of_decide_eq_true h6.1, of_decide_eq_true h6.2]
        | false =>
          simp (maxSteps := 1000000) (disch := omega) [if_pos, if_neg, List.getElem?_cons_zero, isi_tup hd, bLen, h1, h2, h3, h4, h6, between_eq ha, moment_eq hb, moment_eq hc, reads_eq he, writes_eq hf]
          simp only [numB] at h6
          simp [endB, h6]
      | ref i => exact absurd hc.dat (by cases k <;> simp [K01.dat])
      | fn i => exact absurd hc.dat (by cases k <;> simp [K01.dat])
      | scr i => exact absurd hc.dat (by cases k <;> simp [K01.dat])
      | _ => simp (maxSteps := 1000000) (disch := omega) [if_pos, if_neg, List.getElem?_cons_zero, isi_tup hd, bLen, h1, h2, h3, h4, endB, between_eq ha, moment_eq hb, moment_eq hc, reads_eq he, writes_eq hf]
    · have h6 : ((xs.length : Int) != 5) = true := by simp; omega
      simp (maxSteps := 1000000) (disch := omega) [if_pos, if_neg, List.getElem?_cons_zero, isi_tup hd, bLen, h6]
      simp [isDl_ne h5]
  | _ => simp (maxSteps := 1000000) (disch := omega) [if_pos, if_neg, List.getElem?_cons_zero, isi_tup hd, isDl]
theorem ldealing_eq {d : Nat} {v : Val} (hd : Da d v) : m__law_is_dealing [v] = .ok (.bl (isDl v)) := by
  refine defP_eq rfl (by simp [hd.pure]) ?_
  cases v with
  | tup xs =>
    have hl := hd.len
    by_cases h5 : xs.length = 5
    · obtain ⟨a, b, c, e, f, rfl, k, ha, hb, hc, he, hf⟩ := five hd h5
      simp only [isDl]
      cases h1 : numB a 0 7 with
      | false => simp (maxSteps := 1000000) (disch := omega) [if_pos, if_neg, List.getElem?_cons_zero, isi_tup hd, bLen, h1, number_eq ha, number_eq hb, number_eq hc, lworths_eq he, lworths_eq hf]
      | true =>
      cases h2 : numB b 0 999999 with
      | false => simp (maxSteps := 1000000) (disch := omega) [if_pos, if_neg, List.getElem?_cons_zero, isi_tup hd, bLen, h1, h2, number_eq ha, number_eq hb, number_eq hc, lworths_eq he, lworths_eq hf]
      | true =>
      cases h3 : worthsB 0 e with
      | false => simp (maxSteps := 1000000) (disch := omega) [if_pos, if_neg, List.getElem?_cons_zero, isi_tup hd, bLen, h1, h2, h3, number_eq ha, number_eq hb, number_eq hc, lworths_eq he, lworths_eq hf]
      | true =>
      cases h4 : worthsB 1 f with
      | false => simp (maxSteps := 1000000) (disch := omega) [if_pos, if_neg, List.getElem?_cons_zero, isi_tup hd, bLen, h1, h2, h3, h4, number_eq ha, number_eq hb, number_eq hc, lworths_eq he, lworths_eq hf]
      | true =>
      obtain ⟨b, rfl, hb0, hb1⟩ := numB_int h2
      obtain ⟨es, rfl⟩ := worthsB_tup h3
      cases c with
      | int c =>
        cases h6 : numB (.int c) 0 999999 with
        | true => 
          simp (maxSteps := 1000000) (disch := omega) [if_pos, if_neg, List.getElem?_cons_zero, isi_tup hd, bLen, h1, h2, h3, h4, h6, number_eq ha, number_eq hb, number_eq hc, lworths_eq he, lworths_eq hf]
          simp only [numB, Bool.and_eq_true] at h6
          simp [endB, h6.1, h6.2, of_decide_eq_true h6.1, of_decide_eq_true h6.2]
        | false =>
          simp (maxSteps := 1000000) (disch := omega) [if_pos, if_neg, List.getElem?_cons_zero, isi_tup hd, bLen, h1, h2, h3, h4, h6, number_eq ha, number_eq hb, number_eq hc, lworths_eq he, lworths_eq hf]
          simp only [numB] at h6
          simp [endB, h6]
      | ref i => exact absurd hc.dat (by cases k <;> simp [K01.dat])
      | fn i => exact absurd hc.dat (by cases k <;> simp [K01.dat])
      | scr i => exact absurd hc.dat (by cases k <;> simp [K01.dat])
      | _ => simp (maxSteps := 1000000) (disch := omega) [if_pos, if_neg, List.getElem?_cons_zero, isi_tup hd, bLen, h1, h2, h3, h4, endB, number_eq ha, number_eq hb, number_eq hc, lworths_eq he, lworths_eq hf]
    · have h6 : ((xs.length : Int) != 5) = true := by simp; omega
      simp (maxSteps := 1000000) (disch := omega) [if_pos, if_neg, List.getElem?_cons_zero, isi_tup hd, bLen, h6]
      simp [isDl_ne h5]
  | _ => simp (maxSteps := 1000000) (disch := omega) [if_pos, if_neg, List.getElem?_cons_zero, isi_tup hd, isDl]
end K01
end

section
set_option linter.all false
set_option autoImplicit false
set_option maxHeartbeats 0
set_option maxRecDepth 100000
namespace K01
open Mir
theorem Dk.self {r h : Hm} (d : Dk r h) (b : Bel r) (n : Nat) (hn : n = r.length + 2) : (h.take n).all (belowO n) = true ∧ Dk r (h.take n) := d.cut n hn (by simp) b
theorem right_sat {r h : Hm} {d : Nat} {v : Val} (hd : Dk r h) (hb : Bel r) (hv : Da d v) (h60 : d ≤ 60) :
    (m__law_right [v] h).sat fun w h' => w = .bl true ∧ Dk r h' := by
  refine defS_sat rfl fun Q hQ => ?_
  rw [hd.len] at hQ
  have e1 : ∀ (h : Hm) b, bRepr h [.bl b] = some (.str (rep (.bl b))) := fun h b => repr_ok (d := 0) rfl (by omega) (Nat.zero_le _)
  have e2 : ∀ h, bRepr h [v] = some (.str (rep v)) := fun h => repr_ok hv.dat h60 hv.wt
  simp (maxSteps := 1000000) (disch := omega) [if_pos, if_neg, List.getElem?_cons_zero, e1, e2, dealing_eq hv, ldealing_eq hv]
  obtain ⟨h1, h2⟩ := hd.self hb _ rfl
  exact hQ _ _ ⟨rfl, h1, rfl, h2⟩
def oddL (v : Val) : List Val := [Val.non, Val.bl true, Val.bl false, Val.int 0, Val.int 1, Val.int (-1), Val.int 8, Val.int 1000000,
              Val.int 1000000000000000000000000000000000000000, Val.str [], Val.str [65], Val.str [97],
              Val.str [97, 98, 99, 100, 101, 102, 103, 104, 105], Val.tup [], Val.lst [], Val.dct [],
              Val.tup [Val.str [97]], Val.tup [Val.str [97], Val.int 1],
              Val.tup
                [Val.tup [Val.str [97], Val.int 1], Val.tup [Val.str [98], Val.int 1],
                  Val.tup [Val.str [99], Val.int 1], Val.tup [Val.str [100], Val.int 1],
                  Val.tup [Val.str [101], Val.int 1]],
              Val.lst [v], Val.tup [v], Val.dct [(Val.int 0, v)], Val.tup [v, v],
              Val.tup [Val.tup [Val.str [97], Val.int 1]],
              Val.tup [Val.tup [Val.str [98], Val.int 1], Val.tup [Val.str [97], Val.int 1]],
              Val.tup [Val.tup [Val.str [97], Val.int 0]],
              Val.tup [Val.tup [Val.str [97], Val.int 1], Val.tup [Val.str [97], Val.int 2]],
              Val.tup [Val.tup [Val.str [97], Val.bl true]], Val.tup [Val.tup [Val.str [65], Val.int 1]],
              Val.tup [Val.tup [Val.str [97], Val.int 1000000]]]
theorem oddL_ok {d : Nat} {v : Val} (d1 : dat (d + 2) v = true) : ∀ x ∈ oddL v, dat (d + 3) x = true ∧ wt x ≤ 2 * wt v + 300 := by
  unfold oddL
  simp [List.forall_mem_cons, dat, wt, wtL, wtK, okC, d1]
  omega
theorem odd_sat {r h : Hm} {d : Nat} {v : Val} (hd : Dk r h) (hb : Bel r) (hv : dat d v = true) :
    (m__law_odd [.ref 1, v] h).sat fun w h' => dat (d + 3) w = true ∧ wt w ≤ 2 * wt v + 300 ∧ Dk r h' := by
  refine defS_sat rfl fun Q hQ => ?_
  rw [hd.len] at hQ
  simp (maxSteps := 1000000) (disch := omega) [if_pos, if_neg, List.getElem?_cons_zero, ↓lcGo_n, ↓lcGo_c (chk := fun _ => true) (hc := rfl), bTuple, isK, bLen]
  refine R.sat_mono (draw_sat hd (by decide) (by decide)) ?_
  clear hd
  rintro _ h ⟨i, e, i0, i1, hd⟩
  subst e
  have hw : wt v ≤ 2 * wt v + 300 := by omega
  have d1 : dat (d + 2) v = true := dat_mono (by omega) hv
  obtain ⟨x, e1, e2, _⟩ := atI_ex (xs := oddL v) i0 (by simpa [oddL] using i1)
  have e2 := oddL_ok d1 x e2
  unfold oddL at e1
  simp (maxSteps := 1000000) (disch := omega) [if_pos, if_neg, List.getElem?_cons_zero, e1]
  obtain ⟨h1, h2⟩ := hd.self hb _ rfl
  exact hQ _ _ ⟨dat_pure e2.1, h1, e2.1, e2.2, h2⟩
end K01
end

section
set_option linter.all false
set_option autoImplicit false
set_option maxHeartbeats 0
set_option maxRecDepth 100000
namespace K01
open Mir
theorem wtL_app : ∀ (a b : List Val), wtL (a ++ b) = wtL a + wtL b
  | [], b => by simp [wtL]
  | x :: a, b => by simp only [List.cons_append, wtL, wtL_app a b]; omega
theorem wtL_rev : ∀ (a : List Val), wtL a.reverse = wtL a
  | [] => rfl
  | x :: a => by simp only [List.reverse_cons, wtL_app, wtL_rev a, wtL]; omega
theorem wtL_sub {a b : List Val} (h : a.Sublist b) : wtL a ≤ wtL b := by
  induction h with
  | slnil => exact Nat.le_refl _
  | cons x _ ih => simp only [wtL]; omega
  | cons_cons x _ ih => simp only [wtL]; omega
theorem cut_sub {α : Type} (xs : List α) (lo hi : Option Int) : (cut xs lo hi).Sublist xs := (List.take_sublist _ _).trans (List.drop_sublist _ _)
theorem wtL_split {xs : List Val} {i : Nat} (h : i < xs.length) : wtL xs = wtL (xs.take i) + (wt xs[i] + 1) + wtL (xs.drop (i + 1)) := by
  have e : xs = xs.take i ++ xs[i] :: xs.drop (i + 1) := by rw [← List.drop_eq_getElem_cons h, List.take_append_drop]
  have e2 := congrArg wtL e
  rw [wtL_app] at e2
  simp only [wtL] at e2
  omega
def upc (c : Nat) : Nat := if 97 ≤ c then c - 32 else c
theorem up_eq : ∀ c ∈ List.range 123, okC c = true → PySem.Unicode.upperOf c = [upc c] := by decide +kernel
theorem upC_eq {s : Cs} (h : s.all okC = true) : upC s = s.map upc := by
  unfold upC PySem.Txt.upper
  show ((Sim.toS s).cps.mapIdx fun _ c => (PySem.Unicode.upperOf c).toArray).flatten.toList = _
  rw [Array.toList_flatten, Array.toList_mapIdx, Sim.toS_tl]
  have : ∀ s : Cs, s.all okC = true → ((s.mapIdx fun _ c => (PySem.Unicode.upperOf c).toArray).map Array.toList).flatten = s.map upc := by
    intro s
    induction s with
    | nil => intro _; rfl
    | cons c s ih =>
      intro h
      simp only [List.all_cons, Bool.and_eq_true] at h
      have h1 : c < 123 := by
        have := of_decide_eq_true h.1
        omega
      have := ih h.2
      simp only [List.mapIdx_cons, List.map_cons, List.flatten_cons, up_eq c (List.mem_range.mpr h1) h.1]
      rw [show (fun (i : Nat) => (fun (_ : Nat) (c : Nat) => (PySem.Unicode.upperOf c).toArray) (i + 1)) = fun _ c => (PySem.Unicode.upperOf c).toArray from rfl, this]
      rfl
  exact this s h
theorem okC_up {s : Cs} (h : s.all okC = true) : (s.map upc).all okC = true := by
  rw [List.all_map, List.all_eq_true]
  intro c hc
  have := List.all_eq_true.mp h c hc
  unfold okC at this
  have := of_decide_eq_true this
  show okC (upc c) = true
  unfold okC upc
  rw [decide_eq_true_eq]
  split <;> omega
theorem bent_sat : ∀ (e d : Nat) (v : Val) (r h : Hm), d < e → Dk r h → Bel r → dat d v = true → wt v ≤ 30000 →
    (m__law_bent e [.ref 1, v] h).sat fun w h' => dat (d + 3) w = true ∧ wt w ≤ 2 * wt v + 300 ∧ Dk r h'
  | 0, d, v, r, h, hde, _, _, _, _ => by omega
  | e + 1, d, v, r, h, hde, hd, hb, hv, hw => by
    refine defS_sat rfl fun Q hQ => ?_
    rw [hd.len] at hQ
    have hda : Da d v := ⟨hv, by omega⟩
    have odd : ∀ h, Dk r h → (m__law_odd [.ref 1, v] h).sat Q := by
      intro h hd
      refine R.sat_mono (odd_sat hd hb hv) ?_
      rintro w h ⟨h1, h2, hd⟩
      obtain ⟨k1, k2⟩ := hd.self hb _ rfl
      exact hQ _ _ ⟨dat_pure h1, k1, h1, h2, k2⟩
    have fin : ∀ w h, dat (d + 3) w = true → wt w ≤ 2 * wt v + 300 → Dk r h → Q w h := by
      intro w h h1 h2 hd
      obtain ⟨k1, k2⟩ := hd.self hb _ rfl
      exact hQ _ _ ⟨dat_pure h1, k1, h1, h2, k2⟩
    simp only [sSeq, SR.sat_sq]
    refine SR.sat_mono (N := fun env h' => env = [some (.ref 1), some v, none, none] ∧ Dk r h') ?_ ?_ (fun _ _ h => h) (fun _ _ h => h) (fun _ _ h => h)
    · clear odd
      cases v with
      | tup xs =>
        obtain ⟨d, rfl⟩ := hda.ne0
        have hwl : wtL xs ≤ 30000 := hw
        have hl := wtL_len xs
        simp only [dat, List.all_eq_true] at hv
        cases hx : xs.isEmpty with
        | true => 
          simp (maxSteps := 1000000) (disch := omega) [if_pos, if_neg, List.getElem?_cons_zero, isi_tup hda, hx]
          exact hd
        | false =>
        have hne : xs.length ≠ 0 := by simpa using hx
        simp (maxSteps := 1000000) (disch := omega) [if_pos, if_neg, List.getElem?_cons_zero, isi_tup hda, hx]
        (refine Mir.R.sat_mono (draw_sat hd (by first | decide | omega) (by first | decide | omega)) ?_; clear hd; rintro _ _ ⟨a, e, a0, a1, hd⟩; subst e)
        simp (maxSteps := 1000000) (disch := omega) [if_pos, if_neg, List.getElem?_cons_zero]
        refine ite_satS (fun e5 => ?_) (fun e5 => ?_)
        · simp (maxSteps := 1000000) (disch := omega) [if_pos, if_neg, List.getElem?_cons_zero, bLen]
          refine R.sat_mono (draw_sat hd (by omega) (by omega)) ?_
          clear hd
          rintro _ h ⟨k, e, k0, k1, hd⟩
          subst e
          obtain ⟨x, e1, e2, e3⟩ := atI_ex (xs := xs) k0 k1
          have hsp := wtL_split (xs := xs) (i := k.toNat) (by omega)
          rw [List.getElem?_eq_getElem (by omega)] at e3
          cases e3
          generalize xs[k.toNat] = x at *
          have ih := fun h hd => bent_sat e d x r h (by omega) hd hb (hv x e2) (by omega)
          simp (maxSteps := 1000000) (disch := omega) [if_pos, if_neg, List.getElem?_cons_zero, cut_to k0, e1, vSl]
          refine R.sat_mono (ih _ hd) ?_
          clear hd
          rintro w h ⟨w1, w2, hd⟩
          simp (maxSteps := 1000000) (disch := omega) [if_pos, if_neg, List.getElem?_cons_zero, cut_from (show 0 ≤ k + 1 by omega), vSl]
          refine fin _ _ ?_ ?_ hd
          · simp only [dat, List.all_eq_true]
            intro y hy
            simp only [List.mem_append, List.mem_cons] at hy
            rcases hy with hy | hy | hy
            · exact dat_mono (by omega) (hv y (List.mem_of_mem_take hy))
            · rw [hy]; exact w1
            · exact dat_mono (by omega) (hv y (List.mem_of_mem_drop hy))
          · simp only [wt, wtL_app, wtL] at hsp ⊢
            rw [show (k + 1).toNat = k.toNat + 1 by omega]
            omega
        · simp (maxSteps := 1000000) (disch := omega) [if_pos, if_neg, List.getElem?_cons_zero]
          exact hd
      | ref i => exact absurd hv (by cases d <;> simp [dat])
      | fn i => exact absurd hv (by cases d <;> simp [dat])
      | scr i => exact absurd hv (by cases d <;> simp [dat])
      | obj c fs => exact absurd hv (by cases d <;> simp [dat])
      | _ =>
        simp (maxSteps := 1000000) (disch := omega) [if_pos, if_neg, List.getElem?_cons_zero, isi_tup hda]
        exact hd
    · clear hd
      rintro env h ⟨rfl, hd⟩
      simp (maxSteps := 1000000) (disch := omega) [if_pos, if_neg, List.getElem?_cons_zero]
      refine R.sat_mono (draw_sat hd (by decide) (by decide)) ?_
      clear hd
      rintro _ h ⟨k, e, k0, k1, hd⟩
      subst e
      cases v with
      | tup xs =>
        obtain ⟨d, rfl⟩ := hda.ne0
        have hwl : wtL xs ≤ 30000 := hw
        have hl := wtL_len xs
        simp only [dat, List.all_eq_true] at hv
        simp (maxSteps := 1000000) (disch := omega) [if_pos, if_neg, List.getElem?_cons_zero, isi_tup hda]
        refine ite_satS (fun e5 => ?_) (fun e5 => ?_)
        · have e5 : k < 5 := by simpa using e5
          have sub : ∀ {ys : List Val}, (∀ x ∈ ys, x ∈ xs ∨ x = .int 0) → dat (d + 1 + 3) (.tup ys) = true := fun hs => by
            simp only [dat, List.all_eq_true]
            intro x hx
            rcases hs x hx with h | rfl
            · exact dat_mono (by omega) (hv x h)
            · simp [dat]; omega
          obtain ⟨x, e1, e2, _⟩ := atI_ex (xs := [Val.lst xs, .tup (xs ++ [.int 0]), .tup (cut xs none (some (-1))), .tup xs.reverse, .tup (xs ++ cut xs (some (-1)) none)]) k0 (by simpa using e5)
          have c1 := cut_sub xs none (some (-1))
          have c2 := cut_sub xs (some (-1)) none
          have l1 := c1.length_le
          have l2 := c2.length_le
          have e2 : dat (d + 1 + 3) x = true ∧ wt x ≤ 2 * wtL xs + 300 := by
            simp only [List.mem_cons, List.not_mem_nil, or_false] at e2
            rcases e2 with rfl | rfl | rfl | rfl | rfl
            · exact ⟨sub (ys := xs) fun x h => .inl h, by simp only [wt]; omega⟩
            · exact ⟨sub fun x h => by simpa using h, by simp only [wt, wtL_app, wtL]; omega⟩
            · exact ⟨sub fun x h => .inl (c1.mem h), by have := wtL_sub c1; simp only [wt]; omega⟩
            · exact ⟨sub fun x h => .inl (by simpa using h), by simp only [wt, wtL_rev]; omega⟩
            · exact ⟨sub fun x h => .inl ((List.mem_append.mp h).elim id fun h => c2.mem h), by have := wtL_sub c2; simp only [wt, wtL_app]; omega⟩
          simp (maxSteps := 1000000) (disch := omega) [if_pos, if_neg, List.getElem?_cons_zero, bList, vSl, vRevT, e1]
          exact fin _ _ e2.1 e2.2 hd
        · simp (maxSteps := 1000000) (disch := omega) [if_pos, if_neg, List.getElem?_cons_zero, isi_tup hda, isi_str hda, isi_int hda]
          exact odd h hd
      | str s =>
        simp (maxSteps := 1000000) (disch := omega) [if_pos, if_neg, List.getElem?_cons_zero, isi_tup hda, isi_str hda]
        refine ite_satS (fun e5 => ?_) (fun e5 => ?_)
        · have e5 : k < 4 := by simpa using e5
          have hwl : s.length ≤ 30000 := hw
          have hs : s.all okC = true := by simpa [dat] using hv
          obtain ⟨x, e1, e2, _⟩ := atI_ex (xs := [Val.str (s ++ [97]), .str (s.map upc), .str (s.drop 1), .str (s ++ [32])]) k0 (by simpa using e5)
          have e2 : dat (d + 3) x = true ∧ wt x ≤ 2 * s.length + 300 := by
            simp only [List.mem_cons, List.not_mem_nil, or_false] at e2
            rcases e2 with rfl | rfl | rfl | rfl
            · simp only [dat, List.all_append, hs, wt, List.length_append, List.length_cons, List.length_nil]
              exact ⟨by decide, by omega⟩
            · simp only [dat, okC_up hs, wt, List.length_map]
              exact ⟨trivial, by omega⟩
            · simp only [dat, wt, List.length_drop]
              exact ⟨List.all_eq_true.mpr fun c hc => List.all_eq_true.mp hs c (List.mem_of_mem_drop hc), by omega⟩
            · simp only [dat, List.all_append, hs, wt, List.length_append, List.length_cons, List.length_nil]
              exact ⟨by decide, by omega⟩
          have hup : mUpper h (.str s) [] = some (.str (s.map upc), h) := by
            have h1 := okC_up hs
            have : (s.map upc).all (· < 0x110000) = true := by
              rw [List.all_eq_true]
              intro c hc
              have := okC_lt h1 c hc
              simp; omega
            simp only [mUpper, upC_eq hs, this, show decide (s.length ≤ 5592405) = true by simpa using (by omega : s.length ≤ 5592405), Bool.and_self, if_true]
          simp (maxSteps := 1000000) (disch := omega) [if_pos, if_neg, List.getElem?_cons_zero, hup, vSl, cut_from (show (0:Int) ≤ 1 by omega)]
          simp only [List.drop_one] at e1
          simp (maxSteps := 1000000) (disch := omega) [if_pos, if_neg, List.getElem?_cons_zero, e1]
          exact fin _ _ e2.1 e2.2 hd
        · simp (maxSteps := 1000000) (disch := omega) [if_pos, if_neg, List.getElem?_cons_zero, isi_tup hda, isi_str hda, isi_int hda]
          exact odd h hd
      | int i =>
        simp (maxSteps := 1000000) (disch := omega) [if_pos, if_neg, List.getElem?_cons_zero, isi_tup hda, isi_str hda, isi_int hda]
        refine ite_satS (fun e5 => ?_) (fun e5 => ?_)
        · have e5 : k < 5 := by simpa using e5
          simp only [dat, decide_eq_true_eq] at hv
          obtain ⟨x, e1, e2, _⟩ := atI_ex (xs := [Val.int (i + 1), .int (i - 1), .int 0, .int (0 - i), .bl (i == 1)]) k0 (by simpa using e5)
          have e2 : dat (d + 3) x = true ∧ wt x ≤ 2 * 0 + 300 := by
            simp only [List.mem_cons, List.not_mem_nil, or_false] at e2
            rcases e2 with rfl | rfl | rfl | rfl | rfl <;> simp [dat, wt] <;> omega
          rw [Int.zero_sub] at e1
          simp (maxSteps := 1000000) (disch := omega) [if_pos, if_neg, List.getElem?_cons_zero, e1]
          exact fin _ _ e2.1 e2.2 hd
        · simp (maxSteps := 1000000) (disch := omega) [if_pos, if_neg, List.getElem?_cons_zero]
          exact odd h hd
      | bl b =>
        simp (maxSteps := 1000000) (disch := omega) [if_pos, if_neg, List.getElem?_cons_zero, isi_tup hda, isi_str hda, isi_int hda]
        refine ite_satS (fun e5 => ?_) (fun e5 => ?_)
        · have e5 : k < 5 := by simpa using e5
          obtain ⟨x, e1, e2, _⟩ := atI_ex (xs := [Val.int ((if b = true then 1 else 0) + 1), Val.int ((if b = true then 1 else 0) - 1), Val.int 0,
            Val.int (-if b = true then 1 else 0), Val.bl (eqv (Val.bl b) (Val.int 1))]) k0 (by simpa using e5)
          have e2 : dat (d + 3) x = true ∧ wt x ≤ 2 * 0 + 300 := by
            simp only [List.mem_cons, List.not_mem_nil, or_false] at e2
            rcases e2 with rfl | rfl | rfl | rfl | rfl <;> cases b <;> simp [dat, wt] <;> omega
          simp (maxSteps := 1000000) (disch := omega) [if_pos, if_neg, List.getElem?_cons_zero, vEq_of (h := h) (x := .bl b) (y := .int 1) rfl rfl rfl rfl, e1]
          exact fin _ _ e2.1 e2.2 hd
        · simp (maxSteps := 1000000) (disch := omega) [if_pos, if_neg, List.getElem?_cons_zero]
          exact odd h hd
      | ref i => exact absurd hv (by cases d <;> simp [dat])
      | fn i => exact absurd hv (by cases d <;> simp [dat])
      | scr i => exact absurd hv (by cases d <;> simp [dat])
      | obj c fs => exact absurd hv (by cases d <;> simp [dat])
      | _ =>
        simp (maxSteps := 1000000) (disch := omega) [if_pos, if_neg, List.getElem?_cons_zero, isi_tup hda, isi_str hda, isi_int hda]
        exact odd h hd
end K01
end

section
set_option linter.all false
set_option autoImplicit false
set_option maxHeartbeats 0
set_option maxRecDepth 100000
namespace K01
open Mir
theorem ws_wt : ∀ (ps : List (Cs × Int)), (∀ p ∈ ps, keyOk p.1 = true) → wtL (ps.map pair) ≤ 12 * ps.length
  | [], _ => by simp [wtL]
  | p :: ps, h => by
    have h1 := h p List.mem_cons_self
    have h2 := ws_wt ps fun q hq => h q (List.mem_cons_of_mem _ hq)
    unfold keyOk at h1
    simp only [Bool.and_eq_true, decide_eq_true_eq] at h1
    simp only [List.map_cons, wtL, pair, wt, List.length_cons]
    omega
theorem key_okC {s : Cs} (h : keyOk s = true) : s.all okC = true := by
  unfold keyOk at h
  simp only [Bool.and_eq_true, decide_eq_true_eq, List.all_eq_true] at h ⊢
  intro c hc
  have := h.2 c hc
  unfold letters at this
  unfold okC
  simp at this
  rw [decide_eq_true_eq]
  omega
theorem ws_dat {ps : List (Cs × Int)} {lo hi : Int} (h : Ws ps lo hi) (hlo : 0 ≤ lo) (hhi : hi ≤ 999999) : (ps.map pair).all (dat 1) = true := by
  rw [List.all_eq_true]
  intro x hx
  obtain ⟨p, hp, rfl⟩ := List.mem_map.mp hx
  have h1 := key_okC (h.ok p hp)
  have h2 := h.bd p hp
  simp only [pair, dat, List.all_cons, List.all_nil, h1, Bool.and_true, Bool.true_and, decide_eq_true_eq]
  omega
theorem good_da {d : Dl} (h : Good d) : dat 3 (dlV d) = true ∧ wt (dlV d) ≤ 110 := by
  have h1 := ws_dat h.reads (by omega) (by omega)
  have h2 := ws_dat h.writes (by omega) (by omega)
  have w1 := ws_wt d.reads h.reads.ok
  have w2 := ws_wt d.writes h.writes.ok
  have l1 := h.reads.le
  have l2 := h.writes.le
  have hh := h.hand
  have hb := h.begun
  have he := h.ended
  constructor
  · simp only [dlV, dat, List.all_cons, List.all_nil, h1, h2, Bool.and_true, Bool.and_eq_true, decide_eq_true_eq]
    refine ⟨by omega, by omega, ?_⟩
    cases e : d.ended with
    | none => rfl
    | some e' =>
      rw [e] at he
      simp only [endV, dat, decide_eq_true_eq]
      have he : d.begun < e' ∧ e' ≤ 999999 := he
      omega
  · have : wt (endV d.ended) = 0 := by cases d.ended <;> rfl
    simp only [dlV, wt, wtL, this]
    omega
theorem ws_B {ps : List (Cs × Int)} {lo : Int} (h : Ws ps lo 999999) : worthsB lo (.tup (ps.map pair)) = true := by
  have h1 : (ps.map pair).all (worthB lo) = true := by
    rw [List.all_eq_true]
    intro x hx
    obtain ⟨p, hp, rfl⟩ := List.mem_map.mp hx
    have h2 := h.bd p hp
    simp only [pair, worthB, keyB, numB, h.ok p hp, Bool.true_and, Bool.and_eq_true, decide_eq_true_eq]
    exact h2
  have h2 : (ps.map pair).map fstS = ps.map Prod.fst := by
    rw [List.map_map]
    rfl
  have h3 : decide ((ps.map pair).length ≤ 4) = true := by
    have := h.le
    simpa using this
  simp only [worthsB, h1, h2, h3, Bool.true_and, upB_pw]
  exact h.up
theorem good_is {d : Dl} (h : Good d) : isDl (dlV d) = true := by
  have hh := h.hand
  have hb := h.begun
  have he := h.ended
  simp only [dlV, isDl, ws_B h.reads, ws_B h.writes, Bool.and_true, numB, Bool.and_eq_true, decide_eq_true_eq]
  refine ⟨⟨hh, hb⟩, ?_⟩
  cases e : d.ended with
  | none =>
    rw [e] at he
    have he : d.reads = [] := he
    rw [he]
    rfl
  | some e' =>
    rw [e] at he
    have he : d.begun < e' ∧ e' ≤ 999999 := he
    simp only [endV, endB, Bool.and_eq_true, decide_eq_true_eq]
    omega
theorem bel0 : Bel [] := fun o h => absurd h (by simp)
def oddH : List Val := [Val.non, Val.bl true, Val.int 0, Val.str [], Val.tup [], Val.lst [], Val.dct [],
                    Val.tup [Val.int 0, Val.int 1, Val.int 2, Val.tup []],
                    Val.tup [Val.int 0, Val.int 1, Val.int 2, Val.tup [], Val.tup [], Val.tup []],
                    Val.lst [Val.int 0, Val.int 1, Val.int 2, Val.tup [], Val.tup []],
                    Val.tup [Val.int 0, Val.int 1, Val.int 1, Val.tup [], Val.tup []],
                    Val.tup [Val.int 0, Val.int 2, Val.int 1, Val.tup [], Val.tup []],
                    Val.tup [Val.int 8, Val.int 1, Val.int 2, Val.tup [], Val.tup []],
                    Val.tup [Val.int 0, Val.int (-1), Val.int 2, Val.tup [], Val.tup []],
                    Val.tup [Val.int 0, Val.int 1, Val.int 1000000, Val.tup [], Val.tup []],
                    Val.tup [Val.int 0, Val.bl true, Val.int 2, Val.tup [], Val.tup []],
                    Val.tup [Val.int 0, Val.int 1, Val.non, Val.tup [Val.tup [Val.str [97], Val.int 0]], Val.tup []],
                    Val.tup
                      [Val.int 0, Val.int 1, Val.int 2, Val.tup [Val.tup [Val.str [97], Val.int 0]],
                        Val.tup [Val.tup [Val.str [97], Val.int 0]]],
                    Val.tup [Val.int 0, Val.int 1, Val.int 2, Val.lst [], Val.tup []],
                    Val.tup [Val.int 0, Val.int 1, Val.int 2, Val.tup [], Val.non],
                    Val.tup [Val.int 0, Val.int 1000000, Val.non, Val.tup [], Val.tup []],
                    Val.tup [Val.int 0, Val.int 999999, Val.non, Val.tup [], Val.tup []],
                    Val.tup [Val.int 0, Val.int (-1), Val.non, Val.tup [], Val.tup []],
                    Val.tup [Val.int 0, Val.int 0, Val.int 1, Val.tup [], Val.tup []]]
theorem oddH_ok : ∀ x ∈ oddH, dat 4 x = true ∧ wt x ≤ 100 := by
  unfold oddH
  simp [List.forall_mem_cons, dat, wt, wtL, wtK, okC]
theorem law_sat (ns : List Int) (hl : ns.length ≤ 63) : (m_law [.scr ns] []).sat fun v _ => v = .bl true := by
  refine defS_sat rfl fun Q hQ => ?_
  have fin : ∀ h, Dk [] h → Q (.bl true) h := fun h hd => hQ _ _ ⟨rfl, by simp, rfl⟩
  simp (maxSteps := 1000000) (disch := omega) [if_pos, if_neg, List.getElem?_cons_zero]
  refine R.sat_mono (deck_sat hl) ?_
  rintro _ h ⟨rfl, hd⟩
  simp (maxSteps := 1000000) (disch := omega) [if_pos, if_neg, List.getElem?_cons_zero]
  refine R.sat_mono (some_dealings_sat hd bel0) ?_
  rintro _ h ⟨ds, rfl, hg, hl40, hd⟩
  simp (maxSteps := 1000000) (disch := omega) [if_pos, if_neg, List.getElem?_cons_zero]
  have hrows : ∃ es : List Dl, List.map dlV ds ++ [Val.tup [Val.int 7, Val.int 0, Val.non, Val.tup [], Val.tup []], Val.tup [Val.int 0, Val.int 0, Val.int 999999, Val.tup [], Val.tup []]] = es.map dlV ∧ ∀ d ∈ es, Good d := by
    have ws0 : ∀ lo, Ws [] lo 999999 := fun lo => ⟨by simp, by simp, by simp, by simp⟩
    refine ⟨ds ++ [⟨7, 0, none, [], []⟩, ⟨0, 0, some 999999, [], []⟩], by simp [dlV, endV], fun d hd => ?_⟩
    rcases List.mem_append.mp hd with hd | hd
    · exact hg d hd
    · simp only [List.mem_cons, List.not_mem_nil, or_false] at hd
      rcases hd with rfl | rfl
      · exact ⟨by show (0:Int) ≤ 7 ∧ (7:Int) ≤ 7; omega, by show (0:Int) ≤ 0 ∧ (0:Int) ≤ 999999; omega, ws0 0, ws0 1, rfl⟩
      · exact ⟨by show (0:Int) ≤ 0 ∧ (0:Int) ≤ 7; omega, by show (0:Int) ≤ 0 ∧ (0:Int) ≤ 999999; omega, ws0 0, ws0 1, by show (0:Int) < 999999 ∧ (999999:Int) ≤ 999999; omega⟩
  obtain ⟨es, he, hge⟩ := hrows
  rw [he]
  simp (maxSteps := 1000000) (disch := omega) [if_pos, if_neg, List.getElem?_cons_zero, vSl, cut_to (show (0:Int) ≤ 12 by omega)]
  rw [← List.map_take]
  have hge : ∀ d ∈ es.take 12, Good d := fun d hd => hge d (List.mem_of_mem_take hd)
  generalize es.map dlV = allRows
  generalize es.take 12 = es at hge
  obtain ⟨oh, hoh⟩ : ∃ oh, oh = oddH := ⟨_, rfl⟩
  have ho : ∀ x ∈ oh, dat 4 x = true ∧ wt x ≤ 100 := by rw [hoh]; exact oddH_ok
  have hol : oh.length ≤ line := by rw [hoh]; decide
  unfold oddH at hoh
  rw [← hoh]
  refine SR.sat_mono (forGo_idx (fun i env h => ∃ (x4 x5 x6 x7 : Option Val), env = [some (Val.scr ns), some (Val.ref 1), some (.tup allRows), some (.lst oh), x4, x5, x6, x7] ∧ Dk [] h) ⟨none, none, none, none, rfl, hd⟩ (fun _ _ _ _ => rfl) ?_) ?_ (fun _ _ h => h) (fun _ _ h => h) (fun _ _ h => h)
  · clear hd
    rintro i x env h N e ⟨x4, x5, x6, x7, rfl, hd⟩ hN
    rw [List.getElem?_map] at e
    obtain ⟨d, hde, rfl⟩ := Option.map_eq_some_iff.mp e
    have hgd := hge d (List.mem_of_getElem? hde)
    obtain ⟨d1, d2⟩ := good_da hgd
    have hda : Da 3 (dlV d) := ⟨d1, by omega⟩
    refine ⟨_, _, rfl, ?_⟩
    simp (maxSteps := 1000000) (disch := omega) [if_pos, if_neg, List.getElem?_cons_zero, dealing_eq hda, good_is hgd]
    refine SR.sat_mono (forGo_idx (fun i env h => ∃ (x5 x6 x7 : Option Val), env = [some (Val.scr ns), some (Val.ref 1), some (.tup allRows), some (.lst oh), some (dlV d), x5, x6, x7] ∧ Dk [] h) ⟨_, _, _, rfl, hd⟩ (fun _ _ _ _ => rfl) ?_) ?_ (fun _ _ h => h) (fun _ _ h => h.elim) (fun _ _ h => h.elim)
    · clear hd
      rintro i x env h N e ⟨x5, x6, x7, rfl, hd⟩ hN
      obtain ⟨hi, rfl⟩ := rng_get0 e
      refine ⟨_, _, rfl, ?_⟩
      simp (maxSteps := 1000000) (disch := omega) [if_pos, if_neg, List.getElem?_cons_zero]
      (refine Mir.R.sat_mono (draw_sat hd (by first | decide | omega) (by first | decide | omega)) ?_; clear hd; rintro _ _ ⟨tw, e, tw0, tw1, hd⟩; subst e)
      simp (maxSteps := 1000000) (disch := omega) [if_pos, if_neg, List.getElem?_cons_zero]
      refine R.sat_mono (bent_sat 8 3 (dlV d) _ _ (by omega) hd bel0 d1 (by omega)) ?_
      clear hd
      rintro w h ⟨w1, w2, hd⟩
      simp (maxSteps := 1000000) (disch := omega) [if_pos, if_neg, List.getElem?_cons_zero]
      refine SR.sat_mono (N := fun env h => ∃ w, env = [some (Val.scr ns), some (Val.ref 1), some (.tup allRows), some (.lst oh), some (dlV d), some (.int i), some (.int tw), some w] ∧ Da 9 w ∧ Dk [] h) ?_ ?_ (fun _ _ h => h) (fun _ _ h => h) (fun _ _ h => h)
      · refine ite_satS (fun e5 => ?_) (fun e5 => ?_)
        · simp (maxSteps := 1000000) (disch := omega) [if_pos, if_neg, List.getElem?_cons_zero]
          refine R.sat_mono (bent_sat 8 6 w _ _ (by omega) hd bel0 w1 (by omega)) ?_
          clear hd
          rintro w' h ⟨w1', w2', hd⟩
          simp (maxSteps := 1000000) (disch := omega) [if_pos, if_neg, List.getElem?_cons_zero]
          exact ⟨⟨w1', by omega⟩, hd⟩
        · simp (maxSteps := 1000000) (disch := omega) [if_pos, if_neg, List.getElem?_cons_zero]
          exact ⟨⟨dat_mono (by omega) w1, by omega⟩, hd⟩
      · clear hd
        rintro env h ⟨w, rfl, hw, hd⟩
        simp (maxSteps := 1000000) (disch := omega) [if_pos, if_neg, List.getElem?_cons_zero]
        refine R.sat_mono (right_sat hd bel0 hw (by omega)) ?_
        clear hd
        rintro _ h ⟨rfl, hd⟩
        simp (maxSteps := 1000000) (disch := omega) [if_pos, if_neg, List.getElem?_cons_zero]
        exact hN _ _ ⟨_, _, _, rfl, hd⟩
    · clear hd
      rintro env h ⟨x5, x6, x7, rfl, hd⟩
      simp (maxSteps := 1000000) (disch := omega) [if_pos, if_neg, List.getElem?_cons_zero]
      refine R.sat_mono (right_sat hd bel0 hda (by omega)) ?_
      clear hd
      rintro _ h ⟨rfl, hd⟩
      simp (maxSteps := 1000000) (disch := omega) [if_pos, if_neg, List.getElem?_cons_zero]
      exact hN _ _ ⟨_, _, _, _, rfl, hd⟩
  · clear hd
    rintro env h ⟨x4, x5, x6, x7, rfl, hd⟩
    simp (maxSteps := 1000000) (disch := omega) [if_pos, if_neg, List.getElem?_cons_zero]
    refine R.sat_mono (lcGo_idx (fun i acc h => Dk [] h ∧ acc = []) ⟨hd, rfl⟩ (fun _ _ _ _ => rfl) ?_) ?_
    · clear hd
      rintro i x acc h N e ⟨hd, rfl⟩ hN
      obtain ⟨o1, o2⟩ := ho x (List.mem_of_getElem? e)
      refine ⟨_, _, rfl, ?_⟩
      simp (maxSteps := 1000000) (disch := omega) [if_pos, if_neg, List.getElem?_cons_zero]
      refine R.sat_mono (right_sat hd bel0 ⟨o1, by omega⟩ (by omega)) ?_
      rintro _ h ⟨rfl, hd⟩
      simp (maxSteps := 1000000) (disch := omega) [if_pos, if_neg, List.getElem?_cons_zero]
      exact hN _ _ ⟨hd, rfl⟩
    · rintro _ h ⟨hd, rfl⟩
      simp (maxSteps := 1000000) (disch := omega) [if_pos, if_neg, List.getElem?_cons_zero]
      exact fin h hd
theorem plain (ns : List Int) (hl : ns.length ≤ 63) : ∃ h', m_law [.scr ns] [] = .ok (.bl true) h' := by
  obtain ⟨v, h', e, rfl⟩ := R.sat_elim (law_sat ns hl)
  exact ⟨h', e⟩
end K01
end

section
set_option linter.all false
set_option Elab.async false
set_option maxRecDepth 100000
set_option maxHeartbeats 0
/-! K01Fin: the end of k01; plain: the plain law (to be proved) -/
namespace K01
open PySem PySem.Spec PyProof.Rows L2 Sim Mir
theorem law_sp {K : PySem.W.Frag} (H : Hp) (a : Addr) (ns : List Int) (hl : ns.length ≤ 63) (hS : SqL K H a (ns.map V.int)) :
    spF ⟨K, fun _ _ => False, fun _ _ => False⟩ 1 m_law [.ref a] H (fun v _ => v = .bl true) fun _ _ _ => False := by
  obtain ⟨h', e⟩ := plain ns hl
  have go : ∀ (Z : Addr → Prop), (∀ b, Z b → H b ≠ none) → ScrAt ⟨K, fun _ _ => False, fun _ _ => False⟩ ⟨Z, fun _ => 0⟩ H a (ns.map V.int) →
      spF ⟨K, fun _ _ => False, fun _ _ => False⟩ 1 m_law [.ref a] H (fun v _ => v = .bl true) fun _ _ _ => False := by
    intro Z hZ hs
    refine ⟨rfl, ⟨Z, fun _ => 0⟩, [], [.scr ns], ⟨hZ, fun i hi => absurd hi (Nat.not_lt_zero _), fun i j hi => absurd hi (Nat.not_lt_zero _), fun i o e => by simp at e⟩, .cons (.scr hs) .nil, ?_⟩
    rw [e]
    intro G' H' v _ _ rv
    cases rv
    rfl
  rcases hS with hS | hS
  · refine go (fun b => b = a) (fun b hb => ?_) (.inl ⟨rfl, hS⟩)
    subst hb
    rcases hS with e | ⟨o, e⟩
    · rw [e]; simp
    · rw [e]; simp
  · exact go (fun _ => False) (fun _ h => h.elim) (.inr hS)
end K01
namespace K01
open PySem PySem.Spec PyProof.Rows L2 Sim Mir
section
variable {P : Program} {w : World} {K : PySem.W.Frag} {mg : Str → Option Value} {h : Heap}
theorem facts (X : K.In h) (G : h.Ns mainGlobals mg) (c : He.SaysD fa fn K) (base : Heap) (hsys : ∃ o, base.get? sysModules = some o) :
    HasG P w K mg base "law" 11 ["_law_script"] (spF ⟨K, fun _ _ => False, fun _ _ => False⟩ 1 m_law) :=
  join (D_is_between X G c) (D_is_key X G c) (D_is_moment X G c) (D_is_worth_of X G c) (D_are_rising X G c) (D_are_worths X G c) (D_are_reads X G c) (D_are_writes X G c) (D_is_dealing X G c) (D__law_deck X G c) (D__law_draw X G c) (D__law_keys X G c) (D__law_worths X G c) (D__law_begun X G c) (D__law_dealings X G c) (D__law_some_dealings X G c) (D__law_is_number X G c) (D__law_is_worth X G c) (D__law_are_worths X G c) (D__law_is_dealing X G c) (D__law_odd X G c) (D__law_bent X G c) (D__law_right X G c) (D_law X G c) rfl (fun _ _ z => z.elim) hsys (b_all X G c) (b_bool X G c) (b_dict X G c) (b_int X G c) (b_isinstance X G c) (b_len X G c) (b_list X G c) (b_max X G c) (b_range X G c) (b_repr X G c) (b_set X G c) (b_sorted X G c) (b_str X G c) (b_sum X G c) (b_tuple X G c) (b_zip X G c) (g_LAST_HAND X G c) (g_LAST_MOMENT X G c) (g_LETTERS X G c) (g_MOST_KEYS X G c) (g_MOST_LETTERS X G c) (g_MOST_WORTH X G c)
end
end K01
open PySem PySem.W PySem.Calls PyProof.Rows
theorem PySem.Challenge.cw_historyjudge_k01_what_are_dealings_holds : PySem.Challenge.rw_historyjudge_k01_what_are_dealings.Holds := by
  w_on; o_law
  refine HandSHeadRun.head_any (r := OpenLaw.row PySem.Challenge.rw_historyjudge_k01_what_are_dealings) (q := view (OpenLaw.row PySem.Challenge.rw_historyjudge_k01_what_are_dealings).prog [31]) (H := K01.hk) (ob := K01.ob) (M := 4000) (loose := K01.names) (d := HandSHeadRun.topDef (OpenLaw.row PySem.Challenge.rw_historyjudge_k01_what_are_dealings).prog 31) (kwd := []) K01.ob_eq
    (by kernel_rfl) (fun s => by kernel_rfl) K01.run (by kernel_rfl) (by kernel_rfl) (by kernel_rfl) (by rfl) (by first | assumption | decide +kernel) (by decide +kernel) ⟨rfl, rfl, rfl, rfl, rfl, by decide +kernel⟩ ?hw ?hc
  case hw => w_witness2
  case hc =>
    refine Sim.walkG (l := PySem.Challenge.rw_historyjudge_k01_what_are_dealings) (n := 63) (k := 11) (x := "_law_script") rfl (by decide) (by kernel_rfl) ⟨rfl, by decide, by decide⟩ (by kernel_rfl) ?F
    intro w mg fa h Y G hmg0
    obtain ⟨K, KX, c⟩ := Y
    have hmg : mg ("law" : PySem.Str) = some (.ref fa) := by
      have e : (HandSHeadRun.topDef (OpenLaw.row PySem.Challenge.rw_historyjudge_k01_what_are_dealings).prog 31).name = ("law" : PySem.Str) := by kernel_rfl
      rw [← e]
      exact hmg0
    refine ⟨K, Sim.spF ⟨K, fun _ _ => False, fun _ _ => False⟩ 1 K01.m_law, KX, fun H a ns hl hS => K01.law_sp H a ns hl hS, fun base _ _ hsys => ?_⟩
    obtain ⟨f, fd, h1, _, h3, h4⟩ := K01.facts (P := (PySem.Challenge.rw_historyjudge_k01_what_are_dealings).prog) (w := w) KX G c base hsys
    have e := h1.symm.trans hmg
    cases e
    exact ⟨fd, h3, h4⟩
end
