import PyProof.Rows.All
import Wide.All
import OpenK.AllK
import Wide.FinOn
import HandS.ForSpec
import HandS.Comp
import HandS.Iter
import HandS.Zip
import HandS.RevRange
import HandS.TryMany
import HandS.Nested
import PyProof.NeKinds
import HandS.Conv
import PyProof.EqAt
import PyProof.EqKinds
import PyProof.TupleCall
import Open.SpecLaws
import KE.OsGo
import HandS.EndTab
import KE.KStateDown
import HandS.Head0
import HandS.Head1
import HandS.Head2
import HandS.Head3
import HandS.Head4
import HandS.HeadHook1
import HandS.HeadHook2
import HandS.HeadHook3
import HandS.HeadHook4
import PySem.Challenge.RW_plainlayout_s02_break_text
set_option Elab.async false
set_option linter.all false
set_option maxRecDepth 100000
set_option maxHeartbeats 2000000
/-! The pure side: data, results, environments, combinators. No program, no heap. -/
namespace PW
open PySem (Str)

/-- not told as a reduction -/
theorem nrfl {α : Sort _} {a b : α} (h : a = b) : a = b := h
/-- data: None, a bool, an int, a text, a list, a tuple, an instance of the class of this number (its fields in order), a def of the module of this number, a list that was handed in from without, an inner def of the kind k with the values that it holds -/
inductive D where
  | non
  | bl (b : Bool)
  | int (i : Int)
  | str (x : Str)
  | lst (l : List D)
  | tup (l : List D)
  | ob (c : Nat) (l : List D)
  | fn (n : Nat)
  | arg (l : List D)
  | clo (k : Nat) (l : List D)

/-- what is raised: NotNotation, Refused with a code -/
inductive Exc where
  | notn
  | refused (c : D)

/-- an outcome: a value, an error raised, or nothing is told -/
inductive R (α : Type) where
  | ok (a : α)
  | ex (e : Exc)
  | bad

/-- an expression's value: it stays as it is; or a list of which only this place knows (fr: it is new) -/
inductive E where
  | cl (d : D)
  | li (fr : Bool) (l : List D)

/-- a slot: nothing, a value that stays, a list that this slot alone knows -/
inductive Sl where
  | un
  | va (d : D)
  | ow (l : List D)

abbrev Env := List Sl
abbrev PEx := Env → R E
abbrev PTe := Env → R Bool
abbrev PAr := Env → R (List D)

/-- where a block of statements ends -/
inductive Fl where
  | nx (r : Env)
  | bk (r : Env)
  | ct (r : Env)
  | rt (e : E)
  | ex (e : Exc)
  | bad

abbrev PSt := Env → Fl

def R.bind {α β : Type} : R α → (α → R β) → R β
  | .ok a, f => f a
  | .ex e, _ => .ex e
  | .bad, _ => .bad
@[simp] theorem R.bind_ok {α β : Type} (a : α) (f : α → R β) : (R.ok a).bind f = f a := nrfl rfl
@[simp] theorem R.bind_ex {α β : Type} (e : Exc) (f : α → R β) : (R.ex e : R α).bind f = .ex e := nrfl rfl
@[simp] theorem R.bind_bad {α β : Type} (f : α → R β) : (R.bad : R α).bind f = .bad := nrfl rfl
/-- an expression's outcome, then a statement's -/
def R.fl {α : Type} : R α → (α → Fl) → Fl
  | .ok a, f => f a
  | .ex e, _ => .ex e
  | .bad, _ => .bad
@[simp] theorem R.fl_ok {α : Type} (a : α) (f : α → Fl) : (R.ok a).fl f = f a := nrfl rfl
@[simp] theorem R.fl_ex {α : Type} (e : Exc) (f : α → Fl) : (R.ex e : R α).fl f = .ex e := nrfl rfl
@[simp] theorem R.fl_bad {α : Type} (f : α → Fl) : (R.bad : R α).fl f = .bad := nrfl rfl
def R.fls : R Env → (Env → Fl) → Fl := R.fl

/-- as read: what the value is now -/
def E.rd : E → D
  | .cl d => d
  | .li _ l => .lst l
@[simp] theorem E.rd_cl (d : D) : (E.cl d).rd = d := nrfl rfl
@[simp] theorem E.rd_li (f : Bool) (l : List D) : (E.li f l).rd = .lst l := nrfl rfl
/-- as kept: a list that a slot alone knows can't be given away -/
def E.keep : E → R D
  | .cl d => .ok d
  | .li true l => .ok (.lst l)
  | .li false _ => .bad
@[simp] theorem E.keep_cl (d : D) : (E.cl d).keep = .ok d := nrfl rfl
@[simp] theorem E.keep_li (l : List D) : (E.li true l).keep = .ok (.lst l) := nrfl rfl
@[simp] theorem E.keep_li0 (l : List D) : (E.li false l).keep = .bad := nrfl rfl

/-! ### the greatest length of a list or a text -/
abbrev line : Nat := 16777216

/-! ### names and constants -/
def pVar (i : Nat) : PEx := fun r => match r[i]? with
  | some (.va d) => .ok (.cl d)
  | some (.ow l) => .ok (.li false l)
  | _ => .bad
def pC (d : D) : PEx := fun _ => .ok (.cl d)
def pT (d : D) : PEx := fun _ => .ok (.cl d)

/-! ### two values -/
/-- read both, then f -/
def pOp (f : D → D → R E) (a b : PEx) : PEx := fun r => (a r).bind fun x => (b r).bind fun y => f x.rd y.rd
/-- read one, then f -/
def pUn (f : D → R E) (a : PEx) : PEx := fun r => (a r).bind fun x => f x.rd

def small64 (i : Int) : Bool := decide (-(2 ^ 64) < i) && decide (i < 2 ^ 64)
def oAdd : D → D → R E
  | .int i, .int j => .ok (.cl (.int (i + j)))
  | .lst a, .lst b => if a.length + b.length ≤ line then .ok (.li true (a ++ b)) else .bad
  | .str a, .str b => if a.length + b.length ≤ line then .ok (.cl (.str (a ++ b))) else .bad
  | _, _ => .bad
def oSub : D → D → R E
  | .int i, .int j => .ok (.cl (.int (i - j)))
  | _, _ => .bad
def oNeg : D → R E
  | .int i => .ok (.cl (.int (-i)))
  | _ => .bad
/-- numbers, one of them below 2^64; a list times a number -/
def oMul : D → D → R E
  | .int i, .int j => if small64 i || small64 j then .ok (.cl (.int (i * j))) else .bad
  | .lst a, .int k => if -(2 ^ 63) ≤ k ∧ k < 2 ^ 63 ∧ a.length * k.toNat ≤ line then .ok (.li true (List.replicate k.toNat a).flatten) else .bad
  | _, _ => .bad
/-- by a positive number below 2^30 -/
def oDiv : D → D → R E
  | .int i, .int j => if 0 < j ∧ j < 1073741824 then .ok (.cl (.int (i / j))) else .bad
  | _, _ => .bad
def oMod : D → D → R E
  | .int i, .int j => if 0 < j then .ok (.cl (.int (i % j))) else .bad
  | _, _ => .bad
def oCmp (p : Int → Int → Bool) : D → D → R E
  | .int i, .int j => .ok (.cl (.bl (p i j)))
  | _, _ => .bad
abbrev oLt := oCmp fun i j => decide (i < j)
abbrev oLe := oCmp fun i j => decide (i ≤ j)
abbrev oGt := oCmp fun i j => decide (j < i)
abbrev oGe := oCmp fun i j => decide (j ≤ i)

/-- None, numbers, texts, bools compared -/
def D.sc : D → D → Option Bool
  | .non, .non => some true
  | .non, .int _ => some false
  | .int _, .non => some false
  | .int i, .int j => some (decide (i = j))
  | .str i, .str j => some (decide (i = j))
  | .bl i, .bl j => some (decide (i = j))
  | _, _ => none
/-- the numbers of a list of numbers -/
def ints? : List D → Option (List Int)
  | [] => some []
  | .int i :: r => (ints? r).map (i :: ·)
  | _ :: _ => none
/-- ==: scalars; a list with the empty one; lists of numbers -/
def eqv : D → D → Option Bool
  | .lst a, .lst b => if b.isEmpty then some a.isEmpty else match ints? a, ints? b with
    | some x, some y => some (decide (x = y))
    | _, _ => none
  | a, b => D.sc a b
def oEq (neg : Bool) (a b : D) : R E := match eqv a b with
  | some k => .ok (.cl (.bl (if neg then !k else k)))
  | none => .bad
def D.isNon : D → Bool
  | .non => true
  | _ => false
def oIsN (neg : Bool) (d : D) : R E := .ok (.cl (.bl (if neg then !d.isNon else d.isNon)))
/-- flat things that == tells apart -/
def D.flat : D → Bool
  | .int _ => true
  | .str _ => true
  | _ => false
def D.same : D → D → Bool
  | .int i, .int j => decide (i = j)
  | .str i, .str j => decide (i = j)
  | _, _ => false
def D.items : D → Option (List D)
  | .lst l => some l
  | .tup l => some l
  | .arg l => some l
  | _ => none
def oIn (neg : Bool) (x y : D) : R E := match y.items with
  | some l => if x.flat && l.all D.flat then .ok (.cl (.bl (if neg then !(l.any fun z => D.same z x) else l.any fun z => D.same z x))) else .bad
  | none => .bad
def D.len : D → Option Nat
  | .lst l => some l.length
  | .tup l => some l.length
  | .arg l => some l.length
  | .str x => if x.length ≤ line then some x.length else none
  | _ => none
def oLen (x : D) : R E := match x.len with
  | some n => .ok (.cl (.int n))
  | none => .bad
/-- the place of an index of any sign -/
def ixOf (n : Nat) (i : Int) : Option Nat := if 0 ≤ i then (if i < n then some i.toNat else none) else if -(n : Int) ≤ i then some (i + n).toNat else none
def oIx : D → D → R E
  | .lst l, .int i => match (ixOf l.length i).bind fun j => l[j]? with
    | some d => .ok (.cl d)
    | none => .bad
  | .tup l, .int i => match (ixOf l.length i).bind fun j => l[j]? with
    | some d => .ok (.cl d)
    | none => .bad
  | .arg l, .int i => match (ixOf l.length i).bind fun j => l[j]? with
    | some d => .ok (.cl d)
    | none => .bad
  | .str x, .int i => if x.length ≤ line then match (ixOf x.cps.toList.length i).bind fun j => x.cps.toList[j]? with
    | some c => .ok (.cl (.str ⟨#[c]⟩))
    | none => .bad
    else .bad
  | _, _ => .bad
/-- where a slice begins or ends -/
def sIx (n d : Nat) : Option Int → Nat
  | none => d
  | some v => (if v < 0 then max (v + (n : Int)) 0 else min v (n : Int)).toNat
def cut {α : Type} (l : List α) (lo hi : Option Int) : List α := (l.drop (sIx l.length 0 lo)).take (sIx l.length l.length hi - sIx l.length 0 lo)
abbrev PPart := Env → R (Option Int)
def pNoPart : PPart := fun _ => .ok none
def pPart (a : PEx) : PPart := fun r => (a r).bind fun x => match x.rd with
  | .int i => .ok (some i)
  | _ => .bad
def pSl (a : PEx) (lo hi : PPart) : PEx := fun r => (a r).bind fun x => (lo r).bind fun i => (hi r).bind fun j => match x.rd with
  | .lst l => .ok (.li true (cut l i j))
  | _ => .bad

/-! ### tests -/
def pB (a : PEx) : PTe := fun r => (a r).bind fun x => match x.rd with
  | .bl b => .ok b
  | _ => .bad
def pNot (a : PTe) : PTe := fun r => (a r).bind fun b => .ok (!b)
def pAnd (a b : PTe) : PTe := fun r => (a r).bind fun x => if x then b r else .ok false
def pOr (a b : PTe) : PTe := fun r => (a r).bind fun x => if x then .ok true else b r
/-- a op b op' c -/
def pChain (f g : D → D → R E) (a b c : PEx) : PEx := fun r => (a r).bind fun x => (b r).bind fun y => (f x.rd y.rd).bind fun z => match z.rd with
  | .bl true => (c r).bind fun u => g y.rd u.rd
  | .bl false => .ok (.cl (.bl false))
  | _ => .bad
/-- and, or, not as values -/
def pAndV (a b : PEx) : PEx := fun r => (a r).bind fun x => match x.rd with
  | .bl true => b r
  | .bl false => .ok (.cl (.bl false))
  | _ => .bad
def pOrV (a b : PEx) : PEx := fun r => (a r).bind fun x => match x.rd with
  | .bl true => .ok (.cl (.bl true))
  | .bl false => b r
  | _ => .bad
def oNot : D → R E
  | .bl b => .ok (.cl (.bl (!b)))
  | _ => .bad
def pIf (t : PTe) (a b : PEx) : PEx := fun r => (t r).bind fun x => if x then a r else b r

/-! ### arguments, displays, calls -/
def pNil : PAr := fun _ => .ok []
def pCons (a : PEx) (b : PAr) : PAr := fun r => (a r).bind fun x => x.keep.bind fun d => (b r).bind fun l => .ok (d :: l)
/-- arguments as they are read now (for calls that give scalars back) -/
def pConsR (a : PEx) (b : PAr) : PAr := fun r => (a r).bind fun x => (b r).bind fun l => .ok (x.rd :: l)
def pLst (a : PAr) : PEx := fun r => (a r).bind fun l => if l.length ≤ line then .ok (.li true l) else .bad
def pTup (a : PAr) : PEx := fun r => (a r).bind fun l => if l.length ≤ line then .ok (.cl (.tup l)) else .bad
abbrev Fn := List D → R E
def pCall (F : Fn) (a : PAr) : PEx := fun r => (a r).bind F
def D.scalar : D → Bool
  | .non => true
  | .bl _ => true
  | .int _ => true
  | .str _ => true
  | _ => false
/-- a call of which only a scalar comes back: its arguments are lent -/
def pLend (F : Fn) (a : PAr) : PEx := fun r => (a r).bind fun l => (F l).bind fun x => match x with
  | .cl d => if d.scalar then .ok (.cl d) else .bad
  | .li _ _ => .bad
/-- x(..), x a slot that holds an inner def: what it holds comes behind the arguments -/
def pCallC (i : Nat) (G : Nat → Fn) (a : PAr) : PEx := fun r => match r[i]? with
  | some (.va (.clo k l)) => (a r).bind fun as => G k (as ++ l)
  | _ => .bad
/-- o.m(..), o an instance of the class c -/
def pMeth (c : Nat) (F : Fn) (o : PEx) (a : PAr) : PEx := fun r => (o r).bind fun x => match x with
  | .cl (.ob c' l) => if c' = c then (a r).bind fun as => F (.ob c' l :: as) else .bad
  | _ => .bad
/-- C(..), an __init__ that takes the fields in order -/
def pMake (c n : Nat) (a : PAr) : PEx := fun r => (a r).bind fun l => if l.length = n then .ok (.cl (.ob c l)) else .bad
/-- e.f: ix tells the place of the field by the class -/
def pAttr (ix : Nat → Option Nat) (a : PEx) : PEx := fun r => (a r).bind fun x => match x with
  | .cl (.ob c l) => match (ix c).bind fun i => l[i]? with
    | some d => .ok (.cl d)
    | none => .bad
  | _ => .bad

/-- the k-th field, of the class c alone -/
def ixc (c k : Nat) : Nat → Option Nat := fun d => if d = c then some k else none

/-! ### built-in functions -/
def bMax2 : D → D → R E
  | .int i, .int j => .ok (.cl (.int (if j > i then j else i)))
  | _, _ => .bad
def bMin2 : D → D → R E
  | .int i, .int j => .ok (.cl (.int (if j < i then j else i)))
  | _, _ => .bad
def bInt : D → R E
  | .int i => .ok (.cl (.int i))
  | .bl k => .ok (.cl (.int (if k then 1 else 0)))
  | _ => .bad
def bStr : D → R E
  | .int i => if i.natAbs.log2 < 1920 then .ok (.cl (.str (PySem.Str.ofString (toString i)))) else .bad
  | _ => .bad
def bOrd : D → R E
  | .str x => if x.length = 1 then .ok (.cl (.int ((x.cps.getD 0 0 : Nat) : Int))) else .bad
  | _ => .bad
def bSum : D → R E
  | .lst l => match ints? l with
    | some ns => .ok (.cl (.int ns.sum))
    | none => .bad
  | .arg l => match ints? l with
    | some ns => .ok (.cl (.int ns.sum))
    | none => .bad
  | _ => .bad
/-- the greatest of a list of numbers -/
def maxOf : Int → List Int → Int
  | m, [] => m
  | m, x :: r => maxOf (if x > m then x else m) r
def bMax : D → R E
  | .lst l => match ints? l with
    | some (x :: r) => .ok (.cl (.int (maxOf x r)))
    | _ => .bad
  | _ => .bad
def bools? : List D → Option (List Bool)
  | [] => some []
  | .bl i :: r => (bools? r).map (i :: ·)
  | _ :: _ => none
def bAll : D → R E
  | .lst l => match bools? l with
    | some bs => .ok (.cl (.bl (bs.all id)))
    | none => .bad
  | _ => .bad
def bList : D → R E
  | .lst l => .ok (.li true l)
  | _ => .bad

/-! ### targets -/
abbrev PTg := D → Env → R Env
def gSet (i : Nat) : PTg := fun d r => .ok (r.set i (.va d))
def gNil' : List D → Env → R Env
  | [], r => .ok r
  | _ :: _, _ => .bad
def gCons' (g : PTg) (h : List D → Env → R Env) : List D → Env → R Env
  | d :: l, r => (g d r).bind fun r1 => h l r1
  | [], _ => .bad
/-- (a, b, ..) -/
def gTup' (n : Nat) (h : List D → Env → R Env) : PTg := fun d r => match d with
  | .tup l => if l.length = n then h l r else .bad
  | _ => .bad

/-! ### what is walked: the items -/
abbrev PIt := Env → R (List D)
/-- a list (kept: the body may change slots' lists) -/
def iLst (a : PEx) : PIt := fun r => (a r).bind fun x => x.keep.bind fun d => match d with
  | .lst l => .ok l
  | .arg l => .ok l
  | _ => .bad
/-- a list as it is read (in a comprehension nothing is changed) -/
def iLstR (a : PEx) : PIt := fun r => (a r).bind fun x => match x.rd with
  | .lst l => .ok l
  | .arg l => .ok l
  | _ => .bad
def rangeL (lo hi : Int) : List D := (List.range (hi - lo).toNat).map fun i => .int (lo + (i : Nat))
def r62 (i : Int) : Bool := decide (-(2 ^ 62) ≤ i) && decide (i < 2 ^ 62)
def iRng1 (a : PEx) : PIt := fun r => (a r).bind fun x => match x.rd with
  | .int n => if r62 n then .ok (rangeL 0 n) else .bad
  | _ => .bad
def iRng2 (a b : PEx) : PIt := fun r => (a r).bind fun x => (b r).bind fun y => match x.rd, y.rd with
  | .int n, .int m => if r62 n && r62 m then .ok (rangeL n m) else .bad
  | _, _ => .bad
def iRevR1 (a : PEx) : PIt := fun r => (a r).bind fun x => match x.rd with
  | .int n => if r62 n then .ok ((rangeL 0 n).reverse) else .bad
  | _ => .bad
def enumL : Nat → List D → List D
  | _, [] => []
  | k, d :: r => .tup [.int (k : Nat), d] :: enumL (k + 1) r
def iEnum (a : PEx) : PIt := fun r => (a r).bind fun x => x.keep.bind fun d => match d with
  | .lst l => .ok (enumL 0 l)
  | _ => .bad
def zipL : List D → List D → List D
  | d :: r, e :: s => .tup [d, e] :: zipL r s
  | _, _ => []
def iZip (a b : PEx) : PIt := fun r => (a r).bind fun x => x.keep.bind fun d => (b r).bind fun y => y.keep.bind fun e => match d, e with
  | .lst l, .lst m => .ok (zipL l m)
  | _, _ => .bad
/-- a text, sign by sign -/
def iStr (a : PEx) : PIt := fun r => (a r).bind fun x => match x.rd with
  | .str x => .ok (x.cps.toList.map fun c => .str ⟨#[c]⟩)
  | _ => .bad

/-! ### comprehensions -/
def wipe (r : Env) : List Nat → Env
  | [] => r
  | v :: vs => (wipe r vs).set v .un
def lcLoop (g : PTg) (t : PTe) (e : PEx) (r0 : Env) : List D → List D → R E
  | [], acc => .ok (.li true acc)
  | d :: l, acc => (g d r0).bind fun r1 => (t r1).bind fun b => if b then (e r1).bind fun x => x.keep.bind fun y => if acc.length < line then lcLoop g t e r0 l (acc ++ [y]) else .bad
    else lcLoop g t e r0 l acc
def pLc (vs : List Nat) (it : PIt) (g : PTg) (t : PTe) (e : PEx) : PEx := fun r => (it r).bind fun l => lcLoop g t e (wipe r vs) l []
def pYes : PTe := fun _ => .ok true
/-- nothing is raised within -/
def R.nox {α : Type} : R α → R α
  | .ok a => .ok a
  | _ => .bad
def pNoxE (a : PEx) : PEx := fun r => (a r).nox
def pNoxT (a : PTe) : PTe := fun r => (a r).nox

/-! ### statements -/
def sNext : PSt := fun r => .nx r
def sSeq (a b : PSt) : PSt := fun r => match a r with
  | .nx r1 => b r1
  | o => o
def sBreak : PSt := fun r => .bk r
def sCont : PSt := fun r => .ct r
def sRet (a : PEx) : PSt := fun r => (a r).fl fun x => match x with
  | .cl d => .rt (.cl d)
  | .li true l => .rt (.li true l)
  | .li false _ => .bad
/-- return x, x a slot -/
def sRetV (i : Nat) : PSt := fun r => match r[i]? with
  | some (.va d) => .rt (.cl d)
  | some (.ow l) => .rt (.li true l)
  | _ => .bad
def sRetN : PSt := fun _ => .rt (.cl .non)
def sDrop (a : PEx) : PSt := fun r => (a r).fl fun _ => .nx r
def sIf (t : PTe) (a b : PSt) : PSt := fun r => (t r).fl fun x => if x then a r else b r
/-- x = e: a new list belongs to x alone -/
def sSet (i : Nat) (a : PEx) : PSt := fun r => (a r).fl fun x => match x with
  | .cl d => .nx (r.set i (.va d))
  | .li true l => .nx (r.set i (.ow l))
  | .li false _ => .bad
/-- x = e: x is never changed in place -/
def sSetK (i : Nat) (a : PEx) : PSt := fun r => (a r).fl fun x => x.keep.fl fun d => .nx (r.set i (.va d))
/-- (a, b) = e -/
def sSetT (g : PTg) (a : PEx) : PSt := fun r => (a r).fl fun x => x.keep.fl fun d => (g d r).fl fun r1 => .nx r1
def oAddI : D → D → R E
  | .int i, .int j => .ok (.cl (.int (i + j)))
  | _, _ => .bad
def sAug (i : Nat) (f : D → D → R E) (a : PEx) : PSt := fun r => match r[i]? with
  | some (.va d) => (a r).fl fun y => (f d y.rd).fl fun z => match z with
    | .cl d => .nx (r.set i (.va d))
    | .li _ _ => .bad
  | _ => .bad
/-- the list of a slot is given away: from now on it stays as it is -/
def frz1 (i : Nat) (r : Env) : Env := match r[i]? with
  | some (.ow l) => r.set i (.va (.lst l))
  | _ => r
def frz : List Nat → Env → Env
  | [], r => r
  | i :: l, r => frz l (frz1 i r)
def sFrz (l : List Nat) (s : PSt) : PSt := fun r => s (frz l r)
def sApp (i : Nat) (a : PEx) : PSt := fun r => match r[i]? with
  | some (.ow _) => (a r).fl fun x => x.keep.fl fun d => match r[i]? with
    | some (.ow l) => if l.length < line then .nx (r.set i (.ow (l ++ [d]))) else .bad
    | _ => .bad
  | _ => .bad
def sExt (i : Nat) (a : PEx) : PSt := fun r => match r[i]? with
  | some (.ow l) => (a r).fl fun x => match x.rd with
    | .lst m => if l.length + m.length ≤ line then .nx (r.set i (.ow (l ++ m))) else .bad
    | _ => .bad
  | _ => .bad
/-- x[k] = e -/
def sPut (i : Nat) (k : PEx) (a : PEx) : PSt := fun r => match r[i]? with
  | some (.ow l) => (a r).fl fun x => x.keep.fl fun d => (k r).fl fun y => match y.rd with
    | .int z => match ixOf l.length z with
      | some j => .nx (r.set i (.ow (l.set j d)))
      | none => .bad
    | _ => .bad
  | _ => .bad
/-- x[k] op= e -/
def sPutA (i : Nat) (k : PEx) (f : D → D → R E) (a : PEx) : PSt := fun r => (k r).fl fun y => match r[i]?, y.rd with
  | some (.ow l), .int z => match ixOf l.length z with
    | some j => match l[j]? with
      | some d => (a r).fl fun x => (f d x.rd).fl fun u => match u with
        | .cl e => .nx (r.set i (.ow (l.set j e)))
        | .li _ _ => .bad
      | none => .bad
    | none => .bad
  | _, _ => .bad
def forL (g : PTg) (b : PSt) : List D → PSt
  | [], r => .nx r
  | d :: l, r => (g d r).fl fun r1 => match b r1 with
    | .nx r2 => forL g b l r2
    | .ct r2 => forL g b l r2
    | .bk r2 => .nx r2
    | o => o
def sFor (it : PIt) (g : PTg) (b : PSt) : PSt := fun r => (it r).fl fun l => forL g b l r
def whileN (t : PTe) (b : PSt) : Nat → PSt
  | 0, _ => .bad
  | n + 1, r => (t r).fl fun x => if x then match b r with
    | .nx r2 => whileN t b n r2
    | .ct r2 => whileN t b n r2
    | .bk r2 => .nx r2
    | o => o
    else .nx r
/-- turns that a while may take -/
abbrev fuel : Nat := 1000000
def sWhile (t : PTe) (b : PSt) : PSt := whileN t b fuel
def sRaise (e : Exc) : PSt := fun _ => .ex e
def sRefuse (a : PEx) : PSt := fun r => (a r).fl fun x => x.keep.fl fun d => .ex (.refused d)
/-- try: a, except Refused as x (slot i): return [x.code] -/
def sTryRef (a : PSt) : PSt := fun r => match a r with
  | .ex (.refused d) => if d.scalar then .rt (.li true [d]) else .bad
  | .ex _ => .bad
  | o => o

/-- a def of a parameters and n slots by its body -/
def run (a n : Nat) (b : PSt) : Fn := fun ds => if ds.length = a then match b (ds.map Sl.va ++ List.replicate (n - a) .un) with
  | .rt e => .ok e
  | .nx _ => .ok (.cl .non)
  | .ex e => .ex e
  | _ => .bad
  else .bad
theorem run_ar {a n : Nat} {b : PSt} : ∀ l : List D, l.length ≠ a → run a n b l = .bad := fun l h => by
  unfold run
  rw [if_neg h]
/-! ### inner defs -/
def slotVals (r : Env) : List Nat → Option (List D)
  | [] => some []
  | j :: js => match r[j]? with
    | some (.va d) => (slotVals r js).map (d :: ·)
    | _ => none
/-- the slot i holds the inner def of the kind k with what the slots js hold -/
def sClo (i k : Nat) (js : List Nat) : PSt := fun r => match slotVals r js with
  | some l => .nx (r.set i (.va (.clo k l)))
  | none => .bad
mutual
/-- no inner def within -/
def D.plain : D → Bool
  | .lst l => plainAll l
  | .tup l => plainAll l
  | .arg l => plainAll l
  | .ob _ l => plainAll l
  | .clo _ _ => false
  | _ => true
def plainAll : List D → Bool
  | [] => true
  | d :: l => D.plain d && plainAll l
end
def E.plain : E → Bool
  | .cl d => d.plain
  | .li _ l => plainAll l
/-- x(e, f), f a slot that holds an inner def of the kind kk; what it holds stands in the slots js -/
def pCallB (kk : Nat) (F : Fn) (a : PEx) (i : Nat) (js : List Nat) : PEx := fun r => (a r).bind fun x => match x.rd, r[i]?, slotVals r js with
  | .int n, some (.va (.clo k _)), some l => if k = kk ∧ plainAll l = true then match F [.int n, .clo kk l] with
    | .ok e => if e.plain then .ok e else .bad
    | _ => .bad
    else .bad
  | _, _, _ => .bad
end PW
namespace PW
open PySem PySem.Spec PyProof.Rows L2

/-- what is said of the text: the written part, the module's names, the classes by number and their attributes, the defs by number, the classes of the errors; J: what holds of the heap's tables; the inner defs by kind -/
structure Tx where
  K : PySem.W.Frag
  mg : Str → Option Value
  cls : Nat → Addr
  nms : Nat → List Str
  fns : Nat → Str
  CR : Addr
  CN : Addr
  J : Hp → Prop
  clo : Nat → Nat → List D → NdefX.NF → Prop

def Sys : HO → Prop
  | .tbl _ => True
  | .ext _ => True
  | _ => False
structure TxOk (T : Tx) : Prop where
  js : ∀ H H' : Hp, T.J H → (∀ b o, H b = some o → Sys o → H' b = some o) → T.J H'

/-! ### data in a heap -/
mutual
def Rep (T : Tx) (B : Hp) : V → D → Prop
  | v, .non => v = .non
  | v, .bl b => v = .bl b
  | v, .int i => v = .int i
  | v, .str x => v = .str x
  | v, .lst l => ∃ a vs, v = .ref a ∧ Rd B a (.lst vs) ∧ Reps T B vs l
  | v, .tup l => ∃ a vs, v = .ref a ∧ SqT T.K B a vs ∧ Reps T B vs l
  | v, .ob c l => ∃ a dx vs, v = .ref a ∧ B a = some (.ins (T.cls c) dx ((T.nms c).zip vs)) ∧ vs.length = (T.nms c).length ∧ Reps T B vs l
  | v, .fn n => ∃ f, v = .ref f ∧ T.mg (T.fns n) = some (.ref f)
  | v, .arg l => ∃ a vs, v = .ref a ∧ SqL T.K B a vs ∧ Reps T B vs l
  | v, .clo k l => ∃ f F, v = .ref f ∧ B f = some (NdefX.FnO f F) ∧ B F.c = some (LamX.CodeO F.c F.qual) ∧ T.clo k f l F
def Reps (T : Tx) (B : Hp) : List V → List D → Prop
  | [], [] => True
  | v :: vs, d :: ds => Rep T B v d ∧ Reps T B vs ds
  | [], _ :: _ => False
  | _ :: _, [] => False
end
theorem Rd.mono {B B' : Hp} {a : Addr} {u : HO} (e : Same B B') (h : Rd B a u) : Rd B' a u := by
  rcases h with h | ⟨o, h⟩
  · exact .inl (e _ _ h)
  · exact .inr ⟨o, e _ _ h⟩
theorem SqL.mono {K : PySem.W.Frag} {B B' : Hp} {a : Addr} {xs : List V} (e : Same B B') (h : SqL K B a xs) : SqL K B' a xs := by
  rcases h with h | h
  · exact .inl (Rd.mono e h)
  · exact .inr h
theorem SqT.mono {K : PySem.W.Frag} {B B' : Hp} {a : Addr} {xs : List V} (e : Same B B') (h : SqT K B a xs) : SqT K B' a xs := by
  rcases h with h | h
  · exact .inl (Rd.mono e h)
  · exact .inr h
mutual
theorem Rep.mono {T : Tx} {B B' : Hp} (e : Same B B') : ∀ (d : D) (v : V), Rep T B v d → Rep T B' v d
  | .non, _, h => h
  | .bl _, _, h => h
  | .int _, _, h => h
  | .str _, _, h => h
  | .lst l, _, ⟨a, vs, h1, h2, h3⟩ => ⟨a, vs, h1, Rd.mono e h2, Reps.mono e l vs h3⟩
  | .tup l, _, ⟨a, vs, h1, h2, h3⟩ => ⟨a, vs, h1, SqT.mono e h2, Reps.mono e l vs h3⟩
  | .ob c l, _, ⟨a, dx, vs, h1, h2, h3, h4⟩ => ⟨a, dx, vs, h1, e _ _ h2, h3, Reps.mono e l vs h4⟩
  | .fn _, _, h => h
  | .arg l, _, ⟨a, vs, h1, h2, h3⟩ => ⟨a, vs, h1, SqL.mono e h2, Reps.mono e l vs h3⟩
  | .clo _ _, _, ⟨f, F, h1, h2, h3, h4⟩ => ⟨f, F, h1, e _ _ h2, e _ _ h3, h4⟩
theorem Reps.mono {T : Tx} {B B' : Hp} (e : Same B B') : ∀ (l : List D) (vs : List V), Reps T B vs l → Reps T B' vs l
  | [], [], h => h
  | d :: l, v :: vs, ⟨h1, h2⟩ => ⟨Rep.mono e d v h1, Reps.mono e l vs h2⟩
  | [], _ :: _, h => h
  | _ :: _, [], h => h
end
theorem Reps.length {T : Tx} {B : Hp} : ∀ {l : List D} {vs : List V}, Reps T B vs l → vs.length = l.length
  | [], [], _ => rfl
  | _ :: l, _ :: vs, ⟨_, h⟩ => by rw [List.length_cons, List.length_cons, Reps.length h]
  | [], _ :: _, h => h.elim
  | _ :: _, [], h => h.elim
theorem Reps.get {T : Tx} {B : Hp} : ∀ {l : List D} {vs : List V} {i : Nat} {d : D}, Reps T B vs l → l[i]? = some d → ∃ v, vs[i]? = some v ∧ Rep T B v d
  | [], [], _, _, _, h => by simp at h
  | d :: l, v :: vs, 0, e, ⟨h1, _⟩, h => by
    simp at h
    subst h
    exact ⟨v, rfl, h1⟩
  | d :: l, v :: vs, i + 1, e, ⟨_, h2⟩, h => by
    obtain ⟨u, h3, h4⟩ := Reps.get (i := i) h2 (by simpa using h)
    exact ⟨u, by simpa using h3, h4⟩
  | [], _ :: _, _, _, h, _ => h.elim
  | _ :: _, [], _, _, h, _ => h.elim
theorem Reps.getV {T : Tx} {B : Hp} : ∀ {l : List D} {vs : List V} {i : Nat} {v : V}, Reps T B vs l → vs[i]? = some v → ∃ d, l[i]? = some d ∧ Rep T B v d
  | [], [], _, _, _, h => by simp at h
  | d :: l, v :: vs, 0, e, ⟨h1, _⟩, h => by
    simp at h
    subst h
    exact ⟨d, rfl, h1⟩
  | d :: l, v :: vs, i + 1, e, ⟨_, h2⟩, h => by
    obtain ⟨u, h3, h4⟩ := Reps.getV (i := i) h2 (by simpa using h)
    exact ⟨u, by simpa using h3, h4⟩
  | [], _ :: _, _, _, h, _ => h.elim
  | _ :: _, [], _, _, h, _ => h.elim
theorem Reps.append {T : Tx} {B : Hp} : ∀ {l m : List D} {vs us : List V}, Reps T B vs l → Reps T B us m → Reps T B (vs ++ us) (l ++ m)
  | [], _, [], _, _, h => h
  | _ :: _, _, _ :: _, _, ⟨h1, h2⟩, h => ⟨h1, Reps.append h2 h⟩
  | [], _, _ :: _, _, h, _ => h.elim
  | _ :: _, _, [], _, h, _ => h.elim
theorem Reps.one {T : Tx} {B : Hp} {v : V} {d : D} (h : Rep T B v d) : Reps T B [v] [d] := ⟨h, trivial⟩
theorem Reps.set {T : Tx} {B : Hp} {v : V} {d : D} (h : Rep T B v d) : ∀ {l : List D} {vs : List V} (j : Nat), Reps T B vs l → Reps T B (vs.set j v) (l.set j d)
  | [], [], _, _ => trivial
  | _ :: _, _ :: _, 0, ⟨_, h2⟩ => ⟨h, h2⟩
  | _ :: _, _ :: _, j + 1, ⟨h1, h2⟩ => ⟨h1, Reps.set h j h2⟩
  | [], _ :: _, _, z => z.elim
  | _ :: _, [], _, z => z.elim
theorem Reps.drop {T : Tx} {B : Hp} : ∀ {l : List D} {vs : List V} (n : Nat), Reps T B vs l → Reps T B (vs.drop n) (l.drop n)
  | _, _, 0, h => by simpa using h
  | [], [], _ + 1, _ => by simp [Reps]
  | _ :: _, _ :: _, n + 1, ⟨_, h⟩ => by simpa using Reps.drop n h
  | [], _ :: _, _, h => h.elim
  | _ :: _, [], _, h => h.elim
theorem Reps.take {T : Tx} {B : Hp} : ∀ {l : List D} {vs : List V} (n : Nat), Reps T B vs l → Reps T B (vs.take n) (l.take n)
  | _, _, 0, h => by simp [Reps]
  | [], [], _ + 1, _ => by simp [Reps]
  | _ :: _, _ :: _, n + 1, ⟨h1, h⟩ => by
    simp only [List.take_succ_cons]
    exact ⟨h1, Reps.take n h⟩
  | [], _ :: _, _, h => h.elim
  | _ :: _, [], _, h => h.elim
theorem Reps.rep {T : Tx} {B : Hp} {l : List D} {vs : List V} (h : Reps T B vs l) : ∀ k : Nat, Reps T B (List.replicate k vs).flatten (List.replicate k l).flatten
  | 0 => by simp [Reps]
  | k + 1 => by
    rw [List.replicate_succ, List.replicate_succ, List.flatten_cons, List.flatten_cons]
    exact Reps.append h (Reps.rep h k)
theorem Reps.ints {T : Tx} {B : Hp} : ∀ {ns : List Int} {vs : List V}, Reps T B vs (ns.map D.int) → vs = ns.map V.int
  | [], [], _ => rfl
  | n :: ns, v :: vs, ⟨h1, h2⟩ => by
    have e : v = .int n := h1
    rw [e, Reps.ints h2] <;> rfl
  | [], _ :: _, h => h.elim
  | _ :: _, [], h => h.elim
theorem Reps.of_ints {T : Tx} {B : Hp} : ∀ (ns : List Int), Reps T B (ns.map V.int) (ns.map D.int)
  | [] => trivial
  | n :: ns => ⟨rfl, Reps.of_ints ns⟩

/-! ### heaps that grow -/
def Keep (H H' : Hp) : Prop := (∀ b o, H b = some o → (∀ ps, o ≠ .tbl ps) → H' b = some o) ∧ ∀ b, H' b = none → H b = none
theorem Keep.of {H H' : Hp} (e : Same H H') : Keep H H' := ⟨fun b o h _ => e b o h, fun b h => by
  cases q : H b with
  | none => rfl
  | some o => rw [e b o q] at h; cases h⟩
theorem Keep.refl (H : Hp) : Keep H H := .of (Same.refl H)
theorem Keep.trans {H H1 H2 : Hp} (a : Keep H H1) (b : Keep H1 H2) : Keep H H2 :=
  ⟨fun c o h n => b.1 c o (a.1 c o h n) n, fun c h => a.2 c (b.2 c h)⟩
theorem Keep.none {H H' : Hp} (e : Keep H H') {b : Addr} (h : H' b = Option.none) : H b = Option.none := e.2 b h
theorem Keep.lst {H H' : Hp} (e : Keep H H') {b : Addr} {xs : List V} (h : H b = Option.some (.lst xs)) : H' b = Option.some (.lst xs) := e.1 b _ h fun ps z => nomatch z

/-- from the heap H0, of which B0 is what stays, to the heap H, of which B is what stays -/
structure Hc (T : Tx) (H0 B0 B H : Hp) : Prop where
  k0 : Keep H0 H
  b0 : Same B0 B
  bh : Same B H
  fr : ∀ p xs, H0 p = some (.lst xs) → B0 p = none → B p = none
  j : T.J H
  nt : ∀ p ps, B p ≠ some (.tbl ps)
theorem Hc.refl {T : Tx} {B H : Hp} (bh : Same B H) (j : T.J H) (nt : ∀ p ps, B p ≠ some (.tbl ps)) : Hc T H B B H := ⟨.refl H, .refl B, bh, fun _ _ _ h => h, j, nt⟩
theorem Hc.self {T : Tx} {H0 B0 B H : Hp} (h : Hc T H0 B0 B H) : Hc T H B B H := .refl h.bh h.j h.nt
theorem Hc.trans {T : Tx} {H0 B0 B1 H1 B H : Hp} (a : Hc T H0 B0 B1 H1) (b : Hc T H1 B1 B H) : Hc T H0 B0 B H :=
  ⟨a.k0.trans b.k0, a.b0.trans b.b0, b.bh, fun p xs h1 h2 => b.fr p xs (a.k0.lst h1) (a.fr p xs h1 h2), b.j, b.nt⟩
/-- a new object that is not kept -/
theorem Hc.new {T : Tx} (ok : TxOk T) {B H : Hp} {p : Addr} {o : HO} (bh : Same B H) (j : T.J H) (nt : ∀ p ps, B p ≠ some (.tbl ps)) (hp : H p = none) : Hc T H B B (upd H p o) := by
  have s : Same H (upd H p o) := fun b u e => by rw [upd_ne (ne_of_none e hp)]; exact e
  exact ⟨.of s, .refl B, bh.trans s, fun _ _ _ h => h, ok.js H _ j fun b u e _ => s b u e, nt⟩
/-- .. that is kept -/
theorem Hc.newK {T : Tx} (ok : TxOk T) {B H : Hp} {p : Addr} {o : HO} (bh : Same B H) (j : T.J H) (nt : ∀ p ps, B p ≠ some (.tbl ps)) (hp : H p = none) (ho : ∀ ps, o ≠ .tbl ps) : Hc T H B (upd B p o) (upd H p o) := by
  have s : Same H (upd H p o) := fun b u e => by rw [upd_ne (ne_of_none e hp)]; exact e
  have bp : B p = none := by
    cases q : B p with
    | none => rfl
    | some u => rw [bh _ _ q] at hp; cases hp
  refine ⟨.of s, fun b u e => by rw [upd_ne (ne_of_none e bp)]; exact e, fun b u e => ?_, fun q xs h1 h2 => ?_, ok.js H _ j fun b u e _ => s b u e, fun q ps e => ?_⟩
  · by_cases hb : b = p
    · subst hb
      rw [upd_same] at e ⊢
      exact e
    · rw [upd_ne hb] at e ⊢
      exact bh _ _ e
  · rw [upd_ne (fun z => by subst z; rw [hp] at h1; cases h1)]
    exact h2
  · by_cases hb : q = p
    · subst hb
      rw [upd_same] at e
      exact ho ps (Option.some.inj e)
    · rw [upd_ne hb] at e
      exact nt q ps e
/-- a list that was known here alone is kept -/
theorem Hc.adopt {T : Tx} {H0 B0 B H : Hp} {a : Addr} {xs : List V} (h : Hc T H0 B0 B H) (ha : H a = some (.lst xs)) (hb : B a = none) (h0 : H0 a = none) : Hc T H0 B0 (upd B a (.lst xs)) H := by
  refine ⟨h.k0, fun b u e => ?_, fun b u e => ?_, fun q xs h1 h2 => ?_, h.j, fun q ps e => ?_⟩
  · have e' := h.b0 b u e
    rw [upd_ne (ne_of_none e' hb)]
    exact e'
  · by_cases hq : b = a
    · subst hq
      rw [upd_same] at e
      rw [ha]
      exact e
    · rw [upd_ne hq] at e
      exact h.bh _ _ e
  · rw [upd_ne (fun z => by subst z; rw [h0] at h1; cases h1)]
    exact h.fr q _ h1 h2
  · by_cases hq : q = a
    · subst hq
      rw [upd_same] at e
      cases e
    · rw [upd_ne hq] at e
      exact h.nt q ps e
theorem Same.adopt {B : Hp} {a : Addr} {o : HO} (hb : B a = none) : Same B (upd B a o) := fun b u e => by rw [upd_ne (ne_of_none e hb)]; exact e

/-! ### values of expressions -/
def EOk (T : Tx) (H B' H' : Hp) (v : V) : E → Prop
  | .cl d => Rep T B' v d
  | .li f l => ∃ a vs, v = .ref a ∧ H' a = some (.lst vs) ∧ Reps T B' vs l ∧ B' a = none ∧ (f = true → H a = none)
theorem EOk.later {T : Tx} {H B1 H1 B2 H2 : Hp} {v : V} : ∀ {e : E}, EOk T H B1 H1 v e → Hc T H1 B1 B2 H2 → EOk T H B2 H2 v e
  | .cl d, h, c => Rep.mono c.b0 d v h
  | .li f l, ⟨a, vs, h1, h2, h3, h4, h5⟩, c => ⟨a, vs, h1, c.k0.lst h2, Reps.mono c.b0 l vs h3, c.fr a _ h2 h4, h5⟩
theorem EOk.back {T : Tx} {H H0 B1 H1 : Hp} {v : V} (k : Keep H0 H) : ∀ {e : E}, EOk T H B1 H1 v e → EOk T H0 B1 H1 v e
  | .cl _, h => h
  | .li f l, ⟨a, vs, h1, h2, h3, h4, h5⟩ => ⟨a, vs, h1, h2, h3, h4, fun z => k.none (h5 z)⟩
/-- what may be read of a value: its items stay -/
def VOk (T : Tx) (B H : Hp) (v : V) (d : D) : Prop := Rep T B v d ∨ ∃ a vs l, v = .ref a ∧ d = .lst l ∧ H a = some (.lst vs) ∧ Reps T B vs l
theorem EOk.rd {T : Tx} {H B' H' : Hp} {v : V} : ∀ {e : E}, EOk T H B' H' v e → VOk T B' H' v e.rd
  | .cl _, h => .inl h
  | .li f l, ⟨a, vs, h1, h2, h3, _, _⟩ => .inr ⟨a, vs, l, h1, rfl, h2, h3⟩
theorem VOk.later {T : Tx} {B1 H1 B2 H2 : Hp} {v : V} {d : D} (h : VOk T B1 H1 v d) (c : Hc T H1 B1 B2 H2) : VOk T B2 H2 v d := by
  rcases h with h | ⟨a, vs, l, h1, h2, h3, h4⟩
  · exact .inl (Rep.mono c.b0 d v h)
  · exact .inr ⟨a, vs, l, h1, h2, c.k0.lst h3, Reps.mono c.b0 l vs h4⟩
theorem VOk.lst {T : Tx} {B H : Hp} {v : V} {l : List D} (s : Same B H) (h : VOk T B H v (.lst l)) : ∃ a vs, v = .ref a ∧ Rd H a (.lst vs) ∧ Reps T B vs l := by
  rcases h with ⟨a, vs, h1, h2, h3⟩ | ⟨a, vs, m, h1, h2, h3, h4⟩
  · exact ⟨a, vs, h1, Rd.mono s h2, h3⟩
  · cases h2
    exact ⟨a, vs, h1, .inl h3, h4⟩
theorem VOk.arg {T : Tx} {B H : Hp} {v : V} {l : List D} (s : Same B H) (h : VOk T B H v (.arg l)) : ∃ a vs, v = .ref a ∧ SqL T.K H a vs ∧ Reps T B vs l := by
  rcases h with ⟨a, vs, h1, h2, h3⟩ | ⟨a, vs, m, h1, h2, h3, h4⟩
  · exact ⟨a, vs, h1, SqL.mono s h2, h3⟩
  · cases h2
theorem VOk.tup {T : Tx} {B H : Hp} {v : V} {l : List D} (s : Same B H) (h : VOk T B H v (.tup l)) : ∃ a vs, v = .ref a ∧ SqT T.K H a vs ∧ Reps T B vs l := by
  rcases h with ⟨a, vs, h1, h2, h3⟩ | ⟨a, vs, m, h1, h2, h3, h4⟩
  · exact ⟨a, vs, h1, SqT.mono s h2, h3⟩
  · cases h2
theorem VOk.int {T : Tx} {B H : Hp} {v : V} {i : Int} (h : VOk T B H v (.int i)) : v = .int i := by
  rcases h with h | ⟨a, vs, m, h1, h2, h3, h4⟩
  · exact h
  · cases h2
theorem VOk.str {T : Tx} {B H : Hp} {v : V} {i : Str} (h : VOk T B H v (.str i)) : v = .str i := by
  rcases h with h | ⟨a, vs, m, h1, h2, h3, h4⟩
  · exact h
  · cases h2
theorem VOk.bl {T : Tx} {B H : Hp} {v : V} {i : Bool} (h : VOk T B H v (.bl i)) : v = .bl i := by
  rcases h with h | ⟨a, vs, m, h1, h2, h3, h4⟩
  · exact h
  · cases h2
theorem VOk.non {T : Tx} {B H : Hp} {v : V} (h : VOk T B H v .non) : v = .non := by
  rcases h with h | ⟨a, vs, m, h1, h2, h3, h4⟩
  · exact h
  · cases h2
theorem VOk.rep {T : Tx} {B H : Hp} {v : V} {d : D} (s : Same B H) (h : VOk T B H v d) : Rep T H v d := by
  rcases h with h | ⟨a, vs, l, h1, h2, h3, h4⟩
  · exact Rep.mono s d v h
  · subst h2
    exact ⟨a, vs, h1, .inl h3, Reps.mono s l vs h4⟩
/-- a value that is kept from now on -/
theorem EOk.kept {T : Tx} {H B B' H' : Hp} {v : V} {d : D} (c : Hc T H B B' H') : ∀ {e : E}, EOk T H B' H' v e → e.keep = .ok d → ∃ B2, Hc T H B B2 H' ∧ Same B' B2 ∧ Rep T B2 v d
  | .cl d', h, z => by
    cases z
    exact ⟨B', c, .refl _, h⟩
  | .li true l, ⟨a, vs, h1, h2, h3, h4, h5⟩, z => by
    cases z
    exact ⟨upd B' a (.lst vs), c.adopt h2 h4 (h5 rfl), Same.adopt h4, a, vs, h1, .inl upd_same, Reps.mono (Same.adopt h4) l vs h3⟩
  | .li false l, _, z => by cases z

/-! ### slots -/
structure Rel (T : Tx) (H0 B0 B H : Hp) (σ : L2.St) (ρ : Env) : Prop where
  hc : Hc T H0 B0 B H
  len : σ.length = ρ.length
  va : ∀ (i : Nat) (d : D), ρ[i]? = some (.va d) → ∃ v, σ[i]? = some (some v) ∧ Rep T B v d
  ow : ∀ (i : Nat) (l : List D), ρ[i]? = some (.ow l) → ∃ p vs, σ[i]? = some (some (.ref p)) ∧ H p = some (.lst vs) ∧ Reps T B vs l ∧ B p = none ∧ H0 p = none
  dj : ∀ (i j : Nat) (l m : List D), ρ[i]? = some (.ow l) → ρ[j]? = some (.ow m) → i ≠ j → σ[i]? ≠ σ[j]?
section
variable {T : Tx} {H0 B0 B H B' H' : Hp} {σ : L2.St} {ρ : Env}
theorem Rel.later (r : Rel T H0 B0 B H σ ρ) (c : Hc T H B B' H') : Rel T H0 B0 B' H' σ ρ :=
  ⟨r.hc.trans c, r.len, fun i d h => let ⟨v, h1, h2⟩ := r.va i d h; ⟨v, h1, Rep.mono c.b0 d v h2⟩, fun i l h => let ⟨p, vs, h1, h2, h3, h4, h5⟩ := r.ow i l h; ⟨p, vs, h1, c.k0.lst h2, Reps.mono c.b0 l vs h3, c.fr p _ h2 h4, h5⟩, r.dj⟩
theorem Rel.self (r : Rel T H0 B0 B H σ ρ) : Hc T H B B H := r.hc.self
theorem get_set {α : Type} {l : List α} {i j : Nat} {x y : α} (h : (l.set i x)[j]? = some y) : (i = j ∧ x = y) ∨ (i ≠ j ∧ l[j]? = some y) := by
  by_cases e : i = j
  · subst e
    by_cases hl : i < l.length
    · rw [List.getElem?_set_self hl] at h
      exact .inl ⟨rfl, Option.some.inj h⟩
    · rw [List.getElem?_eq_none (by simpa using hl)] at h
      cases h
  · rw [List.getElem?_set_ne e] at h
    exact .inr ⟨e, h⟩
theorem set_at {α : Type} {l : List α} {i : Nat} {x y : α} {j : Nat} (h : (l.set i x)[j]? = some y) : j < l.length := by
  have := (List.getElem?_eq_some_iff.mp h).1
  simpa using this
theorem Rel.setVa (r : Rel T H0 B0 B H σ ρ) {i : Nat} {v : V} {d : D} (h : Rep T B v d) : Rel T H0 B0 B H (σ.set i (some v)) (ρ.set i (.va d)) := by
  refine ⟨r.hc, by simp [r.len], fun j e hj => ?_, fun j l hj => ?_, fun j k l m hj hk ne => ?_⟩
  · have lt := set_at hj
    rcases get_set hj with ⟨rfl, z⟩ | ⟨ne, z⟩
    · cases z
      exact ⟨v, List.getElem?_set_self (by rw [r.len]; exact lt), h⟩
    · rw [List.getElem?_set_ne ne]
      exact r.va j e z
  · rcases get_set hj with ⟨rfl, z⟩ | ⟨ne, z⟩
    · cases z
    · rw [List.getElem?_set_ne ne]
      exact r.ow j l z
  · rcases get_set hj with ⟨rfl, z⟩ | ⟨nj, z⟩
    · cases z
    · rcases get_set hk with ⟨rfl, z2⟩ | ⟨nk, z2⟩
      · cases z2
      · rw [List.getElem?_set_ne nj, List.getElem?_set_ne nk]
        exact r.dj j k l m z z2 ne
/-- a slot holds a list of its own; no other slot's list lies there -/
theorem Rel.setOw (r : Rel T H0 B0 B H σ ρ) {i : Nat} {p : Addr} {vs : List V} {l : List D} (hp : H p = some (.lst vs)) (hr : Reps T B vs l) (hb : B p = none) (h0 : H0 p = none) (hn : ∀ (j : Nat) (m : List D), j ≠ i → ρ[j]? = some (.ow m) → σ[j]? ≠ some (some (.ref p))) :
    Rel T H0 B0 B H (σ.set i (some (.ref p))) (ρ.set i (.ow l)) := by
  refine ⟨r.hc, by simp [r.len], fun j e hj => ?_, fun j m hj => ?_, fun j k m n hj hk ne => ?_⟩
  · rcases get_set hj with ⟨rfl, z⟩ | ⟨ne, z⟩
    · cases z
    · rw [List.getElem?_set_ne ne]
      exact r.va j e z
  · have lt := set_at hj
    rcases get_set hj with ⟨rfl, z⟩ | ⟨ne, z⟩
    · cases z
      exact ⟨p, vs, List.getElem?_set_self (by rw [r.len]; exact lt), hp, hr, hb, h0⟩
    · rw [List.getElem?_set_ne ne]
      exact r.ow j m z
  · have ltj := set_at hj
    have ltk := set_at hk
    rcases get_set hj with ⟨rfl, z⟩ | ⟨nj, z⟩
    · rcases get_set hk with ⟨e, _⟩ | ⟨nk, z2⟩
      · exact absurd e ne
      · rw [List.getElem?_set_self (by rw [r.len]; exact ltj), List.getElem?_set_ne nk]
        exact fun q => hn k n (Ne.symm nk) z2 q.symm
    · rcases get_set hk with ⟨rfl, z2⟩ | ⟨nk, z2⟩
      · rw [List.getElem?_set_self (by rw [r.len]; exact ltk), List.getElem?_set_ne nj]
        exact hn j m (Ne.symm nj) z
      · rw [List.getElem?_set_ne nj, List.getElem?_set_ne nk]
        exact r.dj j k m n z z2 ne
/-- the list of a slot is changed in place -/
theorem Rel.mut (ok : TxOk T) (r : Rel T H0 B0 B H σ ρ) {i : Nat} {p : Addr} {vs ws : List V} {l m : List D} (hi : ρ[i]? = some (.ow l)) (hs : σ[i]? = some (some (.ref p))) (hp : H p = some (.lst vs)) (hr : Reps T B ws m) :
    Rel T H0 B0 B (upd H p (.lst ws)) σ (ρ.set i (.ow m)) := by
  obtain ⟨q, us, h1, h2, _, h4, h5⟩ := r.ow i l hi
  rw [hs] at h1
  cases h1
  have nb : ∀ b o, B b = some o → b ≠ p := fun b o e => ne_of_none e h4
  have n0 : ∀ b o, H0 b = some o → b ≠ p := fun b o e => ne_of_none e h5
  refine ⟨⟨⟨fun b o e n => ?_, fun b e => ?_⟩, r.hc.b0, fun b o e => ?_, r.hc.fr, ok.js H _ r.hc.j fun b o e s => ?_, r.hc.nt⟩, by simp [r.len], fun j e hj => ?_, fun j n hj => ?_, fun j k a b hj hk ne => ?_⟩
  · rw [upd_ne (n0 b o e)]
    exact r.hc.k0.1 b o e n
  · exact r.hc.k0.2 b (NdefX.upd_none e)
  · rw [upd_ne (nb b o e)]
    exact r.hc.bh b o e
  · rw [upd_ne (fun z => by subst z; rw [hp] at e; cases e; exact s)]
    exact e
  · rcases get_set hj with ⟨rfl, z⟩ | ⟨ne, z⟩
    · cases z
    · exact r.va j e z
  · rcases get_set hj with ⟨rfl, z⟩ | ⟨ne, z⟩
    · cases z
      exact ⟨p, ws, hs, upd_same, hr, h4, h5⟩
    · obtain ⟨q, us, k1, k2, k3, k4, k5⟩ := r.ow j n z
      refine ⟨q, us, k1, ?_, k3, k4, k5⟩
      rw [upd_ne (fun e => r.dj j i n l z hi (Ne.symm ne) (by rw [k1, hs, e]))]
      exact k2
  · have low : ∀ {j : Nat} {a : List D}, (ρ.set i (.ow m))[j]? = some (.ow a) → ∃ c, ρ[j]? = some (.ow c) := fun {j a} hj => by
      rcases get_set hj with ⟨rfl, _⟩ | ⟨_, z⟩
      · exact ⟨l, hi⟩
      · exact ⟨a, z⟩
    obtain ⟨c, hc⟩ := low hj
    obtain ⟨d, hd⟩ := low hk
    exact r.dj j k c d hc hd ne
/-- the list of a slot is given away -/
theorem Rel.frz1 (r : Rel T H0 B0 B H σ ρ) (i : Nat) : ∃ B2, Rel T H0 B0 B2 H σ (PW.frz1 i ρ) ∧ Same B B2 := by
  unfold PW.frz1
  cases hi : ρ[i]? with
  | none => exact ⟨B, r, .refl _⟩
  | some s =>
    cases s with
    | un => exact ⟨B, r, .refl _⟩
    | va d => exact ⟨B, r, .refl _⟩
    | ow l =>
      obtain ⟨p, vs, h1, h2, h3, h4, h5⟩ := r.ow i l hi
      have sm : Same B (upd B p (.lst vs)) := Same.adopt h4
      refine ⟨upd B p (.lst vs), ⟨r.hc.adopt h2 h4 h5, by simp [r.len], fun j e hj => ?_, fun j n hj => ?_, fun j k a b hj hk ne => ?_⟩, sm⟩
      · rcases get_set hj with ⟨rfl, z⟩ | ⟨ne, z⟩
        · cases z
          exact ⟨.ref p, h1, p, vs, rfl, .inl upd_same, Reps.mono sm l vs h3⟩
        · obtain ⟨v, k1, k2⟩ := r.va j e z
          exact ⟨v, k1, Rep.mono sm e v k2⟩
      · rcases get_set hj with ⟨rfl, z⟩ | ⟨ne, z⟩
        · cases z
        · obtain ⟨q, us, k1, k2, k3, k4, k5⟩ := r.ow j n z
          refine ⟨q, us, k1, k2, Reps.mono sm n us k3, ?_, k5⟩
          rw [upd_ne (fun e => r.dj j i n l z hi (Ne.symm ne) (by rw [k1, h1, e]))]
          exact k4
      · rcases get_set hj with ⟨rfl, z⟩ | ⟨nj, z⟩
        · cases z
        · rcases get_set hk with ⟨rfl, z2⟩ | ⟨nk, z2⟩
          · cases z2
          · exact r.dj j k a b z z2 ne
theorem Rel.frz (r : Rel T H0 B0 B H σ ρ) : ∀ l : List Nat, ∃ B2, Rel T H0 B0 B2 H σ (PW.frz l ρ) ∧ Same B B2 := by
  intro l
  induction l generalizing B ρ with
  | nil => exact ⟨B, r, .refl _⟩
  | cons i l ih =>
    obtain ⟨B2, r2, s2⟩ := r.frz1 i
    obtain ⟨B3, r3, s3⟩ := ih r2
    exact ⟨B3, r3, s2.trans s3⟩
theorem wipe_get {σ : L2.St} {ρ : Env} : ∀ {vs : List Nat} {j : Nat} {s : Sl}, (PW.wipe ρ vs)[j]? = some s → s = .un ∨ (ρ[j]? = some s ∧ (L2.wipe σ vs)[j]? = σ[j]?)
  | [], j, s, h => .inr ⟨h, rfl⟩
  | v :: vs, j, s, h => by
    unfold PW.wipe at h
    rcases get_set h with ⟨_, z⟩ | ⟨ne, z⟩
    · exact .inl z.symm
    · rcases wipe_get (σ := σ) z with z | ⟨z1, z2⟩
      · exact .inl z
      · refine .inr ⟨z1, ?_⟩
        unfold L2.wipe
        rw [List.getElem?_set_ne ne]
        exact z2
theorem wipe_len (ρ : Env) : ∀ vs : List Nat, (PW.wipe ρ vs).length = ρ.length
  | [] => rfl
  | v :: vs => by
    unfold PW.wipe
    rw [List.length_set, wipe_len]
theorem Rel.wipe (r : Rel T H0 B0 B H σ ρ) (vs : List Nat) : Rel T H0 B0 B H (L2.wipe σ vs) (PW.wipe ρ vs) := by
  refine ⟨r.hc, by rw [L2.wipe_length, wipe_len, r.len], fun j e hj => ?_, fun j n hj => ?_, fun j k a b hj hk ne => ?_⟩
  · rcases wipe_get (σ := σ) hj with z | ⟨z1, z2⟩
    · cases z
    · rw [z2]
      exact r.va j e z1
  · rcases wipe_get (σ := σ) hj with z | ⟨z1, z2⟩
    · cases z
    · rw [z2]
      exact r.ow j n z1
  · rcases wipe_get (σ := σ) hj with z | ⟨z1, z2⟩
    · cases z
    · rcases wipe_get (σ := σ) hk with z | ⟨z3, z4⟩
      · cases z
      · rw [z2, z4]
        exact r.dj j k a b z1 z3 ne
end
end PW
namespace PW
open PySem PySem.Spec PyProof.Rows L2

/-- where one stands: the text, the heap at the entry and what stays of it, what is wished of an error -/
structure Ctx where
  T : Tx
  H0 : Hp
  B0 : Hp
  E : XK
/-- an error as it lies in the heap -/
def XOk (T : Tx) (H : Hp) (cls : Value) (d : Option Addr) : Exc → Prop
  | .notn => cls = .ref T.CN ∧ d = none
  | .refused c => cls = .ref T.CR ∧ ∃ dd v, d = some dd ∧ H dd = some (.xd [("code", v)]) ∧ Rep T H v c
def XGo (T : Tx) (W : XK) (H : Hp) (x : Exc) : Prop := ∀ cls d H', Keep H H' → T.J H' → XOk T H' cls d x → W cls d H'
theorem XGo.later {T : Tx} {W : XK} {H H1 : Hp} {x : Exc} (h : XGo T W H x) (k : Keep H H1) : XGo T W H1 x := fun cls d H' k' j o => h cls d H' (k.trans k') j o
/-- an outcome leads to what is wanted -/
def Go {α : Type} (T : Tx) (W : XK) (H : Hp) (r : R α) (G : α → Prop) : Prop := match r with
  | .ok a => G a
  | .ex x => XGo T W H x
  | .bad => False
def EGo (T : Tx) (W : XK) (B H : Hp) (r : R E) (Q : VK) : Prop := Go T W H r fun e => ∀ B' H' v, Hc T H B B' H' → EOk T H B' H' v e → Q v H'
def BGo (T : Tx) (W : XK) (B H : Hp) (r : R Bool) (Q : Bool → Hp → Prop) : Prop := Go T W H r fun b => ∀ B' H', Hc T H B B' H' → Q b H'
def AGo (T : Tx) (W : XK) (B H : Hp) (r : R (List D)) (Q : List V → Hp → Prop) : Prop := Go T W H r fun l => ∀ B' H' vs, Hc T H B B' H' → Reps T B' vs l → Q vs H'
/-- the args as they are read -/
def LGo (T : Tx) (W : XK) (B H : Hp) (r : R (List D)) (Q : List V → Hp → Prop) : Prop := Go T W H r fun l => ∀ B' H' vs, Hc T H B B' H' → Reps T H' vs l → Q vs H'

section
variable {T : Tx} {W : XK} {B H : Hp}
theorem Go.bind {α β : Type} {r : R α} {f : α → R β} {G : β → Prop} (h : Go T W H (r.bind f) G) : Go T W H r fun a => Go T W H (f a) G := by
  cases r with
  | ok a => exact h
  | ex x => exact h
  | bad => exact h
theorem Go.mono {α : Type} {r : R α} {G G' : α → Prop} (h : Go T W H r G) (m : ∀ a, G a → G' a) : Go T W H r G' := by
  cases r with
  | ok a => exact m a h
  | ex x => exact h
  | bad => exact h
theorem Go.later {α : Type} {r : R α} {G : α → Prop} {H1 : Hp} (h : Go T W H r G) (k : Keep H H1) : Go T W H1 r G := by
  cases r with
  | ok a => exact h
  | ex x => exact XGo.later h k
  | bad => exact h
theorem EGo.later {B1 H1 : Hp} {r : R PW.E} {Q : VK} (h : EGo T W B H r Q) (c : Hc T H B B1 H1) : EGo T W B1 H1 r Q :=
  (Go.later h c.k0).mono fun e g B' H' v c' o => g B' H' v (c.trans c') (o.back c.k0)
theorem BGo.later {B1 H1 : Hp} {r : R Bool} {Q : Bool → Hp → Prop} (h : BGo T W B H r Q) (c : Hc T H B B1 H1) : BGo T W B1 H1 r Q :=
  (Go.later h c.k0).mono fun e g B' H' c' => g B' H' (c.trans c')
theorem AGo.later {B1 H1 : Hp} {r : R (List D)} {Q : List V → Hp → Prop} (h : AGo T W B H r Q) (c : Hc T H B B1 H1) : AGo T W B1 H1 r Q :=
  (Go.later h c.k0).mono fun e g B' H' v c' o => g B' H' v (c.trans c') o
theorem LGo.later {B1 H1 : Hp} {r : R (List D)} {Q : List V → Hp → Prop} (h : LGo T W B H r Q) (c : Hc T H B B1 H1) : LGo T W B1 H1 r Q :=
  (Go.later h c.k0).mono fun e g B' H' v c' o => g B' H' v (c.trans c') o
end

/-! ### the judgements -/
def SE (C : Ctx) (te : TE) (pe : PEx) : Prop := ∀ B H σ ρ (Q : VK), Rel C.T C.H0 C.B0 B H σ ρ → EGo C.T C.E B H (pe ρ) Q → te σ H Q
def ST (C : Ctx) (tt : TT) (pt : PTe) : Prop := ∀ B H σ ρ (Q : Bool → Hp → Prop), Rel C.T C.H0 C.B0 B H σ ρ → BGo C.T C.E B H (pt ρ) Q → tt σ H Q
def SA (C : Ctx) (ta : TA) (pa : PAr) : Prop := ∀ B H σ ρ (Q : List V → Hp → Prop), Rel C.T C.H0 C.B0 B H σ ρ → AGo C.T C.E B H (pa ρ) Q → ta σ H Q
def SL (C : Ctx) (ta : TA) (pa : PAr) : Prop := ∀ B H σ ρ (Q : List V → Hp → Prop), Rel C.T C.H0 C.B0 B H σ ρ → LGo C.T C.E B H (pa ρ) Q → ta σ H Q
def SO (C : Ctx) (to : TO) (po : PPart) : Prop := ∀ B H σ ρ (Q : Option Int → Hp → Prop), Rel C.T C.H0 C.B0 B H σ ρ → (Go C.T C.E H (po ρ) fun o => ∀ B' H', Hc C.T H B B' H' → Q o H') → to σ H Q

structure CxOk (C : Ctx) (X : Cx) (k : Nat) : Prop where
  K : X.K = C.T.K
  mg : X.mg = C.T.mg
  calm : X.calm = true
  room : Room k X.A
  ps : Passes (L2.CX X.prog X.w) X C.E
  po : PassesOwn (model X.prog X.w) X.A X.env X.xe
  nd : X.N.Nodup
  tx : TxOk C.T

structure DE (C : Ctx) (X : Cx) (e : Expr) (pe : PEx) : Prop where
  ex : ∃ te, PE X e te ∧ SE C te pe
structure DT (C : Ctx) (X : Cx) (e : Expr) (pt : PTe) : Prop where
  ex : ∃ tt, PT X e tt ∧ ST C tt pt
structure DA (C : Ctx) (X : Cx) (es : List Expr) (pa : PAr) : Prop where
  ex : ∃ ta, PA X es ta ∧ SA C ta pa
structure DL (C : Ctx) (X : Cx) (es : List Expr) (pa : PAr) : Prop where
  ex : ∃ ta, PA X es ta ∧ SL C ta pa
structure DO (C : Ctx) (X : Cx) (e : Option Expr) (po : PPart) : Prop where
  ex : ∃ to, PO X e to ∧ SO C to po

section
variable {C : Ctx} {X : Cx} {k : Nat}

/-! ### names, constants -/
theorem se_var {i : Nat} : SE C (tVar i) (pVar i) := by
  intro B H σ ρ Q r h
  unfold pVar at h
  cases hi : ρ[i]? with
  | none => rw [hi] at h; exact h.elim
  | some s =>
    rw [hi] at h
    cases s with
    | un => exact h.elim
    | va d =>
      obtain ⟨v, h1, h2⟩ := r.va i d hi
      exact ⟨v, h1, h B H v r.self h2⟩
    | ow l =>
      obtain ⟨p, vs, h1, h2, h3, h4, h5⟩ := r.ow i l hi
      exact ⟨.ref p, h1, h B H _ r.self ⟨p, vs, rfl, h2, h3, h4, fun z => nomatch z⟩⟩
theorem de_var (i : Nat) {x : Str} {pos : Pos} (hN : X.N[i]? = some x := by rfl) (hv : Vis X.env.scope x := by first | exact Or.inl rfl | exact Or.inr (Or.inl rfl) | exact Or.inr (Or.inr rfl)) (hd : (x == ("__debug__" : Str)) = false := by decide)
    (hcd : (x == ("__classdict__" : Str)) = false := by decide) : DE C X (.Name x pos) (pVar i) := ⟨_, pe_var hN hv hd hcd, se_var⟩
theorem se_c {v : V} {d : D} (h : ∀ B, Rep C.T B v d) : SE C (tC v) (pC d) := fun B H σ ρ Q r g => g B H v r.self (h B)
theorem de_int {i j pos} : DE C X (.Constant (.int i) j pos) (pC (.int i)) := ⟨_, pe_int, se_c fun _ => rfl⟩
theorem de_bl {b j pos} : DE C X (.Constant (.bool b) j pos) (pC (.bl b)) := ⟨_, pe_bl, se_c fun _ => rfl⟩
theorem de_non {j pos} : DE C X (.Constant .none j pos) (pC .non) := ⟨_, pe_non, se_c fun _ => rfl⟩
theorem de_str {x j pos} : DE C X (.Constant (.str x) j pos) (pC (.str x)) := ⟨_, pe_str, se_c fun _ => rfl⟩
/-- a constant of the module, by what it holds -/
def Glo (T : Tx) (x : Str) (d : D) : Prop := ∃ v u, T.mg x = some u ∧ RelV v u ∧ ∀ B, Rep T B v d
theorem de_glob {x : Str} {d : D} {pos : Pos} (ok : CxOk C X k) (g : Glo C.T x d) (hg : Gl X x := by rfl) (hd : (x == ("__debug__" : Str)) = false := by decide) : DE C X (.Name x pos) (pC d) := by
  obtain ⟨v, u, h1, h2, h3⟩ := g
  exact ⟨_, pe_glob hg (by rw [ok.mg]; exact h1) h2 hd, se_c h3⟩

/-! ### operators -/
/-- an operation on values does what f says -/
def R2Ok (T : Tx) (r : R2) (f : D → D → R PW.E) : Prop := ∀ B H x y d e z (Q : VK), Hc T H B B H → VOk T B H x d → VOk T B H y e → f d e = .ok z →
  (∀ B' H' v, Hc T H B B' H' → EOk T H B' H' v z → Q v H') → r x y H Q
def R1Ok (T : Tx) (r : V → Hp → VK → Prop) (f : D → R PW.E) : Prop := ∀ B H x d z (Q : VK), Hc T H B B H → VOk T B H x d → f d = .ok z →
  (∀ B' H' v, Hc T H B B' H' → EOk T H B' H' v z → Q v H') → r x H Q
/-- f gives values or nothing -/
def NoX (f : D → D → R PW.E) : Prop := ∀ d e x, f d e ≠ .ex x
def NoX1 (f : D → R PW.E) : Prop := ∀ d x, f d ≠ .ex x
theorem ego_val {T : Tx} {W : XK} {B H : Hp} {r : R PW.E} {Q : VK} (h : EGo T W B H r Q) (n : ∀ x, r ≠ .ex x) : ∃ z, r = .ok z ∧ ∀ B' H' v, Hc T H B B' H' → EOk T H B' H' v z → Q v H' := by
  cases r with
  | ok a => exact ⟨a, rfl, h⟩
  | ex x => exact absurd rfl (n x)
  | bad => exact h.elim
theorem se_op {r : R2} {f : D → D → R PW.E} {ta tb : TE} {pa pb : PEx} (ho : R2Ok C.T r f) (n : NoX f) (ha : SE C ta pa) (hb : SE C tb pb) : SE C (tOp r ta tb) (pOp f pa pb) := by
  intro B H σ ρ Q re h
  refine ha B H σ ρ _ re ((Go.bind h).mono fun e1 g1 B1 H1 x c1 o1 => ?_)
  refine hb B1 H1 σ ρ _ (re.later c1) ?_
  refine (Go.later (Go.bind g1) c1.k0).mono fun e2 g2 B2 H2 y c2 o2 => ?_
  have g3 := EGo.later (Q := Q) g2 (c1.trans c2)
  obtain ⟨z, g4, g5⟩ := ego_val g3 (n _ _)
  exact ho B2 H2 x y _ _ z Q c2.self (o1.rd.later c2) o2.rd g4 g5
theorem se_un {r : V → Hp → VK → Prop} {f : D → R PW.E} {ta : TE} {pa : PEx} (ho : R1Ok C.T r f) (n : NoX1 f) (ha : SE C ta pa) : SE C (tUn r ta) (pUn f pa) := by
  intro B H σ ρ Q re h
  refine ha B H σ ρ _ re ((Go.bind h).mono fun e1 g1 B1 H1 x c1 o1 => ?_)
  have g3 := EGo.later (Q := Q) g1 c1
  obtain ⟨z, g4, g5⟩ := ego_val g3 (n _)
  exact ho B1 H1 x _ z Q c1.self o1.rd g4 g5
theorem de_op {op : Operator} {r : R2} {f : D → D → R PW.E} {a b : Expr} {pa pb : PEx} {pos : Pos} (ho : OpR X (binaryOp op) r) (hr : R2Ok C.T r f) (n : NoX f) (ha : DE C X a pa) (hb : DE C X b pb) : DE C X (.BinOp a op b pos) (pOp f pa pb) := by
  obtain ⟨ta, h1, h2⟩ := ha
  obtain ⟨tb, h3, h4⟩ := hb
  exact ⟨_, pe_op ho h1 h3, se_op hr n h2 h4⟩
theorem de_cmp {op : CmpOp} {r : R2} {f : D → D → R PW.E} {a b : Expr} {pa pb : PEx} {pos : Pos} (ho : OpR X (compareOp op) r) (hr : R2Ok C.T r f) (n : NoX f) (ha : DE C X a pa) (hb : DE C X b pb) (hm : behindInMarks op b = false) : DE C X (.Compare a [op] [b] pos) (pOp f pa pb) := by
  obtain ⟨ta, h1, h2⟩ := ha
  obtain ⟨tb, h3, h4⟩ := hb
  exact ⟨_, pe_cmpR ho h1 h3 hm, se_op hr n h2 h4⟩
theorem st_B {te : TE} {pe : PEx} (h : SE C te pe) : ST C (tTest te) (pB pe) := by
  intro B H σ ρ Q re g
  refine h B H σ ρ _ re ((Go.bind g).mono fun e g1 B1 H1 x c1 o1 => ?_)
  cases q : e.rd with
  | bl b =>
    rw [q] at g1
    have o2 := o1.rd
    rw [q] at o2
    exact ⟨b, VOk.bl o2, g1 B1 H1 c1⟩
  | _ => rw [q] at g1; exact g1.elim
theorem dt_cmp {op : CmpOp} {r : R2} {f : D → D → R PW.E} {a b : Expr} {pa pb : PEx} {pos : Pos} (ho : OpR X (compareOp op) r) (hr : R2Ok C.T r f) (n : NoX f) (ha : DE C X a pa) (hb : DE C X b pb) (hm : behindInMarks op b = false) : DT C X (.Compare a [op] [b] pos) (pB (pOp f pa pb)) := by
  obtain ⟨ta, h1, h2⟩ := ha
  obtain ⟨tb, h3, h4⟩ := hb
  exact ⟨_, pt_cmpR ho h1 h3 hm, st_B (se_op hr n h2 h4)⟩
/-- a value that is a bool, as a test -/
theorem dt_val {e : Expr} {pe : PEx} (h : DE C X e pe) (he : ∀ whole, isTrue e X.env whole = (do let v ← whole; standAt e.pos; holding [v] (truthy v)) := by intro _; rfl) : DT C X e (pB pe) := by
  obtain ⟨te, h1, h2⟩ := h
  exact ⟨_, pt_val h1 he, st_B h2⟩
/-- a op b op' c -/
theorem se_chain {r r' : R2} {f g : D → D → R PW.E} {ta tb tc : TE} {pa pb pc : PEx} (hr : R2Ok C.T r f) (n : NoX f) (hr' : R2Ok C.T r' g) (n' : NoX g) (ha : SE C ta pa) (hb : SE C tb pb) (hc : SE C tc pc) : SE C (tChain r r' ta tb tc) (pChain f g pa pb pc) := by
  intro B H σ ρ Q re h
  refine ha B H σ ρ _ re ((Go.bind h).mono fun e1 g1 B1 H1 x c1 o1 => ?_)
  refine hb B1 H1 σ ρ _ (re.later c1) ?_
  refine (Go.later (Go.bind g1) c1.k0).mono fun e2 g2 B2 H2 y c2 o2 => ?_
  have g3 := Go.later (Go.bind g2) (c1.trans c2).k0
  cases q : f e1.rd e2.rd with
  | ex x => exact absurd q (n _ _ x)
  | bad => rw [q] at g3; exact g3.elim
  | ok z =>
    rw [q] at g3
    have g4 : Go C.T C.E H (match z.rd with
      | .bl true => (pc ρ).bind fun u => g e2.rd u.rd
      | .bl false => .ok (.cl (.bl false))
      | _ => .bad) _ := g3
    refine hr B2 H2 x y _ _ z _ c2.self (o1.rd.later c2) o2.rd q (fun B3 H3 u c3 o3 => ?_)
    have o4 := o3.rd
    cases qz : z.rd with
    | bl b =>
      rw [qz] at o4 g4
      refine ⟨b, VOk.bl o4, ?_⟩
      cases b with
      | false =>
        have g5 : ∀ B' H' v, _ → _ → _ := g4
        exact iteF (g5 B3 H3 _ ((c1.trans c2).trans c3) rfl)
      | true =>
        have g5 := Go.later (Go.bind g4) ((c1.trans c2).trans c3).k0
        refine iteT (hc B3 H3 σ ρ _ ((re.later (c1.trans c2)).later c3) (g5.mono fun e4 g6 B4 H4 w c4 o5 => ?_))
        have g8 : EGo C.T C.E B4 H4 (g e2.rd e4.rd) Q := by
          have n2 := n' e2.rd e4.rd
          cases qq : g e2.rd e4.rd with
          | ok z2 =>
            rw [qq] at g6
            exact fun B' H' v c' o' => g6 B' H' v ((((c1.trans c2).trans c3).trans c4).trans c') (o'.back (((c1.trans c2).trans c3).trans c4).k0)
          | ex x => exact absurd qq (n2 x)
          | bad => rw [qq] at g6; exact g6.elim
        obtain ⟨z9, g9, g10⟩ := ego_val g8 (n' _ _)
        exact hr' B4 H4 y w _ _ z9 Q c4.self (o2.rd.later (c3.trans c4)) o5.rd g9 g10
    | _ => rw [qz] at g4; exact g4.elim
theorem de_chain {op op' : CmpOp} {r r' : R2} {f g : D → D → R PW.E} {a b c : Expr} {pa pb pc : PEx} {pos : Pos} (ho : OpR X (compareOp op) r) (ho' : OpR X (compareOp op') r') (hr : R2Ok C.T r f) (n : NoX f) (hr' : R2Ok C.T r' g) (n' : NoX g) (ha : DE C X a pa) (hb : DE C X b pb) (hc : DE C X c pc)
    (hm : lastMarks [op, op'] [b, c] = false := by with_unfolding_all rfl) : DE C X (.Compare a [op, op'] [b, c] pos) (pChain f g pa pb pc) := by
  obtain ⟨ta, h1, h2⟩ := ha
  obtain ⟨tb, h3, h4⟩ := hb
  obtain ⟨tc, h5, h6⟩ := hc
  exact ⟨_, pe_chain ho ho' h1 h3 h5 hm, se_chain hr n hr' n' h2 h4 h6⟩
theorem dt_chain {op op' : CmpOp} {r r' : R2} {f g : D → D → R PW.E} {a b c : Expr} {pa pb pc : PEx} {pos : Pos} (ho : OpR X (compareOp op) r) (ho' : OpR X (compareOp op') r') (hr : R2Ok C.T r f) (n : NoX f) (hr' : R2Ok C.T r' g) (n' : NoX g) (ha : DE C X a pa) (hb : DE C X b pb) (hc : DE C X c pc)
    (hm : lastMarks [op, op'] [b, c] = false := by with_unfolding_all rfl) : DT C X (.Compare a [op, op'] [b, c] pos) (pB (pChain f g pa pb pc)) := by
  obtain ⟨ta, h1, h2⟩ := ha
  obtain ⟨tb, h3, h4⟩ := hb
  obtain ⟨tc, h5, h6⟩ := hc
  exact ⟨_, pt_chain ho ho' h1 h3 h5 hm, st_B (se_chain hr n hr' n' h2 h4 h6)⟩

/-! ### and, or, not -/
theorem dt_not {a : Expr} {pa : PTe} {pos : Pos} (h : DT C X a pa) : DT C X (.UnaryOp .Not a pos) (pNot pa) := by
  obtain ⟨ta, h1, h2⟩ := h
  exact ⟨_, pt_not h1, fun B H σ ρ Q re g => h2 B H σ ρ _ re ((Go.bind g).mono fun b g1 B1 H1 c1 => g1 B1 H1 c1)⟩
structure DW (C : Ctx) (X : Cx) (e : Expr) (pt : PTe) : Prop where
  ex : ∃ tt, PW X e tt ∧ ST C tt pt
theorem DW.dt {e : Expr} {pt : PTe} (h : DW C X e pt) : DT C X e pt := let ⟨⟨t, h1, h2⟩⟩ := h; ⟨t, h1.pt, h2⟩
variable {a b : Expr} {rest : List Expr} {pos : Pos}
theorem dw_and1 {pa : PTe} (h : DT C X a pa) : DW C X (.BoolOp .And [a] pos) pa := let ⟨⟨t, h1, h2⟩⟩ := h; ⟨t, pw_and1 h1, h2⟩
theorem dw_or1 {pa : PTe} (h : DT C X a pa) : DW C X (.BoolOp .Or [a] pos) pa := let ⟨⟨t, h1, h2⟩⟩ := h; ⟨t, pw_or1 h1, h2⟩
theorem dw_and {pa pb : PTe} (ha : DT C X a pa) (hb : DW C X (.BoolOp .And (b :: rest) pos) pb) : DW C X (.BoolOp .And (a :: b :: rest) pos) (pAnd pa pb) := by
  obtain ⟨ta, h1, h2⟩ := ha
  obtain ⟨tb, h3, h4⟩ := hb
  refine ⟨_, pw_and h1 h3, fun B H σ ρ Q re g => h2 B H σ ρ _ re ((Go.bind g).mono fun x g1 B1 H1 c1 => ?_)⟩
  cases x with
  | false =>
    have g2 : ∀ B' H', _ → _ := g1
    exact iteF (g2 B1 H1 c1)
  | true => exact iteT (h4 B1 H1 σ ρ Q (re.later c1) (BGo.later g1 c1))
theorem dw_or {pa pb : PTe} (ha : DT C X a pa) (hb : DW C X (.BoolOp .Or (b :: rest) pos) pb) : DW C X (.BoolOp .Or (a :: b :: rest) pos) (pOr pa pb) := by
  obtain ⟨ta, h1, h2⟩ := ha
  obtain ⟨tb, h3, h4⟩ := hb
  refine ⟨_, pw_or h1 h3, fun B H σ ρ Q re g => h2 B H σ ρ _ re ((Go.bind g).mono fun x g1 B1 H1 c1 => ?_)⟩
  cases x with
  | true =>
    have g2 : ∀ B' H', _ → _ := g1
    exact iteT (g2 B1 H1 c1)
  | false => exact iteF (h4 B1 H1 σ ρ Q (re.later c1) (BGo.later g1 c1))
theorem de_one {op} {pa : PEx} (h : DE C X a pa) : DE C X (.BoolOp op [a] pos) pa := let ⟨⟨t, h1, h2⟩⟩ := h; ⟨t, pe_one h1, h2⟩
theorem de_and {pa pb : PEx} (ha : DE C X a pa) (hb : DE C X (.BoolOp .And (b :: rest) pos) pb) : DE C X (.BoolOp .And (a :: b :: rest) pos) (pAndV pa pb) := by
  obtain ⟨ta, h1, h2⟩ := ha
  obtain ⟨tb, h3, h4⟩ := hb
  refine ⟨_, pe_and h1 h3, fun B H σ ρ Q re g => h2 B H σ ρ _ re ((Go.bind g).mono fun x g1 B1 H1 v c1 o1 => ?_)⟩
  have o2 := o1.rd
  cases q : x.rd with
  | bl c =>
    rw [q] at o2 g1
    refine ⟨c, VOk.bl o2, ?_⟩
    cases c with
    | false =>
      have g2 : ∀ B' H' v, _ → _ → _ := g1
      exact iteF (g2 B1 H1 _ c1 rfl)
    | true => exact iteT (h4 B1 H1 σ ρ Q (re.later c1) (EGo.later g1 c1))
  | _ => rw [q] at g1; exact g1.elim
theorem de_or {pa pb : PEx} (ha : DE C X a pa) (hb : DE C X (.BoolOp .Or (b :: rest) pos) pb) : DE C X (.BoolOp .Or (a :: b :: rest) pos) (pOrV pa pb) := by
  obtain ⟨ta, h1, h2⟩ := ha
  obtain ⟨tb, h3, h4⟩ := hb
  refine ⟨_, pe_or h1 h3, fun B H σ ρ Q re g => h2 B H σ ρ _ re ((Go.bind g).mono fun x g1 B1 H1 v c1 o1 => ?_)⟩
  have o2 := o1.rd
  cases q : x.rd with
  | bl c =>
    rw [q] at o2 g1
    refine ⟨c, VOk.bl o2, ?_⟩
    cases c with
    | true =>
      have g2 : ∀ B' H' v, _ → _ → _ := g1
      exact iteT (g2 B1 H1 _ c1 rfl)
    | false => exact iteF (h4 B1 H1 σ ρ Q (re.later c1) (EGo.later g1 c1))
  | _ => rw [q] at g1; exact g1.elim
theorem de_not {pa : PEx} (ha : DE C X a pa) : DE C X (.UnaryOp .Not a pos) (pUn oNot pa) := by
  obtain ⟨ta, h1, h2⟩ := ha
  refine ⟨_, pe_not h1, fun B H σ ρ Q re g => h2 B H σ ρ _ re ((Go.bind g).mono fun x g1 B1 H1 v c1 o1 => ?_)⟩
  have o2 := o1.rd
  cases q : x.rd with
  | bl c =>
    rw [q] at o2 g1
    exact ⟨c, VOk.bl o2, g1 B1 H1 _ c1 rfl⟩
  | _ => rw [q] at g1; exact g1.elim
theorem de_if {c : Expr} {pt : PTe} {pa pb : PEx} (hc : DT C X c pt) (ha : DE C X a pa) (hb : DE C X b pb) : DE C X (.IfExp c a b pos) (pIf pt pa pb) := by
  obtain ⟨tc, h1, h2⟩ := hc
  obtain ⟨ta, h3, h4⟩ := ha
  obtain ⟨tb, h5, h6⟩ := hb
  refine ⟨_, pe_ifExp h1 h3 h5, fun B H σ ρ Q re g => h2 B H σ ρ _ re ((Go.bind g).mono fun x g1 B1 H1 c1 => ?_)⟩
  cases x with
  | true => exact iteT (h4 B1 H1 σ ρ Q (re.later c1) (EGo.later g1 c1))
  | false => exact iteF (h6 B1 H1 σ ρ Q (re.later c1) (EGo.later g1 c1))

/-! ### arguments -/
theorem da_nil : DA C X [] pNil := ⟨_, pa_nil, fun B H σ ρ Q re g => g B H [] re.self trivial⟩
theorem da_cons {e : Expr} {es : List Expr} {pe : PEx} {pa : PAr} (ha : DE C X e pe) (hr : DA C X es pa) (hs : starEach (e :: es) X.env = (false, eval e X.env) :: starEach es X.env := by rfl) : DA C X (e :: es) (pCons pe pa) := by
  obtain ⟨ta, h1, h2⟩ := ha
  obtain ⟨tb, h3, h4⟩ := hr
  refine ⟨_, pa_cons h1 h3 hs, fun B H σ ρ Q re g => h2 B H σ ρ _ re ((Go.bind g).mono fun x g1 B1 H1 v c1 o1 => ?_)⟩
  cases q : x.keep with
  | ex z => cases x with
    | cl d => cases q
    | li f l => cases f <;> cases q
  | bad => rw [q] at g1; exact g1.elim
  | ok d =>
    rw [q] at g1
    have g1' : Go C.T C.E H ((pa ρ).bind fun l => .ok (d :: l)) _ := g1
    obtain ⟨B2, c2, s2, r2⟩ := EOk.kept c1 o1 q
    refine h4 B2 H1 σ ρ _ (re.later c2) ((Go.later (Go.bind g1') c2.k0).mono fun l g2 B3 H3 vs c3 r3 => ?_)
    have g3 : ∀ B' H' vs, _ → _ → _ := g2
    exact g3 B3 H3 (v :: vs) (c2.trans c3) ⟨Rep.mono c3.b0 d v r2, r3⟩
theorem dl_nil : DL C X [] pNil := ⟨_, pa_nil, fun B H σ ρ Q re g => g B H [] re.self trivial⟩
theorem dl_cons {e : Expr} {es : List Expr} {pe : PEx} {pa : PAr} (ha : DE C X e pe) (hr : DL C X es pa) (hs : starEach (e :: es) X.env = (false, eval e X.env) :: starEach es X.env := by rfl) : DL C X (e :: es) (pConsR pe pa) := by
  obtain ⟨ta, h1, h2⟩ := ha
  obtain ⟨tb, h3, h4⟩ := hr
  refine ⟨_, pa_cons h1 h3 hs, fun B H σ ρ Q re g => h2 B H σ ρ _ re ((Go.bind g).mono fun x g1 B1 H1 v c1 o1 => ?_)⟩
  refine h4 B1 H1 σ ρ _ (re.later c1) ((Go.later (Go.bind g1) c1.k0).mono fun l g2 B3 H3 vs c3 r3 => ?_)
  have g3 : ∀ B' H' vs, _ → _ → _ := g2
  exact g3 B3 H3 (v :: vs) (c1.trans c3) ⟨VOk.rep c3.bh (o1.rd.later c3), r3⟩

/-! ### displays -/
theorem de_lst {es : List Expr} {pa : PAr} (ok : CxOk C X k) (h : DA C X es pa) : DE C X (.List es pos) (pLst pa) := by
  obtain ⟨ta, h1, h2⟩ := h
  refine ⟨_, pe_lst h1, fun B H σ ρ Q re g => h2 B H σ ρ _ re ((Go.bind g).mono fun l g1 B1 H1 vs c1 r1 => ?_)⟩
  by_cases hl : l.length ≤ line
  · rw [if_pos hl] at g1
    refine ⟨by rw [r1.length]; exact hl, fun p hp => ?_⟩
    have c2 := Hc.new (o := .lst vs) ok.tx c1.bh c1.j c1.nt hp
    refine g1 B1 _ _ (c1.trans c2) ⟨p, vs, rfl, upd_same, r1, ?_, fun _ => c1.k0.none hp⟩
    cases q : B1 p with
    | none => rfl
    | some u => rw [c1.bh _ _ q] at hp; cases hp
  · rw [if_neg hl] at g1
    exact g1.elim
theorem de_tup {es : List Expr} {pa : PAr} {x1} (ok : CxOk C X k) (h : DA C X es pa) : DE C X (.Tuple es x1 pos) (pTup pa) := by
  obtain ⟨ta, h1, h2⟩ := h
  refine ⟨_, pe_tup h1, fun B H σ ρ Q re g => h2 B H σ ρ _ re ((Go.bind g).mono fun l g1 B1 H1 vs c1 r1 => ?_)⟩
  by_cases hl : l.length ≤ line
  · rw [if_pos hl] at g1
    refine ⟨by rw [r1.length]; exact hl, fun p hp => ?_⟩
    have c2 := Hc.newK (o := .tup vs) ok.tx c1.bh c1.j c1.nt hp (fun ps z => nomatch z)
    exact g1 _ _ _ (c1.trans c2) ⟨p, vs, rfl, .inl (.inl upd_same), Reps.mono c2.b0 l vs r1⟩
  · rw [if_neg hl] at g1
    exact g1.elim

/-! ### slices -/
theorem do_none : DO C X none pNoPart := ⟨_, po_none, fun B H σ ρ Q re g => g B H re.self⟩
theorem do_some {e : Expr} {pe : PEx} (h : DE C X e pe) : DO C X (some e) (pPart pe) := by
  obtain ⟨te, h1, h2⟩ := h
  refine ⟨_, po_some h1, fun B H σ ρ Q re g => h2 B H σ ρ _ re ((Go.bind g).mono fun x g1 B1 H1 v c1 o1 => ?_)⟩
  have o2 := o1.rd
  cases q : x.rd with
  | int i =>
    rw [q] at o2 g1
    exact ⟨i, VOk.int o2, g1 B1 H1 c1⟩
  | _ => rw [q] at g1; exact g1.elim
theorem sIx_eq (n d : Nat) (o : Option Int) : HT.sIx n d o = sIx n d o := by
  cases o with
  | none => rfl
  | some v =>
    have e := HT.clip_eq v n d
    have e2 : sIx n d (some v) = (if v < 0 then max (v + (n : Int)) 0 else min v (n : Int)).toNat := rfl
    rw [e2, e]
    exact (Int.toNat_natCast _).symm
theorem cut_eq (xs : List V) (lo hi : Option Int) : cutV xs lo hi = cut xs lo hi := by
  unfold cutV cut
  rw [sIx_eq, sIx_eq]
theorem Reps.cut {T : Tx} {B : Hp} {l : List D} {vs : List V} (h : Reps T B vs l) (lo hi : Option Int) : Reps T B (PW.cut vs lo hi) (PW.cut l lo hi) := by
  unfold PW.cut
  rw [h.length]
  exact Reps.take _ (Reps.drop _ h)
theorem de_slice {e : Expr} {lo hi : Option Expr} {pe : PEx} {pl ph : PPart} {p2 : Pos} (ok : CxOk C X k) (he : DE C X e pe) (hl : DO C X lo pl) (hu : DO C X hi ph) : DE C X (.Subscript e (.Slice lo hi none p2) pos) (pSl pe pl ph) := by
  obtain ⟨te, h1, h2⟩ := he
  obtain ⟨tl, h3, h4⟩ := hl
  obtain ⟨th, h5, h6⟩ := hu
  refine ⟨_, pe_slice sl_list h1 h3 h5, fun B H σ ρ Q re g => h2 B H σ ρ _ re ((Go.bind g).mono fun x g1 B1 H1 v c1 o1 => ?_)⟩
  refine h4 B1 H1 σ ρ _ (re.later c1) ((Go.later (Go.bind g1) c1.k0).mono fun i g2 B2 H2 c2 => ?_)
  refine h6 B2 H2 σ ρ _ (re.later (c1.trans c2)) ((Go.later (Go.bind g2) (c1.trans c2).k0).mono fun j g3 B3 H3 c3 => ?_)
  have o2 := o1.rd.later (c2.trans c3)
  cases q : x.rd with
  | lst l =>
    rw [q] at o2 g3
    obtain ⟨a, vs, e1, e2, e3⟩ := VOk.lst c3.bh o2
    refine ⟨a, vs, e1, .inl e2, fun p hp => ?_⟩
    have c4 := Hc.new (o := .lst (cutV vs i j)) ok.tx c3.bh c3.j c3.nt hp
    refine g3 B3 _ _ (((c1.trans c2).trans c3).trans c4) ⟨p, _, rfl, upd_same, ?_, ?_, fun _ => ((c1.trans c2).trans c3).k0.none hp⟩
    · rw [cut_eq]
      exact e3.cut i j
    · cases q : B3 p with
      | none => rfl
      | some u => rw [c3.bh _ _ q] at hp; cases hp
  | _ => rw [q] at g3; exact g3.elim
end
end PW
namespace PW
open PySem PySem.Spec PyProof.Rows L2

/-! ### operations of HandS, for lists that are also read where they are locked -/
section
variable {X : Cx} {pins : List (Addr × Obj)} {σ : L2.St} {H : Hp} {s : Shared}
theorem lstR (I : Inv X pins σ H s) {l : Addr} {xs : List V} (h : Rd H l (.lst xs)) : xs.length ≤ sizeLine ∧ ∃ (its : List Value) (n : Nat), Vals xs its ∧ xs.length = its.length ∧ s.heap.get? l = some { cls := .type "list", data := .seq its.toArray n } := by
  obtain ⟨z, its, n, r, e⟩ := h.ok I.hok
  exact ⟨z, its, n, r, r.length, e⟩
def rCatR : R2 := fun x y H Q => ∃ l b xs zs, x = .ref l ∧ y = .ref b ∧ Rd H l (.lst xs) ∧ Rd H b (.lst zs) ∧ xs.length + zs.length ≤ sizeLine ∧ ∀ p, H p = none → Q (.ref p) (upd H p (.lst (xs ++ zs)))
theorem op_catR : OpR X (binaryOp .Add) rCatR := by
  intro pins s σ H x y v u Q I rx ry h
  obtain ⟨l, b, xs, zs, rfl, rfl, hH, hB, hz, q⟩ := h
  cases rx
  cases ry
  obtain ⟨z, its, n, r, hl, e⟩ := lstR I hH
  obtain ⟨z2, its2, n2, r2, hl2, e2⟩ := lstR I hB
  refine PySem.P.add_list e e2 ?_ (by rw [List.size_toArray, List.size_toArray]; omega)
  have ea : its.toArray ++ its2.toArray = (its ++ its2).toArray := by simp
  rw [ea]
  exact ⟨.ref _, _, I.lnew (t' := s.toks) (r.append r2) (by rw [List.length_append]; omega), rfl, q _ I.fresh⟩
def rRepR : R2 := fun x y H Q => ∃ l k xs, x = .ref l ∧ y = .int k ∧ Rd H l (.lst xs) ∧ -(2 ^ 63) ≤ k ∧ k < 2 ^ 63 ∧ xs.length * k.toNat ≤ sizeLine ∧
  ∀ p, H p = none → Q (.ref p) (upd H p (.lst (List.replicate k.toNat xs).flatten))
theorem op_repR : OpR X (binaryOp .Mult) rRepR := by
  intro pins s σ H x y v u Q I rx ry h
  obtain ⟨l, k, xs, rfl, rfl, hH, h1, h2, hz, q⟩ := h
  cases rx
  obtain ⟨t, rfl⟩ := ry
  obtain ⟨z, its, n, r, hl, e⟩ := lstR I hH
  have hlen : its.toArray.size * k.toNat ≤ sizeLine := by rw [List.size_toArray, ← hl]; exact hz
  have hcap : ¬ its.toArray.size * k.toNat > (2 ^ 63 - 1) / 8 := by
    have : (sizeLine : Nat) ≤ (2 ^ 63 - 1) / 8 := by decide
    omega
  have hfit : ¬ (!Builtin.List.listFitsIndex k) = true := by
    rw [fitsIndex_both h1 h2]
    exact Bool.false_ne_true
  have hlong : ¬ Builtin.List.listTooLong (its.toArray.size * k.toNat) = true := by
    rw [notLongL hlen]
    exact Bool.false_ne_true
  have hnew : List.foldl (fun x1 x2 => x1 ++ x2) #[] (List.replicate (if its.toArray.isEmpty = true then 0 else k.toNat) its.toArray) = (List.replicate k.toNat its).flatten.toArray := by
    have f0 : ∀ m : Nat, List.foldl (fun x1 x2 => x1 ++ x2) #[] (List.replicate m its.toArray) = (List.replicate m its).flatten.toArray := fun m => by
      have := foldl_rep its m []
      rw [List.nil_append] at this
      exact this
    rw [f0]
    cases its with
    | nil => simp
    | cons a r' => rw [if_neg (by simp)]
  refine wpAny_binaryOp_repeat_ref (T := "list") (U := "int") (by decide) ⟨_, e, rfl⟩ (fun s' => typeIs_int s' k t) noFill_list_mul F.fills_int_mul F.slot_int_rmul repeat_list F.slot_int_index.lookup
    (call_meets F.slot_int_rmul (typeIs_int s k t) F.entry_int_rmul (F.args_int_rmul_2 _ _) (int___rmul___int_list k t l its.toArray n)
      ⟨e, rfl, ⟨_, e, rfl⟩, call_meets F.slot_list_mul ⟨_, e, rfl⟩ F.entry_list_mul (F.args_list_mul_2 _ _) (AutoListH.list___mul___list_int_3 l its.toArray n k t hfit hcap hlong) ⟨e, ?_⟩⟩)
  rw [hnew]
  exact ⟨.ref _, _, I.lnew (t' := s.toks) (r.rep k.toNat) (by rw [PyProof.Rows.lm_len_rep_flat, Nat.mul_comm]; exact hz), rfl, q _ I.fresh⟩
def rExtendR : V → List V → Hp → VK → Prop := fun x vs H Q => ∃ l b xs zs, x = .ref l ∧ vs = [.ref b] ∧ H l = some (.lst xs) ∧ Rd H b (.lst zs) ∧ xs.length + zs.length ≤ sizeLine ∧ Q .non (upd H l (.lst (xs ++ zs)))
theorem mt_extendR : MtM X "list.extend" rExtendR := by
  intro pins s σ H x vs v us Q I rx rv h
  obtain ⟨l, b, xs, zs, rfl, rfl, hH, hB, hz, q⟩ := h
  cases rx
  obtain ⟨u, rfl, ru⟩ := rv.one
  cases ru
  obtain ⟨z, its, n, r, hl, e⟩ := I.lstM hH
  obtain ⟨z2, its2, n2, r2, hl2, e2⟩ := lstR I hB
  have hsz : its.toArray.size + its2.toArray.size ≤ sizeLine := by rw [List.size_toArray, List.size_toArray]; omega
  have hlong : ¬ (!its.toArray.isEmpty && Builtin.List.listTooLong (its.toArray.size + its2.toArray.size)) = true := by
    rw [notLongL hsz, Bool.and_false]
    exact Bool.false_ne_true
  refine call_meets F.slot_list_extend ⟨_, e, rfl⟩ F.entry_list_extend (F.args_list_extend_2 _ _)
    (AutoSeq1.list_extend_list_list_0 l its.toArray n b its2.toArray n2 hlong (by rw [List.size_toArray]; omega) (by omega)) ⟨e, e2, ?_⟩
  refine ⟨.non, _, I.lset (its' := its ++ its2) hH e (by simp) (r.append r2) ?_, rfl, q⟩
  rw [List.length_append]
  omega
/-- a list, whatever it holds, with the empty one -/
def rNil (neg : Bool) : R2 := fun x y H Q => ∃ a b xs, x = .ref a ∧ y = .ref b ∧ Rd H a (.lst xs) ∧ Rd H b (.lst []) ∧ Q (.bl (if neg then !xs.isEmpty else xs.isEmpty)) H
theorem op_eqNil (hu : X.A.units < cLine) : OpR X (compareOp .Eq) (rNil false) := by
  intro pins s σ H x y v u Q I rx ry h
  obtain ⟨a, b, xs, rfl, rfl, h1, h2, q⟩ := h
  cases rx
  cases ry
  obtain ⟨z, its, n, r, hl, e⟩ := lstR I h1
  obtain ⟨z2, its2, n2, r2, hl2, e2⟩ := lstR I h2
  cases r2
  have la : s.heap.IsList a its.toArray := ⟨_, e, rfl, n, rfl⟩
  have lb : s.heap.IsList b (([] : List Value)).toArray := ⟨_, e2, rfl, n2, rfl⟩
  cases r with
  | nil => exact SeqAt.eq_listAt (e := fun _ => true) la lb rfl hu (fun j h1 _ => absurd h1 (by simp)) ⟨.bl true, H, I, rfl, q⟩
  | cons r1 r2 => exact SeqAt.eq_list_lengthsAt la lb (by simp) hu ⟨.bl false, H, I, rfl, q⟩
theorem op_neNil (hu : X.A.units < cLine) : OpR X (compareOp .NotEq) (rNil true) := by
  intro pins s σ H x y v u Q I rx ry h
  obtain ⟨a, b, xs, rfl, rfl, h1, h2, q⟩ := h
  cases rx
  cases ry
  obtain ⟨z, its, n, r, hl, e⟩ := lstR I h1
  obtain ⟨z2, its2, n2, r2, hl2, e2⟩ := lstR I h2
  cases r2
  have la : s.heap.IsList a its.toArray := ⟨_, e, rfl, n, rfl⟩
  have lb : s.heap.IsList b (([] : List Value)).toArray := ⟨_, e2, rfl, n2, rfl⟩
  cases r with
  | nil => exact SeqAt.RcNeAt.lists (e := fun _ => true) la lb rfl hu (fun j h1 _ => absurd h1 (by simp)) _ _ _ _ ⟨.bl false, H, I, rfl, q⟩
  | cons r1 r2 => exact SeqAt.RcNeAt.lists_lengths la lb (by simp) hu _ _ _ _ ⟨.bl true, H, I, rfl, q⟩
end

/-! ### the operations say what the pure ones say -/
section
variable {T : Tx} (tx : TxOk T)
theorem free_of {B H : Hp} {p : Addr} (s : Same B H) (hp : H p = none) : B p = none := by
  cases q : B p with
  | none => rfl
  | some u => rw [s _ _ q] at hp; cases hp
/-- a new list as an answer -/
theorem newL {B H : Hp} {Q : VK} {z : PW.E} {l : List D} {vs : List V} (tx : TxOk T) (c : Hc T H B B H) (q : ∀ B' H' v, Hc T H B B' H' → EOk T H B' H' v z → Q v H') (e : z = .li true l) (r : Reps T B vs l) : ∀ p, H p = none → Q (.ref p) (upd H p (.lst vs)) := fun p hp => by
  subst e
  exact q B _ _ (Hc.new (o := .lst vs) tx c.bh c.j c.nt hp) ⟨p, vs, rfl, upd_same, r, free_of c.bh hp, fun _ => hp⟩

def rAddA : R2 := fun x y H Q => rI0 (fun i j => .int (i + j)) x y H Q ∨ (rCatR x y H Q ∨ ∃ i j, x = .str i ∧ y = .str j ∧ i.length + j.length ≤ sizeLine ∧ Q (.str (i ++ j)) H)
theorem op_addA {X : Cx} : OpR X (binaryOp .Add) rAddA := op_add.or (op_catR.or op_add_str)
theorem nox_add : NoX oAdd := fun d e x => by
  unfold oAdd
  split <;> first | (split <;> exact fun z => nomatch z) | exact fun z => nomatch z
theorem ok_add (tx : TxOk T) : R2Ok T rAddA oAdd := by
  intro B H x y d e z Q c vx vy hz q
  unfold oAdd at hz
  split at hz
  · cases hz
    exact .inl ⟨_, _, vx.int, vy.int, q B H _ c rfl⟩
  · split at hz
    · rename_i a b hl
      cases hz
      obtain ⟨p, vs, e1, e2, e3⟩ := vx.lst c.bh
      obtain ⟨p2, us, e4, e5, e6⟩ := vy.lst c.bh
      refine .inr (.inl ⟨p, p2, vs, us, e1, e4, e2, e5, by rw [e3.length, e6.length]; exact hl, ?_⟩)
      exact newL tx c q rfl (e3.append e6)
    · cases hz
  · split at hz
    · rename_i hl
      cases hz
      exact .inr (.inr ⟨_, _, vx.str, vy.str, hl, q B H _ c rfl⟩)
    · cases hz
  · cases hz
theorem nox_sub : NoX oSub := fun d e x => by
  unfold oSub
  split <;> exact fun z => nomatch z
theorem ok_sub : R2Ok T (rI0 fun i j => .int (i - j)) oSub := by
  intro B H x y d e z Q c vx vy hz q
  unfold oSub at hz
  split at hz
  · cases hz
    exact ⟨_, _, vx.int, vy.int, q B H _ c rfl⟩
  · cases hz
def rMulA : R2 := fun x y H Q => rI CMul (fun i j => .int (i * j)) x y H Q ∨ rRepR x y H Q
theorem op_mulA {X : Cx} : OpR X (binaryOp .Mult) rMulA := op_mul.or op_repR
theorem nox_mul : NoX oMul := fun d e x => by
  unfold oMul
  split <;> first | (split <;> exact fun z => nomatch z) | exact fun z => nomatch z
theorem ok_mul (tx : TxOk T) : R2Ok T rMulA oMul := by
  intro B H x y d e z Q c vx vy hz q
  unfold oMul at hz
  split at hz
  · split at hz
    · rename_i i j hs
      cases hz
      refine .inl ⟨_, _, vx.int, vy.int, ?_, q B H _ c rfl⟩
      rcases Bool.or_eq_true_iff.mp hs with z | z
      · have := Bool.and_eq_true_iff.mp z
        exact .inl ⟨of_decide_eq_true this.1, of_decide_eq_true this.2⟩
      · have := Bool.and_eq_true_iff.mp z
        exact .inr ⟨of_decide_eq_true this.1, of_decide_eq_true this.2⟩
    · cases hz
  · split at hz
    · rename_i a k hl
      cases hz
      obtain ⟨p, vs, e1, e2, e3⟩ := vx.lst c.bh
      refine .inr ⟨p, k, vs, e1, vy.int, e2, hl.1, hl.2.1, by rw [e3.length]; exact hl.2.2, ?_⟩
      exact newL tx c q rfl (Reps.rep e3 _)
    · cases hz
  · cases hz
theorem nox_div : NoX oDiv := fun d e x => by
  unfold oDiv
  split <;> first | (split <;> exact fun z => nomatch z) | exact fun z => nomatch z
theorem ok_div : R2Ok T (rI CDiv fun i j => .int (i / j)) oDiv := by
  intro B H x y d e z Q c vx vy hz q
  unfold oDiv at hz
  split at hz
  · split at hz
    · rename_i hl
      cases hz
      exact ⟨_, _, vx.int, vy.int, hl, q B H _ c rfl⟩
    · cases hz
  · cases hz
theorem nox_mod : NoX oMod := fun d e x => by
  unfold oMod
  split <;> first | (split <;> exact fun z => nomatch z) | exact fun z => nomatch z
theorem ok_mod : R2Ok T (rI (fun _ j => 0 < j) fun i j => .int (i % j)) oMod := by
  intro B H x y d e z Q c vx vy hz q
  unfold oMod at hz
  split at hz
  · split at hz
    · rename_i hl
      cases hz
      exact ⟨_, _, vx.int, vy.int, hl, q B H _ c rfl⟩
    · cases hz
  · cases hz
theorem nox_cmp (p : Int → Int → Bool) : NoX (oCmp p) := fun d e x => by
  unfold oCmp
  split <;> exact fun z => nomatch z
theorem ok_cmp (p : Int → Int → Bool) : R2Ok T (rI0 fun i j => .bl (p i j)) (oCmp p) := by
  intro B H x y d e z Q c vx vy hz q
  unfold oCmp at hz
  split at hz
  · cases hz
    exact ⟨_, _, vx.int, vy.int, q B H _ c rfl⟩
  · cases hz

/-! ### == -/
theorem eqvAll_ints : ∀ a b : List Int, PyData.eqvAll (a.map PyData.int) (b.map PyData.int) = decide (a = b)
  | [], [] => rfl
  | [], _ :: _ => rfl
  | _ :: _, [] => rfl
  | x :: a, y :: b => by
    show ((x == y) && PyData.eqvAll (a.map PyData.int) (b.map PyData.int)) = _
    rw [eqvAll_ints a b]
    by_cases h : x = y
    · subst h
      by_cases h2 : a = b
      · subst h2; simp
      · simp [h2]
    · simp [h]
theorem dpAll_ints {K : PySem.W.Frag} {H : Hp} : ∀ ns : List Int, DpAll K H (ns.map V.int) (ns.map PyData.int)
  | [] => .nil
  | n :: r => .cons (.int n) (dpAll_ints r)
theorem shaped_ints (ns : List Int) : SeqAt.shaped (.list (ns.map PyData.int)) = true := by
  have h1 : ∀ l : List Int, PyData.canLayAll0 (l.map PyData.int) = true := fun l => by
    induction l with
    | nil => rfl
    | cons a r ih => exact ih
  have h2 : ∀ l : List Int, PyData.depthAll (l.map PyData.int) = 0 := fun l => by
    induction l with
    | nil => rfl
    | cons a r ih =>
      show max 0 (PyData.depthAll (r.map PyData.int)) = 0
      rw [ih] <;> rfl
  unfold SeqAt.shaped
  show (PyData.canLayAll0 (ns.map PyData.int) && decide (PyData.depthAll (ns.map PyData.int) + 1 ≤ 64)) = true
  rw [h1, h2] <;> rfl
theorem ints?_some : ∀ {l : List D} {ns : List Int}, ints? l = some ns → l = ns.map D.int
  | [], ns, h => by
    cases h
    rfl
  | .int i :: r, ns, h => by
    unfold ints? at h
    obtain ⟨m, h1, h2⟩ := Option.map_eq_some_iff.mp h
    subst h2
    rw [ints?_some h1] <;> rfl
  | .non :: _, _, h => by cases h
  | .bl _ :: _, _, h => by cases h
  | .str _ :: _, _, h => by cases h
  | .lst _ :: _, _, h => by cases h
  | .tup _ :: _, _, h => by cases h
  | .ob _ _ :: _, _, h => by cases h
  | .fn _ :: _, _, h => by cases h
  | .arg _ :: _, _, h => by cases h
  | .clo _ _ :: _, _, h => by cases h
def rEqA (K : PySem.W.Frag) : R2 := fun x y H Q => rEq x y H Q ∨ (rNil false x y H Q ∨ rEqD K x y H Q)
def rNeA (K : PySem.W.Frag) : R2 := fun x y H Q => rNe x y H Q ∨ (rNil true x y H Q ∨ rNeD K x y H Q)
theorem op_eqA {X : Cx} (hu : X.A.units + 64 < cLine) : OpR X (compareOp .Eq) (rEqA X.K) := op_eq.or ((op_eqNil (by omega)).or (op_eqD hu))
theorem op_neA {X : Cx} (hu : X.A.units + 64 < cLine) : OpR X (compareOp .NotEq) (rNeA X.K) := op_ne.or ((op_neNil (by omega)).or (op_neD hu))
theorem nox_eq (neg : Bool) : NoX (oEq neg) := fun d e x => by
  unfold oEq
  split <;> exact fun z => nomatch z
/-- scalars: what they stand for is told apart as data is -/
theorem sc_ok {B H : Hp} {x y : V} {d e : D} {k : Bool} (vx : VOk T B H x d) (vy : VOk T B H y e) (h : D.sc d e = some k) : scal x y = true ∧ decide (x = y) = k := by
  unfold D.sc at h
  split at h
  · cases h
    rw [vx.non, vy.non]
    exact ⟨rfl, by simp⟩
  · cases h
    rw [vx.non, vy.int]
    exact ⟨rfl, by simp⟩
  · cases h
    rw [vx.int, vy.non]
    exact ⟨rfl, by simp⟩
  · cases h
    rw [vx.int, vy.int]
    exact ⟨rfl, by simp⟩
  · cases h
    rw [vx.str, vy.str]
    exact ⟨rfl, by simp⟩
  · cases h
    rw [vx.bl, vy.bl]
    exact ⟨rfl, by simp⟩
  · cases h
theorem eqv_ok {B H : Hp} {x y : V} {d e : D} {k : Bool} {Q : VK} (neg : Bool) (c : Hc T H B B H) (vx : VOk T B H x d) (vy : VOk T B H y e) (h : eqv d e = some k) (q : Q (.bl (if neg then !k else k)) H) :
    (if neg then rNeA T.K x y H Q else rEqA T.K x y H Q) := by
  have sc : D.sc d e = some k → (if neg then rNeA T.K x y H Q else rEqA T.K x y H Q) := fun h => by
    obtain ⟨h1, h2⟩ := sc_ok vx vy h
    cases neg with
    | true => exact .inl ⟨h1, by rw [h2]; exact q⟩
    | false => exact .inl ⟨h1, by rw [h2]; exact q⟩
  unfold eqv at h
  split at h
  · rename_i a b
    obtain ⟨p, vs, e1, e2, e3⟩ := vx.lst c.bh
    obtain ⟨p2, us, e4, e5, e6⟩ := vy.lst c.bh
    split at h
    · rename_i hb
      cases h
      have hb' : b = [] := List.isEmpty_iff.mp hb
      subst hb'
      have hu : us = [] := List.length_eq_zero_iff.mp (by rw [e6.length] <;> rfl)
      subst hu
      have hi : vs.isEmpty = a.isEmpty := by
        have := e3.length
        cases vs <;> cases a <;> simp_all
      cases neg with
      | true => exact .inr (.inl ⟨p, p2, vs, e1, e4, e2, e5, by rw [hi]; exact q⟩)
      | false => exact .inr (.inl ⟨p, p2, vs, e1, e4, e2, e5, by rw [hi]; exact q⟩)
    · split at h
      · rename_i x1 y1 h1 h2
        cases h
        have i1 := ints?_some h1
        have i2 := ints?_some h2
        subst i1
        subst i2
        rw [e3.ints] at e2
        rw [e6.ints] at e5
        have hd : Dp T.K H x (.list (x1.map PyData.int)) := by rw [e1]; exact .lst (.inl e2) (dpAll_ints _)
        have he : Dp T.K H y (.list (y1.map PyData.int)) := by rw [e4]; exact .lst (.inl e5) (dpAll_ints _)
        have ee : PyData.eqv (.list (x1.map PyData.int)) (.list (y1.map PyData.int)) = decide (x1 = y1) := eqvAll_ints _ _
        cases neg with
        | true => exact .inr (.inr ⟨_, _, hd, he, shaped_ints _, shaped_ints _, by rw [ee]; exact q⟩)
        | false => exact .inr (.inr ⟨_, _, hd, he, shaped_ints _, shaped_ints _, by rw [ee]; exact q⟩)
      · cases h
  · exact sc h
theorem ok_eq : R2Ok T (rEqA T.K) (oEq false) := by
  intro B H x y d e z Q c vx vy hz q
  unfold oEq at hz
  split at hz
  · rename_i k hk
    cases hz
    exact eqv_ok (Q := Q) false c vx vy hk (q B H _ c rfl)
  · cases hz
theorem ok_ne : R2Ok T (rNeA T.K) (oEq true) := by
  intro B H x y d e z Q c vx vy hz q
  unfold oEq at hz
  split at hz
  · rename_i k hk
    cases hz
    exact eqv_ok (Q := Q) true c vx vy hk (q B H _ c rfl)
  · cases hz

/-! ### is None -/
theorem rep_non {B H : Hp} {v : V} {d : D} (h : VOk T B H v d) : decide (v = .non) = d.isNon := by
  cases d with
  | non => rw [h.non] <;> rfl
  | bl b => rw [h.bl] <;> rfl
  | int i => rw [h.int] <;> rfl
  | str i => rw [h.str] <;> rfl
  | lst l =>
    rcases h with ⟨a, _, e, _⟩ | ⟨a, _, _, e, _⟩ <;> rw [e] <;> rfl
  | tup l =>
    rcases h with ⟨a, _, e, _⟩ | ⟨a, _, _, e, _⟩ <;> rw [e] <;> rfl
  | ob c l =>
    rcases h with ⟨a, _, _, e, _⟩ | ⟨a, _, _, e, _⟩ <;> rw [e] <;> rfl
  | fn n =>
    rcases h with ⟨a, e, _⟩ | ⟨a, _, _, e, _⟩ <;> rw [e] <;> rfl
  | arg l =>
    rcases h with ⟨a, _, e, _⟩ | ⟨a, _, _, e, _⟩ <;> rw [e] <;> rfl
  | clo k l =>
    rcases h with ⟨f, F, e, _⟩ | ⟨a, _, _, e, _⟩ <;> rw [e] <;> rfl

/-! ### in -/
theorem flat_ok {B H : Hp} {v : V} {d : D} (h : Rep T B v d) (f : d.flat = true) : (∃ i, d = .int i ∧ v = .int i) ∨ ∃ x, d = .str x ∧ v = .str x := by
  cases d with
  | int i => exact .inl ⟨i, rfl, h⟩
  | str i => exact .inr ⟨i, rfl, h⟩
  | _ => cases f
theorem same_ok {B B2 : Hp} {v u : V} {d e : D} (h : Rep T B v d) (f : d.flat = true) (h2 : Rep T B2 u e) (f2 : e.flat = true) : flatV v = true ∧ eqV v u = D.same d e := by
  rcases flat_ok (H := B) h f with ⟨i, rfl, rfl⟩ | ⟨i, rfl, rfl⟩
  · rcases flat_ok (H := B) h2 f2 with ⟨j, rfl, rfl⟩ | ⟨j, rfl, rfl⟩
    · refine ⟨rfl, ?_⟩
      show (i == j) = decide (i = j)
      by_cases h : i = j
      · simp [h]
      · simp [h]
    · exact ⟨rfl, by simp [eqV, D.same]⟩
  · rcases flat_ok (H := B) h2 f2 with ⟨j, rfl, rfl⟩ | ⟨j, rfl, rfl⟩
    · exact ⟨rfl, by simp [eqV, D.same]⟩
    · refine ⟨rfl, ?_⟩
      show (i == j) = decide (i = j)
      by_cases h : i = j
      · simp [h]
      · simp [h]
theorem in_ok {B B2 : Hp} {v : V} {d : D} (h : Rep T B2 v d) (f : d.flat = true) : ∀ {l : List D} {vs : List V}, Reps T B vs l → l.all D.flat = true → vs.all flatV = true ∧ inV v vs = l.any fun z => D.same z d
  | [], [], _, _ => ⟨rfl, rfl⟩
  | e :: l, u :: vs, ⟨h1, h2⟩, g => by
    rw [List.all_cons, Bool.and_eq_true] at g
    obtain ⟨k1, k2⟩ := in_ok h f h2 g.2
    obtain ⟨k3, k4⟩ := same_ok h1 g.1 h f
    refine ⟨by rw [List.all_cons, k3, k1] <;> rfl, ?_⟩
    unfold inV at k2 ⊢
    rw [List.any_cons, List.any_cons, k2, k4]
  | [], _ :: _, h, _ => h.elim
  | _ :: _, [], h, _ => h.elim
theorem nox_in (neg : Bool) : NoX (oIn neg) := fun d e x => by
  unfold oIn
  split <;> first | (split <;> exact fun z => nomatch z) | exact fun z => nomatch z
theorem ok_in (neg : Bool) : R2Ok T (rIn T.K neg) (oIn neg) := by
  intro B H x y d e z Q c vx vy hz q
  unfold oIn at hz
  split at hz
  · rename_i l hl
    split at hz
    · rename_i hf
      have hf' := Bool.and_eq_true_iff.mp hf
      have rx : Rep T H x d := vx.rep c.bh
      have seq : ∃ p vs, y = .ref p ∧ (SqL T.K H p vs ∨ SqT T.K H p vs) ∧ Reps T B vs l := by
        cases e with
        | lst l' =>
          cases hl
          obtain ⟨p, vs, e1, e2, e3⟩ := vy.lst c.bh
          exact ⟨p, vs, e1, .inl (.inl e2), e3⟩
        | tup l' =>
          cases hl
          obtain ⟨p, vs, e1, e2, e3⟩ := vy.tup c.bh
          exact ⟨p, vs, e1, .inr e2, e3⟩
        | arg l' =>
          cases hl
          obtain ⟨p, vs, e1, e2, e3⟩ := vy.arg c.bh
          exact ⟨p, vs, e1, .inl e2, e3⟩
        | _ => cases hl
      obtain ⟨p, vs, e1, e2, e3⟩ := seq
      obtain ⟨k1, k2⟩ := in_ok rx hf'.1 e3 hf'.2
      refine ⟨p, vs, e1, e2, (same_ok rx hf'.1 rx hf'.1).1, k1, ?_⟩
      rw [k2]
      cases hz
      exact q B H _ c rfl
    · cases hz
  · cases hz

/-! ### len, items -/
theorem nox_len : NoX1 oLen := fun d x => by
  unfold oLen
  split <;> exact fun z => nomatch z
theorem len_ok {B H : Hp} {v : V} {d : D} {n : Nat} (c : Hc T H B B H) (h : VOk T B H v d) (e : d.len = some n) : LenV T.K v H n := by
  cases d with
  | lst l =>
    cases e
    obtain ⟨p, vs, e1, e2, e3⟩ := h.lst c.bh
    rw [e1]
    exact .inl ⟨vs, .inl e2, e3.length.symm⟩
  | arg l =>
    cases e
    obtain ⟨p, vs, e1, e2, e3⟩ := h.arg c.bh
    rw [e1]
    exact .inl ⟨vs, e2, e3.length.symm⟩
  | tup l =>
    cases e
    obtain ⟨p, vs, e1, e2, e3⟩ := h.tup c.bh
    rw [e1]
    exact .inr ⟨vs, e2, e3.length.symm⟩
  | str x =>
    rw [h.str]
    unfold D.len at e
    by_cases hx : x.length ≤ line
    · simp only [hx, if_true] at e
      cases e
      exact ⟨hx, rfl⟩
    · simp only [hx, if_false] at e
      cases e
  | _ => cases e
theorem ix_eq (n : Nat) (i : Int) : ixN n i = ixOf n i := rfl
theorem at_eq {α : Type} (xs : List α) (i : Int) : atI xs i = (ixOf xs.length i).bind fun j => xs[j]? := rfl
theorem nox_ix : NoX oIx := fun d e x => by
  unfold oIx
  split <;> first | (split <;> first | (split <;> exact fun z => nomatch z) | exact fun z => nomatch z) | exact fun z => nomatch z
theorem reps_at {B : Hp} {l : List D} {vs : List V} {i : Int} {d : D} (h : Reps T B vs l) (e : ((ixOf l.length i).bind fun j => l[j]?) = some d) : ∃ v, atI vs i = some v ∧ Rep T B v d := by
  rw [at_eq, h.length]
  cases q : ixOf l.length i with
  | none => rw [q] at e; cases e
  | some j =>
    rw [q] at e
    exact h.get e
theorem ok_ix : R2Ok T (rIx T.K) oIx := by
  intro B H x y d e z Q c vx vy hz q
  unfold oIx at hz
  split at hz
  · split at hz
    · rename_i l i _ d' hd
      cases hz
      obtain ⟨p, vs, e1, e2, e3⟩ := vx.lst c.bh
      obtain ⟨v, h1, h2⟩ := reps_at e3 hd
      exact .inl ⟨p, vs, i, v, e1, vy.int, .inl e2, h1, q B H _ c h2⟩
    · cases hz
  · split at hz
    · rename_i l i _ d' hd
      cases hz
      obtain ⟨p, vs, e1, e2, e3⟩ := vx.tup c.bh
      obtain ⟨v, h1, h2⟩ := reps_at e3 hd
      exact .inr (.inl ⟨p, vs, i, v, e1, vy.int, e2, h1, q B H _ c h2⟩)
    · cases hz
  · split at hz
    · rename_i l i _ d' hd
      cases hz
      obtain ⟨p, vs, e1, e2, e3⟩ := vx.arg c.bh
      obtain ⟨v, h1, h2⟩ := reps_at e3 hd
      exact .inl ⟨p, vs, i, v, e1, vy.int, e2, h1, q B H _ c h2⟩
    · cases hz
  · split at hz
    · rename_i x' i hx
      split at hz
      · rename_i _ c' hd
        cases hz
        exact .inr (.inr ⟨x', i, c', vx.str, vy.int, hx, hd, q B H _ c rfl⟩)
      · cases hz
    · cases hz
  · cases hz
end

/-! ### as the text has them -/
section
variable {C : Ctx} {X : Cx} {k : Nat} {a b c : Expr} {pa pb pc : PEx} {pos : Pos}
theorem CxOk.un (ok : CxOk C X k) : X.A.units + 64 < cLine := ok.room.units
theorem de_add (ok : CxOk C X k) (ha : DE C X a pa) (hb : DE C X b pb) : DE C X (.BinOp a .Add b pos) (pOp oAdd pa pb) := de_op op_addA (ok_add ok.tx) nox_add ha hb
theorem de_sub (ha : DE C X a pa) (hb : DE C X b pb) : DE C X (.BinOp a .Sub b pos) (pOp oSub pa pb) := de_op op_sub ok_sub nox_sub ha hb
theorem de_mul (ok : CxOk C X k) (ha : DE C X a pa) (hb : DE C X b pb) : DE C X (.BinOp a .Mult b pos) (pOp oMul pa pb) := de_op op_mulA (ok_mul ok.tx) nox_mul ha hb
theorem de_div (ha : DE C X a pa) (hb : DE C X b pb) : DE C X (.BinOp a .FloorDiv b pos) (pOp oDiv pa pb) := de_op op_fdiv ok_div nox_div ha hb
theorem de_mod (ha : DE C X a pa) (hb : DE C X b pb) : DE C X (.BinOp a .Mod b pos) (pOp oMod pa pb) := de_op op_mod ok_mod nox_mod ha hb
theorem de_lt (ha : DE C X a pa) (hb : DE C X b pb) : DE C X (.Compare a [.Lt] [b] pos) (pOp oLt pa pb) := de_cmp op_lt (ok_cmp _) (nox_cmp _) ha hb (nomark b)
theorem de_le (ha : DE C X a pa) (hb : DE C X b pb) : DE C X (.Compare a [.LtE] [b] pos) (pOp oLe pa pb) := de_cmp op_le (ok_cmp _) (nox_cmp _) ha hb (nomark b)
theorem de_gt (ha : DE C X a pa) (hb : DE C X b pb) : DE C X (.Compare a [.Gt] [b] pos) (pOp oGt pa pb) := de_cmp op_gt (ok_cmp _) (nox_cmp _) ha hb (nomark b)
theorem de_ge (ha : DE C X a pa) (hb : DE C X b pb) : DE C X (.Compare a [.GtE] [b] pos) (pOp oGe pa pb) := de_cmp op_ge (ok_cmp _) (nox_cmp _) ha hb (nomark b)
theorem dt_lt (ha : DE C X a pa) (hb : DE C X b pb) : DT C X (.Compare a [.Lt] [b] pos) (pB (pOp oLt pa pb)) := dt_cmp op_lt (ok_cmp _) (nox_cmp _) ha hb (nomark b)
theorem dt_le (ha : DE C X a pa) (hb : DE C X b pb) : DT C X (.Compare a [.LtE] [b] pos) (pB (pOp oLe pa pb)) := dt_cmp op_le (ok_cmp _) (nox_cmp _) ha hb (nomark b)
theorem dt_gt (ha : DE C X a pa) (hb : DE C X b pb) : DT C X (.Compare a [.Gt] [b] pos) (pB (pOp oGt pa pb)) := dt_cmp op_gt (ok_cmp _) (nox_cmp _) ha hb (nomark b)
theorem dt_ge (ha : DE C X a pa) (hb : DE C X b pb) : DT C X (.Compare a [.GtE] [b] pos) (pB (pOp oGe pa pb)) := dt_cmp op_ge (ok_cmp _) (nox_cmp _) ha hb (nomark b)
theorem op_eqK (ok : CxOk C X k) : OpR X (compareOp .Eq) (rEqA C.T.K) := by
  rw [← ok.K]
  exact op_eqA ok.un
theorem op_neK (ok : CxOk C X k) : OpR X (compareOp .NotEq) (rNeA C.T.K) := by
  rw [← ok.K]
  exact op_neA ok.un
theorem de_eq (ok : CxOk C X k) (ha : DE C X a pa) (hb : DE C X b pb) : DE C X (.Compare a [.Eq] [b] pos) (pOp (oEq false) pa pb) := de_cmp (op_eqK ok) ok_eq (nox_eq _) ha hb (nomark b)
theorem de_ne (ok : CxOk C X k) (ha : DE C X a pa) (hb : DE C X b pb) : DE C X (.Compare a [.NotEq] [b] pos) (pOp (oEq true) pa pb) := de_cmp (op_neK ok) ok_ne (nox_eq _) ha hb (nomark b)
theorem dt_eq (ok : CxOk C X k) (ha : DE C X a pa) (hb : DE C X b pb) : DT C X (.Compare a [.Eq] [b] pos) (pB (pOp (oEq false) pa pb)) := dt_cmp (op_eqK ok) ok_eq (nox_eq _) ha hb (nomark b)
theorem dt_ne (ok : CxOk C X k) (ha : DE C X a pa) (hb : DE C X b pb) : DT C X (.Compare a [.NotEq] [b] pos) (pB (pOp (oEq true) pa pb)) := dt_cmp (op_neK ok) ok_ne (nox_eq _) ha hb (nomark b)
theorem op_inK (ok : CxOk C X k) : OpR X (compareOp .In) (rIn C.T.K false) := by
  rw [← ok.K]
  exact op_in_seq
theorem op_ninK (ok : CxOk C X k) : OpR X (compareOp .NotIn) (rIn C.T.K true) := by
  rw [← ok.K]
  exact op_notIn_seq
theorem de_in (ok : CxOk C X k) (ha : DE C X a pa) (hb : DE C X b pb) (hm : behindInMarks .In b = false := by with_unfolding_all rfl) : DE C X (.Compare a [.In] [b] pos) (pOp (oIn false) pa pb) := de_cmp (op_inK ok) (ok_in _) (nox_in _) ha hb hm
theorem de_nin (ok : CxOk C X k) (ha : DE C X a pa) (hb : DE C X b pb) (hm : behindInMarks .NotIn b = false := by with_unfolding_all rfl) : DE C X (.Compare a [.NotIn] [b] pos) (pOp (oIn true) pa pb) := de_cmp (op_ninK ok) (ok_in _) (nox_in _) ha hb hm
theorem dt_in (ok : CxOk C X k) (ha : DE C X a pa) (hb : DE C X b pb) (hm : behindInMarks .In b = false := by with_unfolding_all rfl) : DT C X (.Compare a [.In] [b] pos) (pB (pOp (oIn false) pa pb)) := dt_cmp (op_inK ok) (ok_in _) (nox_in _) ha hb hm
theorem dt_nin (ok : CxOk C X k) (ha : DE C X a pa) (hb : DE C X b pb) (hm : behindInMarks .NotIn b = false := by with_unfolding_all rfl) : DT C X (.Compare a [.NotIn] [b] pos) (pB (pOp (oIn true) pa pb)) := dt_cmp (op_ninK ok) (ok_in _) (nox_in _) ha hb hm
/-- is None, is not None -/
theorem se_isN {neg : Bool} {ta : TE} (ha : SE C ta pa) : SE C (if neg then tNotN ta else tIsN ta) (pUn (oIsN neg) pa) := by
  intro B H σ ρ Q re g
  have key : ta σ H fun x H1 => Q (.bl (if neg then !decide (x = .non) else decide (x = .non))) H1 := by
    refine ha B H σ ρ _ re ((Go.bind g).mono fun e g1 B1 H1 v c1 o1 => ?_)
    have n := rep_non o1.rd
    show Q (.bl (if neg = true then !decide (v = .non) else decide (v = .non))) H1
    rw [n]
    exact g1 B1 H1 _ c1 rfl
  cases neg with
  | true => exact key
  | false => exact key
theorem de_isN {j pos'} (ha : DE C X a pa) : DE C X (.Compare a [.Is] [.Constant .none j pos'] pos) (pUn (oIsN false) pa) := let ⟨⟨_, h1, h2⟩⟩ := ha; ⟨_, pe_cmp (pc_isN h1), se_isN (neg := false) h2⟩
theorem de_notN {j pos'} (ha : DE C X a pa) : DE C X (.Compare a [.IsNot] [.Constant .none j pos'] pos) (pUn (oIsN true) pa) := let ⟨⟨_, h1, h2⟩⟩ := ha; ⟨_, pe_cmp (pc_notN h1), se_isN (neg := true) h2⟩
theorem dt_isN {j pos'} (ha : DE C X a pa) : DT C X (.Compare a [.Is] [.Constant .none j pos'] pos) (pB (pUn (oIsN false) pa)) := let ⟨⟨_, h1, h2⟩⟩ := ha; ⟨_, pt_cmp (pc_isN h1), st_B (se_isN (neg := false) h2)⟩
theorem dt_notN {j pos'} (ha : DE C X a pa) : DT C X (.Compare a [.IsNot] [.Constant .none j pos'] pos) (pB (pUn (oIsN true) pa)) := let ⟨⟨_, h1, h2⟩⟩ := ha; ⟨_, pt_cmp (pc_notN h1), st_B (se_isN (neg := true) h2)⟩
theorem de_ix (ok : CxOk C X k) (ha : DE C X a pa) (hb : DE C X b pb) (hs : PlainIx b := by exact fun _ _ => rfl) : DE C X (.Subscript a b pos) (pOp oIx pa pb) := by
  obtain ⟨ta, h1, h2⟩ := ha
  obtain ⟨tb, h3, h4⟩ := hb
  have hx : IxR X (rIx C.T.K) := by
    rw [← ok.K]
    exact ix_seq
  exact ⟨_, pe_ix hx h1 h3 hs, se_op ok_ix nox_ix h2 h4⟩
end
end PW
namespace PW
open PySem PySem.Spec PyProof.Rows L2

/-! ### a def's promise -/
def spF (T : Tx) (F : Fn) (n : Nat) : Sp := fun vs H Q E => ∃ B ds, Hc T H B B H ∧ Reps T B vs ds ∧ ds.length = n ∧ EGo T E B H (F ds) Q
structure FOk (T : Tx) (P : Program) (w : World) (base : Heap) (k : Nat) (x : Str) (F : Fn) (n : Nat) : Prop where
  ex : ∃ f fd ps, FnOk P w T.K T.mg base (L2.CX P w) k f fd ps (spF T F n) ∧ T.mg x = some (.ref f) ∧ PySem.W.keepIn T.K (.ref f) = true ∧ Binds T.K fd ps []
  ar : ∀ l, l.length ≠ n → F l = .bad
theorem FOk.mono {T : Tx} {P : Program} {w : World} {base : Heap} {j k : Nat} {x : Str} {F : Fn} {n : Nat} (h : FOk T P w base j x F n) (l : j ≤ k) : FOk T P w base k x F n := by
  obtain ⟨⟨f, fd, ps, a, b, c, d⟩, hn⟩ := h
  exact ⟨⟨f, fd, ps, a.mono l, b, c, d⟩, hn⟩

section
variable {C : Ctx} {X : Cx} {k : Nat} {pos p : Pos} {x : Str} {e : Expr} {es : List Expr} {pe : PEx} {pa : PAr}
theorem se_call {F : Fn} {n : Nat} {ta : TA} (ha : SA C ta pa) (hn : ∀ l, l.length ≠ n → F l = .bad) : SE C (tCall (spF C.T F n) [] C.E ta) (pCall F pa) := by
  intro B H σ ρ Q re g
  refine ha B H σ ρ _ re ((Go.bind g).mono fun l g1 B1 H1 vs c1 r1 => ?_)
  show spF C.T F n (vs ++ []) H1 Q C.E
  rw [List.append_nil]
  refine ⟨B1, l, c1.self, r1, ?_, EGo.later g1 c1⟩
  by_cases h : l.length = n
  · exact h
  · rw [hn l h] at g1
    exact g1.elim
theorem de_call {F : Fn} {n j : Nat} (ok : CxOk C X k) (G : FOk C.T X.prog X.w X.base j x F n) (hj : j ≤ k) (ha : DA C X (e :: es) pa) (hg : Gl X x := by rfl)
    (hdb : (x == ("__debug__" : Str)) = false := by decide) (he : starEach (e :: es) X.env = (false, eval e X.env) :: starEach es X.env := by rfl) (hpl : (backTo pos (starEach es X.env)).any (·.1) = false := by rfl) :
    DE C X (.Call (.Name x p) (e :: es) [] pos) (pCall F pa) := by
  obtain ⟨ta, h1, h2⟩ := ha
  obtain ⟨⟨f, fd, ps, a, b, c, d⟩, hn⟩ := G
  rw [← ok.K] at c d
  rw [← ok.mg] at b
  have a' : FnOk X.prog X.w X.K X.mg X.base (L2.CX X.prog X.w) k f fd ps (spF C.T F n) := by
    rw [ok.K, ok.mg]
    exact a.mono hj
  exact ⟨_, pe_call a' ok.room hg b c d .nil ok.ps h1 hdb he hpl, se_call h2 hn⟩
/-- only a scalar comes back: the arguments are lent as they stand -/
theorem Rep.scalar {T : Tx} {B B' : Hp} {v : V} {d : D} (h : Rep T B v d) (s : d.scalar = true) : Rep T B' v d := by
  cases d with
  | non => exact h
  | bl b => exact h
  | int i => exact h
  | str x => exact h
  | _ => cases s
def noT (H : Hp) : Hp := fun b => match H b with
  | some (.tbl _) => none
  | o => o
theorem noT_some {H : Hp} {b : Addr} {o : HO} (h : H b = some o) (n : ∀ ps, o ≠ .tbl ps) : noT H b = some o := by
  unfold noT
  rw [h]
  cases o with
  | tbl ps => exact absurd rfl (n ps)
  | _ => rfl
theorem of_noT {H : Hp} {b : Addr} {o : HO} (h : noT H b = some o) : H b = some o ∧ ∀ ps, o ≠ .tbl ps := by
  unfold noT at h
  cases q : H b with
  | none => rw [q] at h; cases h
  | some u =>
    rw [q] at h
    cases u with
    | tbl ps => cases h
    | _ => cases h; exact ⟨rfl, fun ps z => nomatch z⟩
theorem Hc.noT {T : Tx} {H : Hp} (j : T.J H) : Hc T H (noT H) (noT H) H := .refl (fun b o h => (of_noT h).1) j fun p ps h => (of_noT h).2 ps rfl
theorem Keep.noT {H H' : Hp} (k : Keep H H') : Same (PW.noT H) H' := fun b o h => k.1 b o (of_noT h).1 (of_noT h).2
mutual
theorem Rep.noT {T : Tx} {H : Hp} : ∀ (d : D) (v : V), Rep T H v d → Rep T (noT H) v d
  | .non, _, h => h
  | .bl _, _, h => h
  | .int _, _, h => h
  | .str _, _, h => h
  | .lst l, _, ⟨a, vs, h1, h2, h3⟩ => ⟨a, vs, h1, by
      rcases h2 with h | ⟨o, h⟩
      · exact .inl (noT_some h fun ps z => nomatch z)
      · exact .inr ⟨o, noT_some h fun ps z => nomatch z⟩, Reps.noT l vs h3⟩
  | .tup l, _, ⟨a, vs, h1, h2, h3⟩ => ⟨a, vs, h1, by
      rcases h2 with (h | ⟨o, h⟩) | h
      · exact .inl (.inl (noT_some h fun ps z => nomatch z))
      · exact .inl (.inr ⟨o, noT_some h fun ps z => nomatch z⟩)
      · exact .inr h, Reps.noT l vs h3⟩
  | .ob c l, _, ⟨a, dx, vs, h1, h2, h3, h4⟩ => ⟨a, dx, vs, h1, noT_some h2 (fun ps z => nomatch z), h3, Reps.noT l vs h4⟩
  | .fn _, _, h => h
  | .arg l, _, ⟨a, vs, h1, h2, h3⟩ => ⟨a, vs, h1, by
      rcases h2 with (h | ⟨o, h⟩) | h
      · exact .inl (.inl (noT_some h fun ps z => nomatch z))
      · exact .inl (.inr ⟨o, noT_some h fun ps z => nomatch z⟩)
      · exact .inr h, Reps.noT l vs h3⟩
  | .clo k l, _, ⟨f, F, h1, h2, h3, h4⟩ => ⟨f, F, h1, noT_some h2 (fun ps => NdefX.fnO_ne ps), noT_some h3 (fun ps z => by unfold LamX.CodeO at z; cases z), h4⟩
theorem Reps.noT {T : Tx} {H : Hp} : ∀ (l : List D) (vs : List V), Reps T H vs l → Reps T (noT H) vs l
  | [], [], h => h
  | d :: l, v :: vs, ⟨h1, h2⟩ => ⟨Rep.noT d v h1, Reps.noT l vs h2⟩
  | [], _ :: _, h => h
  | _ :: _, [], h => h
end
theorem se_lend {F : Fn} {n : Nat} {ta : TA} (ha : SL C ta pa) (hn : ∀ l, l.length ≠ n → F l = .bad) : SE C (tCall (spF C.T F n) [] C.E ta) (pLend F pa) := by
  intro B H σ ρ Q re g
  refine ha B H σ ρ _ re ((Go.bind g).mono fun l g1 B1 H1 vs c1 r1 => ?_)
  show spF C.T F n (vs ++ []) H1 Q C.E
  rw [List.append_nil]
  refine ⟨noT H1, l, Hc.noT c1.j, Reps.noT l vs r1, ?_, ?_⟩
  · by_cases h : l.length = n
    · exact h
    · rw [hn l h] at g1
      exact g1.elim
  · refine (Go.later (Go.bind g1) c1.k0).mono fun z g2 B2 H2 v c2 o2 => ?_
    cases z with
    | li f m => exact g2.elim
    | cl d =>
      have g2 : Go C.T C.E H (if d.scalar = true then R.ok (PW.E.cl d) else .bad) _ := g2
      by_cases s : d.scalar = true
      · rw [if_pos s] at g2
        have c3 : Hc C.T H1 B1 B1 H2 := ⟨c2.k0, .refl _, fun b o h => c2.bh b o (c2.b0 b o (noT_some (c1.bh b o h) fun ps z => c1.nt b ps (by rw [h, z]))), fun _ _ _ h => h, c2.j, c1.nt⟩
        exact g2 B1 H2 v (c1.trans c3) (Rep.scalar o2 s)
      · rw [if_neg s] at g2
        exact g2.elim
theorem de_lend {F : Fn} {n j : Nat} (ok : CxOk C X k) (G : FOk C.T X.prog X.w X.base j x F n) (hj : j ≤ k) (ha : DL C X (e :: es) pa) (hg : Gl X x := by rfl)
    (hdb : (x == ("__debug__" : Str)) = false := by decide) (he : starEach (e :: es) X.env = (false, eval e X.env) :: starEach es X.env := by rfl) (hpl : (backTo pos (starEach es X.env)).any (·.1) = false := by rfl) :
    DE C X (.Call (.Name x p) (e :: es) [] pos) (pLend F pa) := by
  obtain ⟨ta, h1, h2⟩ := ha
  obtain ⟨⟨f, fd, ps, a, b, c, d⟩, hn⟩ := G
  rw [← ok.K] at c d
  rw [← ok.mg] at b
  have a' : FnOk X.prog X.w X.K X.mg X.base (L2.CX X.prog X.w) k f fd ps (spF C.T F n) := by
    rw [ok.K, ok.mg]
    exact a.mono hj
  exact ⟨_, pe_call a' ok.room hg b c d .nil ok.ps h1 hdb he hpl, se_lend h2 hn⟩

/-! ### classes -/
structure ClsOk (T : Tx) (c : Nat) : Prop where
  cl : Cls T.K (T.cls c)
  nd : (T.nms c).Nodup
  no : ∀ f ∈ T.nms c, NoAttr T.K (T.cls c) f
theorem lookup_zip : ∀ {ns : List Str} {vs : List V} {i : Nat} {f : Str} {v : V}, ns.Nodup → ns[i]? = some f → vs[i]? = some v → (ns.zip vs).lookup f = some v
  | [], _, _, _, _, _, h, _ => by simp at h
  | _ :: _, [], _, _, _, _, _, h => by simp at h
  | n :: ns, u :: vs, 0, f, v, nd, h1, h2 => by
    simp at h1 h2
    subst h1
    subst h2
    show List.lookup n ((n, u) :: ns.zip vs) = _
    simp [List.lookup]
  | n :: ns, u :: vs, i + 1, f, v, nd, h1, h2 => by
    have nd' := List.nodup_cons.mp nd
    have h3 : ns[i]? = some f := by simpa using h1
    have ne : (f == n) = false := beq_eq_false_iff_ne.mpr fun z => nd'.1 (z ▸ List.mem_of_getElem? h3)
    show List.lookup f ((n, u) :: ns.zip vs) = _
    simp only [List.lookup, ne]
    exact lookup_zip (i := i) nd'.2 h3 (by simpa using h2)
theorem lookup_zip_none : ∀ {ns : List Str} {vs : List V} {f : Str}, f ∉ ns → (ns.zip vs).lookup f = none
  | [], _, _, _ => rfl
  | _ :: _, [], _, _ => rfl
  | n :: ns, u :: vs, f, h => by
    have ne : (f == n) = false := beq_eq_false_iff_ne.mpr fun z => h (z ▸ List.mem_cons_self)
    show List.lookup f ((n, u) :: ns.zip vs) = _
    simp only [List.lookup, ne]
    exact lookup_zip_none fun z => h (List.mem_cons_of_mem _ z)
/-- e.f -/
theorem de_attr {f : Str} {ix : Nat → Option Nat} (ok : CxOk C X k) (hx : ∀ c i, ix c = some i → ClsOk C.T c ∧ (C.T.nms c)[i]? = some f) (he : DE C X e pe) (hb : attributeBase e f X.env (eval e X.env) = eval e X.env := by rfl) : DE C X (.Attribute e f pos) (pAttr ix pe) := by
  obtain ⟨te, h1, h2⟩ := he
  refine ⟨_, pe_fld h1 hb, fun B H σ ρ Q re g => h2 B H σ ρ _ re ((Go.bind g).mono fun z g1 B1 H1 v c1 o1 => ?_)⟩
  rw [ok.K]
  cases z with
  | li _ _ => exact g1.elim
  | cl d =>
    cases d with
    | ob c l =>
      have g1 : Go C.T C.E H (match (ix c).bind fun i => l[i]? with | some d => R.ok (PW.E.cl d) | none => .bad) _ := g1
      cases q : (ix c).bind fun i => l[i]? with
      | none => rw [q] at g1; exact g1.elim
      | some d =>
        rw [q] at g1
        obtain ⟨i, q1, q2⟩ := Option.bind_eq_some_iff.mp q
        obtain ⟨K, q3⟩ := hx c i q1
        obtain ⟨a, dx, vs, e1, e2, e3, e4⟩ := o1
        obtain ⟨u, e5, e6⟩ := Reps.get e4 q2
        exact ⟨a, C.T.cls c, dx, _, u, e1, c1.bh _ _ e2, K.cl, K.no f (List.mem_of_getElem? q3), lookup_zip K.nd q3 e5, g1 B1 H1 u c1 e6⟩
    | _ => exact g1.elim
/-- o.m(..) -/
structure MOk (T : Tx) (P : Program) (w : World) (base : Heap) (k c : Nat) (m : Str) (F : Fn) (n : Nat) : Prop where
  cl : ClsOk T c
  nm : m ∉ T.nms c
  ex : ∃ f fd ps, FnOk P w T.K T.mg base (L2.CX P w) k f fd ps (spF T F n) ∧ Meth T.K (T.cls c) m f ∧ Binds T.K fd ps []
  ar : ∀ l, l.length ≠ n → F l = .bad
theorem de_meth {F : Fn} {n j c : Nat} {m : Str} {apos : Pos} {o : Expr} {po : PEx} {pl : Sem Bool} (ok : CxOk C X k) (G : MOk C.T X.prog X.w X.base j c m F n) (hj : j ≤ k) (ho : DE C X o po) (ha : DA C X (e :: es) pa)
    (hst : starEach (e :: es) X.env = (false, eval e X.env) :: starEach es X.env := by rfl) (hpl : (backTo pos (starEach es X.env)).any (·.1) = false := by rfl)
    (ht : eval (.Call (.Attribute o m apos) (e :: es) [] pos) X.env = (do
      let ov ← eval o X.env
      standAt apos.atName
      let (f, first) ← holding [ov] (getMethod ov m pl)
      callWith pos f first (backTo pos (starEach (e :: es) X.env)) (backToKw pos (keywordEach [] X.env))) := by rfl) :
    DE C X (.Call (.Attribute o m apos) (e :: es) [] pos) (pMeth c F po pa) := by
  obtain ⟨to, h3, h4⟩ := ho
  obtain ⟨ta, h1, h2⟩ := ha
  obtain ⟨K, nm, ⟨f, fd, ps, a, b, d⟩, hn⟩ := G
  rw [← ok.K] at b d
  have a' : FnOk X.prog X.w X.K X.mg X.base (L2.CX X.prog X.w) k f fd ps (spF C.T F n) := by
    rw [ok.K, ok.mg]
    exact a.mono hj
  have cl' : Cls X.K (C.T.cls c) := by
    rw [ok.K]
    exact K.cl
  refine ⟨_, pe_meth h3 cl' b a' ok.room d .nil ok.ps h1 hst hpl ht, fun B H σ ρ Q re g => h4 B H σ ρ _ re ((Go.bind g).mono fun z g1 B1 H1 v c1 o1 => ?_)⟩
  cases z with
  | li _ _ => exact g1.elim
  | cl d' =>
    cases d' with
    | ob c' l =>
      have g0 : Go C.T C.E H (if c' = c then (pa ρ).bind fun as => F (.ob c' l :: as) else .bad) _ := g1
      clear g1
      by_cases hc : c' = c
      · rw [if_pos hc] at g0
        subst hc
        obtain ⟨q, dx, vs, e1, e2, e3, e4⟩ := id o1
        refine ⟨q, dx, _, e1, c1.bh _ _ e2, lookup_zip_none nm, h2 B1 H1 σ ρ _ (re.later c1) ((Go.later (Go.bind g0) c1.k0).mono fun as g2 B2 H2 us c2 r2 => ?_)⟩
        show spF C.T F n (v :: (us ++ [])) H2 Q C.E
        rw [List.append_nil]
        refine ⟨B2, .ob c' l :: as, c2.self, ⟨Rep.mono c2.b0 (.ob c' l) v o1, r2⟩, ?_, EGo.later g2 (c1.trans c2)⟩
        by_cases hl : (D.ob c' l :: as).length = n
        · exact hl
        · rw [hn _ hl] at g2
          exact g2.elim
      · rw [if_neg hc] at g0
        exact g0.elim
    | _ => exact g1.elim
/-- what an __init__ that takes the attributes in order promises -/
def spMk (T : Tx) (c n : Nat) : Sp := fun vs H Q _ => ∃ p dx args, vs = .ref p :: args ∧ args.length = n ∧ H p = some (.ins (T.cls c) dx []) ∧
  ∀ H' : Hp, H' p = some (.ins (T.cls c) dx ((T.nms c).zip args)) → (∀ b o, H b = some o → b ≠ p → H' b = some o) → Q .non H'
structure MkOk (T : Tx) (P : Program) (w : World) (base : Heap) (k c : Nat) (x : Str) (n : Nat) : Prop where
  nn : (T.nms c).length = n
  ex : ∃ f fd ps, FnOk P w T.K T.mg base (L2.CX P w) k f fd ps (spMk T c n) ∧ T.mg x = some (.ref (T.cls c)) ∧ Mk T.K (T.cls c) f ∧ Binds T.K fd ps []
theorem de_make {n j c : Nat} (ok : CxOk C X k) (G : MkOk C.T X.prog X.w X.base j c x n) (hj : j + 1 ≤ k) (ha : DA C X (e :: es) pa) (hg : Gl X x := by rfl)
    (hdb : (x == ("__debug__" : Str)) = false := by decide) (he : starEach (e :: es) X.env = (false, eval e X.env) :: starEach es X.env := by rfl) (hpl : (backTo pos (starEach es X.env)).any (·.1) = false := by rfl) :
    DE C X (.Call (.Name x p) (e :: es) [] pos) (pMake c n pa) := by
  obtain ⟨ta, h1, h2⟩ := ha
  obtain ⟨nn, f, fd, ps, a, b, m, d⟩ := G
  rw [← ok.K] at m d
  rw [← ok.mg] at b
  have a' : FnOk X.prog X.w X.K X.mg X.base (L2.CX X.prog X.w) j f fd ps (spMk C.T c n) := by
    rw [ok.K, ok.mg]
    exact a
  refine ⟨_, pe_make m a' (ok.room.mono hj) hg b d .nil ok.ps h1 hdb he hpl, fun B H σ ρ Q re g => h2 B H σ ρ _ re ((Go.bind g).mono fun l g1 B1 H1 vs c1 r1 => ?_)⟩
  intro x' dx nx ndx ne
  rw [List.append_nil]
  by_cases hl : l.length = n
  · rw [if_pos hl] at g1
    refine ⟨x', dx, vs, rfl, by rw [r1.length]; exact hl, upd_same, fun H' hx hk => ⟨rfl, ?_⟩⟩
    have s : Same H1 H' := Same.made nx ndx hk
    have bx := free_of c1.bh nx
    have c2 : Hc C.T H1 B1 (upd B1 x' (.ins (C.T.cls c) dx ((C.T.nms c).zip vs))) H' := by
      refine ⟨.of s, Same.adopt bx, fun b o h => ?_, fun q xs h3 h4 => ?_, ok.tx.js H1 H' c1.j fun b o h _ => s b o h, fun q qs h => ?_⟩
      · by_cases hb : b = x'
        · subst hb
          rw [upd_same] at h
          cases h
          exact hx
        · rw [upd_ne hb] at h
          exact s _ _ (c1.bh _ _ h)
      · rw [upd_ne (fun z => by subst z; rw [nx] at h3; cases h3)]
        exact h4
      · by_cases hb : q = x'
        · subst hb
          rw [upd_same] at h
          cases h
        · rw [upd_ne hb] at h
          exact c1.nt q qs h
    exact g1 _ _ _ (c1.trans c2) ⟨x', dx, vs, rfl, upd_same, by rw [r1.length, nn]; exact hl, Reps.mono c2.b0 l vs r1⟩
  · rw [if_neg hl] at g1
    exact g1.elim

/-! ### built-in functions -/
theorem se_cb1 {r : List V → Hp → VK → Prop} {f : D → R PW.E} {te : TE} (hr : R1Ok C.T (fun x H Q => r [x] H Q) f) (n : NoX1 f) (ha : SE C te pe) : SE C (tCB r (tCons te tNil)) (pUn f pe) :=
  fun B H σ ρ Q re g => se_un (r := fun x H Q => r [x] H Q) hr n ha B H σ ρ Q re g
theorem se_cb2 {r : List V → Hp → VK → Prop} {f : D → D → R PW.E} {te tf : TE} {pf : PEx} (hr : R2Ok C.T (fun x y H Q => r [x, y] H Q) f) (n : NoX f) (ha : SE C te pe) (hb : SE C tf pf) : SE C (tCB r (tCons te (tCons tf tNil))) (pOp f pe pf) :=
  fun B H σ ρ Q re g => se_op (r := fun x y H Q => r [x, y] H Q) hr n ha hb B H σ ρ Q re g
theorem de_cb1 {id : String} {r : List V → Hp → VK → Prop} {f : D → R PW.E} (ok : CxOk C X k) (hc : CallR X (.builtin id) r) (hr : R1Ok C.T (fun x H Q => r [x] H Q) f) (n : NoX1 f) (hm : C.T.mg x = none) (hv : bootBuiltins x = some (.builtin id)) (ha : DE C X e pe) (hg : Gl X x := by rfl) (hnn : x ≠ "__name__" := by decide) (hdb : (x == ("__debug__" : Str)) = false := by decide)
    (he : starEach [e] X.env = (false, eval e X.env) :: starEach [] X.env := by rfl) (hpl : (backTo pos (starEach [] X.env)).any (·.1) = false := by rfl) : DE C X (.Call (.Name x p) [e] [] pos) (pUn f pe) := by
  obtain ⟨te, h1, h2⟩ := ha
  exact ⟨_, pe_callB hc hg (by rw [ok.mg]; exact hm) hv (pa_cons h1 pa_nil he) hnn hdb he hpl, se_cb1 hr n h2⟩
theorem de_cb2 {id : String} {r : List V → Hp → VK → Prop} {f : D → D → R PW.E} {e2 : Expr} {pf : PEx} (ok : CxOk C X k) (hc : CallR X (.builtin id) r) (hr : R2Ok C.T (fun x y H Q => r [x, y] H Q) f) (n : NoX f) (hm : C.T.mg x = none) (hv : bootBuiltins x = some (.builtin id)) (ha : DE C X e pe) (hb : DE C X e2 pf) (hg : Gl X x := by rfl) (hnn : x ≠ "__name__" := by decide) (hdb : (x == ("__debug__" : Str)) = false := by decide)
    (he : starEach [e, e2] X.env = (false, eval e X.env) :: starEach [e2] X.env := by rfl) (he2 : starEach [e2] X.env = (false, eval e2 X.env) :: starEach [] X.env := by rfl) (hpl : (backTo pos (starEach [e2] X.env)).any (·.1) = false := by rfl) : DE C X (.Call (.Name x p) [e, e2] [] pos) (pOp f pe pf) := by
  obtain ⟨te, h1, h2⟩ := ha
  obtain ⟨tf, h3, h4⟩ := hb
  exact ⟨_, pe_callB hc hg (by rw [ok.mg]; exact hm) hv (pa_cons h1 (pa_cons h3 pa_nil he2) he) hnn hdb he hpl, se_cb2 hr n h2 h4⟩
theorem de_ct1 {id : String} {r : List V → Hp → VK → Prop} {f : D → R PW.E} (ok : CxOk C X k) (hc : CallR X (.type id) r) (hr : R1Ok C.T (fun x H Q => r [x] H Q) f) (n : NoX1 f) (hm : C.T.mg x = none) (hv : bootBuiltins x = some (.type id)) (ha : DE C X e pe) (hg : Gl X x := by rfl) (hnn : x ≠ "__name__" := by decide) (hdb : (x == ("__debug__" : Str)) = false := by decide)
    (he : starEach [e] X.env = (false, eval e X.env) :: starEach [] X.env := by rfl) (hpl : (backTo pos (starEach [] X.env)).any (·.1) = false := by rfl) : DE C X (.Call (.Name x p) [e] [] pos) (pUn f pe) := by
  obtain ⟨te, h1, h2⟩ := ha
  exact ⟨_, pe_callTy hc hg (by rw [ok.mg]; exact hm) hv (pa_cons h1 pa_nil he) hnn hdb he hpl, se_cb1 hr n h2⟩
end
section
variable {C : Ctx} {X : Cx} {k : Nat} {pos p : Pos} {e e2 : Expr} {pe pf : PEx} {T : Tx}
theorem ok_len (K : PySem.W.Frag) (hK : K = T.K) : R1Ok T (fun x H Q => ∃ x' n, [x] = [x'] ∧ LenV K x' H n ∧ Q (.int n) H) oLen := by
  intro B H x d z Q c vx hz q
  subst hK
  unfold oLen at hz
  split at hz
  · rename_i n hn
    cases hz
    exact ⟨x, n, rfl, len_ok c vx hn, q B H _ c rfl⟩
  · cases hz
theorem de_len (ok : CxOk C X k) (hm : C.T.mg "len" = none) (ha : DE C X e pe) (hg : Gl X "len" := by rfl) (he : starEach [e] X.env = (false, eval e X.env) :: starEach [] X.env := by rfl) (hpl : (backTo pos (starEach [] X.env)).any (·.1) = false := by rfl) : DE C X (.Call (.Name "len" p) [e] [] pos) (pUn oLen pe) :=
  de_cb1 ok call_len (ok_len X.K ok.K) nox_len hm PySem.boot_len ha hg (by decide) (by decide) he hpl
theorem nox_sum : NoX1 bSum := fun d x => by
  unfold bSum
  split <;> first | (split <;> exact fun z => nomatch z) | exact fun z => nomatch z
theorem ok_sum (K : PySem.W.Frag) (hK : K = T.K) : R1Ok T (fun x H Q => rSum K [x] H Q) bSum := by
  intro B H x d z Q c vx hz q
  subst hK
  unfold bSum at hz
  split at hz
  · split at hz
    · rename_i l _ ns hn
      cases hz
      obtain ⟨a, vs, e1, e2, e3⟩ := vx.lst c.bh
      rw [ints?_some hn] at e3
      rw [e3.ints] at e2
      exact ⟨a, ns, by rw [e1], .inl e2, q B H _ c rfl⟩
    · cases hz
  · split at hz
    · rename_i l _ ns hn
      cases hz
      obtain ⟨a, vs, e1, e2, e3⟩ := vx.arg c.bh
      rw [ints?_some hn] at e3
      rw [e3.ints] at e2
      exact ⟨a, ns, by rw [e1], e2, q B H _ c rfl⟩
    · cases hz
  · cases hz
theorem de_sum (ok : CxOk C X k) (hm : C.T.mg "sum" = none) (ha : DE C X e pe) (hg : Gl X "sum" := by rfl) (he : starEach [e] X.env = (false, eval e X.env) :: starEach [] X.env := by rfl) (hpl : (backTo pos (starEach [] X.env)).any (·.1) = false := by rfl) : DE C X (.Call (.Name "sum" p) [e] [] pos) (pUn bSum pe) :=
  de_cb1 ok (cr_sum ok.calm) (ok_sum X.K ok.K) nox_sum hm (by decide +kernel) ha hg (by decide) (by decide) he hpl
theorem maxOf_mem : ∀ (l : List Int) (m : Int), maxOf m l = m ∨ maxOf m l ∈ l
  | [], _ => .inl rfl
  | x :: r, m => by
    unfold maxOf
    rcases maxOf_mem r (if x > m then x else m) with h | h
    · rw [h]
      by_cases c : x > m
      · rw [if_pos c]; exact .inr List.mem_cons_self
      · rw [if_neg c]; exact .inl rfl
    · exact .inr (List.mem_cons_of_mem _ h)
theorem maxOf_ge : ∀ (l : List Int) (m : Int), m ≤ maxOf m l ∧ ∀ y ∈ l, y ≤ maxOf m l
  | [], m => ⟨Int.le_refl _, fun y h => by simp at h⟩
  | x :: r, m => by
    unfold maxOf
    obtain ⟨h1, h2⟩ := maxOf_ge r (if x > m then x else m)
    have h3 : m ≤ (if x > m then x else m) := by split <;> omega
    have h4 : x ≤ (if x > m then x else m) := by split <;> omega
    refine ⟨by omega, fun y hy => ?_⟩
    rcases List.mem_cons.mp hy with rfl | hy
    · omega
    · exact h2 y hy
theorem nox_max : NoX1 bMax := fun d x => by
  unfold bMax
  split <;> first | (split <;> exact fun z => nomatch z) | exact fun z => nomatch z
theorem ok_max (K : PySem.W.Frag) (hK : K = T.K) : R1Ok T (fun x H Q => rMax K [x] H Q) bMax := by
  intro B H x d z Q c vx hz q
  subst hK
  unfold bMax at hz
  split at hz
  · split at hz
    · rename_i l _ y r hn
      cases hz
      obtain ⟨a, vs, e1, e2, e3⟩ := vx.lst c.bh
      rw [ints?_some hn] at e3
      rw [e3.ints] at e2
      refine ⟨a, y :: r, by rw [e1], .inl e2, by simp, fun m h1 h2 => ?_⟩
      have e : m = maxOf y r := by
        obtain ⟨g1, g2⟩ := maxOf_ge r y
        have k1 : m ≤ maxOf y r := by
          rcases List.mem_cons.mp h1 with rfl | h
          · exact g1
          · exact g2 m h
        have k2 : maxOf y r ≤ m := by
          rcases maxOf_mem r y with h | h
          · rw [h]; exact h2 y List.mem_cons_self
          · exact h2 _ (List.mem_cons_of_mem _ h)
        omega
      rw [e]
      exact q B H _ c rfl
    · cases hz
  · cases hz
theorem de_max (ok : CxOk C X k) (hm : C.T.mg "max" = none) (ha : DE C X e pe) (hg : Gl X "max" := by rfl) (he : starEach [e] X.env = (false, eval e X.env) :: starEach [] X.env := by rfl) (hpl : (backTo pos (starEach [] X.env)).any (·.1) = false := by rfl) : DE C X (.Call (.Name "max" p) [e] [] pos) (pUn bMax pe) :=
  de_cb1 ok (cr_max ok.calm) (ok_max X.K ok.K) nox_max hm (by decide +kernel) ha hg (by decide) (by decide) he hpl
theorem bools?_some : ∀ {l : List D} {ns : List Bool}, bools? l = some ns → l = ns.map D.bl
  | [], ns, h => by
    cases h
    rfl
  | .bl i :: r, ns, h => by
    unfold bools? at h
    obtain ⟨m, h1, h2⟩ := Option.map_eq_some_iff.mp h
    subst h2
    rw [bools?_some h1] <;> rfl
  | .non :: _, _, h => by cases h
  | .int _ :: _, _, h => by cases h
  | .str _ :: _, _, h => by cases h
  | .lst _ :: _, _, h => by cases h
  | .tup _ :: _, _, h => by cases h
  | .ob _ _ :: _, _, h => by cases h
  | .fn _ :: _, _, h => by cases h
  | .arg _ :: _, _, h => by cases h
  | .clo _ _ :: _, _, h => by cases h
theorem Reps.bools {T : Tx} {B : Hp} : ∀ {ns : List Bool} {vs : List V}, Reps T B vs (ns.map D.bl) → vs = ns.map V.bl
  | [], [], _ => rfl
  | n :: ns, v :: vs, ⟨h1, h2⟩ => by
    have e : v = .bl n := h1
    rw [e, Reps.bools h2] <;> rfl
  | [], _ :: _, h => h.elim
  | _ :: _, [], h => h.elim
theorem nox_all : NoX1 bAll := fun d x => by
  unfold bAll
  split <;> first | (split <;> exact fun z => nomatch z) | exact fun z => nomatch z
theorem ok_all (K : PySem.W.Frag) (hK : K = T.K) : R1Ok T (fun x H Q => rAll K [x] H Q) bAll := by
  intro B H x d z Q c vx hz q
  subst hK
  unfold bAll at hz
  split at hz
  · split at hz
    · rename_i l _ ns hn
      cases hz
      obtain ⟨a, vs, e1, e2, e3⟩ := vx.lst c.bh
      rw [bools?_some hn] at e3
      rw [e3.bools] at e2
      exact ⟨a, ns, by rw [e1], .inl e2, q B H _ c rfl⟩
    · cases hz
  · cases hz
theorem de_all (ok : CxOk C X k) (hm : C.T.mg "all" = none) (ha : DE C X e pe) (hg : Gl X "all" := by rfl) (he : starEach [e] X.env = (false, eval e X.env) :: starEach [] X.env := by rfl) (hpl : (backTo pos (starEach [] X.env)).any (·.1) = false := by rfl) : DE C X (.Call (.Name "all" p) [e] [] pos) (pUn bAll pe) :=
  de_cb1 ok (cr_all ok.calm) (ok_all X.K ok.K) nox_all hm (by decide +kernel) ha hg (by decide) (by decide) he hpl
theorem nox_ord : NoX1 bOrd := fun d x => by
  unfold bOrd
  split <;> first | (split <;> exact fun z => nomatch z) | exact fun z => nomatch z
theorem ok_ord : R1Ok T (fun x H Q => ∃ y : Str, [x] = [V.str y] ∧ y.length = 1 ∧ Q (.int (y.cps.getD 0 0 : Nat)) H) bOrd := by
  intro B H x d z Q c vx hz q
  unfold bOrd at hz
  split at hz
  · split at hz
    · rename_i hn
      cases hz
      exact ⟨_, by rw [vx.str], hn, q B H _ c rfl⟩
    · cases hz
  · cases hz
theorem de_ord (ok : CxOk C X k) (hm : C.T.mg "ord" = none) (ha : DE C X e pe) (hg : Gl X "ord" := by rfl) (he : starEach [e] X.env = (false, eval e X.env) :: starEach [] X.env := by rfl) (hpl : (backTo pos (starEach [] X.env)).any (·.1) = false := by rfl) : DE C X (.Call (.Name "ord" p) [e] [] pos) (pUn bOrd pe) :=
  de_cb1 ok call_ord ok_ord nox_ord hm (by decide +kernel) ha hg (by decide) (by decide) he hpl
theorem nox_max2 : NoX bMax2 := fun d e x => by
  unfold bMax2
  split <;> exact fun z => nomatch z
theorem ok_max2 : R2Ok T (fun x y H Q => ∃ i j, [x, y] = [V.int i, V.int j] ∧ Q (.int (if j > i then j else i)) H) bMax2 := by
  intro B H x y d e z Q c vx vy hz q
  unfold bMax2 at hz
  split at hz
  · cases hz
    exact ⟨_, _, by rw [vx.int, vy.int], q B H _ c rfl⟩
  · cases hz
theorem de_max2 (ok : CxOk C X k) (hm : C.T.mg "max" = none) (ha : DE C X e pe) (hb : DE C X e2 pf) (hg : Gl X "max" := by rfl) (he : starEach [e, e2] X.env = (false, eval e X.env) :: starEach [e2] X.env := by rfl) (he2 : starEach [e2] X.env = (false, eval e2 X.env) :: starEach [] X.env := by rfl) (hpl : (backTo pos (starEach [e2] X.env)).any (·.1) = false := by rfl) : DE C X (.Call (.Name "max" p) [e, e2] [] pos) (pOp bMax2 pe pf) :=
  de_cb2 ok (call_max2 ok.calm) ok_max2 nox_max2 hm (by decide +kernel) ha hb hg (by decide) (by decide) he he2 hpl
theorem nox_min2 : NoX bMin2 := fun d e x => by
  unfold bMin2
  split <;> exact fun z => nomatch z
theorem ok_min2 : R2Ok T (fun x y H Q => ∃ i j, [x, y] = [V.int i, V.int j] ∧ Q (.int (if j < i then j else i)) H) bMin2 := by
  intro B H x y d e z Q c vx vy hz q
  unfold bMin2 at hz
  split at hz
  · cases hz
    exact ⟨_, _, by rw [vx.int, vy.int], q B H _ c rfl⟩
  · cases hz
theorem de_min2 (ok : CxOk C X k) (hm : C.T.mg "min" = none) (ha : DE C X e pe) (hb : DE C X e2 pf) (hg : Gl X "min" := by rfl) (he : starEach [e, e2] X.env = (false, eval e X.env) :: starEach [e2] X.env := by rfl) (he2 : starEach [e2] X.env = (false, eval e2 X.env) :: starEach [] X.env := by rfl) (hpl : (backTo pos (starEach [e2] X.env)).any (·.1) = false := by rfl) : DE C X (.Call (.Name "min" p) [e, e2] [] pos) (pOp bMin2 pe pf) :=
  de_cb2 ok (call_min2 ok.calm) ok_min2 nox_min2 hm (by decide +kernel) ha hb hg (by decide) (by decide) he he2 hpl
theorem nox_int : NoX1 bInt := fun d x => by
  unfold bInt
  split <;> exact fun z => nomatch z
theorem ok_int : R1Ok T (fun x H Q => (∃ i, [x] = [V.int i] ∧ Q (.int i) H) ∨ ∃ k, [x] = [V.bl k] ∧ Q (.int (if k then 1 else 0)) H) bInt := by
  intro B H x d z Q c vx hz q
  unfold bInt at hz
  split at hz
  · cases hz
    exact .inl ⟨_, by rw [vx.int], q B H _ c rfl⟩
  · cases hz
    exact .inr ⟨_, by rw [vx.bl], q B H _ c rfl⟩
  · cases hz
theorem de_toint (ok : CxOk C X k) (hm : C.T.mg "int" = none) (ha : DE C X e pe) (hg : Gl X "int" := by rfl) (he : starEach [e] X.env = (false, eval e X.env) :: starEach [] X.env := by rfl) (hpl : (backTo pos (starEach [] X.env)).any (·.1) = false := by rfl) : DE C X (.Call (.Name "int" p) [e] [] pos) (pUn bInt pe) :=
  de_ct1 ok call_int1 ok_int nox_int hm (by decide +kernel) ha hg (by decide) (by decide) he hpl
theorem nox_str : NoX1 bStr := fun d x => by
  unfold bStr
  split <;> first | (split <;> exact fun z => nomatch z) | exact fun z => nomatch z
theorem ok_str : R1Ok T (fun x H Q => ∃ i : Int, [x] = [V.int i] ∧ i.natAbs.log2 < 1920 ∧ Q (.str (toString i)) H) bStr := by
  intro B H x d z Q c vx hz q
  unfold bStr at hz
  split at hz
  · split at hz
    · rename_i hn
      cases hz
      exact ⟨_, by rw [vx.int], hn, q B H _ c rfl⟩
    · cases hz
  · cases hz
theorem de_tostr (ok : CxOk C X k) (hm : C.T.mg "str" = none) (ha : DE C X e pe) (hg : Gl X "str" := by rfl) (he : starEach [e] X.env = (false, eval e X.env) :: starEach [] X.env := by rfl) (hpl : (backTo pos (starEach [] X.env)).any (·.1) = false := by rfl) : DE C X (.Call (.Name "str" p) [e] [] pos) (pUn bStr pe) :=
  de_ct1 ok call_str_int ok_str nox_str hm (by decide +kernel) ha hg (by decide) (by decide) he hpl
theorem nox_list : NoX1 bList := fun d x => by
  unfold bList
  split <;> exact fun z => nomatch z
theorem ok_list (tx : TxOk T) (K : PySem.W.Frag) (hK : K = T.K) : R1Ok T (fun x H Q => ∃ p ys, [x] = [V.ref p] ∧ (SqL K H p ys ∨ SqT K H p ys) ∧ ∀ l, H l = none → Q (.ref l) (upd H l (.lst ys))) bList := by
  intro B H x d z Q c vx hz q
  subst hK
  unfold bList at hz
  split at hz
  · cases hz
    obtain ⟨a, vs, e1, e2, e3⟩ := vx.lst c.bh
    exact ⟨a, vs, by rw [e1], .inl (.inl e2), newL tx c q rfl e3⟩
  · cases hz
theorem de_tolist (ok : CxOk C X k) (hm : C.T.mg "list" = none) (ha : DE C X e pe) (hg : Gl X "list" := by rfl) (he : starEach [e] X.env = (false, eval e X.env) :: starEach [] X.env := by rfl) (hpl : (backTo pos (starEach [] X.env)).any (·.1) = false := by rfl) : DE C X (.Call (.Name "list" p) [e] [] pos) (pUn bList pe) :=
  de_ct1 ok call_list_of (ok_list ok.tx X.K ok.K) nox_list hm (by decide +kernel) ha hg (by decide) (by decide) he hpl
end
end PW
namespace PW
open PySem PySem.Spec PyProof.Rows L2

/-! ### what is walked -/
/-- the iterator J walks the items, whatever the heap becomes, as long as what S tells stands -/
def Walk (T : Tx) (J : It) (S B0 : Hp) (items : List D) : Prop := ∀ B H (i : Nat), Same S H → Same B0 B → Hc T H B B H →
  (i < items.length → J.go i H) ∧ (items.length ≤ i → J.stop i H) ∧ ∀ x H', i < items.length → J.yld i H x H' → ∃ B' d, Hc T H B B' H' ∧ items[i]? = some d ∧ Rep T B' x d
def SI (C : Ctx) (wi : TI) (pi : PIt) : Prop := ∀ B H σ ρ (R : It → Hp → Prop), Rel C.T C.H0 C.B0 B H σ ρ → (Go C.T C.E H (pi ρ) fun l => ∀ J B' H', Hc C.T H B B' H' → Walk C.T J B' B' l → R J H') → wi σ H R
/-- .. where nothing is changed meanwhile -/
def SIr (C : Ctx) (wi : TI) (pi : PIt) : Prop := ∀ B H σ ρ (R : It → Hp → Prop), Rel C.T C.H0 C.B0 B H σ ρ → (Go C.T C.E H (pi ρ) fun l => ∀ J B' H', Hc C.T H B B' H' → Walk C.T J (noT H') B' l → R J H') → wi σ H R
structure DI (C : Ctx) (X : Cx) (tg e : Expr) (pi : PIt) : Prop where
  ex : ∃ wi, PI X tg e wi ∧ SI C wi pi
structure DIr (C : Ctx) (X : Cx) (tg e : Expr) (pi : PIt) : Prop where
  ex : ∃ wi, PI X tg e wi ∧ SIr C wi pi
theorem Hc.inNoT {T : Tx} {H0 B0 B H : Hp} (c : Hc T H0 B0 B H) : Same B (PW.noT H) := fun b o h => noT_some (c.bh b o h) fun ps z => c.nt b ps (by rw [h, z])
theorem DI.r {C : Ctx} {X : Cx} {tg e : Expr} {pi : PIt} (h : DI C X tg e pi) : DIr C X tg e pi := by
  obtain ⟨wi, h1, h2⟩ := h
  exact ⟨wi, h1, fun B H σ ρ R re g => h2 B H σ ρ R re (g.mono fun l g1 J B' H' c w => g1 J B' H' c fun B2 H2 i s => w B2 H2 i (c.inNoT.trans s))⟩
section
variable {C : Ctx} {X : Cx} {k : Nat} {pos p : Pos} {tg e e2 : Expr} {pe pf : PEx}
theorem walk_listQ {T : Tx} {S B0 : Hp} {a : Addr} {vs : List V} {l : List D} (h : SqL T.K S a vs) (r : Reps T B0 vs l) : Walk T (Itl T.K a) S B0 l := by
  intro B H i s s0 c
  have hq : SqL T.K H a vs := SqL.mono s h
  refine ⟨fun hi => ?_, fun hi => ⟨vs, hq, by rw [r.length]; exact hi⟩, fun x H' hi y => ?_⟩
  · have hv : i < vs.length := by rw [r.length]; exact hi
    exact ⟨vs, vs[i], hq, by simp [hv]⟩
  · obtain ⟨e, y⟩ := y
    subst e
    obtain ⟨d, h1, h2⟩ := r.getV (y vs hq)
    exact ⟨B, d, c, h1, Rep.mono s0 d x h2⟩
theorem walk_list {T : Tx} {S B0 : Hp} {a : Addr} {vs : List V} {l : List D} (h : Rd S a (.lst vs)) (r : Reps T B0 vs l) : Walk T (Itl T.K a) S B0 l := walk_listQ (.inl h) r
theorem di_list (ok : CxOk C X k) (he : DE C X e pe) : DI C X tg e (iLst pe) := by
  obtain ⟨te, h1, h2⟩ := he
  refine ⟨_, pi_list h1, fun B H σ ρ R re g => h2 B H σ ρ _ re ((Go.bind g).mono fun z g1 B1 H1 v c1 o1 => ?_)⟩
  rw [ok.K]
  cases q : z.keep with
  | ex x => cases z with
    | cl d => cases q
    | li f l => cases f <;> cases q
  | bad => rw [q] at g1; exact g1.elim
  | ok d =>
    rw [q] at g1
    obtain ⟨B2, c2, s2, r2⟩ := EOk.kept c1 o1 q
    cases d with
    | lst l =>
      obtain ⟨a, vs, e1, e2, e3⟩ := r2
      have g2 : ∀ J B' H', _ → _ → _ := g1
      exact ⟨a, e1, ⟨vs, .inl (Rd.mono c2.bh e2)⟩, g2 _ B2 H1 c2 (walk_list e2 e3)⟩
    | arg l =>
      obtain ⟨a, vs, e1, e2, e3⟩ := r2
      have g2 : ∀ J B' H', _ → _ → _ := g1
      exact ⟨a, e1, ⟨vs, SqL.mono c2.bh e2⟩, g2 _ B2 H1 c2 (walk_listQ e2 e3)⟩
    | _ => exact g1.elim
theorem dir_list (ok : CxOk C X k) (he : DE C X e pe) : DIr C X tg e (iLstR pe) := by
  obtain ⟨te, h1, h2⟩ := he
  refine ⟨_, pi_list h1, fun B H σ ρ R re g => h2 B H σ ρ _ re ((Go.bind g).mono fun z g1 B1 H1 v c1 o1 => ?_)⟩
  rw [ok.K]
  have o2 := o1.rd
  cases q : z.rd with
  | lst l =>
    rw [q] at o2 g1
    obtain ⟨a, vs, e1, e2, e3⟩ := o2.lst c1.bh
    have g2 : ∀ J B' H', _ → _ → _ := g1
    refine ⟨a, e1, ⟨vs, .inl e2⟩, g2 _ B1 H1 c1 (walk_list ?_ e3)⟩
    rcases e2 with h | ⟨o, h⟩
    · exact .inl (noT_some h fun ps z => nomatch z)
    · exact .inr ⟨o, noT_some h fun ps z => nomatch z⟩
  | arg l =>
    rw [q] at o2 g1
    obtain ⟨a, vs, e1, e2, e3⟩ := o2.arg c1.bh
    have g2 : ∀ J B' H', _ → _ → _ := g1
    refine ⟨a, e1, ⟨vs, e2⟩, g2 _ B1 H1 c1 (walk_listQ ?_ e3)⟩
    rcases e2 with (h | ⟨o, h⟩) | h
    · exact .inl (.inl (noT_some h fun ps z => nomatch z))
    · exact .inl (.inr ⟨o, noT_some h fun ps z => nomatch z⟩)
    · exact .inr h
  | _ => rw [q] at g1; exact g1.elim
theorem rangeL_len (lo hi : Int) : (rangeL lo hi).length = (hi - lo).toNat := by simp [rangeL]
theorem rangeL_get {lo hi : Int} {i : Nat} (h : i < (hi - lo).toNat) : (rangeL lo hi)[i]? = some (.int (lo + (i : Nat))) := by simp [rangeL, h]
theorem walk_range {T : Tx} {S B0 : Hp} {lo hi : Int} : Walk T (Itr lo (hi - lo).toNat) S B0 (rangeL lo hi) := by
  intro B H i s s0 c
  rw [rangeL_len]
  refine ⟨fun h => h, fun h => h, fun x H' h y => ?_⟩
  obtain ⟨e, y⟩ := y
  subst e
  exact ⟨B, _, c, rangeL_get h, y⟩
theorem r62_of {i : Int} (h : r62 i = true) : -(2 ^ 62) ≤ i ∧ i < 2 ^ 62 := by
  have := Bool.and_eq_true_iff.mp h
  exact ⟨of_decide_eq_true this.1, of_decide_eq_true this.2⟩
theorem di_range1 (ok : CxOk C X k) (hm : C.T.mg "range" = none) (he : DE C X e pe) (hg : Gl X "range" := by rfl) (hs : starEach [e] X.env = [(false, eval e X.env)] := by rfl) : DI C X tg (.Call (.Name "range" p) [e] [] pos) (iRng1 pe) := by
  obtain ⟨te, h1, h2⟩ := he
  refine ⟨_, pi_range1 hg (by rw [ok.mg]; exact hm) (pa_cons h1 pa_nil hs) hs, fun B H σ ρ R re g => h2 B H σ ρ _ re ((Go.bind g).mono fun z g1 B1 H1 v c1 o1 => ?_)⟩
  have o2 := o1.rd
  cases q : z.rd with
  | int n =>
    rw [q] at o2 g1
    by_cases h : r62 n = true
    · have g2 : Go C.T C.E H (if r62 n = true then PW.R.ok (rangeL 0 n) else .bad) _ := g1
      rw [if_pos h] at g2
      have g3 : ∀ J B' H', _ → _ → _ := g2
      have w : Walk C.T (Itr 0 (n - 0).toNat) B1 B1 (rangeL 0 n) := walk_range
      rw [Int.sub_zero] at w
      exact ⟨n, by rw [VOk.int o2], (r62_of h).1, (r62_of h).2, g3 _ B1 H1 c1 w⟩
    · have g2 : Go C.T C.E H (if r62 n = true then PW.R.ok (rangeL 0 n) else .bad) _ := g1
      rw [if_neg h] at g2
      exact g2.elim
  | _ => rw [q] at g1; exact g1.elim
theorem di_range2 (ok : CxOk C X k) (hm : C.T.mg "range" = none) (he : DE C X e pe) (hf : DE C X e2 pf) (hg : Gl X "range" := by rfl) (hs : starEach [e, e2] X.env = [(false, eval e X.env), (false, eval e2 X.env)] := by rfl) (hs2 : starEach [e2] X.env = [(false, eval e2 X.env)] := by rfl) :
    DI C X tg (.Call (.Name "range" p) [e, e2] [] pos) (iRng2 pe pf) := by
  obtain ⟨te, h1, h2⟩ := he
  obtain ⟨tf, h3, h4⟩ := hf
  refine ⟨_, pi_range2 hg (by rw [ok.mg]; exact hm) (pa_cons h1 (pa_cons h3 pa_nil hs2) (by rw [hs, hs2])) hs hs2, fun B H σ ρ R re g => h2 B H σ ρ _ re ((Go.bind g).mono fun z g1 B1 H1 v c1 o1 => ?_)⟩
  refine h4 B1 H1 σ ρ _ (re.later c1) ((Go.later (Go.bind g1) c1.k0).mono fun z2 g4 B2 H2 v2 c2 o4 => ?_)
  have o2 := o1.rd
  have o3 := o4.rd
  cases q : z.rd with
  | int n =>
    cases q2 : z2.rd with
    | int m =>
      rw [q] at o2
      rw [q2] at o3
      rw [q, q2] at g4
      have g2 : Go C.T C.E H (if (r62 n && r62 m) = true then PW.R.ok (rangeL n m) else .bad) _ := g4
      by_cases h : (r62 n && r62 m) = true
      · rw [if_pos h] at g2
        have g3 : ∀ J B' H', _ → _ → _ := g2
        have h' := Bool.and_eq_true_iff.mp h
        exact ⟨n, m, by rw [VOk.int o2, VOk.int o3], ⟨(r62_of h'.1).1, (r62_of h'.1).2, (r62_of h'.2).1, (r62_of h'.2).2⟩, g3 _ B2 H2 (c1.trans c2) walk_range⟩
      · rw [if_neg h] at g2
        exact g2.elim
    | _ => rw [q, q2] at g4; exact g4.elim
  | _ => rw [q] at g4; exact g4.elim
theorem walk_rev {T : Tx} {S B0 : Hp} {n : Int} : Walk T (Itc (0 + (((n - 0).toNat : Nat) : Int) - 1) (-1) (n - 0).toNat) S B0 (rangeL 0 n).reverse := by
  intro B H i s s0 c
  rw [List.length_reverse, rangeL_len]
  refine ⟨fun h => h, fun h => h, fun x H' h y => ?_⟩
  obtain ⟨e, y⟩ := y
  subst e
  have h2 : (rangeL 0 n).reverse[i]? = (rangeL 0 n)[(n - 0).toNat - 1 - i]? := by
    rw [List.getElem?_reverse (by rw [rangeL_len]; exact h), rangeL_len]
  refine ⟨B, _, c, by rw [h2]; exact rangeL_get (by omega), ?_⟩
  rw [y]
  show V.int _ = V.int _
  congr 1
  omega
theorem di_rev1 {p2 pos2 : Pos} (ok : CxOk C X k) (hm : C.T.mg "range" = none) (hm2 : C.T.mg "reversed" = none) (he : DE C X e pe) (hg : Gl X "range" := by rfl) (hg2 : Gl X "reversed" := by rfl) (na : starEach [e] X.env = (false, eval e X.env) :: starEach [] X.env := by rfl)
    (hs : starEach [Expr.Call (.Name "range" p) [e] [] pos] X.env = (false, eval (.Call (.Name "range" p) [e] [] pos) X.env) :: starEach [] X.env := by rfl) : DI C X tg (.Call (.Name "reversed" p2) [.Call (.Name "range" p) [e] [] pos] [] pos2) (iRevR1 pe) := by
  obtain ⟨te, h1, h2⟩ := he
  refine ⟨_, pi_revR hg2 (by rw [ok.mg]; exact hm2) (prg_1 hg (by rw [ok.mg]; exact hm) h1 na) hs, fun B H σ ρ R re g => h2 B H σ ρ _ re ((Go.bind g).mono fun z g1 B1 H1 v c1 o1 => ?_)⟩
  have o2 := o1.rd
  cases q : z.rd with
  | int n =>
    rw [q] at o2 g1
    have g2 : Go C.T C.E H (if r62 n = true then PW.R.ok (rangeL 0 n).reverse else .bad) _ := g1
    by_cases h : r62 n = true
    · rw [if_pos h] at g2
      have g3 : ∀ J B' H', _ → _ → _ := g2
      exact ⟨n, VOk.int o2, by decide, by decide, (r62_of h).1, (r62_of h).2, g3 _ B1 H1 c1 walk_rev⟩
    · rw [if_neg h] at g2
      exact g2.elim
  | _ => rw [q] at g1; exact g1.elim
theorem enumL_get : ∀ {l : List D} {k i : Nat} {d : D}, l[i]? = some d → (enumL k l)[i]? = some (.tup [.int ((k + i : Nat) : Int), d])
  | [], _, _, _, h => by simp at h
  | e :: l, k, 0, d, h => by
    simp at h
    subst h
    rfl
  | e :: l, k, i + 1, d, h => by
    have := enumL_get (l := l) (k := k + 1) (i := i) (d := d) (by simpa using h)
    show (enumL (k + 1) l)[i]? = _
    rw [this, show k + 1 + i = k + (i + 1) from by omega]
theorem enumL_len : ∀ (l : List D) (k : Nat), (enumL k l).length = l.length
  | [], _ => rfl
  | _ :: l, k => by
    show (enumL (k + 1) l).length + 1 = _
    rw [enumL_len l]
    rfl
/-- a new pair that is kept -/
theorem pair_new {T : Tx} (tx : TxOk T) {B H : Hp} {t : Addr} {x y : V} {d e : D} (c : Hc T H B B H) (ht : H t = none) (hx : Rep T B x d) (hy : Rep T B y e) : ∃ B', Hc T H B B' (upd H t (.tup [x, y])) ∧ Rep T B' (.ref t) (.tup [d, e]) := by
  have c2 := Hc.newK (o := .tup [x, y]) tx c.bh c.j c.nt ht (fun ps z => nomatch z)
  exact ⟨_, c2, t, [x, y], rfl, .inl (.inl upd_same), Rep.mono c2.b0 d x hx, Rep.mono c2.b0 e y hy, trivial⟩
theorem walk_enum {T : Tx} (tx : TxOk T) {S B0 : Hp} {a : Addr} {vs : List V} {l : List D} (h : Rd S a (.lst vs)) (r : Reps T B0 vs l) : Walk T (Ite T.K a) S B0 (enumL 0 l) := by
  intro B H i s s0 c
  have hq : SqL T.K H a vs := .inl (Rd.mono s h)
  rw [enumL_len]
  refine ⟨fun hi => ?_, fun hi => ⟨vs, hq, by rw [r.length]; exact hi⟩, fun x H' hi y => ?_⟩
  · have hv : i < vs.length := by rw [r.length]; exact hi
    exact ⟨vs, vs[i], hq, by simp [hv]⟩
  · obtain ⟨t, u, e, ht, eH, y⟩ := y
    subst e
    subst eH
    obtain ⟨d, h1, h2⟩ := r.getV (y vs hq)
    obtain ⟨B', c', r'⟩ := pair_new tx (x := .int (i : Nat)) (d := .int (i : Nat)) c ht rfl (Rep.mono s0 d u h2)
    refine ⟨B', _, c', enumL_get h1, ?_⟩
    rw [Nat.zero_add]
    exact r'
theorem di_enum {tpos : Pos} {elts : List Expr} {kk : Nat} (ok : CxOk C X k) (hm : C.T.mg "enumerate" = none) (he : DE C X e pe) (hg : Gl X "enumerate" := by rfl) (hs : starEach [e] X.env = [(false, eval e X.env)] := by rfl) : DI C X (.Tuple elts kk tpos) (.Call (.Name "enumerate" p) [e] [] pos) (iEnum pe) := by
  obtain ⟨te, h1, h2⟩ := he
  refine ⟨_, pi_enum hg (by rw [ok.mg]; exact hm) (pa_cons h1 pa_nil hs) hs, fun B H σ ρ R re g => h2 B H σ ρ _ re ((Go.bind g).mono fun z g1 B1 H1 v c1 o1 => ?_)⟩
  rw [ok.K]
  cases q : z.keep with
  | ex x => cases z with
    | cl d => cases q
    | li f l => cases f <;> cases q
  | bad => rw [q] at g1; exact g1.elim
  | ok d =>
    rw [q] at g1
    obtain ⟨B2, c2, s2, r2⟩ := EOk.kept c1 o1 q
    cases d with
    | lst l =>
      obtain ⟨a, vs, e1, e2, e3⟩ := r2
      have g2 : ∀ J B' H', _ → _ → _ := g1
      exact ⟨a, vs, by rw [e1], .inl (Rd.mono c2.bh e2), g2 _ B2 H1 c2 (walk_enum ok.tx e2 e3)⟩
    | _ => exact g1.elim
theorem zipL_get : ∀ {l m : List D} {i : Nat} {d e : D}, l[i]? = some d → m[i]? = some e → (zipL l m)[i]? = some (.tup [d, e])
  | [], _, _, _, _, h, _ => by simp at h
  | _ :: _, [], _, _, _, _, h => by simp at h
  | a :: l, b :: m, 0, d, e, h1, h2 => by
    simp at h1 h2
    subst h1
    subst h2
    rfl
  | a :: l, b :: m, i + 1, d, e, h1, h2 => zipL_get (l := l) (m := m) (i := i) (by simpa using h1) (by simpa using h2)
theorem zipL_len : ∀ (l m : List D), (zipL l m).length = min l.length m.length
  | [], _ => by simp [zipL]
  | _ :: _, [] => by simp [zipL]
  | a :: l, b :: m => by
    show (zipL l m).length + 1 = _
    rw [zipL_len l m]
    simp
theorem walk_zip {T : Tx} (tx : TxOk T) {S B0 : Hp} {a b : Addr} {vs us : List V} {l m : List D} (h : Rd S a (.lst vs)) (r : Reps T B0 vs l) (h' : Rd S b (.lst us)) (r' : Reps T B0 us m) : Walk T (Itz T.K a b) S B0 (zipL l m) := by
  intro B H i s s0 c
  have hq : SqL T.K H a vs := .inl (Rd.mono s h)
  have hq' : SqL T.K H b us := .inl (Rd.mono s h')
  rw [zipL_len]
  refine ⟨fun hi => ?_, fun hi => ⟨vs, us, hq, hq', by rw [r.length, r'.length]; omega⟩, fun x H' hi y => ?_⟩
  · have hv : i < vs.length := by rw [r.length]; omega
    have hu : i < us.length := by rw [r'.length]; omega
    exact ⟨vs, us, vs[i], us[i], hq, hq', by simp [hv], by simp [hu]⟩
  · obtain ⟨t, u, w, e, ht, eH, y, y'⟩ := y
    subst e
    subst eH
    obtain ⟨d, h1, h2⟩ := r.getV (y vs hq)
    obtain ⟨d', h3, h4⟩ := r'.getV (y' us hq')
    obtain ⟨B', c', r'⟩ := pair_new tx c ht (Rep.mono s0 d u h2) (Rep.mono s0 d' w h4)
    exact ⟨B', _, c', zipL_get h1 h3, r'⟩
theorem di_zip {tpos : Pos} {elts : List Expr} {kk : Nat} (ok : CxOk C X k) (hm : C.T.mg "zip" = none) (he : DE C X e pe) (hf : DE C X e2 pf) (hg : Gl X "zip" := by rfl) (hs : starEach [e, e2] X.env = (false, eval e X.env) :: starEach [e2] X.env := by rfl) (hs2 : starEach [e2] X.env = (false, eval e2 X.env) :: starEach [] X.env := by rfl) (hpl : (backTo pos (starEach [e2] X.env)).any (·.1) = false := by rfl) :
    DI C X (.Tuple elts kk tpos) (.Call (.Name "zip" p) [e, e2] [] pos) (iZip pe pf) := by
  obtain ⟨te, h1, h2⟩ := he
  obtain ⟨tf, h3, h4⟩ := hf
  refine ⟨_, pi_zip hg (by rw [ok.mg]; exact hm) (pa_cons h1 (pa_cons h3 pa_nil hs2) hs) hs hpl, fun B H σ ρ R re g => h2 B H σ ρ _ re ((Go.bind g).mono fun z g1 B1 H1 v c1 o1 => ?_)⟩
  cases q : z.keep with
  | ex x => cases z with
    | cl d => cases q
    | li f l => cases f <;> cases q
  | bad => rw [q] at g1; exact g1.elim
  | ok d =>
    rw [q] at g1
    have g1' : Go C.T C.E H ((pf ρ).bind fun y => y.keep.bind fun e => match d, e with | .lst l, .lst m => PW.R.ok (zipL l m) | _, _ => .bad) _ := g1
    obtain ⟨B2, c2, s2, r2⟩ := EOk.kept c1 o1 q
    refine h4 B2 H1 σ ρ _ (re.later c2) ((Go.later (Go.bind g1') c2.k0).mono fun z2 g2 B3 H3 v2 c3 o3 => ?_)
    rw [ok.K]
    cases q2 : z2.keep with
    | ex x => cases z2 with
      | cl d => cases q2
      | li f l => cases f <;> cases q2
    | bad => rw [q2] at g2; exact g2.elim
    | ok d2 =>
      rw [q2] at g2
      obtain ⟨B4, c4, s4, r4⟩ := EOk.kept c3 o3 q2
      cases d with
      | lst l =>
        cases d2 with
        | lst m =>
          obtain ⟨a, vs, e1, e2, e3⟩ := Rep.mono c4.b0 (.lst l) v r2
          obtain ⟨b, us, e4, e5, e6⟩ := r4
          have g3 : ∀ J B' H', _ → _ → _ := g2
          exact ⟨a, b, vs, us, by rw [e1, e4], .inl (Rd.mono c4.bh e2), .inl (Rd.mono c4.bh e5), g3 _ B4 H3 (c2.trans c4) (walk_zip ok.tx e2 e3 e5 e6)⟩
        | _ => exact g2.elim
      | _ => exact g2.elim
theorem di_str (he : DE C X e pe) : DI C X tg e (iStr pe) := by
  obtain ⟨te, h1, h2⟩ := he
  refine ⟨_, pi_str h1, fun B H σ ρ R re g => h2 B H σ ρ _ re ((Go.bind g).mono fun z g1 B1 H1 v c1 o1 => ?_)⟩
  have o2 := o1.rd
  cases q : z.rd with
  | str x =>
    rw [q] at o2 g1
    have g3 : ∀ J B' H', _ → _ → _ := g1
    refine ⟨x, VOk.str o2, g3 _ B1 H1 c1 fun B H i s s0 c => ?_⟩
    have hl : (x.cps.toList.map fun c => D.str ⟨#[c]⟩).length = x.cps.size := by simp
    rw [hl]
    refine ⟨fun h => h, fun h => h, fun y H' h hy => ?_⟩
    obtain ⟨eH, c', hc, hv⟩ := hy
    subst eH
    refine ⟨B, .str ⟨#[c']⟩, c, ?_, hv⟩
    rw [List.getElem?_map]
    have : x.cps.toList[i]? = some c' := by simpa using hc
    rw [this] <;> rfl
  | _ => rw [q] at g1; exact g1.elim
end

/-! ### targets -/
def SG (C : Ctx) (g : TG) (pg : PTg) (is : List Nat) : Prop := ∀ B H σ ρ v d (Q : L2.St → Hp → Prop), Rel C.T C.H0 C.B0 B H σ ρ → Rep C.T B v d →
  (∃ ρ', pg d ρ = .ok ρ' ∧ ∀ σ', Rel C.T C.H0 C.B0 B H σ' ρ' → (∀ vs : List Nat, (∀ i ∈ is, i ∈ vs) → L2.wipe σ' vs = L2.wipe σ vs) → Q σ' H) → g v σ H Q
def SGs (C : Ctx) (g : TGs) (pg : List D → Env → R Env) (is : List Nat) : Prop := ∀ B H σ ρ vs l (Q : L2.St → Hp → Prop), Rel C.T C.H0 C.B0 B H σ ρ → Reps C.T B vs l →
  (∃ ρ', pg l ρ = .ok ρ' ∧ ∀ σ', Rel C.T C.H0 C.B0 B H σ' ρ' → (∀ vs : List Nat, (∀ i ∈ is, i ∈ vs) → L2.wipe σ' vs = L2.wipe σ vs) → Q σ' H) → g vs σ H Q
structure DG (C : Ctx) (X : Cx) (e : Expr) (pg : PTg) (is : List Nat) : Prop where
  ex : ∃ g, PG X e g ∧ SG C g pg is
  nx : ∀ d ρ x, pg d ρ ≠ .ex x
structure DGs (C : Ctx) (X : Cx) (es : List Expr) (pg : List D → Env → R Env) (is : List Nat) : Prop where
  ex : ∃ g, PGs X es g ∧ SGs C g pg is
  nx : ∀ d ρ x, pg d ρ ≠ .ex x
theorem wipe_set {σ : L2.St} {i : Nat} {x : Option V} : ∀ {vs : List Nat}, i ∈ vs → L2.wipe (σ.set i x) vs = L2.wipe σ vs
  | [], h => by simp at h
  | v :: vs, h => by
    show (L2.wipe (σ.set i x) vs).set v none = (L2.wipe σ vs).set v none
    have comm : ∀ {us : List Nat}, i ∉ us → L2.wipe (σ.set i x) us = (L2.wipe σ us).set i x := fun {us} => by
      induction us with
      | nil => intro _; rfl
      | cons u us ih =>
        intro hn
        simp only [List.mem_cons, not_or] at hn
        show (L2.wipe (σ.set i x) us).set u none = ((L2.wipe σ us).set u none).set i x
        rw [ih hn.2, List.set_comm _ _ (fun z => hn.1 z)]
    by_cases hv : i ∈ vs
    · rw [wipe_set hv]
    · rcases List.mem_cons.mp h with e | e
      · subst e
        rw [comm hv, List.set_set]
      · exact absurd e hv
section
variable {C : Ctx} {X : Cx} {k : Nat} {pos p : Pos}
theorem dg_name (i : Nat) {x : Str} (ok : CxOk C X k) (hi : X.N[i]? = some x := by rfl) (hx : Loc X.env.scope x := by first | exact .inl rfl | exact .inr rfl) (hf : X.fn x = true ∨ X.env.scope.names.lookup x = some .local := by first | exact .inl rfl | exact .inr rfl) : DG C X (.Name x pos) (gSet i) [i] := by
  refine ⟨⟨_, pg_name ok.nd hi hx hf, fun B H σ ρ v d Q re hr h => ?_⟩, fun d ρ x h => nomatch h⟩
  obtain ⟨ρ', e, q⟩ := h
  cases e
  exact q _ (re.setVa hr) fun vs hv => wipe_set (hv i (by simp))
theorem dgs_nil : DGs C X [] gNil' [] := by
  refine ⟨⟨_, pgs_nil, fun B H σ ρ vs l Q re hr h => ?_⟩, fun d ρ x h => ?_⟩
  · obtain ⟨ρ', e, q⟩ := h
    cases l with
    | nil =>
      cases e
      cases vs with
      | nil => exact ⟨rfl, q σ re fun vs _ => rfl⟩
      | cons v vs => exact hr.elim
    | cons d l => cases e
  · cases d <;> cases h
theorem dgs_cons {e : Expr} {es : List Expr} {pg : PTg} {ph : List D → Env → R Env} {is js : List Nat} (h1 : DG C X e pg is) (h2 : DGs C X es ph js) (hs : (assignEach (e :: es) X.env).map (·.2) = assign e X.env :: (assignEach es X.env).map (·.2) := by rfl) : DGs C X (e :: es) (gCons' pg ph) (is ++ js) := by
  obtain ⟨⟨g, a1, a2⟩, n1⟩ := h1
  obtain ⟨⟨gs, b1, b2⟩, n2⟩ := h2
  refine ⟨⟨_, pgs_cons a1 b1 hs, fun B H σ ρ vs l Q re hr h => ?_⟩, fun d ρ x h => ?_⟩
  · obtain ⟨ρ', e, q⟩ := h
    cases l with
    | nil => cases e
    | cons d l =>
      cases vs with
      | nil => exact hr.elim
      | cons v vs =>
        obtain ⟨r1, r2⟩ := hr
        have e : (pg d ρ).bind (fun r1 => ph l r1) = .ok ρ' := e
        cases q1 : pg d ρ with
        | ex x => exact absurd q1 (n1 _ _ _)
        | bad => rw [q1] at e; cases e
        | ok ρ1 =>
          rw [q1] at e
          refine ⟨v, vs, rfl, a2 B H σ ρ v d _ re r1 ⟨ρ1, q1, fun σ1 re1 w1 => ?_⟩⟩
          exact b2 B H σ1 ρ1 vs l Q re1 r2 ⟨ρ', e, fun σ2 re2 w2 => q σ2 re2 fun us hu => (w2 us fun i hi => hu i (List.mem_append_right _ hi)).trans (w1 us fun i hi => hu i (List.mem_append_left _ hi))⟩
  · cases d with
    | nil => cases h
    | cons d l =>
      have h : (pg d ρ).bind (fun r1 => ph l r1) = .ex x := h
      cases q1 : pg d ρ with
      | ex y => exact absurd q1 (n1 _ _ _)
      | bad => rw [q1] at h; cases h
      | ok ρ1 => rw [q1] at h; exact absurd h (n2 _ _ _)
theorem dg_tup {es : List Expr} {kk n : Nat} {ph : List D → Env → R Env} {is : List Nat} (ok : CxOk C X k) (h : DGs C X es ph is) (hn : (assignEach es X.env).length = n := by rfl) (hst : (assignEach es X.env).findIdx? (·.1) = none := by rfl) : DG C X (.Tuple es kk pos) (gTup' n ph) is := by
  obtain ⟨⟨gs, b1, b2⟩, n2⟩ := h
  refine ⟨⟨_, pg_tup ok.calm b1 hn hst, fun B H σ ρ v d Q re hr h => ?_⟩, fun d ρ x h => ?_⟩
  · obtain ⟨ρ', e, q⟩ := h
    cases d with
    | tup l =>
      have e : (if l.length = n then ph l ρ else .bad) = .ok ρ' := e
      by_cases hl : l.length = n
      · rw [if_pos hl] at e
        obtain ⟨a, vs, e1, e2, e3⟩ := hr
        rw [ok.K]
        exact ⟨a, vs, e1, SqT.mono re.hc.bh e2, by rw [e3.length]; exact hl, b2 B H σ ρ vs l Q re e3 ⟨ρ', e, q⟩⟩
      · rw [if_neg hl] at e
        cases e
    | _ => cases e
  · cases d with
    | tup l =>
      have h : (if l.length = n then ph l ρ else .bad) = .ex x := h
      by_cases hl : l.length = n
      · rw [if_pos hl] at h
        exact n2 _ _ _ h
      · rw [if_neg hl] at h
        cases h
    | _ => cases h
end

/-! ### canonical readings -/
def teC (C : Ctx) (pe : PEx) : TE := fun σ H Q => ∃ B ρ, Rel C.T C.H0 C.B0 B H σ ρ ∧ EGo C.T C.E B H (pe ρ) Q
def ttC (C : Ctx) (pt : PTe) : TT := fun σ H Q => ∃ B ρ, Rel C.T C.H0 C.B0 B H σ ρ ∧ BGo C.T C.E B H (pt ρ) Q
theorem DE.can {C : Ctx} {X : Cx} {e : Expr} {pe : PEx} (h : DE C X e pe) : PE X e (teC C pe) := by
  obtain ⟨te, h1, h2⟩ := h
  exact ⟨fun pins s σ H Q I ⟨B, ρ, re, g⟩ => h1.run pins s σ H Q I (h2 B H σ ρ Q re g)⟩
theorem DT.can {C : Ctx} {X : Cx} {e : Expr} {pt : PTe} (h : DT C X e pt) : PT X e (ttC C pt) := by
  obtain ⟨te, h1, h2⟩ := h
  exact ⟨fun pins s σ H Q I ⟨B, ρ, re, g⟩ => h1.run pins s σ H Q I (h2 B H σ ρ Q re g)⟩
theorem se_can (C : Ctx) (pe : PEx) : SE C (teC C pe) pe := fun B H σ ρ Q re g => ⟨B, ρ, re, g⟩
theorem st_can (C : Ctx) (pt : PTe) : ST C (ttC C pt) pt := fun B H σ ρ Q re g => ⟨B, ρ, re, g⟩
def tgC (C : Ctx) (pg : PTg) (is : List Nat) : TG := fun v σ H Q => ∃ B ρ d, Rel C.T C.H0 C.B0 B H σ ρ ∧ Rep C.T B v d ∧ ∃ ρ', pg d ρ = .ok ρ' ∧ ∀ σ', Rel C.T C.H0 C.B0 B H σ' ρ' → (∀ vs : List Nat, (∀ i ∈ is, i ∈ vs) → L2.wipe σ' vs = L2.wipe σ vs) → Q σ' H
theorem DG.can {C : Ctx} {X : Cx} {e : Expr} {pg : PTg} {is : List Nat} (h : DG C X e pg is) : PG X e (tgC C pg is) := by
  obtain ⟨⟨g, h1, h2⟩, _⟩ := h
  exact ⟨fun pins s σ H v u Q I r ⟨B, ρ, d, re, hr, q⟩ => h1.run pins s σ H v u Q I r (h2 B H σ ρ v d Q re hr q)⟩
theorem sg_can (C : Ctx) (pg : PTg) (is : List Nat) : SG C (tgC C pg is) pg is := fun B H σ ρ v d Q re hr q => ⟨B, ρ, d, re, hr, q⟩

/-! ### comprehensions -/
theorem st_yes {C : Ctx} : ST C tYes pYes := fun B H σ ρ Q re g => g B H re.self
/-- without errors: the inner wish does not matter -/
theorem se_nox {C : Ctx} {te : TE} {pe : PEx} {W : XK} (h : SE { C with E := W } te pe) : SE C te (pNoxE pe) := fun B H σ ρ Q re g => h B H σ ρ Q re (by
  unfold pNoxE at g
  show EGo C.T W B H (pe ρ) Q
  cases q : pe ρ with
  | ok z => rw [q] at g; exact g
  | ex x => rw [q] at g; exact g.elim
  | bad => rw [q] at g; exact g.elim)
theorem st_nox {C : Ctx} {te : TT} {pe : PTe} {W : XK} (h : ST { C with E := W } te pe) : ST C te (pNoxT pe) := fun B H σ ρ Q re g => h B H σ ρ Q re (by
  unfold pNoxT at g
  show BGo C.T W B H (pe ρ) Q
  cases q : pe ρ with
  | ok z => rw [q] at g; exact g
  | ex x => rw [q] at g; exact g.elim
  | bad => rw [q] at g; exact g.elim)
theorem wipe_wiped {σ : L2.St} {vs : List Nat} : ∀ {us : List Nat}, (∀ v ∈ us, v ∈ vs) → L2.wipe (L2.wipe σ us) vs = L2.wipe σ vs
  | [], _ => rfl
  | u :: us, h => by
    show L2.wipe ((L2.wipe σ us).set u none) vs = _
    rw [wipe_set (h u List.mem_cons_self)]
    exact wipe_wiped fun v hv => h v (List.mem_cons_of_mem _ hv)
theorem se_lc {C : Ctx} {wi : TI} {g : TG} {tt : TT} {te : TE} {vs is : List Nat} {pi : PIt} {pg : PTg} {pt : PTe} {pe : PEx} (tx : TxOk C.T) (hi : SIr C wi pi) (hg : SG C g pg is) (hnx : ∀ d ρ x, pg d ρ ≠ .ex x) (his : ∀ i ∈ is, i ∈ vs) (ht : ST C tt pt) (he : SE C te pe) : SE C (tLc wi g tt te vs) (pLc vs pi pg pt pe) := by
  intro B H σ ρ Q re h
  refine hi B H σ ρ _ re ((Go.bind h).mono fun l g1 J B1 H1 c1 w => ?_)
  intro D hD
  have re1 := (re.later c1).wipe vs
  -- behind i items: the list at D, and where the rest leads
  refine ⟨fun i m Hm => m = l.length - i ∧ i ≤ l.length ∧ ∃ Bm acc us, Hc C.T H1 B1 Bm Hm ∧ Hm D = some (.lst us) ∧ Reps C.T Bm us acc ∧ Bm D = none ∧ Go C.T C.E H1 (lcLoop pg pt pe (PW.wipe ρ vs) (l.drop i) acc) fun z => ∀ B' H' v, Hc C.T H1 B1 B' H' → EOk C.T H B' H' v z → Q v H', ⟨l.length, by simp, Nat.zero_le _, B1, [], [], Hc.new tx c1.bh c1.j c1.nt hD, upd_same, trivial, free_of c1.bh hD, ?_⟩, ?_⟩
  · rw [List.drop_zero]
    exact (Go.later g1 c1.k0).mono fun z g2 B' H' v c2 o => g2 B' H' v (c1.trans c2) o
  · rintro i m Hm ⟨rfl, hil, Bm, acc, us, cm, hDm, racc, bD, gm⟩
    have sm : Same (noT H1) Hm := cm.k0.noT
    obtain ⟨w1, w2, w3⟩ := w Bm Hm i sm cm.b0 cm.self
    by_cases hlt : i < l.length
    · refine .inr ⟨w1 hlt, fun Hn => ∃ Bn acc us, Hc C.T H1 B1 Bn Hn ∧ Hn D = some (.lst us) ∧ Reps C.T Bn us acc ∧ Bn D = none ∧ Go C.T C.E H1 (lcLoop pg pt pe (PW.wipe ρ vs) (l.drop (i + 1)) acc) fun z => ∀ B' H' v, Hc C.T H1 B1 B' H' → EOk C.T H B' H' v z → Q v H',
        fun Hn ⟨Bn, an, un, a1, a2, a3, a4, a5⟩ => ⟨l.length - (i + 1), by omega, rfl, hlt, Bn, an, un, a1, a2, a3, a4, a5⟩, fun x H2 y => ?_⟩
      obtain ⟨B2, d, c2, hd, rd⟩ := w3 x H2 hlt y
      have hdr : l.drop i = d :: l.drop (i + 1) := by
        obtain ⟨hh, e⟩ := List.getElem?_eq_some_iff.mp hd
        rw [List.drop_eq_getElem_cons hh, e]
      rw [hdr] at gm
      have gm : Go C.T C.E H1 ((pg d (PW.wipe ρ vs)).bind fun r1 => (pt r1).bind fun b => if b then (pe r1).bind fun x => x.keep.bind fun y => if acc.length < line then lcLoop pg pt pe (PW.wipe ρ vs) (l.drop (i + 1)) (acc ++ [y]) else .bad else lcLoop pg pt pe (PW.wipe ρ vs) (l.drop (i + 1)) acc) _ := gm
      have cm2 := cm.trans c2
      have re2 : Rel C.T C.H0 C.B0 B2 H2 (L2.wipe σ vs) (PW.wipe ρ vs) := re1.later cm2
      have gm2 := Go.bind gm
      cases q1 : pg d (PW.wipe ρ vs) with
      | ex y => exact absurd q1 (hnx _ _ _)
      | bad => rw [q1] at gm2; exact gm2.elim
      | ok ρ1 =>
        rw [q1] at gm2
        refine hg B2 H2 _ _ x d _ re2 rd ⟨ρ1, q1, fun σ2 re3 hw => ⟨by rw [hw vs his, wipe_wiped fun v hv => hv], ?_⟩⟩
        have gm3 : Go C.T C.E H1 ((pt ρ1).bind fun b => if b then (pe ρ1).bind fun x => x.keep.bind fun y => if acc.length < line then lcLoop pg pt pe (PW.wipe ρ vs) (l.drop (i + 1)) (acc ++ [y]) else .bad else lcLoop pg pt pe (PW.wipe ρ vs) (l.drop (i + 1)) acc) _ := gm2
        refine ht B2 H2 σ2 ρ1 _ re3 ((Go.later (Go.bind gm3) cm2.k0).mono fun b gm4 B3 H3 c3 => ?_)
        have cm3 := cm2.trans c3
        have hD3 : H3 D = some (.lst us) := (c2.k0.trans c3.k0).lst hDm
        have bD3 : B3 D = none := (c2.trans c3).fr D _ hDm bD
        have ra3 := Reps.mono (c2.trans c3).b0 acc us racc
        cases b with
        | false =>
          have gm5 : Go C.T C.E H1 (lcLoop pg pt pe (PW.wipe ρ vs) (l.drop (i + 1)) acc) _ := gm4
          exact iteF ⟨B3, acc, us, cm3, hD3, ra3, bD3, gm5⟩
        | true =>
          have gm5 : Go C.T C.E H1 ((pe ρ1).bind fun x => x.keep.bind fun y => if acc.length < line then lcLoop pg pt pe (PW.wipe ρ vs) (l.drop (i + 1)) (acc ++ [y]) else .bad) _ := gm4
          refine iteT (he B3 H3 σ2 ρ1 _ (re3.later c3) ((Go.later (Go.bind gm5) cm3.k0).mono fun z gm6 B4 H4 v c4 o4 => ?_))
          cases q2 : z.keep with
          | ex x => cases z with
            | cl d => cases q2
            | li f l => cases f <;> cases q2
          | bad => rw [q2] at gm6; exact gm6.elim
          | ok dv =>
            rw [q2] at gm6
            have gm7 : Go C.T C.E H1 (if acc.length < line then lcLoop pg pt pe (PW.wipe ρ vs) (l.drop (i + 1)) (acc ++ [dv]) else .bad) _ := gm6
            obtain ⟨B5, c5, s5, r5⟩ := EOk.kept c4 o4 q2
            by_cases hz : acc.length < line
            · rw [if_pos hz] at gm7
              have hD5 : H4 D = some (.lst us) := c5.k0.lst hD3
              have bD5 : B5 D = none := c5.fr D _ hD3 bD3
              have cm5 := cm3.trans c5
              have ra5 := Reps.mono c5.b0 acc us ra3
              have kD : ∀ b o, H1 b = some o → b ≠ D := fun b o e => ne_of_none e hD
              refine ⟨us, hD5, by rw [ra3.length]; exact hz, B5, acc ++ [dv], us ++ [v], ⟨⟨fun b o e n => ?_, fun b e => ?_⟩, cm5.b0, fun b o e => ?_, cm5.fr, tx.js H4 _ cm5.j fun b o e s => ?_, cm5.nt⟩, upd_same, ra5.append (.one r5), bD5, ?_⟩
              · rw [upd_ne (kD b o e)]
                exact cm5.k0.1 b o e n
              · exact cm5.k0.2 b (NdefX.upd_none e)
              · rw [upd_ne (ne_of_none e bD5)]
                exact cm5.bh b o e
              · rw [upd_ne (fun z => by subst z; rw [hD5] at e; cases e; exact s)]
                exact e
              · exact gm7
            · rw [if_neg hz] at gm7
              exact gm7.elim
    · have e : i = l.length := by omega
      subst e
      refine .inl ⟨w2 (Nat.le_refl _), ?_⟩
      rw [List.drop_length] at gm
      have gm : ∀ B' H' v, _ → _ → _ := gm
      exact gm Bm Hm (.ref D) cm ⟨D, us, rfl, hDm, racc, bD, fun _ => c1.k0.none hD⟩
end PW
namespace PW
open PySem PySem.Spec PyProof.Rows L2

/-! ### comprehensions, as the text has them -/
section
variable {C : Ctx} {X : Cx} {k : Nat}
abbrev Ctx.nx (C : Ctx) : Ctx := { C with E := E0 }
theorem CxOk.blk (ok : CxOk C X k) (s : Shared) (H : Hp) (scope : Scope) (ce : PySem.Env) (fp : List Addr) : CxOk C.nx (X.blk s H scope ce fp) k :=
  ⟨ok.K, ok.mg, ok.calm, ok.room, passL, PassesOwn.never, ok.nd, ok.tx⟩
structure DTs (C : Ctx) (X : Cx) (ifs : List Expr) (pt : PTe) : Prop where
  ex : ∃ tt, PTs X ifs tt ∧ ST C tt pt
theorem dts_nil : DTs C X [] pYes := ⟨_, pts_nil, st_yes⟩
theorem dts_one {c : Expr} {pt : PTe} (h : DT C X c pt) : DTs C X [c] pt := let ⟨⟨_, h1, h2⟩⟩ := h; ⟨_, pts_one h1, h2⟩
theorem DTs.can {ifs : List Expr} {pt : PTe} (h : DTs C X ifs pt) : PTs X ifs (ttC C pt) := by
  obtain ⟨te, h1, h2⟩ := h
  exact ⟨fun pins s σ H Q I ⟨B, ρ, re, g⟩ => h1.run pins s σ H Q I (h2 B H σ ρ Q re g)⟩
variable {elt tg iter : Expr} {ifs : List Expr} {scope : Scope} {pos : Pos} {pi : PIt} {pg : PTg} {is : List Nat} {pt : PTe} {pe : PEx}
theorem de_lc (own : List (Str × Nat)) (ok : CxOk C X k) (hi : DIr C X tg iter pi) (bk : BlkOk X.N X.env.scope scope own)
    (hg : ∀ (s : Shared) (H : Hp) (c : Addr) (cl : List (Str × Addr)) (fp : List Addr), CxOk C.nx (X.blk s H scope (compEnvC scope cl c X.env) fp) k → DG C.nx (X.blk s H scope (compEnvC scope cl c X.env) fp) tg pg is) (his : ∀ i ∈ is, i ∈ own.map (·.2))
    (ht : ∀ (s : Shared) (H : Hp) (c : Addr) (cl : List (Str × Addr)) (fp : List Addr), CxOk C.nx (X.blk s H scope (compEnvC scope cl c X.env) fp) k → DTs C.nx (X.blk s H scope (compEnvC scope cl c X.env) fp) ifs pt)
    (he : ∀ (s : Shared) (H : Hp) (c : Addr) (cl : List (Str × Addr)) (fp : List Addr), CxOk C.nx (X.blk s H scope (compEnvC scope cl c X.env) fp) k → DE C.nx (X.blk s H scope (compEnvC scope cl c X.env) fp) elt pe) (hs : ∀ x, foldedSetIterable iter X.env x = pure x := by intro _; rfl) :
    DE C X (.ListComp elt [⟨tg, iter, ifs, 0⟩] scope pos) (pLc (own.map (·.2)) pi pg (pNoxT pt) (pNoxE pe)) := by
  obtain ⟨wi, h1, h2⟩ := hi
  refine ⟨_, pe_lc (own := own) ok.calm ok.nd h1 bk (fun s H c cl fp => (hg s H c cl fp (ok.blk s H _ _ fp)).can) (fun s H c cl fp => (ht s H c cl fp (ok.blk s H _ _ fp)).can) (fun s H c cl fp => (he s H c cl fp (ok.blk s H _ _ fp)).can) hs, ?_⟩
  exact se_lc ok.tx h2 (sg_can C pg is) (hg X.s_0 C.H0 0 [] [] (ok.blk X.s_0 C.H0 _ _ [])).nx his (st_nox (W := E0) (st_can C.nx pt)) (se_nox (W := E0) (se_can C.nx pe))
end

/-! ### statements -/
def SGo (C : Ctx) (D : Ends) (B : Hp) : Fl → Prop
  | .nx r => ∀ B' H' σ', Same B B' → Rel C.T C.H0 C.B0 B' H' σ' r → D.nx σ' H'
  | .bk r => ∀ B' H' σ', Same B B' → Rel C.T C.H0 C.B0 B' H' σ' r → D.bk σ' H'
  | .ct r => ∀ B' H' σ', Same B B' → Rel C.T C.H0 C.B0 B' H' σ' r → D.ct σ' H'
  | .rt e => ∀ B' H' v, Hc C.T C.H0 C.B0 B' H' → EOk C.T C.H0 B' H' v e → D.rt v H'
  | .ex x => XGo C.T C.E C.H0 x
  | .bad => False
def SS (C : Ctx) (ts : TS) (ps : PSt) : Prop := ∀ B H σ ρ (D : Ends), Rel C.T C.H0 C.B0 B H σ ρ → SGo C D B (ps ρ) → ts D σ H
structure DS (C : Ctx) (X : Cx) (st : Stmt) (ps : PSt) : Prop where
  ex : ∃ ts, PS X st ts ∧ SS C ts ps
structure DSs (C : Ctx) (X : Cx) (st : List Stmt) (ps : PSt) : Prop where
  ex : ∃ ts, PSs X st ts ∧ SS C ts ps
section
variable {C : Ctx} {X : Cx} {k : Nat} {D : Ends}
theorem SGo.later {B B1 : Hp} {o : Fl} (h : SGo C D B o) (s : Same B B1) : SGo C D B1 o := by
  cases o with
  | nx r => exact fun B' H' σ' s' => h B' H' σ' (s.trans s')
  | bk r => exact fun B' H' σ' s' => h B' H' σ' (s.trans s')
  | ct r => exact fun B' H' σ' s' => h B' H' σ' (s.trans s')
  | rt e => exact h
  | ex x => exact h
  | bad => exact h
theorem SGo.fl {α : Type} {r : R α} {f : α → Fl} {B H : Hp} (h : SGo C D B (r.fl f)) (kp : Keep C.H0 H) : Go C.T C.E H r fun a => SGo C D B (f a) := by
  cases r with
  | ok a => exact h
  | ex x => exact XGo.later h kp
  | bad => exact h
theorem SGo.ends {D' : Ends} {B : Hp} {o : Fl} (h : SGo C D B o) (nx : ∀ σ H, D.nx σ H → D'.nx σ H) (bk : ∀ σ H, D.bk σ H → D'.bk σ H) (ct : ∀ σ H, D.ct σ H → D'.ct σ H) (rt : ∀ v H, D.rt v H → D'.rt v H) : SGo C D' B o := by
  cases o with
  | nx r => exact fun B' H' σ' sm re => nx _ _ (h B' H' σ' sm re)
  | bk r => exact fun B' H' σ' sm re => bk _ _ (h B' H' σ' sm re)
  | ct r => exact fun B' H' σ' sm re => ct _ _ (h B' H' σ' sm re)
  | rt e => exact fun B' H' v c o => rt _ _ (h B' H' v c o)
  | ex x => exact h
  | bad => exact h
variable {st : Stmt} {rest : List Stmt} {pos : Pos} {e e2 : Expr} {pe pf : PEx} {ps pr : PSt} {x : Str} {i : Nat}
theorem dss_nil : DSs C X [] sNext := ⟨_, pss_nil, fun B H σ ρ D re g => g B H σ (.refl _) re⟩
theorem dss_cons (h1 : DS C X st ps) (h2 : DSs C X rest pr) : DSs C X (st :: rest) (sSeq ps pr) := by
  obtain ⟨ts, a1, a2⟩ := h1
  obtain ⟨tr, b1, b2⟩ := h2
  refine ⟨_, pss_cons a1 b1, fun B H σ ρ D re g => ?_⟩
  refine a2 B H σ ρ _ re ?_
  unfold sSeq at g
  cases q : ps ρ with
  | nx r => rw [q] at g; exact fun B' H' σ' sm re' => b2 B' H' σ' r D re' (SGo.later g sm)
  | bk r => rw [q] at g; exact g
  | ct r => rw [q] at g; exact g
  | rt e => rw [q] at g; exact g
  | ex x => rw [q] at g; exact g
  | bad => rw [q] at g; exact g
theorem dss_one (h1 : DS C X st ps) : DSs C X [st] ps := let ⟨⟨_, a1, a2⟩⟩ := h1; ⟨_, pss_one a1, a2⟩
theorem ds_pass : DS C X (.Pass pos) sNext := ⟨_, ps_pass, fun B H σ ρ D re g => g B H σ (.refl _) re⟩
theorem ds_break : DS C X (.Break pos) sBreak := ⟨_, ps_break, fun B H σ ρ D re g => g B H σ (.refl _) re⟩
theorem ds_continue : DS C X (.Continue pos) sCont := ⟨_, ps_continue, fun B H σ ρ D re g => g B H σ (.refl _) re⟩
theorem ds_expr (h : DE C X e pe) (hs : swapsWith e none pos.line X.env = pure false := by rfl) : DS C X (.Expr e pos) (sDrop pe) := by
  obtain ⟨te, h1, h2⟩ := h
  exact ⟨_, ps_expr h1 hs, fun B H σ ρ D re g => h2 B H σ ρ _ re ((SGo.fl g re.hc.k0).mono fun z g1 B1 H1 v c1 o1 => g1 B1 H1 σ c1.b0 (re.later c1))⟩
theorem ss_ret {te : TE} (h2 : SE C te pe) : SS C (tRet te) (sRet pe) := fun B H σ ρ D re g => h2 B H σ ρ _ re ((SGo.fl g re.hc.k0).mono fun z g1 B1 H1 v c1 o1 => by
    cases z with
    | cl d => exact g1 B1 H1 v (re.hc.trans c1) o1
    | li f l =>
      cases f with
      | true => exact g1 B1 H1 v (re.hc.trans c1) (o1.back re.hc.k0)
      | false => exact g1.elim)
theorem ds_ret (h : DE C X e pe) : DS C X (.Return (some e) pos) (sRet pe) := let ⟨⟨_, h1, h2⟩⟩ := h; ⟨_, ps_ret h1, ss_ret h2⟩
theorem ds_retN : DS C X (.Return none pos) sRetN := ⟨_, ps_retN, fun B H σ ρ D re g => g B H .non re.hc rfl⟩
theorem ds_retV (i : Nat) {p : Pos} (hN : X.N[i]? = some x := by rfl) (hv : Vis X.env.scope x := by first | exact Or.inl rfl | exact Or.inr (Or.inl rfl) | exact Or.inr (Or.inr rfl)) (hd : (x == ("__debug__" : Str)) = false := by decide)
    (hcd : (x == ("__classdict__" : Str)) = false := by decide) : DS C X (.Return (some (.Name x p)) pos) (sRetV i) := by
  refine ⟨_, ps_ret (pe_var hN hv hd hcd), fun B H σ ρ D re g => ?_⟩
  unfold sRetV at g
  cases hi : ρ[i]? with
  | none => rw [hi] at g; exact g.elim
  | some s =>
    rw [hi] at g
    cases s with
    | un => exact g.elim
    | va d =>
      obtain ⟨v, h1, h2⟩ := re.va i d hi
      exact ⟨v, h1, g B H v re.hc h2⟩
    | ow l =>
      obtain ⟨p, vs, h1, h2, h3, h4, h5⟩ := re.ow i l hi
      exact ⟨.ref p, h1, g B H _ re.hc ⟨p, vs, rfl, h2, h3, h4, fun _ => h5⟩⟩
theorem ds_if {c : Expr} {a b : List Stmt} {pt : PTe} {pa pb : PSt} (hc : DT C X c pt) (ha : DSs C X a pa) (hb : DSs C X b pb) : DS C X (.If c a b pos) (sIf pt pa pb) := by
  obtain ⟨tc, h1, h2⟩ := hc
  obtain ⟨ta, h3, h4⟩ := ha
  obtain ⟨tb, h5, h6⟩ := hb
  refine ⟨_, ps_if h1 h3 h5, fun B H σ ρ D re g => h2 B H σ ρ _ re ((SGo.fl g re.hc.k0).mono fun z g1 B1 H1 c1 => ?_)⟩
  cases z with
  | true => exact iteT (h4 B1 H1 σ ρ D (re.later c1) (SGo.later g1 c1.b0))
  | false => exact iteF (h6 B1 H1 σ ρ D (re.later c1) (SGo.later g1 c1.b0))

/-! ### name = e -/
theorem ss_set {te : TE} (h2 : SE C te pe) : SS C (tAsg te (gName i)) (sSet i pe) := fun B H σ ρ D re g => h2 B H σ ρ _ re ((SGo.fl g re.hc.k0).mono fun z g1 B1 H1 v c1 o1 => by
    cases z with
    | cl d => exact g1 B1 H1 _ c1.b0 ((re.later c1).setVa o1)
    | li f l =>
      cases f with
      | false => exact g1.elim
      | true =>
        obtain ⟨a, vs, e1, e2, e3, e4, e5⟩ := o1
        subst e1
        refine g1 B1 H1 _ c1.b0 ((re.later c1).setOw e2 e3 e4 (re.hc.k0.none (e5 rfl)) fun j m hj hm q => ?_)
        obtain ⟨p, us, k1, k2, _⟩ := re.ow j m hm
        rw [k1] at q
        cases q
        rw [e5 rfl] at k2
        cases k2)
theorem ss_setK {te : TE} (h2 : SE C te pe) : SS C (tAsg te (gName i)) (sSetK i pe) := fun B H σ ρ D re g => h2 B H σ ρ _ re ((SGo.fl g re.hc.k0).mono fun z g1 B1 H1 v c1 o1 => by
    cases q : z.keep with
    | ex y => cases z with
      | cl d => cases q
      | li f l => cases f <;> cases q
    | bad => rw [q] at g1; exact g1.elim
    | ok d =>
      rw [q] at g1
      obtain ⟨B2, c2, s2, r2⟩ := EOk.kept c1 o1 q
      exact g1 B2 H1 _ c2.b0 ((re.later c2).setVa r2))
theorem ds_set (i : Nat) {p : Pos} (ok : CxOk C X k) (he : DE C X e pe) (hi : X.N[i]? = some x := by rfl) (hx : Loc X.env.scope x := by first | exact .inl rfl | exact .inr rfl) (hs : swapsWith e (some (.Name x p)) pos.line X.env = pure false := by rfl) (hf : X.fn x = true ∨ X.env.scope.names.lookup x = some .local := by first | exact .inl rfl | exact .inr rfl) : DS C X (.Assign [.Name x p] e pos) (sSet i pe) :=
  let ⟨⟨_, h1, h2⟩⟩ := he; ⟨_, ps_set ok.nd hi hx h1 hs hf, ss_set h2⟩
theorem ds_setK (i : Nat) {p : Pos} (ok : CxOk C X k) (he : DE C X e pe) (hi : X.N[i]? = some x := by rfl) (hx : Loc X.env.scope x := by first | exact .inl rfl | exact .inr rfl) (hs : swapsWith e (some (.Name x p)) pos.line X.env = pure false := by rfl) (hf : X.fn x = true ∨ X.env.scope.names.lookup x = some .local := by first | exact .inl rfl | exact .inr rfl) : DS C X (.Assign [.Name x p] e pos) (sSetK i pe) :=
  let ⟨⟨_, h1, h2⟩⟩ := he; ⟨_, ps_set ok.nd hi hx h1 hs hf, ss_setK h2⟩
/-- (a, b) = e -/
theorem ds_setT {tg : Expr} {pg : PTg} {is : List Nat} (hg : DG C X tg pg is) (he : DE C X e pe) (hs : swapsWithSole [tg] e pos.line X.env = pure false := by rfl) (hw : swappedStores [tg] e X.env = pure none := by rfl)
    (h1 : (assignEach [tg] X.env).map (·.2) = [assign tg X.env] := by rfl) : DS C X (.Assign [tg] e pos) (sSetT pg pe) := by
  obtain ⟨te, h3, h4⟩ := he
  obtain ⟨⟨tg', h5, h6⟩, hnx⟩ := hg
  refine ⟨_, ps_asg h3 h5 hs hw h1, fun B H σ ρ D re g => h4 B H σ ρ _ re ((SGo.fl g re.hc.k0).mono fun z g1 B1 H1 v c1 o1 => ?_)⟩
  cases q : z.keep with
  | ex y => cases z with
    | cl d => cases q
    | li f l => cases f <;> cases q
  | bad => rw [q] at g1; exact g1.elim
  | ok d =>
    rw [q] at g1
    obtain ⟨B2, c2, s2, r2⟩ := EOk.kept c1 o1 q
    have g2 : SGo C D B ((pg d ρ).fl fun r1 => .nx r1) := g1
    cases q2 : pg d ρ with
    | ex y => exact absurd q2 (hnx _ _ _)
    | bad => rw [q2] at g2; exact g2.elim
    | ok ρ' =>
      rw [q2] at g2
      exact h6 B2 H1 σ ρ v d _ (re.later c2) r2 ⟨ρ', q2, fun σ' re' _ => g2 B2 H1 σ' c2.b0 re'⟩
/-- name op= e -/
theorem ss_aug {te : TE} {ti : TIp} {f : PW.D → PW.D → R PW.E} (hr : R2Ok C.T ti f) (n : NoX f) (h2 : SE C te pe) : SS C (tAug i te ti) (sAug i f pe) := by
  intro B H σ ρ D re g
  unfold sAug at g
  cases hi : ρ[i]? with
  | none => rw [hi] at g; exact g.elim
  | some s =>
    rw [hi] at g
    cases s with
    | un => exact g.elim
    | ow l => exact g.elim
    | va d =>
      obtain ⟨v, h1, h3⟩ := re.va i d hi
      refine ⟨v, h1, h2 B H σ ρ _ re ((SGo.fl g re.hc.k0).mono fun y g1 B1 H1 u c1 o1 => ?_)⟩
      have g2 := SGo.fl g1 re.hc.k0
      cases q : f d y.rd with
      | ex z => exact absurd q (n _ _ _)
      | bad => rw [q] at g2; exact g2.elim
      | ok z =>
        rw [q] at g2
        refine hr B1 H1 v u d y.rd z _ c1.self (.inl (Rep.mono c1.b0 d v h3)) o1.rd q fun B2 H2 w c2 o2 => ?_
        cases z with
        | cl d' =>
          have g3 : ∀ B' H' σ', _ → _ → _ := g2
          exact g3 B2 H2 _ (c1.trans c2).b0 (((re.later c1).later c2).setVa o2)
        | li f l => exact g2.elim
theorem ok_ipAdd {T : Tx} : R2Ok T (ipI fun i j => i + j) oAddI := by
  intro B H x y d e z Q c vx vy hz q
  unfold oAddI at hz
  split at hz
  · cases hz
    exact ⟨_, _, vx.int, vy.int, q B H _ c rfl⟩
  · cases hz
theorem nox_ipAdd : NoX oAddI := fun d e x => by
  unfold oAddI
  split <;> exact fun z => nomatch z
theorem ok_ipSub {T : Tx} : R2Ok T (ipI fun i j => i - j) oSub := by
  intro B H x y d e z Q c vx vy hz q
  unfold oSub at hz
  split at hz
  · cases hz
    exact ⟨_, _, vx.int, vy.int, q B H _ c rfl⟩
  · cases hz
theorem ds_augA (i : Nat) {p : Pos} (ok : CxOk C X k) (he : DE C X e pe) (hi : X.N[i]? = some x := by rfl) (hx : Loc X.env.scope x := by first | exact .inl rfl | exact .inr rfl) (hf : X.fn x = true ∨ X.env.scope.names.lookup x = some .local := by first | exact .inl rfl | exact .inr rfl) : DS C X (.AugAssign (.Name x p) .Add e pos) (sAug i oAddI pe) :=
  let ⟨⟨_, h1, h2⟩⟩ := he; ⟨_, ps_aug ok.nd hi hx h1 ip_add hf, ss_aug ok_ipAdd nox_ipAdd h2⟩
theorem ds_augS (i : Nat) {p : Pos} (ok : CxOk C X k) (he : DE C X e pe) (hi : X.N[i]? = some x := by rfl) (hx : Loc X.env.scope x := by first | exact .inl rfl | exact .inr rfl) (hf : X.fn x = true ∨ X.env.scope.names.lookup x = some .local := by first | exact .inl rfl | exact .inr rfl) : DS C X (.AugAssign (.Name x p) .Sub e pos) (sAug i oSub pe) :=
  let ⟨⟨_, h1, h2⟩⟩ := he; ⟨_, ps_aug ok.nd hi hx h1 ip_sub hf, ss_aug ok_ipSub nox_sub h2⟩

/-! ### lists changed in place -/
theorem ds_frz (l : List Nat) (h : DS C X st ps) : DS C X st (sFrz l ps) := by
  obtain ⟨ts, h1, h2⟩ := h
  refine ⟨ts, h1, fun B H σ ρ D re g => ?_⟩
  obtain ⟨B2, r2, s2⟩ := re.frz l
  exact h2 B2 H σ _ D r2 (SGo.later g s2)
theorem ow_list {K : PySem.W.Frag} {H : Hp} {p : Addr} {vs : List V} (h : H p = some (.lst vs)) : tyV K "list" (.ref p) H := Or.inl ⟨rfl, _, Or.inl (Or.inl h)⟩
theorem ss_app {te : TE} (tx : TxOk C.T) (h2 : SE C te pe) : SS C (tDrop (tBM C.T.K "list" rAppend (tVar i) (tCons te tNil))) (sApp i pe) := by
  intro B H σ ρ D re g
  unfold sApp at g
  cases hi : ρ[i]? with
  | none => rw [hi] at g; exact g.elim
  | some s =>
    rw [hi] at g
    cases s with
    | un => exact g.elim
    | va d => exact g.elim
    | ow l =>
      obtain ⟨p, vs, k1, k2, k3, k4, k5⟩ := re.ow i l hi
      refine ⟨.ref p, k1, ow_list k2, h2 B H σ ρ _ re ((SGo.fl g re.hc.k0).mono fun z g1 B1 H1 v c1 o1 => ?_)⟩
      cases q : z.keep with
      | ex y => cases z with
        | cl d => cases q
        | li f l => cases f <;> cases q
      | bad => rw [q] at g1; exact g1.elim
      | ok d =>
        rw [q] at g1
        obtain ⟨B2, c2, s2, r2⟩ := EOk.kept c1 o1 q
        have g2 : SGo C D B (if l.length < line then Fl.nx (ρ.set i (.ow (l ++ [d]))) else .bad) := g1
        by_cases hl : l.length < line
        · rw [if_pos hl] at g2
          have re2 := re.later c2
          have hp : H1 p = some (.lst vs) := c2.k0.lst k2
          have hr : Reps C.T B2 vs l := Reps.mono c2.b0 l vs k3
          refine ⟨p, vs, v, rfl, rfl, hp, by rw [hr.length]; exact hl, ?_⟩
          have g3 : ∀ B' H' σ', _ → _ → _ := g2
          exact g3 B2 _ σ c2.b0 (re2.mut tx hi k1 hp (hr.append (.one r2)))
        · rw [if_neg hl] at g2
          exact g2.elim
theorem ss_ext {te : TE} (tx : TxOk C.T) (h2 : SE C te pe) : SS C (tDrop (tBM C.T.K "list" rExtendR (tVar i) (tCons te tNil))) (sExt i pe) := by
  intro B H σ ρ D re g
  unfold sExt at g
  cases hi : ρ[i]? with
  | none => rw [hi] at g; exact g.elim
  | some s =>
    rw [hi] at g
    cases s with
    | un => exact g.elim
    | va d => exact g.elim
    | ow l =>
      obtain ⟨p, vs, k1, k2, k3, k4, k5⟩ := re.ow i l hi
      refine ⟨.ref p, k1, ow_list k2, h2 B H σ ρ _ re ((SGo.fl g re.hc.k0).mono fun z g1 B1 H1 v c1 o1 => ?_)⟩
      have o2 := o1.rd
      cases q : z.rd with
      | lst m =>
        rw [q] at g1 o2
        have g2 : SGo C D B (if l.length + m.length ≤ line then Fl.nx (ρ.set i (.ow (l ++ m))) else .bad) := g1
        obtain ⟨a, us, e1, e2, e3⟩ := o2.lst c1.bh
        by_cases hl : l.length + m.length ≤ line
        · rw [if_pos hl] at g2
          have re2 := re.later c1
          have hp : H1 p = some (.lst vs) := c1.k0.lst k2
          have hr : Reps C.T B1 vs l := Reps.mono c1.b0 l vs k3
          subst e1
          refine ⟨p, a, vs, us, rfl, rfl, hp, e2, by rw [hr.length, e3.length]; exact hl, ?_⟩
          have g3 : ∀ B' H' σ', _ → _ → _ := g2
          exact g3 B1 _ σ c1.b0 (re2.mut tx hi k1 hp (hr.append e3))
        · rw [if_neg hl] at g2
          exact g2.elim
      | _ => rw [q] at g1; exact g1.elim
theorem ixN_eq (n : Nat) (i : Int) : ixN n i = ixOf n i := rfl
theorem ixOf_lt {n : Nat} {i : Int} {j : Nat} (h : ixOf n i = some j) : j < n := (ixN_seq (by rw [ixN_eq]; exact h)).2.1
/-- x[k] = e -/
theorem ss_put {te tk : TE} (tx : TxOk C.T) (h2 : SE C te pe) (h4 : SE C tk pf) : SS C (tAsg te (gSub (tVar i) tk rSetL)) (sPut i pf pe) := by
  intro B H σ ρ D re g
  unfold sPut at g
  cases hi : ρ[i]? with
  | none => rw [hi] at g; exact g.elim
  | some s =>
    rw [hi] at g
    cases s with
    | un => exact g.elim
    | va d => exact g.elim
    | ow l =>
      obtain ⟨p, vs, k1, k2, k3, k4, k5⟩ := re.ow i l hi
      refine h2 B H σ ρ _ re ((SGo.fl g re.hc.k0).mono fun z g1 B1 H1 v c1 o1 => ?_)
      cases q : z.keep with
      | ex y => cases z with
        | cl d => cases q
        | li f l => cases f <;> cases q
      | bad => rw [q] at g1; exact g1.elim
      | ok d =>
        rw [q] at g1
        obtain ⟨B2, c2, s2, r2⟩ := EOk.kept c1 o1 q
        have re2 := re.later c2
        have g2 : SGo C D B ((pf ρ).fl fun y => match y.rd with
          | .int z => match ixOf l.length z with
            | some j => .nx (ρ.set i (.ow (l.set j d)))
            | none => .bad
          | _ => .bad) := g1
        refine ⟨.ref p, k1, h4 B2 H1 σ ρ _ re2 ((SGo.fl g2 re2.hc.k0).mono fun y g3 B3 H3 u c3 o3 => ?_)⟩
        have o4 := o3.rd
        cases qy : y.rd with
        | int zz =>
          rw [qy] at g3 o4
          have g4 : SGo C D B (match ixOf l.length zz with
            | some j => .nx (ρ.set i (.ow (l.set j d)))
            | none => .bad) := g3
          cases qj : ixOf l.length zz with
          | none => rw [qj] at g4; exact g4.elim
          | some j =>
            rw [qj] at g4
            have g5 : ∀ B' H' σ', _ → _ → _ := g4
            have hp : H3 p = some (.lst vs) := (c2.trans c3).k0.lst k2
            have hr : Reps C.T B3 vs l := Reps.mono (c2.trans c3).b0 l vs k3
            refine ⟨p, vs, zz, j, rfl, o4.int, hp, by rw [hr.length]; exact qj, ?_⟩
            exact g5 B3 _ σ (c2.trans c3).b0 ((re2.later c3).mut tx hi k1 hp (Reps.set (Rep.mono c3.b0 d v r2) j hr))
        | _ => rw [qy] at g3; exact g3.elim
theorem ds_app (i : Nat) {p apos cpos : Pos} (ok : CxOk C X k) (he : DE C X e pe) (hN : X.N[i]? = some x := by rfl) (hv : Vis X.env.scope x := by first | exact Or.inl rfl | exact Or.inr (Or.inl rfl) | exact Or.inr (Or.inr rfl)) (hd : (x == ("__debug__" : Str)) = false := by decide)
    (hcd : (x == ("__classdict__" : Str)) = false := by decide) (hbase : attributeBase (.Name x p) "append" X.env (eval (.Name x p) X.env) = eval (.Name x p) X.env := by rfl)
    (hfew : ((backTo cpos (starEach [e] X.env)).all (fun x => !x.1) && (backToKw cpos (keywordEach [] X.env)).all (fun x => x.1.isSome)
      && decide ([e].length + ([] : List Keyword).length + (if ([] : List Keyword).isEmpty then 0 else 1) < 30)) = true := by rfl)
    (hline : (apos.endLine == cpos.line) = true := by rfl) (hs1 : starEach [e] X.env = (false, eval e X.env) :: starEach [] X.env := by rfl) (hplain : (backTo cpos (starEach [] X.env)).any (·.1) = false := by rfl)
    (hs : swapsWith (.Call (.Attribute (.Name x p) "append" apos) [e] [] cpos) none pos.line X.env = pure false := by rfl) :
    DS C X (.Expr (.Call (.Attribute (.Name x p) "append" apos) [e] [] cpos) pos) (sApp i pe) := by
  obtain ⟨te, h1, h2⟩ := he
  refine ⟨_, ps_expr (pe_bm PySem.F.plainAttrs_list PySem.F.slot_list_append PySem.F.type_list_append mt_append (pe_var hN hv hd hcd) (pa_cons h1 pa_nil hs1) hbase hfew hline hs1 hplain) hs, ?_⟩
  rw [ok.K]
  exact ss_app ok.tx h2
theorem ds_ext (i : Nat) {p apos cpos : Pos} (ok : CxOk C X k) (he : DE C X e pe) (hN : X.N[i]? = some x := by rfl) (hv : Vis X.env.scope x := by first | exact Or.inl rfl | exact Or.inr (Or.inl rfl) | exact Or.inr (Or.inr rfl)) (hd : (x == ("__debug__" : Str)) = false := by decide)
    (hcd : (x == ("__classdict__" : Str)) = false := by decide) (hbase : attributeBase (.Name x p) "extend" X.env (eval (.Name x p) X.env) = eval (.Name x p) X.env := by rfl)
    (hfew : ((backTo cpos (starEach [e] X.env)).all (fun x => !x.1) && (backToKw cpos (keywordEach [] X.env)).all (fun x => x.1.isSome)
      && decide ([e].length + ([] : List Keyword).length + (if ([] : List Keyword).isEmpty then 0 else 1) < 30)) = true := by rfl)
    (hline : (apos.endLine == cpos.line) = true := by rfl) (hs1 : starEach [e] X.env = (false, eval e X.env) :: starEach [] X.env := by rfl) (hplain : (backTo cpos (starEach [] X.env)).any (·.1) = false := by rfl)
    (hs : swapsWith (.Call (.Attribute (.Name x p) "extend" apos) [e] [] cpos) none pos.line X.env = pure false := by rfl) :
    DS C X (.Expr (.Call (.Attribute (.Name x p) "extend" apos) [e] [] cpos) pos) (sExt i pe) := by
  obtain ⟨te, h1, h2⟩ := he
  refine ⟨_, ps_expr (pe_bm PySem.F.plainAttrs_list PySem.F.slot_list_extend PySem.F.type_list_extend mt_extendR (pe_var hN hv hd hcd) (pa_cons h1 pa_nil hs1) hbase hfew hline hs1 hplain) hs, ?_⟩
  rw [ok.K]
  exact ss_ext ok.tx h2
theorem ds_put (i : Nat) {p tpos : Pos} (ok : CxOk C X k) (hk : DE C X e2 pf) (he : DE C X e pe) (hN : X.N[i]? = some x := by rfl) (hv : Vis X.env.scope x := by first | exact Or.inl rfl | exact Or.inr (Or.inl rfl) | exact Or.inr (Or.inr rfl)) (hd : (x == ("__debug__" : Str)) = false := by decide)
    (hcd : (x == ("__classdict__" : Str)) = false := by decide) (hs : swapsWithSole [.Subscript (.Name x p) e2 tpos] e pos.line X.env = pure false := by rfl) (hw : swappedStores [.Subscript (.Name x p) e2 tpos] e X.env = pure none := by rfl)
    (h1 : (assignEach [.Subscript (.Name x p) e2 tpos] X.env).map (·.2) = [assign (.Subscript (.Name x p) e2 tpos) X.env] := by rfl)
    (ha : ∀ v, assign (.Subscript (.Name x p) e2 tpos) X.env v = (do
      let ov ← holding [v] (eval (.Name x p) X.env)
      let iv ← holding [v, ov] (eval e2 X.env)
      standAt tpos
      holding [v, ov, iv] (setItem ov iv v)
      release [v, ov, iv] []) := by intro _; rfl) :
    DS C X (.Assign [.Subscript (.Name x p) e2 tpos] e pos) (sPut i pf pe) := by
  obtain ⟨te, h2, h3⟩ := he
  obtain ⟨tk, h4, h5⟩ := hk
  exact ⟨_, ps_asg h2 (pg_sub (pe_var hN hv hd hcd) h4 set_list ha) hs hw h1, ss_put ok.tx h3 h5⟩

/-! ### loops -/
theorem ss_for {wi : TI} {g : TG} {tb : TS} {pi : PIt} {pg : PTg} {is : List Nat} {pb : PSt} (hi : SI C wi pi) (hg : SG C g pg is) (hnx : ∀ d ρ x, pg d ρ ≠ .ex x) (hb : SS C tb pb) : SS C (tFor wi g tb) (sFor pi pg pb) := by
  intro B H σ ρ D re h
  refine hi B H σ ρ _ re ((SGo.fl h re.hc.k0).mono fun l g1 J B1 H1 c1 w => ?_)
  have re1 := re.later c1
  refine ⟨fun i m σ' Hm => m = l.length - i ∧ i ≤ l.length ∧ ∃ Bm ρm, Same B1 Bm ∧ Rel C.T C.H0 C.B0 Bm Hm σ' ρm ∧ SGo C D Bm (forL pg pb (l.drop i) ρm), ⟨l.length, by simp, Nat.zero_le _, B1, ρ, .refl _, re1, by rw [List.drop_zero]; exact SGo.later g1 c1.b0⟩, ?_⟩
  rintro i m σm Hm ⟨rfl, hil, Bm, ρm, cm, rem, gm⟩
  obtain ⟨w1, w2, w3⟩ := w Bm Hm i (cm.trans rem.hc.bh) cm rem.self
  by_cases hlt : i < l.length
  · refine .inr ⟨w1 hlt, fun σn Hn => ∃ Bn ρn, Same B1 Bn ∧ Rel C.T C.H0 C.B0 Bn Hn σn ρn ∧ SGo C D Bn (forL pg pb (l.drop (i + 1)) ρn), fun σn Hn ⟨Bn, ρn, a1, a2, a3⟩ => ⟨l.length - (i + 1), by omega, rfl, hlt, Bn, ρn, a1, a2, a3⟩, fun x H2 y => ?_⟩
    obtain ⟨B2, d, c2, hd, rd⟩ := w3 x H2 hlt y
    have hdr : l.drop i = d :: l.drop (i + 1) := by
      obtain ⟨hh, e⟩ := List.getElem?_eq_some_iff.mp hd
      rw [List.drop_eq_getElem_cons hh, e]
    rw [hdr] at gm
    have gm2 : SGo C D Bm ((pg d ρm).fl fun r1 => match pb r1 with
      | .nx r2 => forL pg pb (l.drop (i + 1)) r2
      | .ct r2 => forL pg pb (l.drop (i + 1)) r2
      | .bk r2 => .nx r2
      | o => o) := gm
    have cm2 := cm.trans c2.b0
    have re2 := rem.later c2
    cases q1 : pg d ρm with
    | ex y => exact absurd q1 (hnx _ _ _)
    | bad => rw [q1] at gm2; exact gm2.elim
    | ok ρ1 =>
      rw [q1] at gm2
      refine hg B2 H2 _ _ x d _ re2 rd ⟨ρ1, q1, fun σ2 re3 _ => ?_⟩
      refine hb B2 H2 σ2 ρ1 _ re3 ?_
      have gm3 : SGo C D Bm (match pb ρ1 with
        | .nx r2 => forL pg pb (l.drop (i + 1)) r2
        | .ct r2 => forL pg pb (l.drop (i + 1)) r2
        | .bk r2 => .nx r2
        | o => o) := gm2
      have gm4 := SGo.later gm3 c2.b0
      cases q2 : pb ρ1 with
      | nx r2 =>
        rw [q2] at gm4
        exact fun B' H' σ' sm re' => ⟨B', r2, cm2.trans sm, re', SGo.later gm4 sm⟩
      | ct r2 =>
        rw [q2] at gm4
        exact fun B' H' σ' sm re' => ⟨B', r2, cm2.trans sm, re', SGo.later gm4 sm⟩
      | bk r2 => rw [q2] at gm4; exact gm4
      | rt e => rw [q2] at gm4; exact gm4
      | ex e => rw [q2] at gm4; exact gm4
      | bad => rw [q2] at gm4; exact gm4
  · have e : i = l.length := by omega
    subst e
    refine .inl ⟨w2 (Nat.le_refl _), ?_⟩
    rw [List.drop_length] at gm
    have gm : ∀ B' H' σ', _ → _ → _ := gm
    exact gm Bm Hm σm (.refl _) rem
theorem ds_for {tg iter : Expr} {body : List Stmt} {pi : PIt} {pg : PTg} {is : List Nat} {pb : PSt} (ok : CxOk C X k) (hi : DI C X tg iter pi) (hg : DG C X tg pg is) (hb : DSs C X body pb)
    (hs : ∀ x, foldedSetIterable iter X.env x = pure x := by intro _; rfl) : DS C X (.For tg iter body [] pos) (sFor pi pg pb) := by
  obtain ⟨wi, h1, h2⟩ := hi
  obtain ⟨⟨g, h3, h4⟩, hnx⟩ := hg
  obtain ⟨tb, h5, h6⟩ := hb
  exact ⟨_, ps_for ok.po ok.calm h1 h3 h5 hs, ss_for h2 h4 hnx h6⟩
theorem ss_while {tc : TT} {tb : TS} {pt : PTe} {pb : PSt} (hc : ST C tc pt) (hb : SS C tb pb) : SS C (tWhile tc tb) (sWhile pt pb) := by
  intro B H σ ρ D re h
  refine ⟨fun m σ' H' => ∃ B' ρ', Rel C.T C.H0 C.B0 B' H' σ' ρ' ∧ SGo C D B' (whileN pt pb m ρ'), ⟨fuel, B, ρ, re, h⟩, ?_⟩
  rintro m σm Hm ⟨Bm, ρm, rem, gm⟩
  cases m with
  | zero => exact gm.elim
  | succ m =>
    have gm1 : SGo C D Bm ((pt ρm).fl fun x => if x then match pb ρm with
      | .nx r2 => whileN pt pb m r2
      | .ct r2 => whileN pt pb m r2
      | .bk r2 => .nx r2
      | o => o
      else .nx ρm) := gm
    refine hc Bm Hm σm ρm _ rem ((SGo.fl gm1 rem.hc.k0).mono fun x g1 B1 H1 c1 => ?_)
    cases x with
    | false =>
      have g2 : ∀ B' H' σ', _ → _ → _ := g1
      exact iteF (g2 B1 H1 σm c1.b0 (rem.later c1))
    | true =>
      refine iteT ⟨fun σn Hn => ∃ B' ρ', Rel C.T C.H0 C.B0 B' Hn σn ρ' ∧ SGo C D B' (whileN pt pb m ρ'), fun σn Hn hn => ⟨m, Nat.lt_succ_self _, hn⟩, ?_⟩
      refine hb B1 H1 σm ρm _ (rem.later c1) ?_
      have g2 : SGo C D Bm (match pb ρm with
        | .nx r2 => whileN pt pb m r2
        | .ct r2 => whileN pt pb m r2
        | .bk r2 => .nx r2
        | o => o) := g1
      have g3 := SGo.later g2 c1.b0
      cases q2 : pb ρm with
      | nx r2 =>
        rw [q2] at g3
        exact fun B' H' σ' sm re' => ⟨B', r2, re', SGo.later g3 sm⟩
      | ct r2 =>
        rw [q2] at g3
        exact fun B' H' σ' sm re' => ⟨B', r2, re', SGo.later g3 sm⟩
      | bk r2 => rw [q2] at g3; exact g3
      | rt e => rw [q2] at g3; exact g3
      | ex e => rw [q2] at g3; exact g3
      | bad => rw [q2] at g3; exact g3
theorem ds_while {c : Expr} {body : List Stmt} {pt : PTe} {pb : PSt} (ok : CxOk C X k) (hc : DT C X c pt) (hb : DSs C X body pb) : DS C X (.While c body [] pos) (sWhile pt pb) := by
  obtain ⟨tc, h1, h2⟩ := hc
  obtain ⟨tb, h5, h6⟩ := hb
  exact ⟨_, ps_while ok.po h1 h5, ss_while h2 h6⟩
end
end PW
namespace PySem
namespace RefX
open PySem.W PySem.Calls PyProof.Rows PySem.HandSPX
/-! ### the text of __init__ -/
def iA (p1 p2 : Pos) : Arguments := { posonlyargs := [], args := [{ arg := "self", annotation := none, pos := p1 }, { arg := "code", annotation := none, pos := p2 }], vararg := none, kwonlyargs := [], kw_defaults := [], kwarg := none, defaults := [] }
def iB (q1 q2 q3 q4 : Pos) : List Stmt := [.Assign [.Attribute (.Name "self" q1) "code" q2] (.Name "code" q3) q4]
def iS : Scope := { kind := .function, names := [(PySem.Str.ofString "self", .local), (PySem.Str.ofString "code", .local)], isGenerator := false, isCoroutine := false, more := [] }
/-- what the written part says of Refused, at C, and of its __init__, at fI -/
structure RefTxt (K : Frag) (mg : Str → Option Value) (C fI : Addr) : Prop where
  gC : mg "Refused" = some (.ref C)
  cls : ∃ nm q N bs bm sn sub ab col dd k0 k1 k2 k3 k5, K.lookup C = some (excClassObj nm q C N bs bm true sn sub ab col dd k0 k1 k2 k3 k5 "ValueError.__new__") ∧ refsVE bm = true
  sa : findIn K (.ref C) "__setattr__" = some (some (.builtin "object.__setattr__"))
  ga : findIn K (.ref C) "__getattribute__" = some (some (.builtin "BaseException.__getattribute__"))
  gg : findIn K (.ref C) "__getattr__" = some none
  noN : findIn K (.ref C) "code" = some none
  iC : findIn K (.ref C) "__init__" = some (some (.ref fI))
  tC : typeIn K (.ref fI) = some (.type "function")
  kC : keepIn K (.ref C) = true
  exC : subIn K (.ref C) (.type "BaseException") = some true
  tyC : typeIn K (.ref C) = some (.type "type")
  hdC : hasDictIn K C = true
  te : exmOne K (.ref C) (.ref C) = some true
  fn : ∃ (oc : Value) (od : Option Addr) (doc pm : Value) (an : Option Addr) (cdv ct : Value) (osl : Array (Option Value)) (p1 p2 q1 q2 q3 q4 : Pos),
    K.lookup fI = some ⟨oc, od, .func (fnOf "__init__" "Refused.__init__" (iA p1 p2) (iB q1 q2 q3 q4) iS .none .none doc pm an cdv ct), osl⟩ ∧ codeIn K cdv "Refused.__init__" = true
theorem one_size (v : Value) : [v].length ≤ sizeLine := by
  rw [sizeLine_eq]
  exact (by decide : 1 ≤ 16777216)
theorem kept_but {K : Frag} {h h' : Heap} {x : Addr} (X : K.In h) (hx : K.lookup x = none) (k : ∀ b o, b ≠ x → h.get? b = some o → h'.get? b = some o) : K.In h' := fun a o e =>
  k a o (fun z => by rw [z, hx] at e; cases e) (X a o e)
theorem ldC {M : Model} {s : Shared} {name : Str} {scope : Scope} {L a : Addr} {cd : Value} {m : Str → Option Value} {x : Str} {pos : Pos} {v : Value} {Q : Value → Shared → Prop} {A : Around} {E : Value → Shared → Prop} (hn : s.heap.Ns L m) (hv : m x = some v) (h : Q v s)
    (hk : scope.kind = .function := by rfl) (hl : (envOfC name scope L a cd).kindOf x = some .local := by rfl) (hd : (x == ("__debug__" : Str)) = false := by decide) :
    wpAny M A (eval (.Name x pos) (envOfC name scope L a cd)) Q E s := wpAny_Name (wpAny_loadName_local hk hl hn hv h) hd
/-- what __init__ leaves of a fresh exception at x -/
structure InitEnd (h h' : Heap) (x C dx t1 : Addr) (v : Value) : Prop where
  keep : ∀ b o, b ≠ x → h.get? b = some o → h'.get? b = some o
  obj : h'.get? x = some { cls := .ref C, dict := some dx, data := .fields #[.ref t1, .none, .none, .none, .bool false, .none] }
  dbig : h.objs.size ≤ dx
  dne : dx ≠ x
  ns : h'.Ns1 dx (fun y => if y = "code" then some v else none)
/-- a made Refused -/
structure OwnMade (h h' : Heap) (e C d : Addr) (v : Value) : Prop where
  keep : ∀ b o, h.get? b = some o → h'.get? b = some o
  new : h.objs.size ≤ e
  obj : ∃ oe vs, h'.get? e = some oe ∧ oe.cls = .ref C ∧ oe.dict = some d ∧ oe.data = .fields vs ∧ vs[1]? = some .none
  dbig : h.objs.size ≤ d
  dne : d ≠ e
  ns : h'.Ns1 d (fun y => if y = "code" then some v else none)
section
variable {prog : Program} {w : World} {A : Around} {E : Value → Shared → Prop} {R : Result → Shared → Prop} {s : Shared} {K : Frag} {mg : Str → Option Value} {C fI : Addr}
theorem ref_init (T : RefTxt K mg C fI) {x t0 : Addr} {v : Value} (X : K.In s.heap) (hlim : s.heap.NoLimit) (hx : s.heap.get? x = some (excO C t0)) (hnx : K.lookup x = none) (hroom : A.depth < recursionLimit)
    (hq : ∀ h' tk dx, InitEnd s.heap h' x C dx t0 v → R (.ok (.ret .none)) { s with heap := h', toks := tk }) :
    codeAny (model prog w) A (.call (.ref fI) ⟨[.ref x, v], []⟩) R s := by
  obtain ⟨oc, od, doc, pm, an, cdv, ct, osl, p1, p2, q1, q2, q3, q4, ho, hcd⟩ := T.fn
  obtain ⟨nm, q, N, bs, bm, sn, sub, ab, col, dd, k0, k1, k2, k3, k5, hC, hbm⟩ := T.cls
  have hcl : clsIn K C = some { name := nm, bases := bs, mro := .ref C :: bm, ns := N, qualname := q, hasDict := true, slotNames := sn, subclasses := sub, abstract := ab, collection := col, hasDel := false } := by unfold clsIn; rw [hC] <;> rfl
  refine Att.call_fn (binds := [("self", .ref x), ("code", v)]) X hlim ho hcd hroom (BindsTo.of_eq (by first | rfl | with_unfolding_all rfl)) (by first | rfl | decide | with_unfolding_all rfl) (fun s₁ IC => ?_) rfl rfl rfl
  obtain ⟨h₁, tk₁, rfl⟩ := IC.toInCall.same
  have k : ∀ b o, s.heap.get? b = some o → h₁.get? b = some o := IC.toInCall.keep
  have hn := IC.toInCall.ns
  have hxL : s.heap.objs.size ≠ x := Nat.ne_of_gt (Heap.lt_size hx)
  have X₁ : K.In h₁ := X.keeps k
  have hx₁ := k _ _ hx
  -- self.by = by
  show wpAny _ _ (execs _ _) _ _ _
  refine wpAny_execs_cons (plainObj_wpAny_Assign_Attribute ?_)
  refine ldC (v := v) hn (by first | rfl | with_unfolding_all rfl | kernel_rfl) (ldC (v := .ref x) hn (by first | rfl | with_unfolding_all rfl | kernel_rfl) ?_)
  refine set_plain X₁ (ox := excO C t0) (od := none) ⟨hx₁, rfl, rfl, trivial⟩ T.sa ?_
  refine exc_osa X₁ hx₁ hcl (show refsVE (.ref C :: bm) = true from hbm) rfl T.noN (fun h₃ tk₃ dx k₃ dn dne hx₃ hn₃ => ?_)
  show wpAny _ _ (execs _ _) _ _ _
  have z : s.heap.objs.size < h₁.objs.size := hn.lt
  exact wpAny_execs_nil (hq h₃ tk₃ dx ⟨fun b o hb e => k₃ b o hb (k b o e), hx₃, Nat.le_of_lt (Nat.lt_of_lt_of_le z dn), dne, hn₃⟩)
theorem ref_made (T : RefTxt K mg C fI) {v : Value} (X : K.In s.heap) (hlim : s.heap.NoLimit) (hroom : A.depth + 1 < recursionLimit)
    (hq : ∀ h' tk e d, OwnMade s.heap h' e C d v → R (.ok (.ret (.ref e))) { s with heap := h', toks := tk }) :
    codeAny (model prog w) A (.call (.ref C) ⟨[v], []⟩) R s := by
  obtain ⟨nm, q, N, bs, bm, sn, sub, ab, col, dd, k0, k1, k2, k3, k5, hC, hbm⟩ := T.cls
  obtain ⟨hp, g, dr, tk, os⟩ := s
  have k : ∀ b o, hp.get? b = some o → ((hp.push (kdv_tup [v])).push (excO C hp.objs.size)).get? b = some o := fun b o e => Heap.get?_push_of_some _ (Heap.get?_push_of_some _ e)
  have hget : ((hp.push (kdv_tup [v])).push (excO C hp.objs.size)).get? (hp.objs.size + 1) = some (excO C hp.objs.size) := by heap_get
  have hnx : K.lookup (hp.objs.size + 1) = none := by
    cases e : K.lookup (hp.objs.size + 1) with
    | none => rfl
    | some o =>
      have z : hp.get? (hp.objs.size + 1) = some o := X _ _ e
      exact absurd (Nat.lt_of_succ_lt (Heap.lt_size z)) (Nat.lt_irrefl _)
  refine call_own F.excBase_ValueError (fun X => refsVE_contains X bm hbm) (X _ _ hC) (looks_findIn X T.iC) (fun self => bind_fn X self T.tC) (one_size v) ?_
  refine ref_init (s := ⟨(hp.push (kdv_tup [v])).push (excO C hp.objs.size), g, dr, tk, os⟩) T (X.keeps k) (hlim.keeps k) hget hnx ?_ fun h' tk' dx ⟨k', hx, dn, dne, hns⟩ => ?_
  · show A.depth + 1 < recursionLimit
    exact hroom
  · have old : ∀ b o, hp.get? b = some o → h'.get? b = some o := fun b o e => k' b o (Nat.ne_of_lt (Nat.lt_succ_of_lt (Heap.lt_size e))) (k b o e)
    have z : hp.objs.size + 1 + 1 ≤ dx := by
      first
        | (simpa only [Heap.size_push] using dn)
        | exact dn
        | (have q := dn; rw [Heap.size_push, Heap.size_push] at q; exact q)
    exact ⟨rfl, hq h' tk' (hp.objs.size + 1) dx ⟨old, Nat.le_succ _, ⟨_, _, hx, rfl, rfl, rfl, rfl⟩, Nat.le_trans (Nat.le_trans (Nat.le_succ _) (Nat.le_succ _)) z, dne, hns⟩⟩
end
end RefX
end PySem
namespace L2
open PySem PySem.Spec PyProof.Rows
theorem relO_ref {v : V} {v' : Value} (r : RelV v v') (f : Str) : RelO (List.lookup f [(("code" : Str), v)]) (if f = "code" then some v' else none) := by
  by_cases hw : f = "code"
  · subst hw
    rw [if_pos rfl]
    have q : List.lookup ("code" : Str) [(("code" : Str), v)] = some v := by simp [List.lookup]
    rw [q]
    exact r
  · rw [if_neg hw]
    have qw : (f == ("code" : Str)) = false := by simpa using hw
    have q2 : List.lookup f [(("code" : Str), v)] = none := by simp [List.lookup, qw]
    rw [q2]
    trivial
section
variable {X : Cx} {C fI : Addr}
/-- Refused(e) -/
def tMkRef (C : Addr) (ta : TA) : St → Hp → XK → Prop := fun σ H Q => ta σ H fun vs H1 => ∃ v, vs = [v] ∧ ∀ d, H1 d = none → Q (.ref C) (some d) (upd H1 d (.xd [(("code" : Str), v)]))
theorem pmk_ref {a : Expr} {ta : TA} {p pos : Pos} {k : Nat} (T : PySem.RefX.RefTxt X.K X.mg C fI) (hr : Room k X.A) (ha : PA X [a] ta) (hg : Gl X "Refused" := by rfl)
    (he : starEach (a :: []) X.env = (false, eval a X.env) :: starEach [] X.env := by rfl) (hpl : (backTo pos (starEach [] X.env)).any (·.1) = false := by rfl) :
    PMk X (.Call (.Name "Refused" p) [a] [] pos) (tMkRef C ta) := by
  intro pins s σ H Q I h
  refine wpAny_Call_Name_kw (ld_glob I hg T.gC ?_)
  refine PySem.W.callWith_K (h₀ := X.base) I.ok.mod.kin T.kC (thn (ha.run pos pins s σ H _ I h) fun us s1 hh => ?_) he hpl
  obtain ⟨vs, H1, I1, r1, v, ev, q1⟩ := hh
  subst ev
  refine ⟨I1.kIn, ?_⟩
  cases r1 with
  | cons rv rn =>
    rename_i v' us'
    cases rn
    show wpAny _ _ (call (.ref C) [v']) _ _ _
    have hlim := I1.nolimit
    obtain ⟨hp, g, dr, tk, os⟩ := s1
    refine wpAny_call (PySem.RefX.ref_made T I1.kIn hlim (by have := hr.dp; omega) fun h' tk' e d M => ?_)
    show MkP X pins σ Q (.ref e) ⟨h', g, dr, tk', os⟩
    obtain ⟨oe, fv, hoe, hc, hd, hdat, h1⟩ := M.obj
    have hns := M.ns
    obtain ⟨G', g1, g2⟩ := restrict h' fun b => decide (b ≠ e)
    have gk : ∀ b, b ≠ e → G'.get? b = h'.get? b := fun b hb => g1 b (decide_eq_true hb)
    have ge : G'.get? e = none := g2 e (by simp)
    have old : ∀ b o, hp.get? b = some o → G'.get? b = some o := fun b o q => (gk b (Nat.ne_of_lt (Nat.lt_of_lt_of_le (Heap.lt_size q) M.new))).trans (M.keep b o q)
    have ob : ObjOk X.prog X.w (upd H1 d (.xd [(("code" : Str), v)])) G' d (.xd [(("code" : Str), v)]) :=
      ⟨_, hns.at (fun o q => (gk d M.dne).trans q), fun f => relO_ref rv f⟩
    have J : Inv X pins σ (upd H1 d (.xd [(("code" : Str), v)])) ⟨G', g, dr, tk', os⟩ := I1.laid (t' := tk') old M.dbig ob
    refine ⟨e, oe, fv, ⟨G', g, dr, tk', os⟩, _, .ref C, some d, rfl, J, fun b o q => ?_, ge, hoe, ⟨hc, hd⟩, hdat, h1, ?_, rfl, I1.bare, raises_own T.exC T.tyC, q1 d (I1.hok.fresh M.dbig)⟩
    · by_cases hb : b = e
      · have q' : G'.get? b = some o := q
        rw [hb, ge] at q'; cases q'
      · exact (gk b hb).symm.trans q
    · rw [upd_ne (Ne.symm M.dne)]
      exact I1.hok.fresh M.new
/-- raise Refused(e) -/
def tRaiseRef (C : Addr) (W : WX) (ta : TA) : TS := fun _ σ H => tMkRef C ta σ H fun cls d H' => W cls d σ H'
theorem ps_raiseRef {a : Expr} {ta : TA} {W : WX} {p pos pos2 : Pos} {k : Nat} (hc : X.calm = true) (T : PySem.RefX.RefTxt X.K X.mg C fI) (hr : Room k X.A) (tk : Takes X W) (ha : PA X [a] ta) (hg : Gl X "Refused" := by rfl)
    (he : starEach (a :: []) X.env = (false, eval a X.env) :: starEach [] X.env := by rfl) (hpl : (backTo pos (starEach [] X.env)).any (·.1) = false := by rfl) :
    PS X (.Raise (some (.Call (.Name "Refused" p) [a] [] pos)) none pos2) (tRaiseRef C W ta) := ps_raise hc tk (pmk_ref T hr ha hg he hpl)
/-- refusal.code, refusal the exception that the suite holds (at a; its class cls, its dict d) -/
def tCodeRef (C : Addr) (a : Addr) (cls : Value) (d : Option Addr) (te : TE) : TE := fun σ H Q => te σ H fun x H1 => x = .ref a ∧ cls = .ref C ∧ ∃ (dd : Addr) (v : V), d = some dd ∧ H1 dd = some (.xd [(("code" : Str), v)]) ∧ Q v H1
theorem pe_codeRef {a : Addr} {oe : Obj} {cls : Value} {d : Option Addr} {pn : List (Addr × Obj)} {e : Expr} {te : TE} {pos : Pos} (T : PySem.RefX.RefTxt X.K X.mg C fI) (hz : Zc cls d oe) (hf : ∃ vs, oe.data = .fields vs) (he : PE (X.suite a ((a, oe) :: pn)) e te)
    (hb : attributeBase e "code" X.env (eval e X.env) = eval e X.env := by rfl) :
    PE (X.suite a ((a, oe) :: pn)) (.Attribute e "code" pos) (tCodeRef C a cls d te) := by
  refine ⟨fun pins s σ H Q I h => ?_⟩
  refine attr_of hb (thn (he.run pins s σ H _ I h) fun u s1 hh => ?_)
  obtain ⟨x, H1, I1, rx, ex, ec, dd, v, ed, ea, q⟩ := hh
  subst ex
  obtain rfl : u = Value.ref a := rx
  subst ec
  subst ed
  obtain ⟨ha, _⟩ := I1.pin (a, oe) (List.mem_append_left _ List.mem_cons_self)
  obtain ⟨vs, hd⟩ := hf
  have hx : ObjOk X.prog X.w H1 s1.heap dd (.xd [(("code" : Str), v)]) := I1.hok dd _ ea
  obtain ⟨mA, hns, hr⟩ := hx
  obtain ⟨od, ho, hl⟩ := lookIn_ns hns
  have l : List.lookup ("code" : Str) [(("code" : Str), v)] = some v := by simp [List.lookup]
  obtain ⟨u, hu, ru⟩ := RelO.some_of (v := v) (o := mA "code") (by rw [← l]; exact hr "code")
  have J : PySem.W.InstAt s1.heap a oe C (some od) := ⟨ha, hz.1, by unfold PySem.W.notCls; rw [hd] <;> rfl, by rw [hz.2]; exact ho⟩
  exact HandSPX.exc_get I1.kIn J T.ga T.gg T.exC (PySem.W.findObj_own T.hdC T.noN rfl (by rw [hl, hu])) (handed_of ru) ⟨v, H1, I1.tok _, ru, q⟩
end
end L2


namespace PW
open PySem PySem.Spec PyProof.Rows L2

/-! ### x = [..] on one line -/
section
variable {C : Ctx} {X : Cx} {k : Nat} {elt tg iter : Expr} {ifs : List Expr} {scope : Scope} {pos spos py : Pos} {y : Str} {pi : PIt} {pg : PTg} {is : List Nat} {pt : PTe} {pe : PEx}
theorem ps_lcOf (i : Nat) (own : List (Str × Nat)) (ok : CxOk C X k) (hi : DIr C X tg iter pi) (bk : BlkOk X.N X.env.scope scope own)
    (hg : ∀ (s : Shared) (H : Hp) (c : Addr) (cl : List (Str × Addr)) (fp : List Addr), CxOk C.nx (X.blk s H scope (compEnvC scope cl c X.env) fp) k → DG C.nx (X.blk s H scope (compEnvC scope cl c X.env) fp) tg pg is) (his : ∀ i ∈ is, i ∈ own.map (·.2))
    (ht : ∀ (s : Shared) (H : Hp) (c : Addr) (cl : List (Str × Addr)) (fp : List Addr), CxOk C.nx (X.blk s H scope (compEnvC scope cl c X.env) fp) k → DTs C.nx (X.blk s H scope (compEnvC scope cl c X.env) fp) ifs pt)
    (he : ∀ (s : Shared) (H : Hp) (c : Addr) (cl : List (Str × Addr)) (fp : List Addr), CxOk C.nx (X.blk s H scope (compEnvC scope cl c X.env) fp) k → DE C.nx (X.blk s H scope (compEnvC scope cl c X.env) fp) elt pe)
    (hy : X.N[i]? = some y) (hyl : X.env.scope.names.lookup y = some .local) (hsw : swapsWith (.ListComp elt [⟨tg, iter, ifs, 0⟩] scope pos) (some (.Name y py)) spos.line X.env = pure true) (hs : ∀ x, foldedSetIterable iter X.env x = pure x := by intro _; rfl) :
    ∃ te, PS X (.Assign [.Name y py] (.ListComp elt [⟨tg, iter, ifs, 0⟩] scope pos) spos) (tAsg te (gName i)) ∧ SE C te (pLc (own.map (·.2)) pi pg (pNoxT pt) (pNoxE pe)) := by
  obtain ⟨wi, h1, h2⟩ := hi
  refine ⟨_, ps_setLc (own := own) ok.calm ok.nd hy hyl hsw h1 bk (fun s H c cl fp => (hg s H c cl fp (ok.blk s H _ _ fp)).can) (fun s H c cl fp => (ht s H c cl fp (ok.blk s H _ _ fp)).can) (fun s H c cl fp => (he s H c cl fp (ok.blk s H _ _ fp)).can) hs, ?_⟩
  exact se_lc ok.tx h2 (sg_can C pg is) (hg X.s_0 C.H0 0 [] [] (ok.blk X.s_0 C.H0 _ _ [])).nx his (st_nox (W := E0) (st_can C.nx pt)) (se_nox (W := E0) (se_can C.nx pe))
theorem ds_setLcK (i : Nat) (own : List (Str × Nat)) (ok : CxOk C X k) (hi : DIr C X tg iter pi) (bk : BlkOk X.N X.env.scope scope own)
    (hg : ∀ (s : Shared) (H : Hp) (c : Addr) (cl : List (Str × Addr)) (fp : List Addr), CxOk C.nx (X.blk s H scope (compEnvC scope cl c X.env) fp) k → DG C.nx (X.blk s H scope (compEnvC scope cl c X.env) fp) tg pg is) (his : ∀ i ∈ is, i ∈ own.map (·.2))
    (ht : ∀ (s : Shared) (H : Hp) (c : Addr) (cl : List (Str × Addr)) (fp : List Addr), CxOk C.nx (X.blk s H scope (compEnvC scope cl c X.env) fp) k → DTs C.nx (X.blk s H scope (compEnvC scope cl c X.env) fp) ifs pt)
    (he : ∀ (s : Shared) (H : Hp) (c : Addr) (cl : List (Str × Addr)) (fp : List Addr), CxOk C.nx (X.blk s H scope (compEnvC scope cl c X.env) fp) k → DE C.nx (X.blk s H scope (compEnvC scope cl c X.env) fp) elt pe)
    (hy : X.N[i]? = some y := by rfl) (hyl : X.env.scope.names.lookup y = some .local := by rfl) (hsw : swapsWith (.ListComp elt [⟨tg, iter, ifs, 0⟩] scope pos) (some (.Name y py)) spos.line X.env = pure true := by exact sw_true rfl rfl rfl rfl) (hs : ∀ x, foldedSetIterable iter X.env x = pure x := by intro _; rfl) :
    DS C X (.Assign [.Name y py] (.ListComp elt [⟨tg, iter, ifs, 0⟩] scope pos) spos) (sSetK i (pLc (own.map (·.2)) pi pg (pNoxT pt) (pNoxE pe))) := by
  obtain ⟨te, h1, h2⟩ := ps_lcOf i own ok hi bk hg his ht he hy hyl hsw hs
  exact ⟨_, h1, ss_setK h2⟩
theorem ds_setLc (i : Nat) (own : List (Str × Nat)) (ok : CxOk C X k) (hi : DIr C X tg iter pi) (bk : BlkOk X.N X.env.scope scope own)
    (hg : ∀ (s : Shared) (H : Hp) (c : Addr) (cl : List (Str × Addr)) (fp : List Addr), CxOk C.nx (X.blk s H scope (compEnvC scope cl c X.env) fp) k → DG C.nx (X.blk s H scope (compEnvC scope cl c X.env) fp) tg pg is) (his : ∀ i ∈ is, i ∈ own.map (·.2))
    (ht : ∀ (s : Shared) (H : Hp) (c : Addr) (cl : List (Str × Addr)) (fp : List Addr), CxOk C.nx (X.blk s H scope (compEnvC scope cl c X.env) fp) k → DTs C.nx (X.blk s H scope (compEnvC scope cl c X.env) fp) ifs pt)
    (he : ∀ (s : Shared) (H : Hp) (c : Addr) (cl : List (Str × Addr)) (fp : List Addr), CxOk C.nx (X.blk s H scope (compEnvC scope cl c X.env) fp) k → DE C.nx (X.blk s H scope (compEnvC scope cl c X.env) fp) elt pe)
    (hy : X.N[i]? = some y := by rfl) (hyl : X.env.scope.names.lookup y = some .local := by rfl) (hsw : swapsWith (.ListComp elt [⟨tg, iter, ifs, 0⟩] scope pos) (some (.Name y py)) spos.line X.env = pure true := by exact sw_true rfl rfl rfl rfl) (hs : ∀ x, foldedSetIterable iter X.env x = pure x := by intro _; rfl) :
    DS C X (.Assign [.Name y py] (.ListComp elt [⟨tg, iter, ifs, 0⟩] scope pos) spos) (sSet i (pLc (own.map (·.2)) pi pg (pNoxT pt) (pNoxE pe))) := by
  obtain ⟨te, h1, h2⟩ := ps_lcOf i own ok hi bk hg his ht he hy hyl hsw hs
  exact ⟨_, h1, ss_set h2⟩
end

/-! ### raise Refused(e) -/
section
variable {C : Ctx} {X : Cx} {k : Nat} {fI : Addr} {e : Expr} {pe : PEx} {p pos pos2 : Pos}
theorem ds_refuse (ok : CxOk C X k) (T : PySem.RefX.RefTxt C.T.K C.T.mg C.T.CR fI) (tk : Takes X (fun cls d _ H => C.E cls d H)) (he : DE C X e pe) (hg : Gl X "Refused" := by rfl)
    (hs : starEach (e :: []) X.env = (false, eval e X.env) :: starEach [] X.env := by rfl) (hpl : (backTo pos (starEach [] X.env)).any (·.1) = false := by rfl) :
    DS C X (.Raise (some (.Call (.Name "Refused" p) [e] [] pos)) none pos2) (sRefuse pe) := by
  obtain ⟨te, h1, h2⟩ := he
  have T' : PySem.RefX.RefTxt X.K X.mg C.T.CR fI := by rw [ok.K, ok.mg]; exact T
  refine ⟨_, ps_raiseRef ok.calm T' ok.room tk (pa_cons h1 pa_nil hs) hg hs hpl, fun B H σ ρ D re g => ?_⟩
  refine h2 B H σ ρ _ re ((SGo.fl g re.hc.k0).mono fun z g1 B1 H1 v c1 o1 => ?_)
  refine ⟨v, rfl, fun d hd => ?_⟩
  cases q : z.keep with
  | ex y => cases z with
    | cl d => cases q
    | li f l => cases f <;> cases q
  | bad => rw [q] at g1; exact g1.elim
  | ok dv =>
    rw [q] at g1
    obtain ⟨B2, c2, s2, r2⟩ := EOk.kept c1 o1 q
    have g2 : XGo C.T C.E C.H0 (.refused dv) := g1
    have s : Same H1 (upd H1 d (.xd [(("code" : Str), v)])) := fun b u e => by rw [upd_ne (ne_of_none e hd)]; exact e
    exact g2 _ _ _ ((re.hc.trans c2).k0.trans (.of s)) (ok.tx.js H1 _ c2.j fun b u e _ => s b u e) ⟨rfl, d, v, rfl, upd_same, Rep.mono (c2.bh.trans s) dv v r2⟩

/-! ### try: .., except Refused as x: return [x.code] -/
theorem passes_len {X : Cx} {W : WX} (tk : Takes X W) {E : XK} (h : ∀ cls d σ H, σ.length = X.N.length → E cls d H → W cls d σ H) : Passes (L2.CX X.prog X.w) X E :=
  fun _ σ _ _ e s' I c => tk e s' (XE.of_call I (fun cls d H' q => h cls d σ H' I.len q) c)
def Ctx.tr (C : Ctx) (n : Nat) (W : WX) : Ctx := { C with E := fun cls d H => ∀ σ : L2.St, σ.length = n → W cls d σ H }
theorem CxOk.tr {W : WX} (ok : CxOk C X k) (pn : List (Addr × Obj)) (xe : Value → Shared → Prop) (tk : Takes (X.tr pn xe) W) (po : PassesOwn (model X.prog X.w) X.A X.env xe) : CxOk (C.tr X.N.length W) (X.tr pn xe) k :=
  ⟨ok.K, ok.mg, ok.calm, ok.room, passes_len tk fun cls d σ H hl h => h σ hl, po, ok.nd, ok.tx⟩
theorem ds_tryRef (i : Nat) {n : Str} {body : List Stmt} {pb : PSt} {np rp ap vp lp pos' : Pos} (ok : CxOk C X k) (sb : Same C.B0 C.H0) (T : PySem.RefX.RefTxt C.T.K C.T.mg C.T.CR fI)
    (hb : ∀ (W : WX) (pn : List (Addr × Obj)) (xe : Value → Shared → Prop), CxOk (C.tr X.N.length W) (X.tr pn xe) k → DSs (C.tr X.N.length W) (X.tr pn xe) body pb)
    (hs : X.stack = X.env :: X.outer := by rfl) (hf : X.env.frame = some X.env.locals := by rfl) (hi : X.N[i]? = some n := by rfl) (hln : X.env.kindOf n = some .local := by rfl) (hc : Gl X "Refused" := by rfl) (hdn : (n == ("__debug__" : Str)) = false := by decide) (hcn : (n == ("__classdict__" : Str)) = false := by decide) (hv : Vis X.env.scope n := by first | exact Or.inl rfl | exact Or.inr (Or.inl rfl))
    (hbase : attributeBase (.Name n vp) "code" X.env (eval (.Name n vp) X.env) = eval (.Name n vp) X.env := by rfl)
    (hst : starEach [.Attribute (.Name n vp) "code" ap] X.env = (false, eval (.Attribute (.Name n vp) "code" ap) X.env) :: starEach [] X.env := by rfl) :
    DS C X (.Try body [.ExceptHandler (some (.Name "Refused" np)) (some n) [.Return (some (.List [.Attribute (.Name n vp) "code" ap] lp)) rp] pos'] [] [] pos) (sTryRef pb) := by
  have T' : PySem.RefX.RefTxt X.K X.mg C.T.CR fI := by rw [ok.K, ok.mg]; exact T
  refine ⟨_, ps_try_as (i := i) (tb := fun W D σ H => ∃ B ρ, Rel C.T C.H0 C.B0 B H σ ρ ∧ SGo (C.tr X.N.length W) D B (pb ρ)) (ts := fun a cls d => tRet (tLst (tCons (tCodeRef C.T.CR a cls d (tVar i)) tNil))) (Wout := fun _ _ _ _ => False) (c := .ref C.T.CR) hs hf ok.nd hi hln ⟨hc, by decide, Or.inl T'.gC⟩ takes0 (fun W pn xe tk po => ?_) (fun a oe cls d pn hz hfd => ?_), ?_⟩
  · obtain ⟨ts, h1, h2⟩ := hb W pn xe (ok.tr pn xe tk po)
    exact ⟨fun pins s σ H D I ⟨B, ρ, re, g⟩ => h1.run pins s σ H D I (h2 B H σ ρ D re g)⟩
  · exact pss_one (ps_ret (pe_lst (pa_cons (pe_codeRef T' hz hfd (pe_var hi hv hdn hcn) hbase) pa_nil hst)))
  · intro B H σ ρ D re g
    unfold sTryRef at g
    refine ⟨B, ρ, re, ?_⟩
    cases q : pb ρ with
    | nx r => rw [q] at g; exact g
    | bk r => rw [q] at g; exact g
    | ct r => rw [q] at g; exact g
    | rt e => rw [q] at g; exact g
    | bad => rw [q] at g; exact g
    | ex x =>
      rw [q] at g
      cases x with
      | notn => exact g.elim
      | refused c =>
        have g1 : SGo C D B (if c.scalar = true then .rt (.li true [c]) else .bad) := g
        by_cases hsc : c.scalar = true
        · rw [if_pos hsc] at g1
          have g2 : ∀ B' H' v, _ → _ → _ := g1
          have hil : i < X.N.length := (List.getElem?_eq_some_iff.mp hi).1
          intro cls d H' kp jh xo σ' hl
          obtain ⟨rfl, dd, v, rfl, hdd, rv⟩ := xo
          refine ⟨true, by rw [ok.K]; exact T.te, fun _ a ha => ?_, fun z => Bool.noConfusion z⟩
          have nb : ∀ b ps, C.B0 b ≠ some (.tbl ps) := fun b ps z => re.hc.nt b ps (re.hc.b0 _ _ z)
          have s0 : Same C.B0 H' := fun b o e => kp.1 b o (sb b o e) fun ps z => nb b ps (by rw [e, z])
          refine ⟨.ref a, by rw [List.getElem?_set_self (by rw [hl]; exact hil)], rfl, rfl, dd, v, rfl, hdd, ?_⟩
          show [v].length ≤ sizeLine ∧ _
          refine ⟨by rw [sizeLine_eq]; exact (by decide : 1 ≤ 16777216), fun p hp => ?_⟩
          have s : Same H' (upd H' p (.lst [v])) := fun b u e => by rw [upd_ne (ne_of_none e hp)]; exact e
          refine g2 C.B0 _ (.ref p) ⟨kp.trans (.of s), .refl _, s0.trans s, fun _ _ _ z => z, ok.tx.js H' _ jh fun b u e _ => s b u e, nb⟩ ⟨p, [v], rfl, upd_same, ⟨Rep.scalar rv hsc, trivial⟩, free_of s0 hp, fun _ => kp.none hp⟩
        · rw [if_neg hsc] at g1
          exact g1.elim
end

/-! ### a def -/
theorem rel_start {T : Tx} {B H : Hp} {N : List Str} {vs : List V} {ds : List D} (c : Hc T H B B H) (r : Reps T B vs ds) (hl : vs.length ≤ N.length) : Rel T H B B H (L2.start N vs) (ds.map Sl.va ++ List.replicate (N.length - ds.length) .un) := by
  have e := r.length
  have low : ∀ (i : Nat) (s : Sl), (ds.map Sl.va ++ List.replicate (N.length - ds.length) Sl.un)[i]? = some s → s = .un ∨ ∃ d, s = .va d ∧ ds[i]? = some d := fun i s h => by
    by_cases hi : i < ds.length
    · rw [List.getElem?_append_left (by simpa using hi), List.getElem?_map] at h
      cases q : ds[i]? with
      | none => rw [q] at h; cases h
      | some d => rw [q] at h; cases h; exact .inr ⟨d, rfl, rfl⟩
    · rw [List.getElem?_append_right (by simpa using hi), List.getElem?_replicate] at h
      split at h
      · cases h; exact .inl rfl
      · cases h
  refine ⟨c, ?_, fun i d h => ?_, fun i l h => ?_, fun i j l m h _ _ => ?_⟩
  · unfold L2.start
    simp [e]
  · rcases low i _ h with z | ⟨d', z, hd⟩
    · cases z
    · cases z
      obtain ⟨v, h1, h2⟩ := r.get hd
      refine ⟨v, ?_, h2⟩
      unfold L2.start
      have hi : i < vs.length := by rw [e]; exact (List.getElem?_eq_some_iff.mp hd).1
      rw [List.getElem?_append_left (by simpa using hi), List.getElem?_map, h1] <;> rfl
  · rcases low i _ h with z | ⟨d', z, hd⟩ <;> cases z
  · rcases low i _ h with z | ⟨d', z, hd⟩ <;> cases z
theorem fnok_mk {T : Tx} {P : Program} {w : World} {base : Heap} {k a n : Nat} {x q : Str} {st : Stmt} {f : Addr} {fd : FuncData} {N ps : List Str} {b : PSt} (tx : TxOk T) (F : Fun T.K x q st f fd) (S : FnScope N ps (defScope st)) (ha : ps.length = a) (hN : N.length = n)
    (body : ∀ (cdv : Value) (A : Around) (outer : List PySem.Env) (s : Shared) (H B0 : Hp) (E : XK), Same B0 H → CxOk ⟨T, H, B0, E⟩ (cxOf (L2.CX P w) P w T.K T.mg base N q (defScope st) f cdv A outer s H E) k →
      Takes (cxOf (L2.CX P w) P w T.K T.mg base N q (defScope st) f cdv A outer s H E) (fun cls d _ H => E cls d H) → DSs ⟨T, H, B0, E⟩ (cxOf (L2.CX P w) P w T.K T.mg base N q (defScope st) f cdv A outer s H E) (defBody st) b) : FnOk P w T.K T.mg base (L2.CX P w) (k + 1) f fd ps (spF T (run a n b) a) := by
  refine F.okX S (fun vs H Q E ⟨B, ds, c, r, hl, g⟩ => by rw [r.length, hl, ha]) (fun cdv A outer s H vs Q E hr ⟨B, ds, c, r, hl, g⟩ => ?_)
  have tk : Takes (cxOf (L2.CX P w) P w T.K T.mg base N q (defScope st) f cdv A outer s H E) (fun cls d _ H => E cls d H) := takes_of rfl rfl rfl rfl
  obtain ⟨t, h1, h2⟩ := body cdv A outer s H B E c.bh ⟨rfl, rfl, rfl, hr, passes_call tk fun _ _ _ _ h => h, passes_of rfl, S.nd, tx⟩ tk
  refine ⟨t, h1, h2 B H _ _ _ (rel_start c r ?_) ?_⟩
  · have hpl : ps.length ≤ N.length := by have := congrArg List.length S.pre; rw [List.length_take] at this; omega
    rw [r.length, hl, ← ha]
    exact hpl
  · have g1 : EGo T E B H (run a n b ds) Q := g
    unfold run at g1
    rw [if_pos hl] at g1
    rw [hN, hl]
    cases q : b (ds.map Sl.va ++ List.replicate (n - a) .un) with
    | nx r => rw [q] at g1; exact fun B' H' σ' _ re => g1 B' H' .non re.hc rfl
    | bk r => rw [q] at g1; exact g1.elim
    | ct r => rw [q] at g1; exact g1.elim
    | rt e => rw [q] at g1; exact g1
    | ex x => rw [q] at g1; exact g1
    | bad => rw [q] at g1; exact g1.elim
theorem fok_mk {T : Tx} {P : Program} {w : World} {base : Heap} {k a n : Nat} {x : Str} {st : Stmt} {f : Addr} {fd : FuncData} {N ps : List Str} {b : PSt} (tx : TxOk T) (F : Fun T.K x x st f fd) (hm : T.mg x = some (.ref f)) (bd : Binds T.K fd ps []) (S : FnScope N ps (defScope st)) (ha : ps.length = a) (hN : N.length = n)
    (body : ∀ (cdv : Value) (A : Around) (outer : List PySem.Env) (s : Shared) (H B0 : Hp) (E : XK), Same B0 H → CxOk ⟨T, H, B0, E⟩ (cxOf (L2.CX P w) P w T.K T.mg base N x (defScope st) f cdv A outer s H E) k →
      Takes (cxOf (L2.CX P w) P w T.K T.mg base N x (defScope st) f cdv A outer s H E) (fun cls d _ H => E cls d H) → DSs ⟨T, H, B0, E⟩ (cxOf (L2.CX P w) P w T.K T.mg base N x (defScope st) f cdv A outer s H E) (defBody st) b) : FOk T P w base (k + 1) x (run a n b) a :=
  ⟨⟨f, fd, ps, fnok_mk tx F S ha hN body, hm, F.kp, bd⟩, run_ar⟩
end PW
namespace PW
open PySem PySem.Spec PyProof.Rows L2
section
variable {C : Ctx} {X : Cx} {pos : Pos} {a : Expr} {pa : PEx}
theorem nox_neg : NoX1 oNeg := fun d x => by
  unfold oNeg
  split <;> exact fun z => nomatch z
theorem ok_neg {T : Tx} : R1Ok T (rU fun i => .int (-i)) oNeg := by
  intro B H x d z Q c vx hz q
  unfold oNeg at hz
  split at hz
  · cases hz
    exact ⟨_, vx.int, q B H _ c rfl⟩
  · cases hz
theorem de_neg (ha : DE C X a pa) : DE C X (.UnaryOp .USub a pos) (pUn oNeg pa) := by
  obtain ⟨ta, h1, h2⟩ := ha
  exact ⟨_, pe_un un_neg h1, se_un ok_neg nox_neg h2⟩
end
/-- a def that the top has written -/
structure DefIs (T : Tx) (x : Str) (st : Stmt) : Prop where
  ex : ∃ f fd, Fun T.K x x st f fd ∧ T.mg x = some (.ref f)
end PW
namespace PW
open PySem PySem.Spec PyProof.Rows L2
open PySem.W (Codec OpenSpec)
/-- what the def at the top promises: whatever the text is -/
def spTop (F : Fn) (n : Nat) (K : PySem.W.Frag) : Sp := fun vs H Q E => ∀ T : Tx, T.K = K → (∀ H, T.J H) → spF T F n vs H Q E
theorem spTop_len {F : Fn} {n : Nat} {K : PySem.W.Frag} {vs : List V} {H : Hp} {Q : VK} {E : XK} (h : spTop F n K vs H Q E) : vs.length = n := by
  obtain ⟨B, ds, c, r, hl, g⟩ := h ⟨K, fun _ => none, fun _ => 0, fun _ => [], fun _ => "", 0, 0, fun _ => True, fun _ _ _ _ => False⟩ rfl fun _ => trivial
  rw [r.length, hl]
theorem onlyF_nt {H : Hp} (h : OnlyF H) : ∀ p ps, H p ≠ some (.tbl ps) := fun p ps z => by
  rcases h p with e | ⟨o, u, e⟩
  · rw [e] at z; cases z
  · rw [e] at z; cases z
/-- numbers out -/
theorem ego_ints {T : Tx} {H : Hp} {F : Fn} {ds : List D} {r : List Int} {E : XK} (h : F ds = .ok (.li true (r.map D.int))) : EGo T E H H (F ds) fun v H' => Dw T.K H' v (.list (r.map PySem.W.WData.int)) := by
  rw [h]
  intro B' H' v c o
  obtain ⟨a, vs, e1, e2, e3, _, _⟩ := o
  subst e1
  rw [e3.ints] at e2
  exact .lst (SqL.of e2) (dw_ints r)
/-- numbers in -/
theorem rep_ints {T : Tx} {H : Hp} {v : V} {ns : List Int} (h : Dw T.K H v (.list (ns.map PySem.W.WData.int))) : Rep T H v (.arg (ns.map D.int)) := by
  cases h with
  | lst hs ha =>
    have e := ints_dw ns _ ha
    subst e
    exact ⟨_, _, rfl, hs, Reps.of_ints ns⟩
theorem rep_int {T : Tx} {H : Hp} {v : V} {i : Int} (h : Dw T.K H v (.int i)) : Rep T H v (.int i) := by
  cases h
  rfl
theorem glo_int {T : Tx} {h : Heap} {x : Str} {n : Int} {t : Tok} (X : T.K.In h) (G : h.Ns mainGlobals T.mg) (a : PySem.W.nsIn T.K mainGlobals x = some (some (.int n t))) : Glo T x (.int n) := ⟨.int n, _, PySem.W.mg_of X G a, ⟨_, rfl⟩, fun _ => rfl⟩
theorem glo_tup {T : Tx} {h : Heap} {x : Str} {ns : List Int} {a : Addr} {o : Obj} {its : Array Value} {n : Nat} (X : T.K.In h) (G : h.Ns mainGlobals T.mg) (e : PySem.W.nsIn T.K mainGlobals x = some (some (.ref a))) (l : T.K.lookup a = some o) (hc : o.cls = .type "tuple") (hd : o.data = .seq its n) (hs : its.size ≤ sizeLine) (hv : Vals (ns.map V.int) its.toList) : Glo T x (.tup (ns.map D.int)) :=
  ⟨.ref a, _, PySem.W.mg_of X G e, rfl, fun B => ⟨a, ns.map V.int, rfl, .inr ⟨o, its, n, l, hc, hd, hs, hv⟩, Reps.of_ints ns⟩⟩
theorem txok0 {K : PySem.W.Frag} {mg : Str → Option Value} {cls : Nat → Addr} {nms : Nat → List Str} {fns : Nat → Str} {CR CN : Addr} : TxOk ⟨K, mg, cls, nms, fns, CR, CN, fun _ => True, fun _ _ _ _ => False⟩ := ⟨fun _ _ _ _ => trivial⟩
end PW
namespace PW
open PySem PySem.Spec PyProof.Rows L2
/-! ### an __init__ that takes the fields in order -/
def tInit (K : PySem.W.Frag) : List (Str × Nat) → TS
  | [] => tNext
  | [p] => sFld K (tVar 0) (tVar p.2) p.1
  | p :: r => tSeq (sFld K (tVar 0) (tVar p.2) p.1) (tInit K r)
theorem putF_new {f : Str} {v : V} : ∀ {fs : List (Str × V)}, f ∉ fs.map (·.1) → putF f v fs = fs ++ [(f, v)]
  | [], _ => rfl
  | (g, x) :: r, h => by
    have h1 : ¬ g = f := fun z => h (by simp [z])
    have h2 : f ∉ r.map (·.1) := fun z => h (by simp [z])
    show (if g = f then (g, v) :: r else (g, x) :: putF f v r) = _
    rw [if_neg h1, putF_new h2]
    rfl
theorem init_run {K : PySem.W.Frag} {C dx p : Addr} {H0 : Hp} {σ : L2.St} {D : Ends} (cl : Cls K C) (h0 : σ[0]? = some (some (.ref p))) : ∀ (l : List (Str × Nat)) (vs : List V) (fs : List (Str × V)) (H : Hp),
    vs.length = l.length → (∀ (j : Nat) (q : Str × Nat) (v : V), l[j]? = some q → vs[j]? = some v → σ[q.2]? = some (some v)) → (l.map (·.1)).Nodup → (∀ f ∈ l.map (·.1), NoAttr K C f ∧ f ∉ fs.map (·.1)) → fs.length + l.length < 1000 →
    H p = some (.ins C dx fs) → (∀ b o, H0 b = some o → b ≠ p → H b = some o) →
    (∀ H', H' p = some (.ins C dx (fs ++ (l.map (·.1)).zip vs)) → (∀ b o, H0 b = some o → b ≠ p → H' b = some o) → D.nx σ H') → tInit K l D σ H
  | [], vs, fs, H, _, _, _, _, _, hp, hk, q => by
    refine q H ?_ hk
    simpa using hp
  | (f, i) :: r, [], _, _, hl, _, _, _, _, _, _, _ => by simp at hl
  | (f, i) :: r, v :: vs, fs, H, hl, hσ, nd, hn, hz, hp, hk, q => by
    have hv : σ[i]? = some (some v) := hσ 0 (f, i) v rfl rfl
    obtain ⟨na, nf⟩ := hn f (by simp)
    have hf : putF f v fs = fs ++ [(f, v)] := putF_new nf
    have hp2 : upd H p (.ins C dx (putF f v fs)) p = some (.ins C dx (fs ++ [(f, v)])) := by rw [upd_same, hf]
    have hk2 : ∀ b o, H0 b = some o → b ≠ p → upd H p (.ins C dx (putF f v fs)) b = some o := fun b o e nb => by rw [upd_ne nb]; exact hk b o e nb
    have fin : ∀ D' : Ends, D'.nx σ (upd H p (.ins C dx (putF f v fs))) → sFld K (tVar 0) (tVar i) f D' σ H := fun D' g => ⟨v, hv, .ref p, h0, p, C, dx, fs, rfl, hp, cl, na, by simp at hz; omega, g⟩
    have rest : tInit K r D σ (upd H p (.ins C dx (putF f v fs))) := by
      refine init_run cl h0 r vs (fs ++ [(f, v)]) _ (by simpa using hl) (fun j q v h1 h2 => hσ (j + 1) q v (by simpa using h1) (by simpa using h2)) (by simp at nd; exact nd.2) (fun g hg => ?_) (by simp at hz ⊢; omega) hp2 hk2 fun H' h1 h2 => q H' (by simpa using h1) h2
      obtain ⟨g1, g2⟩ := hn g (by simp at hg ⊢; exact .inr hg)
      refine ⟨g1, fun z => ?_⟩
      simp at z
      rcases z with z | z
      · exact g2 (by simpa using z)
      · simp at nd hg
        obtain ⟨w, hw⟩ := hg
        subst z
        exact nd.1 w hw
    cases r with
    | nil => exact fin D rest
    | cons r1 r2 => exact fin _ rest
theorem mkok_mk {T : Tx} {P : Program} {w : World} {base : Heap} {c n : Nat} {x q : Str} {st : Stmt} {f : Addr} {fd : FuncData} {N ps : List Str} (l : List (Str × Nat)) (K : ClsOk T c) (hl : l.map (·.1) = T.nms c) (h2 : l.map (·.2) = (List.range n).map (· + 1))
    (F : Fun T.K "__init__" q st f fd) (hm : T.mg x = some (.ref (T.cls c))) (M : Mk T.K (T.cls c) f) (bd : Binds T.K fd ps []) (S : FnScope N ps (defScope st)) (hps : ps.length = n + 1) (hN : N.length = n + 1) (hz : n < 1000)
    (body : ∀ (cdv : Value) (A : Around) (outer : List PySem.Env) (s : Shared) (H : Hp) (E : XK), PSs (cxOf (L2.CX P w) P w T.K T.mg base N q (defScope st) f cdv A outer s H E) (defBody st) (tInit T.K l)) : MkOk T P w base 1 c x n := by
  have ln : l.length = n := by
    have := congrArg List.length h2
    simpa using this
  refine ⟨by rw [← hl, List.length_map, ln], f, fd, ps, F.okX S (fun vs H Q E ⟨p, dx, args, e, hla, _⟩ => by rw [e, List.length_cons, hla, hps]) (fun cdv A outer s H vs Q E hr ⟨p, dx, args, e, hla, hp, hq⟩ => ⟨_, body cdv A outer s H E, ?_⟩), hm, M, bd⟩
  subst e
  have hs : L2.start N (.ref p :: args) = some (.ref p) :: args.map some := by
    unfold L2.start
    rw [hN, List.length_cons, hla, Nat.sub_self]
    simp
  rw [hs]
  refine init_run (H0 := H) K.cl rfl l args [] H (by rw [hla, ln]) (fun j qq v h3 h4 => ?_) (by rw [hl]; exact K.nd) (fun g hg => ⟨K.no g (by rw [← hl]; exact hg), by simp⟩) (by simp [ln]; omega) hp (fun b o e _ => e) fun H' h5 h6 => ?_
  · have h7 : (l.map (·.2))[j]? = some qq.2 := by rw [List.getElem?_map, h3] <;> rfl
    rw [h2, List.getElem?_map, List.getElem?_range (by rw [← hla]; exact (List.getElem?_eq_some_iff.mp h4).1)] at h7
    have h8 : qq.2 = j + 1 := by simpa using h7.symm
    rw [h8, List.getElem?_cons_succ, List.getElem?_map, h4] <;> rfl
  · exact hq H' (by rw [hl] at h5; simpa using h5) h6
theorem at_cls {T : Tx} {c k : Nat} {f : Str} (K : ClsOk T c) (h : (T.nms c)[k]? = some f) : ∀ d i, ixc c k d = some i → ClsOk T d ∧ (T.nms d)[i]? = some f := fun d i e => by
  unfold ixc at e
  by_cases z : d = c
  · rw [if_pos z] at e
    cases e
    subst z
    exact ⟨K, h⟩
  · rw [if_neg z] at e
    cases e
/-- an __init__ that the top has written -/
structure InitIs (T : Tx) (c : Nat) (x q : Str) (st : Stmt) : Prop where
  cl : ClsOk T c
  ex : ∃ f fd, Fun T.K "__init__" q st f fd ∧ Mk T.K (T.cls c) f
  gC : T.mg x = some (.ref (T.cls c))
/-- a method that the top has written -/
structure MethIs (T : Tx) (c : Nat) (m q : Str) (st : Stmt) : Prop where
  ex : ∃ f fd, Fun T.K m q st f fd ∧ Meth T.K (T.cls c) m f
end PW
namespace PW
open PySem PySem.Spec PyProof.Rows L2 NdefX
/-! ### promises that may speak of the heap at the call -/
structure FnOkS (P : Program) (w : World) (K : PySem.W.Frag) (mg : Str → Option Value) (base : Heap) (CX : CXT) (k : Nat) (f : Addr) (fd : FuncData) (ps : List Str) (sp : List PySem.Env → Shared → Sp) : Prop where
  len : ∀ outer s vs H Q E, sp outer s vs H Q E → vs.length = ps.length
  run : ∀ (A : Around) (outer : List PySem.Env) (s : Shared) (H : Hp) (args : Args) (us : List Value) (vs : List V) (Q : VK) (E : XK), Room k A → Env0 P w K mg base A outer s H → BindsTo s fd args (ps.zip us) → Vals vs us → sp outer s vs H Q E →
    codeAny (model P w) A (.call (.ref f) args) (CR CX outer P w H s Q E) s
theorem FnOkS.mono {P : Program} {w : World} {K : PySem.W.Frag} {mg : Str → Option Value} {base : Heap} {CX : CXT} {j k : Nat} {f : Addr} {fd : FuncData} {ps : List Str} {sp : List PySem.Env → Shared → Sp} (F : FnOkS P w K mg base CX j f fd ps sp) (h : j ≤ k) : FnOkS P w K mg base CX k f fd ps sp :=
  ⟨F.len, fun A outer s H args us vs Q E hr => F.run A outer s H args us vs Q E (hr.mono h)⟩
theorem fn_ofS {CX : CXT} {P : Program} {w : World} {K : PySem.W.Frag} {mg : Str → Option Value} {base : Heap} {k : Nat} {f : Addr} {x qual : Str} {st : Stmt} {fd : FuncData} {N ps : List Str} {sp : List PySem.Env → Shared → Sp} (F : Fun K x qual st f fd) (S : FnScope N ps (defScope st))
    (len : ∀ outer s vs H Q E, sp outer s vs H Q E → vs.length = ps.length)
    (hbody : ∀ (cdv : Value) (A : Around) (outer : List PySem.Env) (s : Shared) (H : Hp) (vs : List V) (Q : VK) (E : XK), Room k (A.deeper (envOfC qual (defScope st) s.heap.objs.size f cdv)) → sp outer s vs H Q E →
      ∃ t, PSs (cxOf CX P w K mg base N qual (defScope st) f cdv A outer s H E) (defBody st) t ∧ t { nx := fun _ H' => Q .non H', rt := Q } (L2.start N vs) H) :
    FnOkS P w K mg base CX (k + 1) f fd ps sp := by
  obtain ⟨oc, od, kV, doc, pm, an, cdv, ct, osl, rfl, lk, hcd⟩ := F.ex
  refine ⟨len, fun A outer s H args us vs Q E room e0 bt rv promise => ?_⟩
  have many := len _ _ _ _ _ _ promise
  have there : ∀ b o, base.get? b = some o → s.heap.get? b = some o := fun b o e => (e0.bs b o e).1
  have inK : K.In s.heap := e0.mod.kin.keeps there
  have kinds : ∀ y ∈ ps.zip us, (defScope st).names.lookup y.1 = some .local ∨ ((defScope st).names.lookup y.1 = some .cell ∧ ((cellsFrom (s.heap.objs.size + 1) (defScope st).names []).lookup y.1).isSome = true) := by
    rintro ⟨n, v⟩ hy
    cases S.par n (List.of_mem_zip hy).1 with
    | inl z => exact .inl z
    | inr z => exact .inr ⟨z, PySem.W.cellsFrom_some _ _ _ (.inl z)⟩
  apply codeAny_call_function room.depth (inK _ _ lk) rfl S.co S.gen rfl (PySem.W.codeRec_of inK hcd)
  apply bt
  apply wpAny_newFunctionEnv_cells S.kind kinds
  intro env he s1 calm
  subst he
  refine ⟨(e0.mod.nolimit.keeps there).keeps calm.toInCall.keep, codeAny_func ?_⟩
  obtain ⟨t, ht, hq⟩ := hbody cdv A outer s H vs Q E (room.deeper _) promise
  have entry : Inv (cxOf CX P w K mg base N qual (defScope st) f cdv A outer s H E) [] (L2.start N vs) H s1 := inv_start S room.hd e0 many rv calm
  apply wpAny_mono (ht.run [] s1 (L2.start N vs) H _ entry hq) _ (fun _ _ z => z)
  intro fl s' hs
  cases fl with
  | ret u =>
    obtain ⟨v, _, H', J, ru, q⟩ := hs
    exact ⟨v, H', J.os, J.bare, J.base, J.hok, ru, q⟩
  | next =>
    obtain ⟨_, H', J, q⟩ := hs
    exact ⟨V.non, H', J.os, J.bare, J.base, J.hok, rfl, q⟩
  | brk =>
    obtain ⟨_, _, _, q⟩ := hs
    exact q.elim
  | cont =>
    obtain ⟨_, _, _, q⟩ := hs
    exact q.elim
/-! ### an inner def that was handed in is called -/
/-- what an inner def of n parameters promises: what it holds comes behind the arguments -/
def spN (T : Tx) (F : Fn) (n : Nat) (ws : List (Option V)) : Sp := fun vs H Q E => ∃ B ds us cs, Hc T H B B H ∧ Reps T B vs ds ∧ ds.length = n ∧ ws = us.map some ∧ Reps T B us cs ∧ EGo T E B H (F (ds ++ cs)) Q
/-- the inner defs that are about: their promise, their cells when the running def began -/
structure CloOk (C : Ctx) (X : Cx) (G : Nat → Fn) (j n : Nat) : Prop where
  ex : X.ex = []
  ok : ∀ k f l F, C.T.clo k f l F → ∃ ps fr us, NOk X.prog X.w X.K X.mg X.base (L2.CX X.prog X.w) j f F ps fr (spN C.T (G k) n) ∧ CellsAt F.cl fr (us.map some) X.s_0.heap X.H_0 ∧ (∀ y c, F.cl.lookup y = some c → c ∉ X.fs) ∧ Reps C.T C.B0 us l ∧ ∀ ds, ds.length ≠ n → ∀ cs : List D, cs.length = l.length → G k (ds ++ cs) = .bad
section
variable {C : Ctx} {X : Cx} {k : Nat}
theorem de_callC (i : Nat) {j n : Nat} {x : Str} {e : Expr} {es : List Expr} {p pos : Pos} {G : Nat → Fn} {pa : PAr} (ok : CxOk C X k) (cl : CloOk C X G j n) (hj : j ≤ k) (ha : DA C X (e :: es) pa) (hN : X.N[i]? = some x := by rfl) (hv : Vis X.env.scope x := by first | exact Or.inl rfl | exact Or.inr (Or.inl rfl) | exact Or.inr (Or.inr rfl))
    (hd : (x == ("__debug__" : Str)) = false := by decide) (hcd : (x == ("__classdict__" : Str)) = false := by decide)
    (he : starEach (e :: es) X.env = (false, eval e X.env) :: starEach es X.env := by rfl) (hpl : (backTo pos (starEach es X.env)).any (·.1) = false := by rfl) :
    DE C X (.Call (.Name x p) (e :: es) [] pos) (pCallC i G pa) := by
  obtain ⟨ta, h1, h2⟩ := ha
  refine ⟨teC C (pCallC i G pa), ⟨fun pins s σ H Q I ⟨B, ρ, re, g⟩ => ?_⟩, se_can C _⟩
  unfold pCallC at g
  cases hi : ρ[i]? with
  | none => rw [hi] at g; exact g.elim
  | some sl =>
    rw [hi] at g
    cases sl with
    | un => exact g.elim
    | ow l => exact g.elim
    | va d =>
      cases d with
      | clo kk l =>
        obtain ⟨v, hs, f, F, ev, hF, hFc, hclo⟩ := re.va i _ hi
        subst ev
        have g : EGo C.T C.E B H ((pa ρ).bind fun as => G kk (as ++ l)) Q := g
        obtain ⟨ps, fr, us, nok, cells, nf, rl, har⟩ := cl.ok kk f l F hclo
        have keepF : ∀ {B' H' : Hp}, Hc C.T H B B' H' → H' f = some (FnO f F) ∧ H' F.c = some (LamX.CodeO F.c F.qual) := fun c => ⟨c.bh _ _ (c.b0 _ _ hF), c.bh _ _ (c.b0 _ _ hFc)⟩
        refine wpAny_Call_Name_kw (thn ((pe_var (pos := p) hN hv hd hcd).run pins s σ H (fun v H1 => v = .ref f ∧ H1 = H) I ⟨.ref f, hs, rfl, rfl⟩) fun u s1 ⟨v, H1, I1, r1, q1⟩ => ?_)
        obtain ⟨ev, eH⟩ := q1
        subst ev
        rw [eH] at I1
        obtain rfl : u = Value.ref f := r1
        have args : ta σ H fun vs H2 => ∃ B2 as, Hc C.T H B B2 H2 ∧ Reps C.T B2 vs as ∧ EGo C.T C.E B2 H2 (G kk (as ++ l)) Q :=
          h2 B H σ ρ _ re ((Go.bind g).mono fun as g1 B2 H2 vs c2 r2 => ⟨B2, as, c2, r2, EGo.later g1 c2⟩)
        refine PySem.W.callWith_F (first := []) (fnAt_of I1 (keepF re.self).1) (thn (h1.run pos pins s1 σ H _ I1 args) fun us2 s2 ⟨vs, H2, I2, r, B2, as, c2, ra, g2⟩ => ⟨fnAt_of I2 (keepF c2).1, ?_⟩) he hpl
        show wpAny _ _ (call (.ref f) us2) _ _ _
        have cells2 : CellsAt F.cl fr (us.map some) s2.heap H2 := cells.later nf (fun y c _ => by rw [cl.ex]; simp) I2
        have hn : as.length = n := by
          by_cases z : as.length = n
          · exact z
          · have := har as z l rfl
            rw [this] at g2
            exact g2.elim
        refine wpAny_call (codeAny_mono (nok.run X.A X.stack s2 H2 us2 vs (us.map some) Q C.E (ok.room.mono hj) I2.env0 (keepF c2).1 (keepF c2).2 cells2 r ⟨B2, as, us, l, c2.self, ra, hn, rfl, Reps.mono (re.hc.b0.trans c2.b0) l us rl, g2⟩) fun r' s' hq => ?_)
        cases r' with
        | error er => exact ok.ps pins σ H2 s2 er s' I2 hq
        | ok fl =>
          cases fl with
          | ret u => exact I2.after hq
          | next => exact hq.elim
          | brk => exact hq.elim
          | cont => exact hq.elim
      | _ => exact g.elim
end
/-! ### an inner def by its body -/
theorem nok_mk {T : Tx} {P : Program} {w : World} {base : Heap} {k a m n : Nat} {f : Addr} {F : NF} {N ps fr : List Str} {b : PSt} (tx : TxOk T) (S : NScope N ps fr F.scope) (hb : ∀ (doc pm ctv : Value) (us : List Value), us.length = ps.length → bindArgs (F.fd doc pm ctv) ⟨us, []⟩ = pure (ps.zip us)) (ha : ps.length = a) (hm : ps.length + fr.length = m) (hN : N.length = n)
    (body : ∀ (A : Around) (outer : List PySem.Env) (s : Shared) (H B0 : Hp) (E : XK), Same B0 H → CxOk ⟨T, H, B0, E⟩ (ncx (L2.CX P w) P w T.K T.mg base N F f A outer s H E) k →
      Takes (ncx (L2.CX P w) P w T.K T.mg base N F f A outer s H E) (fun cls d _ H => E cls d H) → DSs ⟨T, H, B0, E⟩ (ncx (L2.CX P w) P w T.K T.mg base N F f A outer s H E) F.body b) : NOk P w T.K T.mg base (L2.CX P w) (k + 1) f F ps fr (spN T (run m n b) a) := by
  refine nok_of S hb (fun ws vs H Q E ⟨B, ds, us, cs, c, r, hl, _⟩ => by rw [r.length, hl, ha]) (fun A outer s H vs ws Q E hr hf hc hw ⟨B, ds, us, cs, c, r, hl, ew, rc, g⟩ => ?_)
  have tk : Takes (ncx (L2.CX P w) P w T.K T.mg base N F f A outer s H E) (fun cls d _ H => E cls d H) := takes_of rfl rfl rfl rfl
  obtain ⟨t, h1, h2⟩ := body A outer s H B E c.bh ⟨rfl, rfl, rfl, hr, passes_call tk fun _ _ _ _ h => h, passes_of rfl, S.nd, tx⟩ tk
  refine ⟨t, h1, ?_⟩
  have hpl : ps.length + fr.length ≤ N.length := by
    have q := congrArg List.length S.pre
    rw [List.length_take, List.length_append] at q
    omega
  have hul : us.length = fr.length := by rw [ew, List.length_map] at hw; exact hw
  have hvl : vs.length = ps.length := by rw [r.length, hl, ha]
  have es : startF N vs ws = L2.start N (vs ++ us) := by
    unfold startF L2.start
    rw [ew, List.map_append, List.append_assoc, List.length_map, List.length_append, Nat.sub_sub]
  rw [es]
  have hdl : (ds ++ cs).length = m := by rw [List.length_append, hl, ← rc.length, hul, ← hm, ha]
  refine h2 B H _ _ _ (rel_start c (r.append rc) (by rw [List.length_append]; omega)) ?_
  have g1 : EGo T E B H (run m n b (ds ++ cs)) Q := g
  unfold run at g1
  rw [if_pos hdl] at g1
  rw [hN, hdl]
  cases q : b ((ds ++ cs).map Sl.va ++ List.replicate (n - m) .un) with
  | nx r => rw [q] at g1; exact fun B' H' σ' _ re => g1 B' H' .non re.hc rfl
  | bk r => rw [q] at g1; exact g1.elim
  | ct r => rw [q] at g1; exact g1.elim
  | rt e => rw [q] at g1; exact g1
  | ex x => rw [q] at g1; exact g1
  | bad => rw [q] at g1; exact g1.elim
end PW
namespace PW
open PySem PySem.Spec PyProof.Rows L2 NdefX
/-! ### def x(..), within a def -/
theorem codeO_tbl {c : Addr} {q : Str} (ps : Array Value) : LamX.CodeO c q ≠ .tbl ps := fun z => by
  unfold LamX.CodeO at z
  cases z
theorem hc_fn {T : Tx} {B H H1 : Hp} {f c' : Addr} {F : NF} (c : Hc T H B B H) (hj : T.J H1) (hE : LamX.ExtN H H1) (hn : ∀ b, H1 b = none → H b = none) (hf : H f = none) (hF : H1 f = some (FnO f F)) (hc : H1 c' = some (LamX.CodeO c' F.qual)) :
    Hc T H B (upd (upd B f (FnO f F)) c' (LamX.CodeO c' F.qual)) H1 := by
  have bf : B f = none := free_of c.bh hf
  have hB : ∀ b o, B b = some o → H1 b = some o := fun b o e => hE b o (c.bh b o e) fun ps z => c.nt b ps (by rw [e, z])
  refine ⟨⟨fun b o e n => hE b o e n, hn⟩, fun b o e => ?_, fun b o e => ?_, fun q xs h1 h2 => ?_, hj, fun q ps e => ?_⟩
  · by_cases hb : b = c'
    · subst hb
      rw [upd_same, ← hc, hB b o e]
    · rw [upd_ne hb, upd_ne (ne_of_none e bf)]
      exact e
  · by_cases hb : b = c'
    · subst hb
      rw [upd_same] at e
      rw [hc]
      exact e
    · rw [upd_ne hb] at e
      by_cases hb2 : b = f
      · subst hb2
        rw [upd_same] at e
        rw [hF]
        exact e
      · rw [upd_ne hb2] at e
        exact hB b o e
  · have q1 : H1 q = some (.lst xs) := hE q _ h1 fun ps z => nomatch z
    rw [upd_ne (fun z => by subst z; rw [hc] at q1; unfold LamX.CodeO at q1; cases q1), upd_ne (fun z => by subst z; rw [hf] at h1; cases h1)]
    exact h2
  · by_cases hb : q = c'
    · subst hb
      rw [upd_same] at e
      exact codeO_tbl ps (Option.some.inj e)
    · rw [upd_ne hb] at e
      by_cases hb2 : q = f
      · subst hb2
        rw [upd_same] at e
        exact fnO_ne ps (Option.some.inj e)
      · rw [upd_ne hb2] at e
        exact c.nt q ps e
theorem ss_clo {C : Ctx} {TT : List NTab} {i kk : Nat} {js : List Nat} {mk : Addr → NF} (hJ : ∀ H, C.T.J H ↔ TabsN TT H) (hmc : ∀ c', (mk c').c = c') (hclo : ∀ f c' l, C.T.clo kk f l (mk c')) : SS C (tNdefM TT i mk) (sClo i kk js) := by
  intro B H σ ρ D re g
  unfold sClo at g
  cases hv : slotVals ρ js with
  | none => rw [hv] at g; exact g.elim
  | some l =>
    rw [hv] at g
    have g : ∀ B' H' σ', _ → _ → _ := g
    refine ⟨(hJ H).mp re.hc.j, fun f c' H1 hE hn hT hf hF hFc => ?_⟩
    have hc := hc_fn (F := mk c') re.self ((hJ H1).mpr hT) hE hn hf hF hFc
    refine g _ H1 _ hc.b0 ((re.later hc).setVa (d := .clo kk l) ⟨f, mk c', rfl, ?_, ?_, hclo f c' l⟩)
    · by_cases z : f = c'
      · subst z
        rw [upd_same, ← hFc, hF]
      · rw [upd_ne z, upd_same]
    · rw [hmc, upd_same]
/-! ### a def that is handed an inner def -/
def CloFacts (T : Tx) (P : Program) (w : World) (base : Heap) (outer : List PySem.Env) (s : Shared) (H B : Hp) (G : Nat → Fn) (j n : Nat) : Prop :=
  ∀ k f l F, T.clo k f l F → ∃ ps fr us, NOk P w T.K T.mg base (L2.CX P w) j f F ps fr (spN T (G k) n) ∧ CellsAt F.cl fr (us.map some) s.heap H ∧ (∀ y c, F.cl.lookup y = some c → c ∉ frs outer) ∧ Reps T B us l ∧ ∀ ds, ds.length ≠ n → ∀ cs : List D, cs.length = l.length → G k (ds ++ cs) = .bad
def spB (T : Tx) (P : Program) (w : World) (base : Heap) (G : Nat → Fn) (j m : Nat) (F : Fn) (n : Nat) : List PySem.Env → Shared → Sp := fun outer s vs H Q E =>
  ∃ B ds, Hc T H B B H ∧ Reps T B vs ds ∧ ds.length = n ∧ CloFacts T P w base outer s H B G j m ∧ EGo T E B H (F ds) Q
theorem fnokS_mk {T : Tx} {P : Program} {w : World} {base : Heap} {k j m a n : Nat} {x : Str} {st : Stmt} {f : Addr} {fd : FuncData} {N ps : List Str} {b : PSt} {G : Nat → Fn} (tx : TxOk T) (F : Fun T.K x x st f fd) (S : FnScope N ps (defScope st)) (ha : ps.length = a) (hN : N.length = n)
    (body : ∀ (cdv : Value) (A : Around) (outer : List PySem.Env) (s : Shared) (H B0 : Hp) (E : XK), Same B0 H → CxOk ⟨T, H, B0, E⟩ (cxOf (L2.CX P w) P w T.K T.mg base N x (defScope st) f cdv A outer s H E) k →
      CloOk ⟨T, H, B0, E⟩ (cxOf (L2.CX P w) P w T.K T.mg base N x (defScope st) f cdv A outer s H E) G j m → DSs ⟨T, H, B0, E⟩ (cxOf (L2.CX P w) P w T.K T.mg base N x (defScope st) f cdv A outer s H E) (defBody st) b) :
    FnOkS P w T.K T.mg base (L2.CX P w) (k + 1) f fd ps (spB T P w base G j m (run a n b) a) := by
  refine fn_ofS F S (fun outer s vs H Q E ⟨B, ds, c, r, hl, _⟩ => by rw [r.length, hl, ha]) (fun cdv A outer s H vs Q E hr ⟨B, ds, c, r, hl, hclo, g⟩ => ?_)
  have tk : Takes (cxOf (L2.CX P w) P w T.K T.mg base N x (defScope st) f cdv A outer s H E) (fun cls d _ H => E cls d H) := takes_of rfl rfl rfl rfl
  obtain ⟨t, h1, h2⟩ := body cdv A outer s H B E c.bh ⟨rfl, rfl, rfl, hr, passes_call tk fun _ _ _ _ h => h, passes_of rfl, S.nd, tx⟩ ⟨rfl, fun k f l F h => hclo k f l F h⟩
  refine ⟨t, h1, h2 B H _ _ _ (rel_start c r ?_) ?_⟩
  · have hpl : ps.length ≤ N.length := by have := congrArg List.length S.pre; rw [List.length_take] at this; omega
    rw [r.length, hl, ← ha]
    exact hpl
  · have g1 : EGo T E B H (run a n b ds) Q := g
    unfold run at g1
    rw [if_pos hl] at g1
    rw [hN, hl]
    cases q : b (ds.map Sl.va ++ List.replicate (n - a) .un) with
    | nx r => rw [q] at g1; exact fun B' H' σ' _ re => g1 B' H' .non re.hc rfl
    | bk r => rw [q] at g1; exact g1.elim
    | ct r => rw [q] at g1; exact g1.elim
    | rt e => rw [q] at g1; exact g1
    | ex x => rw [q] at g1; exact g1
    | bad => rw [q] at g1; exact g1.elim
end PW
namespace PW
open PySem PySem.Spec PyProof.Rows L2 NdefX
/-! ### the same text, other inner defs -/
abbrev Tx.nar (T : Tx) (q : Nat → Nat → List D → NF → Prop) : Tx := { T with clo := q }
mutual
theorem Rep.nar {T : Tx} {q : Nat → Nat → List D → NF → Prop} {B : Hp} : ∀ (d : D) (v : V), D.plain d = true → (Rep T B v d ↔ Rep (T.nar q) B v d)
  | .non, _, _ => Iff.rfl
  | .bl _, _, _ => Iff.rfl
  | .int _, _, _ => Iff.rfl
  | .str _, _, _ => Iff.rfl
  | .fn _, _, _ => Iff.rfl
  | .lst l, v, h => by
    unfold D.plain at h
    exact ⟨fun ⟨a, vs, h1, h2, h3⟩ => ⟨a, vs, h1, h2, (Reps.nar l vs h).mp h3⟩, fun ⟨a, vs, h1, h2, h3⟩ => ⟨a, vs, h1, h2, (Reps.nar l vs h).mpr h3⟩⟩
  | .tup l, v, h => by
    unfold D.plain at h
    exact ⟨fun ⟨a, vs, h1, h2, h3⟩ => ⟨a, vs, h1, h2, (Reps.nar l vs h).mp h3⟩, fun ⟨a, vs, h1, h2, h3⟩ => ⟨a, vs, h1, h2, (Reps.nar l vs h).mpr h3⟩⟩
  | .arg l, v, h => by
    unfold D.plain at h
    exact ⟨fun ⟨a, vs, h1, h2, h3⟩ => ⟨a, vs, h1, h2, (Reps.nar l vs h).mp h3⟩, fun ⟨a, vs, h1, h2, h3⟩ => ⟨a, vs, h1, h2, (Reps.nar l vs h).mpr h3⟩⟩
  | .ob c l, v, h => by
    unfold D.plain at h
    exact ⟨fun ⟨a, dx, vs, h1, h2, h3, h4⟩ => ⟨a, dx, vs, h1, h2, h3, (Reps.nar l vs h).mp h4⟩, fun ⟨a, dx, vs, h1, h2, h3, h4⟩ => ⟨a, dx, vs, h1, h2, h3, (Reps.nar l vs h).mpr h4⟩⟩
  | .clo _ _, _, h => by
    unfold D.plain at h
    cases h
theorem Reps.nar {T : Tx} {q : Nat → Nat → List D → NF → Prop} {B : Hp} : ∀ (l : List D) (vs : List V), plainAll l = true → (Reps T B vs l ↔ Reps (T.nar q) B vs l)
  | [], [], _ => Iff.rfl
  | [], _ :: _, _ => Iff.rfl
  | _ :: _, [], _ => Iff.rfl
  | d :: l, v :: vs, h => by
    unfold plainAll at h
    have h2 := Bool.and_eq_true_iff.mp h
    exact ⟨fun ⟨a, b⟩ => ⟨(Rep.nar d v h2.1).mp a, (Reps.nar l vs h2.2).mp b⟩, fun ⟨a, b⟩ => ⟨(Rep.nar d v h2.1).mpr a, (Reps.nar l vs h2.2).mpr b⟩⟩
end
theorem Hc.nar {T : Tx} {q : Nat → Nat → List D → NF → Prop} {H0 B0 B H : Hp} : Hc T H0 B0 B H ↔ Hc (T.nar q) H0 B0 B H := ⟨fun c => ⟨c.k0, c.b0, c.bh, c.fr, c.j, c.nt⟩, fun c => ⟨c.k0, c.b0, c.bh, c.fr, c.j, c.nt⟩⟩
theorem EOk.nar {T : Tx} {q : Nat → Nat → List D → NF → Prop} {H B' H' : Hp} {v : V} : ∀ {e : PW.E}, e.plain = true → (EOk T H B' H' v e ↔ EOk (T.nar q) H B' H' v e)
  | .cl d, h => Rep.nar d v h
  | .li f l, h => ⟨fun ⟨a, vs, h1, h2, h3, h4, h5⟩ => ⟨a, vs, h1, h2, (Reps.nar l vs h).mp h3, h4, h5⟩, fun ⟨a, vs, h1, h2, h3, h4, h5⟩ => ⟨a, vs, h1, h2, (Reps.nar l vs h).mpr h3, h4, h5⟩⟩
/-- an answer without inner defs, no error -/
theorem EGo.nar {T : Tx} {q : Nat → Nat → List D → NF → Prop} {W : XK} {B H : Hp} {e : PW.E} {Q : VK} (h : e.plain = true) : EGo T W B H (.ok e) Q ↔ EGo (T.nar q) W B H (.ok e) Q :=
  ⟨fun g B' H' v c o => g B' H' v (Hc.nar.mpr c) ((EOk.nar h).mpr o), fun g B' H' v c o => g B' H' v (Hc.nar.mp c) ((EOk.nar h).mp o)⟩
end PW
namespace PW
open PySem PySem.Spec PyProof.Rows L2 NdefX
theorem slotVals_at {T : Tx} {H0 B0 B H : Hp} {σ : L2.St} {ρ : Env} (re : Rel T H0 B0 B H σ ρ) : ∀ (js : List Nat) (l : List D), slotVals ρ js = some l → ∃ us, js.map (slotAt σ) = us.map some ∧ Reps T B us l
  | [], l, h => by
    cases h
    exact ⟨[], rfl, trivial⟩
  | j :: js, l, h => by
    unfold slotVals at h
    split at h
    · rename_i d hd
      obtain ⟨l', h1, h2⟩ := Option.map_eq_some_iff.mp h
      obtain ⟨us, e1, e2⟩ := slotVals_at re js l' h1
      obtain ⟨v, e3, e4⟩ := re.va j d hd
      subst h2
      exact ⟨v :: us, by rw [List.map_cons, List.map_cons, e1, slotAt_of e3], e4, e2⟩
    · cases h
/-- the cells of the running def are none of the frames -/
theorem cells_frs {X : Cx} {pins : List (Addr × Obj)} {σ : L2.St} {H : Hp} {s : Shared} (I : Inv X pins σ H s) (hfn : ∀ x, X.fn x = true) (hs : X.stack = X.env :: X.outer) (hfr : X.env.frame = some X.env.locals) {y : Str} {c : Addr} (h : X.env.cells.lookup y = some c) : c ∉ frs X.stack := by
  rw [hs]
  intro hm
  have hm2 : c ∈ X.env.locals :: frs X.outer := by
    unfold frs at hm ⊢
    rw [List.filterMap_cons, hfr] at hm
    exact hm
  obtain ⟨v, o, ho, hd⟩ := I.cell y c h
  rcases List.mem_cons.mp hm2 with e | e
  · obtain ⟨m, ⟨o2, es, ep, ho2, hd2, _⟩, _⟩ := I.loc
    rw [← e, ho] at ho2
    cases ho2
    rw [hd] at hd2
    cases hd2
  · obtain ⟨_, o3, h3, _⟩ := I.ok.funs.mem e
    have := I.ok.cab y c (hfn y) h
    exact absurd (Heap.lt_size h3) (Nat.not_lt.mpr this)
/-- the def x, handed an inner def, whatever inner defs are about -/
structure FOkB (C : Ctx) (X : Cx) (G : Nat → Fn) (jb jn m : Nat) (x : Str) (F : Fn) : Prop where
  ex : ∃ f fd ps, (∀ q, FnOkS X.prog X.w C.T.K C.T.mg X.base (L2.CX X.prog X.w) jb f fd ps (spB (C.T.nar q) X.prog X.w X.base G jn m F 2)) ∧ C.T.mg x = some (.ref f) ∧ PySem.W.keepIn C.T.K (.ref f) = true ∧ Binds C.T.K fd ps []
section
variable {C : Ctx} {X : Cx} {k : Nat}
theorem de_callB (i : Nat) (kk : Nat) (js : List Nat) {jb jn m : Nat} {x y : Str} {e : Expr} {p p2 pos : Pos} {G : Nat → Fn} {F : Fn} {pe : PEx} {cl0 : List (Str × Addr)} {ps' fr : List Str} (ok : CxOk C X k) (GB : FOkB C X G jb jn m x F) (hj : jb ≤ k)
    (GN : ∀ q f l F0, C.T.clo kk f l F0 → F0.cl = cl0 ∧ NOk X.prog X.w C.T.K C.T.mg X.base (L2.CX X.prog X.w) jn f F0 ps' fr (spN (C.T.nar q) (G kk) m)) (har : ∀ ds l, ds.length ≠ m → ∀ cs : List D, cs.length = l → l = js.length → G kk (ds ++ cs) = .bad)
    (cp : X.Ok → Caps X cl0 fr js) (hfn : ∀ x, X.fn x = true) (hst : X.stack = X.env :: X.outer) (hfm : X.env.frame = some X.env.locals)
    (ha : DE C X e pe) (hN : X.N[i]? = some y := by rfl) (hv : Vis X.env.scope y := by first | exact Or.inl rfl | exact Or.inr (Or.inl rfl) | exact Or.inr (Or.inr rfl)) (hd : (y == ("__debug__" : Str)) = false := by decide) (hcd : (y == ("__classdict__" : Str)) = false := by decide)
    (hg : Gl X x := by rfl) (hdb : (x == ("__debug__" : Str)) = false := by decide) (he : starEach [e, .Name y p2] X.env = (false, eval e X.env) :: starEach [.Name y p2] X.env := by rfl) (he2 : starEach [.Name y p2] X.env = (false, eval (.Name y p2) X.env) :: starEach [] X.env := by rfl) (hpl : (backTo pos (starEach [.Name y p2] X.env)).any (·.1) = false := by rfl) :
    DE C X (.Call (.Name x p) [e, .Name y p2] [] pos) (pCallB kk F pe i js) := by
  obtain ⟨te, h1, h2⟩ := ha
  refine ⟨teC C (pCallB kk F pe i js), ⟨fun pins s σ H Q I ⟨B, ρ, re, g⟩ => ?_⟩, se_can C _⟩
  obtain ⟨f, fd, ps, a, b, c, d⟩ := GB
  have args : tCons te (tCons (tVar i) tNil) σ H fun vs H1 => ∃ B1 n l f0 F0 us r, Hc C.T H B B1 H1 ∧ vs = [.int n, .ref f0] ∧ B1 f0 = some (FnO f0 F0) ∧ B1 F0.c = some (LamX.CodeO F0.c F0.qual) ∧ (∃ l1, C.T.clo kk f0 l1 F0) ∧ js.map (slotAt σ) = us.map some ∧ Reps C.T B1 us l ∧ plainAll l = true ∧ l.length = js.length ∧
      F [.int n, .clo kk l] = .ok r ∧ r.plain = true ∧ ∀ B' H' v', Hc C.T H1 B1 B' H' → EOk C.T H1 B' H' v' r → Q v' H' := by
    refine h2 B H σ ρ _ re ((Go.bind g).mono fun z g1 B1 H1 v c1 o1 => ?_)
    have o2 := o1.rd
    cases hz : z.rd with
    | int n =>
      rw [hz] at g1 o2
      cases hi : ρ[i]? with
      | none => rw [hi] at g1; exact g1.elim
      | some sl =>
        rw [hi] at g1
        cases sl with
        | un => exact g1.elim
        | ow l => exact g1.elim
        | va d' =>
          cases d' with
          | clo k1 l1 =>
            cases hl : slotVals ρ js with
            | none => rw [hl] at g1; exact g1.elim
            | some l =>
              rw [hl] at g1
              have g2 : Go C.T C.E H (if k1 = kk ∧ plainAll l = true then match F [.int n, .clo kk l] with
                | .ok e => if e.plain then R.ok e else .bad
                | _ => .bad
                else .bad) _ := g1
              by_cases hk : k1 = kk ∧ plainAll l = true
              · rw [if_pos hk] at g2
                obtain ⟨hk1, hpl1⟩ := hk
                subst hk1
                cases hF : F [.int n, .clo k1 l] with
                | ex y => rw [hF] at g2; exact g2.elim
                | bad => rw [hF] at g2; exact g2.elim
                | ok r =>
                  rw [hF] at g2
                  have g3 : Go C.T C.E H (if r.plain = true then R.ok r else .bad) _ := g2
                  by_cases hr : r.plain = true
                  · rw [if_pos hr] at g3
                    obtain ⟨wv, w1, f0, F0, w2, w3, w4, w5⟩ := re.va i _ hi
                    obtain ⟨us, u1, u2⟩ := slotVals_at re js l hl
                    have hlen : l.length = js.length := by
                      have := congrArg List.length u1
                      rw [List.length_map, List.length_map] at this
                      rw [← u2.length, this]
                    exact ⟨wv, w1, B1, n, l, f0, F0, us, r, c1, by rw [o2.int, w2], c1.b0 _ _ w3, c1.b0 _ _ w4, ⟨l1, w5⟩, u1, Reps.mono c1.b0 l us u2, hpl1, hlen, hF, hr, fun B' H' v' c' o' => g3 B' H' v' (c1.trans c') (o'.back c1.k0)⟩
                  · rw [if_neg hr] at g3
                    exact g3.elim
              · rw [if_neg hk] at g2
                exact g2.elim
          | _ => exact g1.elim
    | _ => rw [hz] at g1; exact g1.elim
  have a1 : PA X [e, .Name y p2] (tCons te (tCons (tVar i) tNil)) := pa_cons h1 (pa_cons (pe_var hN hv hd hcd) pa_nil he2) he
  refine wpAny_Call_Name_kw (ld_glob I hg (by rw [ok.mg]; exact b) ?_ hdb)
  refine PySem.W.callWith_K (h₀ := X.base) I.ok.mod.kin (by rw [ok.K]; exact c) (thn (a1.run pos pins s σ H _ I args) fun us0 s1 ⟨vs, H1, I1, rv, B1, n, l, f0, F0, us, r, c1, ev, e1, e2, ⟨l1, e3⟩, e4, e5, e6, e7, e8, e9, e10⟩ => ⟨I1.kIn, ?_⟩) he hpl
  subst ev
  have GF := (a fun k' f' l' F' => k' = kk ∧ f' = f0 ∧ l' = l ∧ F' = F0).mono hj
  obtain ⟨n1, n2⟩ := GN (fun k' f' l' F' => k' = kk ∧ f' = f0 ∧ l' = l ∧ F' = F0) f0 l1 F0 e3
  have cells : CellsAt F0.cl fr (us.map some) s1.heap H1 := by
    rw [n1, ← e4]
    exact cells_of I1 (cp I1.ok)
  have env : Env0 X.prog X.w C.T.K C.T.mg X.base X.A X.stack s1 H1 := by
    have z := I1.env0
    rw [ok.K, ok.mg] at z
    exact z
  have promise : spB (C.T.nar fun k' f' l' F' => k' = kk ∧ f' = f0 ∧ l' = l ∧ F' = F0) X.prog X.w X.base G jn m F 2 X.stack s1 [.int n, .ref f0] H1 Q C.E := by
    refine ⟨B1, [.int n, .clo kk l], Hc.nar.mp c1.self, ⟨rfl, ⟨f0, F0, rfl, e1, e2, rfl, rfl, rfl, rfl⟩, trivial⟩, rfl, fun k' f' l' F' z => ?_, by rw [e8]; exact (EGo.nar e9).mp e10⟩
    obtain ⟨z1, z2, z3, z4⟩ := z
    subst z1 z2 z3 z4
    exact ⟨ps', fr, us, n2, cells, fun y c hc => cells_frs I1 hfn hst hfm ((cp I1.ok).sub y c (by rw [← n1]; exact hc)), (Reps.nar _ us e6).mp e5, fun ds hds cs hcs => har ds _ hds cs hcs e7⟩
  have hl := GF.len _ _ _ _ _ _ promise
  have bd := d s1 us0 (by have z := I1.kIn; rw [ok.K] at z; exact z) (by rw [List.append_nil, ← rv.length]; exact hl)
  rw [List.append_nil] at bd
  show wpAny _ _ (call (.ref f) us0) _ _ _
  refine wpAny_call (codeAny_mono (GF.run X.A X.stack s1 H1 ⟨us0, []⟩ us0 _ Q C.E ok.room env bd rv promise) fun r' s' hq => ?_)
  cases r' with
  | error er => exact ok.ps pins σ H1 s1 er s' I1 hq
  | ok fl =>
    cases fl with
    | ret u => exact I1.after hq
    | next => exact hq.elim
    | brk => exact hq.elim
    | cont => exact hq.elim
end
end PW
namespace PW
open PySem PySem.Spec PyProof.Rows L2 NdefX
/-- the inner def that a def's body begins with -/
def innerOf (st : Stmt) : Stmt := (defBody st).headD (.Pass ⟨0, 0, 0, 0⟩)
theorem TxOk.nar {T : Tx} (t : TxOk T) (q : Nat → Nat → List D → NF → Prop) : TxOk (T.nar q) := ⟨t.js⟩
theorem DefIs.nar {T : Tx} {x : Str} {st : Stmt} (d : DefIs T x st) (q : Nat → Nat → List D → NF → Prop) : DefIs (T.nar q) x st := ⟨d.ex⟩
theorem ClsOk.nar {T : Tx} {c : Nat} (k : ClsOk T c) (q : Nat → Nat → List D → NF → Prop) : ClsOk (T.nar q) c := ⟨k.cl, k.nd, k.no⟩
theorem InitIs.nar {T : Tx} {c : Nat} {x y : Str} {st : Stmt} (d : InitIs T c x y st) (q : Nat → Nat → List D → NF → Prop) : InitIs (T.nar q) c x y st := ⟨d.cl.nar q, d.ex, d.gC⟩
theorem MethIs.nar {T : Tx} {c : Nat} {x y : Str} {st : Stmt} (d : MethIs T c x y st) (q : Nat → Nat → List D → NF → Prop) : MethIs (T.nar q) c x y st := ⟨d.ex⟩
theorem Glo.nar {T : Tx} {x : Str} {d : D} (g : Glo T x d) (q : Nat → Nat → List D → NF → Prop) (h : d.plain = true) : Glo (T.nar q) x d := by
  obtain ⟨v, u, h1, h2, h3⟩ := g
  exact ⟨v, u, h1, h2, fun B => (Rep.nar d v h).mp (h3 B)⟩
/-- a def whose body is read where inner defs are about -/
theorem fnok_nar {T : Tx} {P : Program} {w : World} {base : Heap} {k a n : Nat} {x q : Str} {st : Stmt} {f c : Addr} {fd : FuncData} {N ps : List Str} {b : PSt} (tx : TxOk T) (F : Fun T.K x q st f fd) (S : FnScope N ps (defScope st)) (ha : ps.length = a) (hN : N.length = n)
    (qq : Cx → Nat → Nat → List D → NF → Prop) (hc : fd.code = .ref c) (hp : ∀ ds, run a n b ds = .bad ∨ (plainAll ds = true ∧ ∃ e, run a n b ds = .ok e ∧ e.plain = true))
    (body : ∀ (A : Around) (outer : List PySem.Env) (s : Shared) (H B0 : Hp) (E : XK), Same B0 H → CxOk ⟨T.nar (qq (cxOf (L2.CX P w) P w T.K T.mg base N q (defScope st) f (.ref c) A outer s H E)), H, B0, E⟩ (cxOf (L2.CX P w) P w T.K T.mg base N q (defScope st) f (.ref c) A outer s H E) k →
      DSs ⟨T.nar (qq (cxOf (L2.CX P w) P w T.K T.mg base N q (defScope st) f (.ref c) A outer s H E)), H, B0, E⟩ (cxOf (L2.CX P w) P w T.K T.mg base N q (defScope st) f (.ref c) A outer s H E) (defBody st) b) : FnOk P w T.K T.mg base (L2.CX P w) (k + 1) f fd ps (spF T (run a n b) a) := by
  obtain ⟨oc, od, kV, doc, pm, an, cdv, ct, osl, rfl, lk, hcd⟩ := F.ex
  have hc : cdv = .ref c := hc
  subst hc
  refine fn_of lk hcd S (fun vs H Q E ⟨B, ds, c, r, hl, _⟩ => by rw [r.length, hl, ha]) fun A outer s H vs Q E hr ⟨B, ds, c1, r, hl, g⟩ => ?_
  have tk : Takes (cxOf (L2.CX P w) P w T.K T.mg base N q (defScope st) f (.ref c) A outer s H E) (fun cls d _ H => E cls d H) := takes_of rfl rfl rfl rfl
  obtain ⟨t, h1, h2⟩ := body A outer s H B E c1.bh ⟨rfl, rfl, rfl, hr, passes_call tk fun _ _ _ _ h => h, passes_of rfl, S.nd, tx.nar _⟩
  rcases hp ds with z | ⟨pl, e, z1, z2⟩
  · rw [z] at g
    exact g.elim
  have g1 : EGo T E B H (run a n b ds) Q := g
  rw [z1] at g1
  have g2 := (EGo.nar (q := qq (cxOf (L2.CX P w) P w T.K T.mg base N q (defScope st) f (.ref c) A outer s H E)) z2).mp g1
  refine ⟨t, h1, h2 B H _ _ _ (rel_start (Hc.nar.mp c1) ((Reps.nar ds vs pl).mp r) ?_) ?_⟩
  · have hpl : ps.length ≤ N.length := by have := congrArg List.length S.pre; rw [List.length_take] at this; omega
    rw [r.length, hl, ← ha]
    exact hpl
  · unfold run at z1
    rw [if_pos hl] at z1
    rw [hN, hl]
    cases q : b (ds.map Sl.va ++ List.replicate (n - a) .un) with
    | nx r =>
      rw [q] at z1
      cases z1
      exact fun B' H' σ' _ re => g2 B' H' .non re.hc rfl
    | bk r => rw [q] at z1; cases z1
    | ct r => rw [q] at z1; cases z1
    | rt e' =>
      rw [q] at z1
      cases z1
      exact g2
    | ex x => rw [q] at z1; cases z1
    | bad => rw [q] at z1; cases z1
theorem ds_clo {C : Ctx} {X : Cx} (i kk : Nat) (js : List Nat) {st : Stmt} {TT : List NTab} {nm : Nat → Nat → Str} {c P : Addr} {name : Str} {pos : Pos} (hst : st = .FunctionDef name (C8.fnArgs st) (C8.fnBody st) [] none [] (C8.fnScope st) none name pos) (TB : LamX.TabB X.base X.mg c P) (hcode : X.env.code = .ref c) (hm : (P, nm) ∈ TT)
    (hn : nm pos.line pos.col = X.env.qual ++ name) (hu : ∀ p ∈ TT, p.1 = P → p.2 = nm) (hfree : ∀ y ∈ (C8.fnScope st).names, y.2 = .free → X.env.scope.names.lookup y.1 = some .cell ∨ X.env.scope.names.lookup y.1 = some .free) (hd0 : (C8.fnArgs st).defaults = []) (hk0 : (C8.fnArgs st).kw_defaults = [])
    (ha : annTrees (C8.fnArgs st) none X.env = []) (hN : X.N.Nodup) (hi : X.N[i]? = some name) (hx : Loc X.env.scope name) (hf : X.fn name = true ∨ X.env.scope.names.lookup name = some .local) (hJ : ∀ H, C.T.J H ↔ TabsN TT H)
    (hclo : ∀ f c' l, C.T.clo kk f l (NF.of st name (X.env.qual ++ name) (cloFrom X.env.cells (C8.fnScope st).names []) c')) : DS C X st (sClo i kk js) :=
  ⟨_, ps_ndefMS hst TB hcode hm hn hu hfree hd0 hk0 ha hN hi hx hf, ss_clo hJ (fun _ => rfl) hclo⟩
theorem callB_shape {kk i : Nat} {js : List Nat} {F : Fn} {a : PEx} (hne : ∀ r x, a r ≠ .ex x) (r : Env) : pCallB kk F a i js r = .bad ∨ ∃ e l, pCallB kk F a i js r = .ok e ∧ e.plain = true ∧ slotVals r js = some l ∧ plainAll l = true := by
  unfold pCallB
  cases q : a r with
  | ex x => exact absurd q (hne _ _)
  | bad => exact .inl rfl
  | ok z =>
    rw [R.bind_ok]
    split
    · rename_i n k l0 l h1 h2 h3
      split
      · rename_i hp
        split
        · rename_i e he
          split
          · rename_i hq
            exact .inr ⟨e, l, rfl, hq, h3, hp.2⟩
          · exact .inl rfl
        · exact .inl rfl
      · exact .inl rfl
    · exact .inl rfl
/-- return f(e, x), x the inner def just made, that holds both parameters -/
theorem shape2 {kk : Nat} {F : Fn} {a : PEx} (hne : ∀ r x, a r ≠ .ex x) : ∀ ds, run 2 3 (sSeq (sClo 2 kk [0, 1]) (sRet (pCallB kk F a 2 [0, 1]))) ds = .bad ∨ (plainAll ds = true ∧ ∃ e, run 2 3 (sSeq (sClo 2 kk [0, 1]) (sRet (pCallB kk F a 2 [0, 1]))) ds = .ok e ∧ e.plain = true) := by
  intro ds
  by_cases hl : ds.length = 2
  · match ds, hl with
    | [d, e], _ =>
      have hr : run 2 3 (sSeq (sClo 2 kk [0, 1]) (sRet (pCallB kk F a 2 [0, 1]))) [d, e] = match (pCallB kk F a 2 [0, 1] [.va d, .va e, .va (.clo kk [d, e])]).fl (fun x => match x with
        | .cl d => Fl.rt (.cl d)
        | .li true l => .rt (.li true l)
        | .li false _ => .bad) with
        | .rt e => .ok e
        | .nx _ => .ok (.cl .non)
        | .ex e => .ex e
        | _ => .bad := by
        unfold run
        rw [if_pos (show [d, e].length = 2 from rfl)]
        rfl
      rw [hr]
      rcases callB_shape (kk := kk) (i := 2) (js := [0, 1]) (F := F) hne [.va d, .va e, .va (.clo kk [d, e])] with z | ⟨e', l, z1, z2, z3, z4⟩
      · rw [z]
        exact .inl rfl
      · have z5 : some [d, e] = some l := z3
        cases z5
        rw [z1, R.fl_ok]
        cases e' with
        | cl d' => exact .inr ⟨z4, _, rfl, z2⟩
        | li f l =>
          cases f with
          | true => exact .inr ⟨z4, _, rfl, z2⟩
          | false => exact .inl rfl
  · exact .inl (run_ar ds hl)

/-- nothing is raised -/
theorem nx_var (i : Nat) : ∀ (r : Env) (x : Exc), pVar i r ≠ .ex x := fun r x h => by
  unfold pVar at h
  split at h <;> cases h
theorem nx_un {f : D → R PW.E} {a : PEx} (n : NoX1 f) (ha : ∀ (r : Env) (x : Exc), a r ≠ .ex x) : ∀ (r : Env) (x : Exc), pUn f a r ≠ .ex x := fun r x h => by
  have h : (a r).bind (fun z => f z.rd) = .ex x := h
  cases q : a r with
  | ok z =>
    rw [q] at h
    exact n _ _ h
  | ex y => exact ha _ _ q
  | bad => rw [q] at h; cases h
theorem nx_attr {ix : Nat → Option Nat} {a : PEx} (ha : ∀ (r : Env) (x : Exc), a r ≠ .ex x) : ∀ (r : Env) (x : Exc), pAttr ix a r ≠ .ex x := fun r x h => by
  unfold pAttr at h
  cases q : a r with
  | ok z =>
    rw [q, R.bind_ok] at h
    split at h
    · split at h <;> cases h
    · cases h
  | ex y => exact ha _ _ q
  | bad => rw [q] at h; cases h
/-- a def that makes an inner def: its code object, its table, what the heap's tables hold -/
structure MkIs (T : Tx) (base : Heap) (x : Str) (st : Stmt) (qn : Str) : Prop where
  ex : ∃ (TT : List NTab) (f : Addr) (fd : FuncData) (c P : Addr), (∀ H, T.J H ↔ TabsN TT H) ∧ Fun T.K x x st f fd ∧ T.mg x = some (.ref f) ∧ fd.code = .ref c ∧ LamX.TabB base T.mg c P ∧ (P, fun _ _ => qn) ∈ TT ∧ ∀ p ∈ TT, p.1 = P → p.2 = fun _ _ => qn
theorem MkIs.nar {T : Tx} {base : Heap} {x : Str} {st : Stmt} {qn : Str} (m : MkIs T base x st qn) (q : Nat → Nat → List D → NF → Prop) : MkIs (T.nar q) base x st qn := ⟨m.ex⟩
end PW
namespace PW
open PySem PySem.Spec PyProof.Rows L2 NdefX LamX
open PySem.W (Codec OpenSpec WData Well WellAll ReadsW ReadsAllW)
/-! ### the end, with tables of code objects -/
/-- the arguments and the empty tables -/
def tabH (cs : List (Addr × Addr)) (H : Hp) : Hp := fun b => if b ∈ cs.map (·.2) then some (.tbl #[]) else H b
theorem dw_mono {K : PySem.W.Frag} {H H' : Hp} (s : Same H H') : ∀ {v : V} {d : WData}, Dw K H v d → Dw K H' v d := by
  intro v d h
  induction h using Dw.rec (motive_2 := fun vs ds _ => DwAll K H' vs ds) with
  | non => exact .non
  | bl b => exact .bl b
  | int i => exact .int i
  | str x => exact .str x
  | byt b => exact .byt b
  | lst h1 h2 ih => exact .lst (SqL.mono s h1) ih
  | tup h1 h2 ih => exact .tup (SqT.mono s h1) ih
  | nil => exact .nil
  | cons h1 h2 ih1 ih2 => exact .cons ih1 ih2
theorem dwAll_mono {K : PySem.W.Frag} {H H' : Hp} (s : Same H H') : ∀ {vs : List V} {ds : List WData}, DwAll K H vs ds → DwAll K H' vs ds
  | _, _, .nil => .nil
  | _, _, .cons h1 h2 => .cons (dw_mono s h1) (dwAll_mono s h2)
/-- what stands when the def at fa is called from without: the written part, the module's names, the empty tables -/
structure Stand (K : PySem.W.Frag) (mg : Str → Option Value) (cs : List (Addr × Addr)) (z : Shared) : Prop where
  kin : K.In z.heap
  ns : z.heap.Ns mainGlobals mg
  bi : ∃ m, z.heap.Ns builtinsNs m ∧ ∀ y : Str, y ≠ "__name__" → m y = bootBuiltins y
  lim : z.heap.NoLimit
  gens : z.gens = #[]
  tab : ∀ t ∈ cs, z.heap.get? t.2 = some { cls := .none, data := .fields #[] }
  out : ∀ t ∈ cs, K.lookup t.2 = none
  code : ∀ t ∈ cs, PySem.W.CodeHd z.heap t.1 t.2
  mod : ∃ (b : Addr) (u : Obj), mg "__builtins__" = some (.ref b) ∧ b ≠ builtinsNs ∧ z.heap.get? b = some u ∧ u.cls = .type "module" ∧ u.dict = some builtinsNs ∧ u.data = .plain
section
variable {P : Program} {w : World} {K : PySem.W.Frag} {mg : Str → Option Value} {cs : List (Addr × Addr)} {z : Shared} {A : List Addr}
theorem Stand.at_ (S : Stand K mg cs z) {a : Addr} (m : a ∈ cs.map (·.2)) : z.heap.get? a = some { cls := .none, data := .fields #[] } ∧ K.lookup a = none := by
  obtain ⟨t, ht, rfl⟩ := List.mem_map.mp m
  exact ⟨S.tab t ht, S.out t ht⟩
/-- an address that is neither an argument's nor a table's -/
theorem tabH_none (S : Stand K mg cs z) (ar : ∀ a ∈ A, ArgOb z.heap A a) {a : Addr} {o : Obj} (e : z.heap.get? a = some o) (h1 : ∀ l n, o.data ≠ .seq l n) (h2 : o.data ≠ .fields #[]) : tabH cs (argH K z.heap A) a = none := by
  unfold tabH
  split
  · rename_i m
    have := (S.at_ m).1.symm.trans e
    cases this
    exact absurd rfl h2
  · cases g : argH K z.heap A a with
    | none => rfl
    | some u =>
      obtain ⟨-, l, -, -, y | y⟩ := argH_is ar g
      · exact absurd (congrArg Obj.data (Option.some.inj (e.symm.trans y.1))) (h1 _ _)
      · exact absurd (congrArg Obj.data (Option.some.inj (e.symm.trans y.1))) (h1 _ _)
theorem argH_tab (S : Stand K mg cs z) (ar : ∀ a ∈ A, ArgOb z.heap A a) {a : Addr} (m : a ∈ cs.map (·.2)) : argH K z.heap A a = none := by
  cases g : argH K z.heap A a with
  | none => rfl
  | some u =>
    have t := (S.at_ m).1
    obtain ⟨-, l, -, -, y | y⟩ := argH_is ar g
    · have := congrArg Obj.data (Option.some.inj (t.symm.trans y.1))
      cases this
    · have := congrArg Obj.data (Option.some.inj (t.symm.trans y.1))
      cases this
theorem tabH_same (S : Stand K mg cs z) (ar : ∀ a ∈ A, ArgOb z.heap A a) : Same (argH K z.heap A) (tabH cs (argH K z.heap A)) := fun a u e => by
  unfold tabH
  split
  · rename_i m
    exact nomatch (argH_tab S ar m).symm.trans e
  · exact e
/-- what is tracked: an argument's object, or an empty table -/
theorem tabH_kind (S : Stand K mg cs z) (ar : ∀ a ∈ A, ArgOb z.heap A a) {a : Addr} {u : HO} (e : tabH cs (argH K z.heap A) a = some u) : K.lookup a = none ∧ ((a ∈ cs.map (·.2) ∧ u = .tbl #[]) ∨ (a ∉ cs.map (·.2) ∧ argH K z.heap A a = some u)) := by
  unfold tabH at e
  split at e
  · rename_i m
    cases e
    exact ⟨(S.at_ m).2, .inl ⟨m, rfl⟩⟩
  · rename_i m
    exact ⟨(argH_is ar e).1, .inr ⟨m, e⟩⟩
theorem tabH_ok (S : Stand K mg cs z) (ar : ∀ a ∈ A, ArgOb z.heap A a) : HOk P w (tabH cs (argH K z.heap A)) z.heap := fun a u e => by
  rcases (tabH_kind S ar e).2 with ⟨m, rfl⟩ | ⟨-, e⟩
  · exact (S.at_ m).1
  · obtain ⟨-, l, b1, b2, ⟨y, rfl⟩ | ⟨y, rfl⟩⟩ := argH_is ar e
    · exact ⟨y, by simpa using b1, l, _, vals_toV b2, y⟩
    · exact ⟨y, by simpa using b1, l, vals_toV b2, _, y, rfl, _, rfl⟩
/-- the heap without what is tracked still says what is written -/
theorem Stand.base (S : Stand K mg cs z) (ar : ∀ a ∈ A, ArgOb z.heap A a) : Env0 P w K mg (hidT z.heap (tabH cs (argH K z.heap A))) callerA [] z (tabH cs (argH K z.heap A)) ∧ ∀ t ∈ cs, TabB (hidT z.heap (tabH cs (argH K z.heap A))) mg t.1 t.2 := by
  have up : ∀ {a : Addr} {o : Obj}, z.heap.get? a = some o → tabH cs (argH K z.heap A) a = none → (hidT z.heap (tabH cs (argH K z.heap A))).get? a = some o := fun y g => hidT_get y g
  have names : ∀ {a : Addr} {m : Str → Option Value}, z.heap.Ns a m → (hidT z.heap (tabH cs (argH K z.heap A))).Ns a m := fun ⟨o, es, ep, y, d, r⟩ =>
    ⟨o, es, ep, up y (tabH_none S ar y (by rw [d]; exact fun _ _ => nofun) (by rw [d]; nofun)), d, r⟩
  have kin : K.In (hidT z.heap (tabH cs (argH K z.heap A))) := fun a o y => up (S.kin a o y) (by
    cases g : tabH cs (argH K z.heap A) a with
    | none => rfl
    | some u => exact nomatch (tabH_kind S ar g).1.symm.trans y)
  obtain ⟨mb, nb, hb⟩ := S.bi
  obtain ⟨mc, nc, hc⟩ := S.lim
  refine ⟨⟨rfl, ⟨kin, names S.ns, ⟨mb, names nb, hb⟩, mc, names nc, hc⟩, fun a o y => of_hidT y, Nat.le_of_eq (hidT_size _ _), trivial, fun a m => (List.not_mem_nil m).elim, tabH_ok S ar, .of_eq S.gens⟩, fun t ht => ⟨?_, ?_, fun y => ?_⟩⟩
  · obtain ⟨o, us, f1, f2, f3, f4, f5, f6, f7, y, r1, r2, r3, r⟩ := S.code t ht
    refine ⟨o, us, f1, f2, f3, f4, f5, f6, f7, up y (tabH_none S ar y (by rw [r2]; exact fun _ _ => nofun) fun g => ?_), r1, r2, r3, r⟩
    rw [r2] at g
    cases g
    simp at r3
  · obtain ⟨b, u, m1, m2, m3, m4, m5, m6⟩ := S.mod
    refine ⟨b, u, m1, m2, fun g => ?_, fun g => ?_, up m3 (tabH_none S ar m3 (by rw [m6]; exact fun _ _ => nofun) (by rw [m6]; nofun)), m4, m5, m6⟩
    · obtain ⟨o, es, ep, y, d, -⟩ := S.ns
      subst g
      have := congrArg Obj.data (Option.some.inj (m3.symm.trans y))
      rw [m6, d] at this
      cases this
    · subst g
      have := congrArg Obj.data (Option.some.inj (m3.symm.trans (S.tab t ht)))
      rw [m6] at this
      cases this
  · obtain ⟨o, es, ep, g, d, -⟩ := S.ns
    rw [y] at g
    have := congrArg Obj.data (Option.some.inj (g.symm.trans (S.tab t ht)))
    rw [d] at this
    cases this
/-- the call from without -/
theorem call_stand {CX : CXT} {k : Nat} {fa : Addr} {fd : FuncData} {ps : List Str} {sp : Sp} {us : List Value} {ds : List WData} {RR : PySem.W.WRecords} {cl : Str → Option Addr} {d0 : WData} (S : Stand K mg cs z)
    (wl : WellAll w.params z.heap us ds) (pl : plWs ds = true) (wt : ∀ d ∈ ds, d.weight ≤ 1048576) (room : Room k callerA)
    (F : ∀ base : Heap, K.In base → base.Ns mainGlobals mg → (∀ t ∈ cs, TabB base mg t.1 t.2) → FnOk P w K mg base CX k fa fd ps sp) (bind : ∀ (s : Shared) (us : List Value), us.length = ps.length → BindsTo s fd ⟨us, []⟩ (ps.zip us)) (len : ds.length = ps.length)
    (does : ∀ (H : Hp) (xs : List V), OnlyF H → DwAll K (tabH cs H) xs ds → sp xs (tabH cs H) (fun v H' => Dw K H' v d0) fun _ _ _ => False) (nox : ∀ H e s', CX [] H z (fun _ _ _ => False) e s' → False) :
    codeAny (model P w) callerA (.call (.ref fa) ⟨us, []⟩) (fun r s' => ∃ u as, r = .ok (.ret u) ∧ ReadsW RR cl s'.heap u d0 as ∧ OldK z.heap s'.heap ∧ s'.os = z.os ∧ AllBare s'.gens) z := by
  obtain ⟨A, area, ar⟩ := area_all ds us wl pl wt
  obtain ⟨env, TB⟩ := S.base (P := P) (w := w) ar
  have ul : us.length = ps.length := (wellAll_len wl).trans len
  have promise := does (argH K z.heap A) (us.map toV) (argH_only ar) (dwAll_mono (tabH_same S ar) (dw_all S.kin ar ds us wl pl area))
  refine codeAny_mono ((F _ env.mod.kin env.mod.glob TB).run callerA [] z _ ⟨us, []⟩ us (us.map toV) _ _ room env (bind z us ul) (vals_toV area) promise) fun r s' x => ?_
  match r with
  | .error e => exact (nox _ e s' x).elim
  | .ok .next => exact x.elim
  | .ok .brk => exact x.elim
  | .ok .cont => exact x.elim
  | .ok (.ret u) =>
    obtain ⟨v, H', os, bare, un, ok', rv, said⟩ := x
    -- what is no table stays
    have stay : ∀ a o, a ∉ cs.map (·.2) → z.heap.get? a = some o → s'.heap.get? a = some o := fun a o m y => by
      cases g : tabH cs (argH K z.heap A) a with
      | none => exact un.keep a o y g (fun q => (List.not_mem_nil q).elim) (by simp)
      | some t =>
        rcases (tabH_kind S ar g).2 with ⟨m2, _⟩ | ⟨_, g2⟩
        · exact absurd m2 m
        · rcases argH_only ar a with q | ⟨ob, t2, q⟩
          · exact nomatch q.symm.trans g2
          · have g3 := g.trans (g2.symm.trans q)
            have b1 := (tabH_ok (P := P) (w := w) S ar a _ g3).1
            have b2 := (ok' a _ (un.frzs a ob _ g3)).1
            rw [y] at b1
            cases b1
            exact b2
    have grow : ∀ t ∈ cs, ∃ l : Array Value, s'.heap.get? t.2 = some { cls := .none, data := .fields l } := fun t ht => by
      obtain ⟨l, q⟩ := un.tbls t.2 #[] (if_pos (List.mem_map.mpr ⟨t, ht, rfl⟩))
      exact ⟨_, ok' _ _ q⟩
    have kin' : K.In s'.heap := fun a o y => stay a o (fun m => nomatch (S.at_ m).2.symm.trans y) (S.kin a o y)
    obtain ⟨as, reads⟩ := Dw.reads (R := RR) (cl := cl) ok' kin' d0 v u said rv
    refine ⟨u, as, rfl, reads, ⟨fun a o y => ?_, fun a o y => ?_⟩, os, bare⟩
    · by_cases m : a ∈ cs.map (·.2)
      · obtain ⟨t, ht, rfl⟩ := List.mem_map.mp m
        obtain ⟨l, q⟩ := grow t ht
        rw [S.tab t ht] at y
        cases y
        exact .inr (.inl ⟨((S.code t ht).tab (S.tab t ht)).isCodeTable, rfl, #[], l, rfl, by rw [Array.empty_append]; exact q⟩)
      · exact .inl (stay a o m y)
    · by_cases m : a ∈ cs.map (·.2)
      · obtain ⟨t, ht, rfl⟩ := List.mem_map.mp m
        exact ⟨_, (grow t ht).choose_spec⟩
      · exact ⟨o, stay a o m y⟩
end
/-- the goal that the head leaves, from the promise of the row's def, tables of code objects beside -/
theorem walk_specTs {r : OpenSpec} {k : Nat} {q : Program} {loose : List Str} {XP : (Str → Option Value) → Heap → Prop} {YP : World → Heap → Prop} {d : DefRec} {ps : List Str}
    (hwell : r.wellSaid = true) (_ : d.params.defaults = []) (hlen : r.args.length = ps.length) (hr : Room k callerA)
    (F : ∀ (w : World) (mg : Str → Option Value) (fa : Addr) (h : Heap), YP w h → h.Ns mainGlobals mg →
        mg d.name = some (.ref fa) →
      ∃ (K : PySem.W.Frag) (cs : List (Addr × Addr)) (fd : FuncData) (sp : Sp), K.In h ∧ (∀ p ∈ cs, h.get? p.2 = some { cls := .none, data := .fields #[] }) ∧ (∀ p ∈ cs, K.lookup p.2 = none) ∧ (∀ p ∈ cs, PySem.W.CodeHd h p.1 p.2) ∧
        (∀ (s : Shared) (us : List Value), us.length = ps.length → BindsTo s fd ⟨us, []⟩ (ps.zip us)) ∧
        (∀ base : Heap, K.In base → base.Ns mainGlobals mg → (∀ p ∈ cs, TabB base mg p.1 p.2) → FnOk r.prog w K mg base (L2.CX r.prog w) k fa fd ps sp) ∧
        ∀ (H : Hp) (xs : List V) (a : Codec.denoteAll r.args), OnlyF H → Codec.withinAll r.args a = true → Codec.app r.args r.asked a = true → DwAll K (tabH cs H) xs (Codec.encAll r.args a) →
          sp xs (tabH cs H) (fun v H' => Dw K H' v (r.ret.enc (Codec.app r.args r.f a))) fun _ _ _ => False) :
    PySem.W.WalkOS q loose XP YP r d [] (fun f vs => PySem.call f vs) := by
  intro w s0 s1 mg mb G Y fa _ _ _ _ _ _ _ _ _ _ at_ gens args vals as pre lay _ wl _
  obtain ⟨a, said, asked⟩ := PySem.W.os_pre_some pre
  obtain ⟨rfl, within⟩ := Codec.encAll_of_decAll r.args args a said
  obtain ⟨K, cs, fd, sp, kin, tab, out, code, bind, does, sat⟩ := F w mg fa _ Y G.T.g at_
  have S : Stand K mg cs s1 := ⟨kin, G.T.g, ⟨_, G.T.b, G.T.builtins⟩, G.T.nolimit, gens, tab, out, code, G.T.bmain⟩
  refine PySem.W.enter_call (codeAny_mono (call_stand (RR := []) (cl := classAt s0.heap) (d0 := r.ret.enc (Codec.app r.args r.f a)) S wl (pl_encAll _ _) (layable_weight lay) hr does bind (by rw [encAll_len]; exact hlen)
    (fun H xs only args => sat H xs a only within asked args) fun _ _ _ q => by
      obtain ⟨_, _, _, _, _, _, _, _, _, _, _, _, q⟩ := q
      exact q) fun r' s' q => ?_)
  obtain ⟨u, as', rfl, g1, g2, g3, g4⟩ := q
  exact ⟨.inl ⟨u, _, as', rfl, fun _ => rfl, g1, (OpenSpec.post_iff hwell within _ _).mpr rfl, nofun⟩, g2, g3, g4⟩
/-- the arguments stand in the part that stays -/
theorem spF_args {T : Tx} {F : Fn} {n : Nat} {H : Hp} {xs : List V} {ds : List D} {Q : VK} {E : XK} (j : T.J H) (h : Reps T H xs ds) (hn : ds.length = n) (g : EGo T E (noT H) H (F ds) Q) : spF T F n xs H Q E :=
  ⟨noT H, ds, Hc.noT j, Reps.noT ds xs h, hn, g⟩
theorem ego_ints2 {T : Tx} {B H : Hp} {F : Fn} {ds : List D} {r : List Int} {E : XK} (h : F ds = .ok (.li true (r.map D.int))) : EGo T E B H (F ds) fun v H' => Dw T.K H' v (.list (r.map PySem.W.WData.int)) := by
  rw [h]
  intro B' H' v c o
  obtain ⟨a, vs, e1, e2, e3, _, _⟩ := o
  subst e1
  rw [e3.ints] at e2
  exact .lst (SqL.of e2) (dw_ints r)
theorem tabs_start {TT : List NTab} {cs : List (Addr × Addr)} {H : Hp} (h : ∀ p ∈ TT, p.1 ∈ cs.map (·.2)) : TabsN TT (tabH cs H) := fun p hp => .nil (if_pos (h p hp))
theorem tabs_js {TT : List NTab} {H H' : Hp} (t : TabsN TT H) (h : ∀ b o, H b = some o → Sys o → H' b = some o) : TabsN TT H' := fun p hp => by
  obtain ⟨ps, e, ok, all⟩ := t p hp
  refine ⟨ps, h _ _ e trivial, ok, fun pos cv hc => ?_⟩
  obtain ⟨c, ec, hcc⟩ := all pos cv hc
  exact ⟨c, ec, h _ _ hcc (by unfold CodeO; trivial)⟩
end PW
namespace PW
open PySem PySem.Spec PyProof.Rows L2 He
/-! ### facts by names -/
/-- a def of the top, by the look -/
theorem fun_of {K : PySem.W.Frag} {fn : List DefD} {fa : List Fa} (c : SaysD fa fn K) (i : Nat) {d : DefD} {x q : Str} {st : Stmt} (h : fn[i]? = some d) (e1 : d.name = x := by rfl) (e2 : d.qual = q := by rfl) (e3 : d.params = defArgs st := by rfl) (e4 : d.body = defBody st := by rfl) (e5 : d.scope = defScope st := by rfl) (e6 : d.dfl = [] := by rfl) :
    ∃ fd, Fun K x q st (fAd K d.at_) fd := by
  obtain ⟨fd, ⟨oc, od, dV, kV, doc, pm, an, cdv, ct, osl, h1, h2, h3, h4, h5⟩, kp⟩ := c.def_ i h
  subst e1 e2
  have h4' : DflV K dV [] := by
    have z : d.dvs K = [] := by
      unfold DefD.dvs
      rw [e6]
      rfl
    rw [z] at h4
    exact h4
  have hd : dV = .none := by
    rcases h4' with ⟨_, z⟩ | ⟨z, _⟩
    · exact z
    · exact absurd rfl z
  subst hd
  rw [e3, e4, e5] at h1
  exact ⟨fd, ⟨oc, od, kV, doc, pm, an, cdv, ct, osl, h1, h2, h3⟩, kp⟩

theorem glo_intF {T : Tx} {h : Heap} {x : Str} {i : Int} (X : T.K.In h) (G : h.Ns mainGlobals T.mg) (c : (Fa.int x i).ok T.K = true) : Glo T x (.int i) := by
  obtain ⟨t, e⟩ := int_ok X G c
  exact ⟨.int i, _, e, ⟨t, rfl⟩, fun _ => rfl⟩
theorem glo_strF {T : Tx} {h : Heap} {x z : Str} (X : T.K.In h) (G : h.Ns mainGlobals T.mg) (c : (Fa.str x z).ok T.K = true) : Glo T x (.str z) := by
  obtain ⟨t, e⟩ := str_ok X G c
  exact ⟨.str z, _, e, ⟨t, rfl⟩, fun _ => rfl⟩
theorem glo_tupF {T : Tx} {h : Heap} {x : Str} {ns : List Int} (X : T.K.In h) (G : h.Ns mainGlobals T.mg) (c : (Fa.glo x).ok T.K = true) (c2 : tupB T.K x (ns.map Dv.int) = true) : Glo T x (.tup (ns.map D.int)) := by
  refine ⟨.ref (ga T.K x), _, glo_ok X G c, rfl, fun B => ⟨_, ns.map V.int, rfl, ?_, Reps.of_ints ns⟩⟩
  have q := tupB_ok c2 B
  rw [List.map_map] at q
  exact q
theorem Reps.of_strs {T : Tx} {B : Hp} : ∀ ns : List Str, Reps T B (ns.map V.str) (ns.map D.str)
  | [] => trivial
  | _ :: r => ⟨rfl, Reps.of_strs r⟩
theorem glo_tupS {T : Tx} {h : Heap} {x : Str} {ns : List Str} (X : T.K.In h) (G : h.Ns mainGlobals T.mg) (c : (Fa.glo x).ok T.K = true) (c2 : tupB T.K x (ns.map Dv.str) = true) : Glo T x (.tup (ns.map D.str)) := by
  refine ⟨.ref (ga T.K x), _, glo_ok X G c, rfl, fun B => ⟨_, ns.map V.str, rfl, ?_, Reps.of_strs ns⟩⟩
  have q := tupB_ok c2 B
  rw [List.map_map] at q
  exact q
/-! ### the class of errors with a code -/
def kwNone (K : PySem.W.Frag) (f : Addr) : Bool := match K.lookup f with
  | some ⟨_, _, .func fd, _⟩ => (match fd.kwdefaults with
    | .none => true
    | _ => false)
  | _ => false
def refClsB (K : PySem.W.Frag) (C : Addr) : Bool := match K.lookup C with
  | some ⟨.type t, _, .cls cd, sl⟩ => (match cd.mro, sl.toList with
    | .ref C' :: bm, [_, _, _, _, some (.builtin n), _] => decide (t = "type") && (C' == C && (n == "ValueError.__new__" && (!cd.hasDel && (cd.hasDict && PySem.HandSPX.refsVE bm))))
    | _, _ => false)
  | _ => false
def refB (K : PySem.W.Frag) : Bool :=
  refClsB K (ga K "Refused") && (eqO (PySem.W.findIn K (.ref (ga K "Refused")) "__setattr__") (some (some (.builtin "object.__setattr__"))) && (eqO (PySem.W.findIn K (.ref (ga K "Refused")) "__getattribute__") (some (some (.builtin "BaseException.__getattribute__"))) &&
    (eqO (PySem.W.findIn K (.ref (ga K "Refused")) "__getattr__") (some none) && (eqO (PySem.W.findIn K (.ref (ga K "Refused")) "code") (some none) && (eqO (PySem.W.findIn K (.ref (ga K "Refused")) "__init__") (some (some (.ref (ma K (ga K "Refused") "__init__")))) &&
    (decide (PySem.W.typeIn K (.ref (ma K (ga K "Refused") "__init__")) = some (.type "function")) && (PySem.W.keepIn K (.ref (ga K "Refused")) && (decide (PySem.W.subIn K (.ref (ga K "Refused")) (.type "BaseException") = some true) && (decide (PySem.W.typeIn K (.ref (ga K "Refused")) = some (.type "type")) &&
    (PySem.W.hasDictIn K (ga K "Refused") && (decide (PySem.W.exmOne K (.ref (ga K "Refused")) (.ref (ga K "Refused")) = some true) && kwNone K (ma K (ga K "Refused") "__init__"))))))))))))
theorem refCls_of {K : PySem.W.Frag} {C : Addr} (h : refClsB K C = true) : ∃ nm q N bs bm sn sub ab col dd k0 k1 k2 k3 k5, K.lookup C = some (excClassObj nm q C N bs bm true sn sub ab col dd k0 k1 k2 k3 k5 "ValueError.__new__") ∧ PySem.HandSPX.refsVE bm = true := by
  unfold refClsB at h
  split at h
  · rename_i t dd cd sl ho
    split at h
    · rename_i C' bm k0 k1 k2 k3 n k5 hm hs
      simp only [Bool.and_eq_true, beq_iff_eq, Bool.not_eq_true', decide_eq_true_eq] at h
      obtain ⟨rfl, rfl, rfl, hdel, hdict, hbm⟩ := h
      obtain ⟨nm, bs, mro, ns, qn, hd, sn, sub, ab, col, del⟩ := cd
      dsimp only at hm hdel hdict
      subst hm hdel hdict
      have hsl : sl = #[k0, k1, k2, k3, some (.builtin "ValueError.__new__"), k5] := by
        obtain ⟨l⟩ := sl
        simp only at hs
        rw [hs]
      subst hsl
      exact ⟨nm, qn, ns, bs, bm, sn, sub, ab, col, dd, k0, k1, k2, k3, k5, ho, hbm⟩
    · cases h
  · cases h
theorem ref_of {K : PySem.W.Frag} {fn : List DefD} {fa : List Fa} {mg : Str → Option Value} {h : Heap} (c : SaysD fa fn K) (i : Nat) {d : DefD} {p1 p2 q1 q2 q3 q4 : Pos} (X : K.In h) (G : h.Ns mainGlobals mg) (hg : (Fa.glo "Refused").ok K = true) (hr : refB K = true)
    (hi : fn[i]? = some d) (e0 : d.at_ = (("Refused" : Str), some ("__init__" : Str)) := by rfl) (e1 : d.name = "__init__" := by rfl) (e2 : d.qual = "Refused.__init__" := by rfl) (e3 : d.params = PySem.RefX.iA p1 p2 := by rfl) (e4 : d.body = PySem.RefX.iB q1 q2 q3 q4 := by rfl) (e5 : d.scope = PySem.RefX.iS := by rfl) (e6 : d.dfl = [] := by rfl) :
    PySem.RefX.RefTxt K mg (ga K "Refused") (ma K (ga K "Refused") "__init__") := by
  obtain ⟨fd, ⟨oc, od, dV, kV, doc, pm, an, cdv, ct, osl, h1, h2, h3, h4, h5⟩, kp⟩ := c.def_ i hi
  have hf : fAd K d.at_ = ma K (ga K "Refused") "__init__" := by rw [e0] <;> rfl
  have h4' : DflV K dV [] := by
    have z : d.dvs K = [] := by
      unfold DefD.dvs
      rw [e6]
      rfl
    rw [z] at h4
    exact h4
  have hd : dV = .none := by
    rcases h4' with ⟨_, z⟩ | ⟨z, _⟩
    · exact z
    · exact absurd rfl z
  unfold refB at hr
  simp only [Bool.and_eq_true, decide_eq_true_eq] at hr
  obtain ⟨r1, r2, r3, r4, r5, r6, r7, r8, r9, r10, r11, r12, r13⟩ := hr
  rw [hf] at h2
  have hk : kV = .none := by
    unfold kwNone at r13
    rw [h2, h1] at r13
    clear h1 h5
    revert r13
    cases kV with
    | none => exact fun _ => rfl
    | _ => exact fun z => nomatch (show false = true from z)
  subst hd hk
  rw [e2] at h3
  rw [h1, e1, e2, e3, e4, e5] at h2
  exact { gC := glo_ok X G hg, cls := refCls_of r1, sa := eqO_ok r2, ga := eqO_ok r3, gg := eqO_ok r4, noN := eqO_ok r5, iC := eqO_ok r6, tC := r7, kC := r8, exC := r9, tyC := r10, hdC := r11, te := r12,
          fn := ⟨oc, od, doc, pm, an, cdv, ct, osl, p1, p2, q1, q2, q3, q4, h2, h3⟩ }
/-- a class with fields in order -/
theorem cls_of {T : Tx} {c : Nat} {x : Str} {fs : List Str} (e1 : T.cls c = ga T.K x) (e2 : T.nms c = fs) (nd : fs.Nodup) (h1 : (Fa.cls x).ok T.K = true) (h2 : ∀ f ∈ fs, (Fa.noat x f).ok T.K = true) : ClsOk T c :=
  ⟨by rw [e1]; exact cls_ok h1, by rw [e2]; exact nd, fun f hf => by
    rw [e1]
    rw [e2] at hf
    exact noat_ok (h2 f hf)⟩
theorem init_of {T : Tx} {c : Nat} {x q : Str} {st : Stmt} {h : Heap} (X : T.K.In h) (G : h.Ns mainGlobals T.mg) (K : ClsOk T c) (e1 : T.cls c = ga T.K x) (hg : (Fa.glo x).ok T.K = true) (hm : (Fa.mkr x).ok T.K = true) (F : ∃ fd, Fun T.K "__init__" q st (ma T.K (ga T.K x) "__init__") fd) : InitIs T c x q st := by
  obtain ⟨fd, F⟩ := F
  exact ⟨K, ⟨_, fd, F, by rw [e1]; exact mkr_ok hm⟩, by rw [e1]; exact glo_ok X G hg⟩
theorem meth_of {T : Tx} {c : Nat} {x m q : Str} {st : Stmt} (e1 : T.cls c = ga T.K x) (hm : (Fa.meth x m).ok T.K = true) (F : ∃ fd, Fun T.K m q st (ma T.K (ga T.K x) m) fd) : MethIs T c m q st := by
  obtain ⟨fd, F⟩ := F
  exact ⟨_, fd, F, by rw [e1]; exact meth_ok hm⟩
theorem def_of {T : Tx} {x : Str} {st : Stmt} {h : Heap} (X : T.K.In h) (G : h.Ns mainGlobals T.mg) (hg : (Fa.glo x).ok T.K = true) (F : ∃ fd, Fun T.K x x st (ga T.K x) fd) : DefIs T x st := by
  obtain ⟨fd, F⟩ := F
  exact ⟨_, fd, F, glo_ok X G hg⟩
theorem mk_of {T : Tx} {x qn : Str} {st : Stmt} {h base : Heap} {TT : List NdefX.NTab} (hJ : ∀ H, T.J H ↔ NdefX.TabsN TT H) (X : T.K.In h) (G : h.Ns mainGlobals T.mg) (hg : (Fa.glo x).ok T.K = true) (F : ∃ fd, Fun T.K x x st (ga T.K x) fd) (tb : LamX.TabB base T.mg (cT T.K (x, none)).1 (cT T.K (x, none)).2) (hm : ((cT T.K (x, none)).2, fun _ _ => qn) ∈ TT)
    (hu : ∀ p ∈ TT, p.1 = (cT T.K (x, none)).2 → p.2 = fun _ _ => qn) : MkIs T base x st qn := by
  obtain ⟨fd, F⟩ := F
  obtain ⟨oc, od, kV, doc, pm, an, cdv, ct, osl, h1, h2, h3⟩ := id F.ex
  obtain ⟨c, hc⟩ := codeIn_ref h3
  have e : codeOf T.K (x, none) = c := codeOf_eq (p := (x, none)) (h2.trans (by rw [h1])) hc
  exact ⟨TT, _, fd, c, (cT T.K (x, none)).2, hJ, F, glo_ok X G hg, by rw [h1]; exact hc, by rw [← e]; exact tb, hm, hu⟩
theorem allB {l : List (PySem.W.Frag → Bool)} {K : PySem.W.Frag} (h : (l.all fun p => p K) = true) (i : Nat) {p : PySem.W.Frag → Bool} (hi : l[i]? = some p) : p K = true := List.all_eq_true.mp h p (List.mem_of_getElem? hi)
theorem map_all {α β : Type} {f : α → β} {P : β → Prop} {l : List α} (h : ∀ p ∈ l, P (f p)) : ∀ q ∈ l.map f, P q := fun q hq => by
  obtain ⟨p, hp, e⟩ := List.mem_map.mp hq
  rw [← e]
  exact h p hp
theorem all_map {α β : Type} {f : α → β} {P : β → Prop} {l : List α} (h : ∀ q ∈ l.map f, P q) : ∀ p ∈ l, P (f p) := fun p hp => h _ (List.mem_map.mpr ⟨p, hp, rfl⟩)
theorem fun_bindsTo {K : PySem.W.Frag} {x q : Str} {st : Stmt} {f : Addr} {fd : FuncData} {ps : List Str} (F : Fun K x q st f fd)
    (h : ∀ (kV doc pm : Value) (an : Option Addr) (cdv ct : Value) (us : List Value), us.length = ps.length → bindArgs (PySem.W.fnOf x q (defArgs st) (defBody st) (defScope st) .none kV doc pm an cdv ct) ⟨us, []⟩ = pure (ps.zip us)) :
    ∀ (s : Shared) (us : List Value), us.length = ps.length → BindsTo s fd ⟨us, []⟩ (ps.zip us) := fun s us hl => by
  obtain ⟨oc, od, kV, doc, pm, an, cdv, ct, osl, rfl, _, _⟩ := F.ex
  exact .of_eq (h kV doc pm an cdv ct us hl)
end PW
namespace PF
open PW
/-- size_by: lead -/
def pb_size_by : PSt := (sSeq (sIf (pB (pOp oLt (pVar 0) (pC (.int 128)))) (sRet (pC (.int 1))) sNext)
 (sSeq (sIf (pB (pChain oLe oLt (pC (.int 192)) (pVar 0) (pC (.int 224)))) (sRet (pC (.int 2))) sNext)
 (sSeq (sIf (pB (pChain oLe oLt (pC (.int 224)) (pVar 0) (pC (.int 240)))) (sRet (pC (.int 3))) sNext)
 (sSeq (sIf (pB (pChain oLe oLt (pC (.int 240)) (pVar 0) (pC (.int 248)))) (sRet (pC (.int 4))) sNext)
 (sRet (pC (.int 0)))))))
def pf_size_by : Fn := run 1 1 pb_size_by
/-- is_sign: number -/
def pb_is_sign : PSt := (sRet (pAndV (pChain oLe oLe (pC (.int 0)) (pVar 0) (pC (.int 1114111))) (pUn oNot (pChain oLe oLe (pC (.int 55296)) (pVar 0) (pC (.int 57343))))))
def pf_is_sign : Fn := run 1 1 pb_is_sign
/-- sign_at: numbers at size sign k part -/
def pb_sign_at : PSt := (sSeq (sIf (pOr (pB (pOp (oEq false) (pVar 2) (pC (.int 0)))) (pB (pOp oGt (pOp oAdd (pVar 1) (pVar 2)) (pUn oLen (pVar 0))))) (sRet (pC .non)) sNext)
 (sSeq (sSetK 3 (pOp oSub (pOp oIx (pVar 0) (pVar 1)) (pOp oIx (pC (.tup [.int 0, .int 0, .int 192, .int 224, .int 240])) (pVar 2))))
 (sSeq (sFor (iRng2 (pC (.int 1)) (pVar 2)) (gSet 4) (sSeq (sSetK 5 (pOp oIx (pVar 0) (pOp oAdd (pVar 1) (pVar 4))))
 (sSeq (sIf (pNot (pB (pChain oLe oLt (pC (.int 128)) (pVar 5) (pC (.int 192))))) (sRet (pC .non)) sNext)
 (sSetK 3 (pOp oSub (pOp oAdd (pOp oMul (pC (.int 64)) (pVar 3)) (pVar 5)) (pC (.int 128)))))))
 (sRet (pIf (pAnd (pB (pOp oGe (pVar 3) (pOp oIx (pC (.tup [.int 0, .int 0, .int 128, .int 2048, .int 65536])) (pVar 2)))) (pB (pCall pf_is_sign (pCons (pVar 3) pNil)))) (pVar 3) (pC .non))))))
def pf_sign_at : Fn := run 3 6 pb_sign_at
/-- decoded: numbers signs at size sign -/
def pb_decoded : PSt := (sSeq (sSet 1 (pLst pNil))
 (sSeq (sSetK 2 (pC (.int 0)))
 (sSeq (sWhile (pB (pOp oLt (pVar 2) (pUn oLen (pVar 0)))) (sSeq (sSetK 3 (pCall pf_size_by (pCons (pOp oIx (pVar 0) (pVar 2)) pNil)))
 (sSeq (sSetK 4 (pCall pf_sign_at (pCons (pVar 0) (pCons (pVar 2) (pCons (pVar 3) pNil)))))
 (sSeq (sIf (pB (pUn (oIsN false) (pVar 4))) (sRet (pC .non)) sNext)
 (sSeq (sApp 1 (pVar 4))
 (sAug 2 oAddI (pVar 3)))))))
 (sRetV 1))))
def pf_decoded : Fn := run 1 5 pb_decoded
/-- bytes_of: sign -/
def pb_bytes_of : PSt := (sSeq (sIf (pB (pOp oLt (pVar 0) (pC (.int 128)))) (sRet (pLst (pCons (pVar 0) pNil))) sNext)
 (sSeq (sIf (pB (pOp oLt (pVar 0) (pC (.int 2048)))) (sRet (pLst (pCons (pOp oAdd (pC (.int 192)) (pOp oDiv (pVar 0) (pC (.int 64)))) (pCons (pOp oAdd (pC (.int 128)) (pOp oMod (pVar 0) (pC (.int 64)))) pNil)))) sNext)
 (sSeq (sIf (pB (pOp oLt (pVar 0) (pC (.int 65536)))) (sRet (pLst (pCons (pOp oAdd (pC (.int 224)) (pOp oDiv (pVar 0) (pC (.int 4096)))) (pCons (pOp oAdd (pC (.int 128)) (pOp oMod (pOp oDiv (pVar 0) (pC (.int 64))) (pC (.int 64)))) (pCons (pOp oAdd (pC (.int 128)) (pOp oMod (pVar 0) (pC (.int 64)))) pNil))))) sNext)
 (sRet (pLst (pCons (pOp oAdd (pC (.int 240)) (pOp oDiv (pVar 0) (pC (.int 262144)))) (pCons (pOp oAdd (pC (.int 128)) (pOp oMod (pOp oDiv (pVar 0) (pC (.int 4096))) (pC (.int 64)))) (pCons (pOp oAdd (pC (.int 128)) (pOp oMod (pOp oDiv (pVar 0) (pC (.int 64))) (pC (.int 64)))) (pCons (pOp oAdd (pC (.int 128)) (pOp oMod (pVar 0) (pC (.int 64)))) pNil)))))))))
def pf_bytes_of : Fn := run 1 1 pb_bytes_of
/-- encoded: signs numbers sign -/
def pb_encoded : PSt := (sSeq (sSet 1 (pLst pNil))
 (sSeq (sFor (iLst (pVar 0)) (gSet 2) (sExt 1 (pCall pf_bytes_of (pCons (pVar 2) pNil))))
 (sRetV 1)))
def pf_encoded : Fn := run 1 3 pb_encoded
/-- words_of: signs words word sign -/
def pb_words_of : PSt := (sSeq (sSet 1 (pLst pNil))
 (sSeq (sSet 2 (pLst pNil))
 (sSeq (sFor (iLst (pVar 0)) (gSet 3) (sIf (pB (pOp (oIn true) (pVar 3) (pC (.tup [.int 9, .int 10, .int 13, .int 32])))) (sApp 2 (pVar 3)) (sIf (pB (pOp (oEq true) (pVar 2) (pLst pNil))) (sSeq (sFrz [2] (sApp 1 (pVar 2)))
 (sSet 2 (pLst pNil))) sNext)))
 (sSeq (sIf (pB (pOp (oEq true) (pVar 2) (pLst pNil))) (sFrz [2] (sApp 1 (pVar 2))) sNext)
 (sRetV 1)))))
def pf_words_of : Fn := run 1 4 pb_words_of
/-- joined: parts between signs at part -/
def pb_joined : PSt := (sSeq (sSet 2 (pLst pNil))
 (sSeq (sFor (iEnum (pVar 0)) (gTup' 2 (gCons' (gSet 3) (gCons' (gSet 4) gNil'))) (sSeq (sIf (pB (pOp oGt (pVar 3) (pC (.int 0)))) (sExt 2 (pVar 1)) sNext)
 (sExt 2 (pVar 4))))
 (sRetV 2)))
def pf_joined : Fn := run 2 5 pb_joined
/-- is_digit: sign -/
def pb_is_digit : PSt := (sRet (pChain oLe oLe (pC (.int 48)) (pVar 0) (pC (.int 57))))
def pf_is_digit : Fn := run 1 1 pb_is_digit
/-- is_lower: sign -/
def pb_is_lower : PSt := (sRet (pChain oLe oLe (pC (.int 97)) (pVar 0) (pC (.int 122))))
def pf_is_lower : Fn := run 1 1 pb_is_lower
/-- is_upper: sign -/
def pb_is_upper : PSt := (sRet (pChain oLe oLe (pC (.int 65)) (pVar 0) (pC (.int 90))))
def pf_is_upper : Fn := run 1 1 pb_is_upper
/-- Pattern_occurs_at: self signs at -/
def pb_Pattern_occurs_at : PSt := (sRet (pOp (oEq false) (pSl (pVar 1) (pPart (pVar 2)) (pPart (pOp oAdd (pVar 2) (pUn oLen (pAttr (ixc 0 0) (pVar 0)))))) (pAttr (ixc 0 0) (pVar 0))))
def pf_Pattern_occurs_at : Fn := run 3 3 pb_Pattern_occurs_at
/-- pattern_of: word letters levels digit sign -/
def pb_pattern_of : PSt := (sSeq (sSet 1 (pLst pNil))
 (sSeq (sSet 2 (pLst pNil))
 (sSeq (sSetK 3 (pC .non))
 (sSeq (sFor (iLst (pVar 0)) (gSet 4) (sIf (pAnd (pB (pCall pf_is_digit (pCons (pVar 4) pNil))) (pB (pUn (oIsN false) (pVar 3)))) (sSetK 3 (pOp oSub (pVar 4) (pC (.int 48)))) (sIf (pOr (pB (pCall pf_is_lower (pCons (pVar 4) pNil))) (pB (pOp (oEq false) (pVar 4) (pC (.int 46))))) (sSeq (sApp 1 (pVar 4))
 (sSeq (sApp 2 (pIf (pB (pUn (oIsN false) (pVar 3))) (pC (.int 0)) (pVar 3)))
 (sSetK 3 (pC .non)))) (sRet (pC .non)))))
 (sSeq (sApp 2 (pIf (pB (pUn (oIsN false) (pVar 3))) (pC (.int 0)) (pVar 3)))
 (sFrz [1, 2] (sRet (pIf (pB (pOp (oEq true) (pVar 1) (pLst pNil))) (pMake 0 2 (pCons (pVar 1) (pCons (pVar 2) pNil))) (pC .non)))))))))
def pf_pattern_of : Fn := run 1 5 pb_pattern_of
/-- read_patterns: signs patterns word pattern -/
def pb_read_patterns : PSt := (sSeq (sSet 1 (pLst pNil))
 (sSeq (sFor (iLst (pCall pf_words_of (pCons (pVar 0) pNil))) (gSet 2) (sSeq (sSetK 3 (pCall pf_pattern_of (pCons (pVar 2) pNil)))
 (sSeq (sIf (pB (pUn (oIsN false) (pVar 3))) (sRet (pC .non)) sNext)
 (sApp 1 (pVar 3)))))
 (sRetV 1)))
def pf_read_patterns : Fn := run 1 4 pb_read_patterns
/-- lowered: word sign -/
def pb_lowered : PSt := (sRet (pLc [1] (iLstR (pVar 0)) (gSet 1) (pNoxT pYes) (pNoxE (pIf (pB (pCall pf_is_upper (pCons (pVar 1) pNil))) (pOp oAdd (pVar 1) (pC (.int 32))) (pVar 1)))))
def pf_lowered : Fn := run 1 2 pb_lowered
/-- greatest_levels: patterns signs levels pattern at k level -/
def pb_greatest_levels : PSt := (sSeq (sSet 2 (pOp oMul (pLst (pCons (pC (.int 0)) pNil)) (pOp oAdd (pUn oLen (pVar 1)) (pC (.int 1)))))
 (sSeq (sFor (iLst (pVar 0)) (gSet 3) (sFor (iRng1 (pOp oAdd (pOp oSub (pUn oLen (pVar 1)) (pUn oLen (pAttr (ixc 0 0) (pVar 3)))) (pC (.int 1)))) (gSet 4) (sIf (pB (pMeth 0 pf_Pattern_occurs_at (pVar 3) (pCons (pVar 1) (pCons (pVar 4) pNil)))) (sFor (iEnum (pAttr (ixc 0 1) (pVar 3))) (gTup' 2 (gCons' (gSet 5) (gCons' (gSet 6) gNil'))) (sPut 2 (pOp oAdd (pVar 4) (pVar 5)) (pOp bMax2 (pOp oIx (pVar 2) (pOp oAdd (pVar 4) (pVar 5))) (pVar 6)))) sNext)))
 (sRetV 2)))
def pf_greatest_levels : Fn := run 2 7 pb_greatest_levels
/-- positions_of: patterns word sign levels k -/
def pb_positions_of : PSt := (sSeq (sIf (pNot (pB (pUn bAll (pLc [2] (iLstR (pVar 1)) (gSet 2) (pNoxT pYes) (pNoxE (pOrV (pCall pf_is_lower (pCons (pVar 2) pNil)) (pCall pf_is_upper (pCons (pVar 2) pNil)))))))) (sRet (pLst pNil)) sNext)
 (sSeq (sSetK 3 (pCall pf_greatest_levels (pCons (pVar 0) (pCons (pOp oAdd (pOp oAdd (pLst (pCons (pC (.int 46)) pNil)) (pCall pf_lowered (pCons (pVar 1) pNil))) (pLst (pCons (pC (.int 46)) pNil))) pNil))))
 (sRet (pLc [4] (iRng2 (pC (.int 2)) (pOp oAdd (pOp oSub (pUn oLen (pVar 1)) (pC (.int 2))) (pC (.int 1)))) (gSet 4) (pNoxT (pB (pOp (oEq false) (pOp oMod (pOp oIx (pVar 3) (pOp oAdd (pVar 4) (pC (.int 1)))) (pC (.int 2))) (pC (.int 1))))) (pNoxE (pVar 4))))))
def pf_positions_of : Fn := run 2 5 pb_positions_of
/-- parts_of: word parts begin at -/
def pb_parts_of : PSt := (sSeq (sSet 1 (pLst pNil))
 (sSeq (sSetK 2 (pC (.int 0)))
 (sSeq (sFor (iRng1 (pOp oSub (pUn oLen (pVar 0)) (pC (.int 1)))) (gSet 3) (sIf (pAnd (pB (pOp (oEq false) (pOp oIx (pVar 0) (pVar 3)) (pC (.int 45)))) (pB (pOp (oEq true) (pOp oIx (pVar 0) (pOp oAdd (pVar 3) (pC (.int 1)))) (pC (.int 45))))) (sSeq (sApp 1 (pSl (pVar 0) (pPart (pVar 2)) (pPart (pOp oAdd (pVar 3) (pC (.int 1))))))
 (sSetK 2 (pOp oAdd (pVar 3) (pC (.int 1))))) sNext))
 (sSeq (sApp 1 (pSl (pVar 0) (pPart (pVar 2)) pNoPart))
 (sRetV 1)))))
def pf_parts_of : Fn := run 1 4 pb_parts_of
/-- pieces_of_part: patterns part joint cuts pieces begin end -/
def pb_pieces_of_part : PSt := (sSeq (sSetK 3 (pOp oAdd (pOp oAdd (pLst (pCons (pC (.int 0)) pNil)) (pCall pf_positions_of (pCons (pVar 0) (pCons (pVar 1) pNil)))) (pLst (pCons (pUn oLen (pVar 1)) pNil))))
 (sSeq (sSet 4 (pLst pNil))
 (sSeq (sFor (iZip (pVar 3) (pSl (pVar 3) (pPart (pC (.int 1))) pNoPart)) (gTup' 2 (gCons' (gSet 5) (gCons' (gSet 6) gNil'))) (sApp 4 (pMake 1 2 (pCons (pSl (pVar 1) (pPart (pVar 5)) (pPart (pVar 6))) (pCons (pIf (pB (pOp (oEq false) (pVar 6) (pUn oLen (pVar 1)))) (pVar 2) (pC (.int 2))) pNil)))))
 (sRetV 4))))
def pf_pieces_of_part : Fn := run 3 7 pb_pieces_of_part
/-- pieces_of: patterns signs pieces word parts at part joint -/
def pb_pieces_of : PSt := (sSeq (sSet 2 (pLst pNil))
 (sSeq (sFor (iLst (pCall pf_words_of (pCons (pVar 1) pNil))) (gSet 3) (sSeq (sSetK 4 (pCall pf_parts_of (pCons (pVar 3) pNil)))
 (sFor (iEnum (pVar 4)) (gTup' 2 (gCons' (gSet 5) (gCons' (gSet 6) gNil'))) (sSeq (sSetK 7 (pIf (pB (pOp (oEq false) (pVar 5) (pOp oSub (pUn oLen (pVar 4)) (pC (.int 1))))) (pC (.int 0)) (pC (.int 1))))
 (sExt 2 (pCall pf_pieces_of_part (pCons (pVar 0) (pCons (pVar 6) (pCons (pVar 7) pNil)))))))))
 (sRetV 2)))
def pf_pieces_of : Fn := run 2 8 pb_pieces_of
/-- line_of: pieces signs at piece is_last -/
def pb_line_of : PSt := (sSeq (sSet 1 (pLst pNil))
 (sSeq (sFor (iEnum (pVar 0)) (gTup' 2 (gCons' (gSet 2) (gCons' (gSet 3) gNil'))) (sSeq (sExt 1 (pAttr (ixc 1 0) (pVar 3)))
 (sSeq (sSetK 4 (pOp (oEq false) (pVar 2) (pOp oSub (pUn oLen (pVar 0)) (pC (.int 1)))))
 (sSeq (sIf (pAnd (pB (pOp (oEq false) (pAttr (ixc 1 1) (pVar 3)) (pC (.int 0)))) (pNot (pB (pVar 4)))) (sApp 1 (pC (.int 32))) sNext)
 (sIf (pAnd (pB (pOp (oEq false) (pAttr (ixc 1 1) (pVar 3)) (pC (.int 2)))) (pB (pVar 4))) (sApp 1 (pC (.int 45))) sNext)))))
 (sRetV 1)))
def pf_line_of : Fn := run 1 5 pb_line_of
/-- greedy_counts: width pieces counts first stop -/
def pb_greedy_counts : PSt := (sSeq (sSet 2 (pLst pNil))
 (sSeq (sSetK 3 (pC (.int 0)))
 (sSeq (sWhile (pB (pOp oLt (pVar 3) (pUn oLen (pVar 1)))) (sSeq (sSetK 4 (pOp oAdd (pVar 3) (pC (.int 1))))
 (sSeq (sWhile (pAnd (pB (pOp oLt (pVar 4) (pUn oLen (pVar 1)))) (pB (pOp oLe (pUn oLen (pCall pf_line_of (pCons (pSl (pVar 1) (pPart (pVar 3)) (pPart (pOp oAdd (pVar 4) (pC (.int 1))))) pNil))) (pVar 0)))) (sAug 4 oAddI (pC (.int 1))))
 (sSeq (sApp 2 (pOp oSub (pVar 4) (pVar 3)))
 (sSetK 3 (pVar 4))))))
 (sRetV 2))))
def pf_greedy_counts : Fn := run 2 5 pb_greedy_counts
/-- lines_by: pieces counts lines first count -/
def pb_lines_by : PSt := (sSeq (sSet 2 (pLst pNil))
 (sSeq (sSetK 3 (pC (.int 0)))
 (sSeq (sFor (iLst (pVar 1)) (gSet 4) (sSeq (sApp 2 (pCall pf_line_of (pCons (pSl (pVar 0) (pPart (pVar 3)) (pPart (pOp oAdd (pVar 3) (pVar 4)))) pNil)))
 (sAug 3 oAddI (pVar 4))))
 (sRetV 2))))
def pf_lines_by : Fn := run 2 5 pb_lines_by
/-- ask: good code -/
def pb_ask : PSt := (sIf (pNot (pB (pVar 0))) (sRefuse (pVar 1)) sNext)
def pf_ask : Fn := run 2 2 pb_ask
/-- check_width: width -/
def pb_check_width : PSt := (sDrop (pCall pf_ask (pCons (pChain oLe oLe (pC (.int 10)) (pVar 0) (pC (.int 80))) (pCons (pC (.int (-22))) pNil))))
def pf_check_width : Fn := run 1 1 pb_check_width
/-- text_in: numbers signs -/
def pb_text_in : PSt := (sSeq (sSetK 1 (pCall pf_decoded (pCons (pVar 0) pNil)))
 (sSeq (sDrop (pCall pf_ask (pCons (pUn (oIsN true) (pVar 1)) (pCons (pC (.int (-24))) pNil))))
 (sRetV 1)))
def pf_text_in : Fn := run 1 2 pb_text_in
/-- patterns_in: numbers patterns -/
def pb_patterns_in : PSt := (sSeq (sSetK 1 (pCall pf_read_patterns (pCons (pCall pf_text_in (pCons (pVar 0) pNil)) pNil)))
 (sSeq (sDrop (pCall pf_ask (pCons (pUn (oIsN true) (pVar 1)) (pCons (pC (.int (-21))) pNil))))
 (sRetV 1)))
def pf_patterns_in : Fn := run 1 2 pb_patterns_in
/-- text_answer: lines numbers -/
def pb_text_answer : PSt := (sSeq (sSetK 1 (pCall pf_encoded (pCons (pCall pf_joined (pCons (pVar 0) (pCons (pLst (pCons (pC (.int 10)) pNil)) pNil))) pNil)))
 (sRet (pOp oAdd (pLst (pCons (pUn oLen (pVar 1)) pNil)) (pVar 1))))
def pf_text_answer : Fn := run 1 2 pb_text_answer
/-- pieces_in: width patterns text found -/
def pb_pieces_in : PSt := (sSeq (sDrop (pCall pf_check_width (pCons (pVar 0) pNil)))
 (sSeq (sSetK 3 (pCall pf_patterns_in (pCons (pVar 1) pNil)))
 (sRet (pCall pf_pieces_of (pCons (pVar 3) (pCons (pCall pf_text_in (pCons (pVar 2) pNil)) pNil))))))
def pf_pieces_in : Fn := run 3 4 pb_pieces_in
/-- greedy_text: width patterns text pieces refusal -/
def pb_greedy_text : PSt := (sTryRef (sSeq (sSetK 3 (pCall pf_pieces_in (pCons (pVar 0) (pCons (pVar 1) (pCons (pVar 2) pNil)))))
 (sRet (pCall pf_text_answer (pCons (pCall pf_lines_by (pCons (pVar 3) (pCons (pCall pf_greedy_counts (pCons (pVar 0) (pCons (pVar 3) pNil))) pNil))) pNil)))))
def pf_greedy_text : Fn := run 3 5 pb_greedy_text
/-- line_cost: width pieces is_last many cost -/
def pb_line_cost : PSt := (sSeq (sSetK 3 (pUn oLen (pCall pf_line_of (pCons (pVar 1) pNil))))
 (sSeq (sIf (pAnd (pB (pOp oGt (pVar 3) (pVar 0))) (pB (pOp oGt (pUn oLen (pVar 1)) (pC (.int 1))))) (sRet (pC .non)) sNext)
 (sSeq (sSetK 4 (pOp oMul (pC (.int 10000)) (pOp oSub (pVar 3) (pVar 0))))
 (sSeq (sIf (pB (pOp oLe (pVar 3) (pVar 0))) (sSetK 4 (pIf (pB (pVar 2)) (pC (.int 0)) (pOp oMul (pOp oSub (pVar 0) (pVar 3)) (pOp oSub (pVar 0) (pVar 3))))) sNext)
 (sRet (pIf (pB (pOp (oEq false) (pAttr (ixc 1 1) (pOp oIx (pVar 1) (pUn oNeg (pC (.int 1))))) (pC (.int 2)))) (pOp oAdd (pVar 4) (pC (.int 50))) (pVar 4)))))))
def pf_line_cost : Fn := run 3 5 pb_line_cost
/-- cost_by: width pieces counts whole first count stop own -/
def pb_cost_by : PSt := (sSeq (sDrop (pCall pf_ask (pCons (pAndV (pOp (oEq false) (pUn bSum (pVar 2)) (pUn oLen (pVar 1))) (pOp (oIn true) (pC (.int 0)) (pVar 2))) (pCons (pC (.int (-33))) pNil))))
 (sSeq (sSetK 3 (pC (.int 0)))
 (sSeq (sSetK 4 (pC (.int 0)))
 (sSeq (sFor (iLst (pVar 2)) (gSet 5) (sSeq (sSetK 6 (pOp oAdd (pVar 4) (pVar 5)))
 (sSeq (sSetK 7 (pCall pf_line_cost (pCons (pVar 0) (pCons (pSl (pVar 1) (pPart (pVar 4)) (pPart (pVar 6))) (pCons (pOp (oEq false) (pVar 6) (pUn oLen (pVar 1))) pNil)))))
 (sSeq (sDrop (pCall pf_ask (pCons (pUn (oIsN true) (pVar 7)) (pCons (pC (.int (-33))) pNil))))
 (sSeq (sAug 3 oAddI (pVar 7))
 (sSetK 4 (pVar 6)))))))
 (sRetV 3)))))
def pf_cost_by : Fn := run 3 8 pb_cost_by
/-- cost_of: width patterns text counts refusal -/
def pb_cost_of : PSt := (sTryRef (sRet (pLst (pCons (pCall pf_cost_by (pCons (pVar 0) (pCons (pCall pf_pieces_in (pCons (pVar 0) (pCons (pVar 1) (pCons (pVar 2) pNil)))) (pCons (pVar 3) pNil)))) pNil))))
def pf_cost_of : Fn := run 4 5 pb_cost_of
/-- divided_at: signs mark parts part sign -/
def pb_divided_at : PSt := (sSeq (sSet 2 (pLst pNil))
 (sSeq (sSet 3 (pLst pNil))
 (sSeq (sFor (iLst (pVar 0)) (gSet 4) (sIf (pB (pOp (oEq false) (pVar 4) (pVar 1))) (sSeq (sFrz [3] (sApp 2 (pVar 3)))
 (sSet 3 (pLst pNil))) (sApp 3 (pVar 4))))
 (sSeq (sFrz [3] (sApp 2 (pVar 3)))
 (sRetV 2)))))
def pf_divided_at : Fn := run 2 5 pb_divided_at
/-- justified_line: signs width words gaps spaces word found at -/
def pb_justified_line : PSt := (sSeq (sSetK 2 (pCall pf_words_of (pCons (pVar 0) pNil)))
 (sSeq (sSetK 3 (pOp oSub (pUn oLen (pVar 2)) (pC (.int 1))))
 (sSeq (sSetK 4 (pOp oSub (pVar 1) (pUn bSum (pLc [5] (iLstR (pVar 2)) (gSet 5) (pNoxT pYes) (pNoxE (pUn oLen (pVar 5)))))))
 (sSeq (sIf (pOr (pB (pOp oLt (pVar 3) (pC (.int 1)))) (pB (pOp oLt (pVar 4) (pVar 3)))) (sRet (pUn bList (pVar 0))) sNext)
 (sSeq (sSet 6 (pLst pNil))
 (sSeq (sFor (iEnum (pVar 2)) (gTup' 2 (gCons' (gSet 7) (gCons' (gSet 5) gNil'))) (sSeq (sExt 6 (pVar 5))
 (sIf (pB (pOp oLt (pVar 7) (pVar 3))) (sExt 6 (pOp oMul (pLst (pCons (pC (.int 32)) pNil)) (pOp oAdd (pOp oDiv (pVar 4) (pVar 3)) (pUn bInt (pOp oLt (pVar 7) (pOp oMod (pVar 4) (pVar 3))))))) sNext)))
 (sRetV 6)))))))
def pf_justified_line : Fn := run 2 8 pb_justified_line
/-- justify: width text refusal line -/
def pb_justify : PSt := (sTryRef (sSeq (sDrop (pCall pf_check_width (pCons (pVar 0) pNil)))
 (sRet (pCall pf_text_answer (pCons (pLc [3] (iLstR (pCall pf_divided_at (pCons (pCall pf_text_in (pCons (pVar 1) pNil)) (pCons (pC (.int 10)) pNil)))) (gSet 3) (pNoxT pYes) (pNoxE (pCall pf_justified_line (pCons (pVar 3) (pCons (pVar 0) pNil))))) pNil)))))
def pf_justify : Fn := run 2 4 pb_justify
/-- list_answer: numbers -/
def pb_list_answer : PSt := (sRet (pOp oAdd (pLst (pCons (pUn oLen (pVar 0)) pNil)) (pVar 0)))
def pf_list_answer : Fn := run 1 1 pb_list_answer
/-- hyphenate: patterns word found refusal -/
def pb_hyphenate : PSt := (sTryRef (sSeq (sSetK 2 (pCall pf_patterns_in (pCons (pVar 0) pNil)))
 (sRet (pCall pf_list_answer (pCons (pCall pf_positions_of (pCons (pVar 2) (pCons (pCall pf_text_in (pCons (pVar 1) pNil)) pNil))) pNil)))))
def pf_hyphenate : Fn := run 2 4 pb_hyphenate
/-- parts_from: counts found at -/
def pb_parts_from : PSt := (sSeq (sSet 1 (pLst pNil))
 (sSeq (sSetK 2 (pC (.int 0)))
 (sSeq (sWhile (pB (pOp oLt (pVar 2) (pUn oLen (pVar 0)))) (sSeq (sApp 1 (pOp oIx (pVar 0) (pVar 2)))
 (sAug 2 oAddI (pOp oIx (pVar 0) (pVar 2)))))
 (sRetV 1))))
def pf_parts_from : Fn := run 1 3 pb_parts_from
/-- best_division: many cost_of costs counts first best stop cost -/
def pb_best_division (G : Nat → Fn) : PSt := (sSeq (sSet 2 (pOp oMul (pLst (pCons (pC (.int 0)) pNil)) (pOp oAdd (pVar 0) (pC (.int 1)))))
 (sSeq (sSet 3 (pOp oMul (pLst (pCons (pC (.int 0)) pNil)) (pVar 0)))
 (sSeq (sFor (iRevR1 (pVar 0)) (gSet 4) (sSeq (sSetK 5 (pC .non))
 (sSeq (sFor (iRng2 (pOp oAdd (pVar 4) (pC (.int 1))) (pOp oAdd (pVar 0) (pC (.int 1)))) (gSet 6) (sSeq (sSetK 7 (pCallC 1 G (pCons (pVar 4) (pCons (pVar 6) pNil))))
 (sSeq (sIf (pB (pUn (oIsN false) (pVar 7))) sBreak sNext)
 (sIf (pOr (pB (pUn (oIsN false) (pVar 5))) (pB (pOp oLe (pOp oAdd (pVar 7) (pOp oIx (pVar 2) (pVar 6))) (pVar 5)))) (sSeq (sSetK 5 (pOp oAdd (pVar 7) (pOp oIx (pVar 2) (pVar 6))))
 (sPut 3 (pVar 4) (pOp oSub (pVar 6) (pVar 4)))) sNext))))
 (sPut 2 (pVar 4) (pVar 5)))))
 (sFrz [3] (sRet (pTup (pCons (pOp oIx (pVar 2) (pC (.int 0))) (pCons (pCall pf_parts_from (pCons (pVar 3) pNil)) pNil))))))))
def pf_best_division (G : Nat → Fn) : Fn := run 2 8 (pb_best_division G)
/-- best_lines_cost_of: first stop width pieces -/
def pb_best_lines_cost_of : PSt := (sRet (pCall pf_line_cost (pCons (pVar 2) (pCons (pSl (pVar 3) (pPart (pVar 0)) (pPart (pVar 1))) (pCons (pOp (oEq false) (pVar 1) (pUn oLen (pVar 3))) pNil)))))
def pf_best_lines_cost_of : Fn := run 4 4 pb_best_lines_cost_of
/-- what an inner def does, by its kind -/
def pG : Nat → Fn := fun k => match k with
  | 0 => pf_best_lines_cost_of
  | _ => fun _ => .bad
/-- best_lines: width pieces cost_of -/
def pb_best_lines : PSt := (sSeq (sClo 2 0 [0, 1])
 (sRet (pCallB 0 (pf_best_division pG) (pUn oLen (pVar 1)) 2 [0, 1])))
def pf_best_lines : Fn := run 2 3 pb_best_lines
/-- cost: width patterns text pieces least counts refusal -/
def pb_cost : PSt := (sTryRef (sSeq (sSetK 3 (pCall pf_pieces_in (pCons (pVar 0) (pCons (pVar 1) (pCons (pVar 2) pNil)))))
 (sSeq (sSetT (gTup' 2 (gCons' (gSet 4) (gCons' (gSet 5) gNil'))) (pCall pf_best_lines (pCons (pVar 0) (pCons (pVar 3) pNil))))
 (sRet (pLst (pCons (pVar 4) (pCons (pUn oLen (pVar 5)) pNil)))))))
def pf_cost : Fn := run 3 7 pb_cost
/-- break_text: width patterns text pieces refusal -/
def pb_break_text : PSt := (sTryRef (sSeq (sSetK 3 (pCall pf_pieces_in (pCons (pVar 0) (pCons (pVar 1) (pCons (pVar 2) pNil)))))
 (sRet (pCall pf_text_answer (pCons (pCall pf_lines_by (pCons (pVar 3) (pCons (pOp oIx (pCall pf_best_lines (pCons (pVar 0) (pCons (pVar 3) pNil))) (pC (.int 1))) pNil))) pNil)))))
def pf_break_text : Fn := run 3 5 pb_break_text
end PF
/-! Equations by which the pure denotations are run. -/
namespace PW
open PySem (Str)
section
variable {α β : Type} {r : Env} {i j : Nat} {d e x y z : D} {a b c : PEx} {l m : List D}
@[simp] theorem fl_bind (q : R α) (f : α → R β) (g : β → Fl) : (q.bind f).fl g = q.fl fun u => (f u).fl g := by cases q <;> rfl
@[simp] theorem pVar_eq : pVar i r = match r[i]? with | some (.va d) => .ok (.cl d) | some (.ow l) => .ok (.li false l) | _ => .bad := nrfl rfl
@[simp] theorem pC_eq : pC d r = .ok (.cl d) := nrfl rfl
@[simp] theorem pOp_eq {f : D → D → R E} : pOp f a b r = (a r).bind fun x => (b r).bind fun y => f x.rd y.rd := nrfl rfl
@[simp] theorem pUn_eq {f : D → R E} : pUn f a r = (a r).bind fun x => f x.rd := nrfl rfl
@[simp] theorem oAdd_int {i j : Int} : oAdd (.int i) (.int j) = .ok (.cl (.int (i + j))) := nrfl rfl
@[simp] theorem oAdd_lst : oAdd (.lst l) (.lst m) = if l.length + m.length ≤ line then .ok (.li true (l ++ m)) else .bad := nrfl rfl
@[simp] theorem oAddI_int {i j : Int} : oAddI (.int i) (.int j) = .ok (.cl (.int (i + j))) := nrfl rfl
@[simp] theorem oSub_int {i j : Int} : oSub (.int i) (.int j) = .ok (.cl (.int (i - j))) := nrfl rfl
@[simp] theorem oNeg_int {i : Int} : oNeg (.int i) = .ok (.cl (.int (-i))) := nrfl rfl
theorem oMul_int {i j : Int} (h : (-(2 ^ 64) < i ∧ i < 2 ^ 64) ∨ (-(2 ^ 64) < j ∧ j < 2 ^ 64)) : oMul (.int i) (.int j) = .ok (.cl (.int (i * j))) := by
  have z : (small64 i || small64 j) = true := by
    unfold small64
    rcases h with ⟨h1, h2⟩ | ⟨h1, h2⟩
    · simp only [decide_eq_true h1, decide_eq_true h2, Bool.and_self, Bool.true_or]
    · simp only [decide_eq_true h1, decide_eq_true h2, Bool.and_self, Bool.or_true]
  show (if (small64 i || small64 j) = true then _ else _) = _
  rw [if_pos z]
theorem oMul_lst {k : Int} {n : Nat} (h : k = (n : Int)) (h2 : n < 2 ^ 63) (h3 : l.length * n ≤ line) : oMul (.lst l) (.int k) = .ok (.li true (List.replicate n l).flatten) := by
  subst h
  unfold oMul
  have e : ((n : Int)).toNat = n := Int.toNat_natCast n
  simp only [e]
  rw [if_pos]
  exact ⟨by omega, by omega, h3⟩
theorem oDiv_int {i j : Int} (h : 0 < j) (h2 : j < 1073741824) : oDiv (.int i) (.int j) = .ok (.cl (.int (i / j))) := if_pos ⟨h, h2⟩
theorem oMod_int {i j : Int} (h : 0 < j) : oMod (.int i) (.int j) = .ok (.cl (.int (i % j))) := if_pos h
@[simp] theorem oCmp_int {p : Int → Int → Bool} {i j : Int} : oCmp p (.int i) (.int j) = .ok (.cl (.bl (p i j))) := nrfl rfl
@[simp] theorem oEq_int {n : Bool} {i j : Int} : oEq n (.int i) (.int j) = .ok (.cl (.bl (if n then !decide (i = j) else decide (i = j)))) := nrfl rfl
@[simp] theorem oEq_nonint {n : Bool} {j : Int} : oEq n .non (.int j) = .ok (.cl (.bl n)) := by cases n <;> rfl
@[simp] theorem oEq_intnon {n : Bool} {j : Int} : oEq n (.int j) .non = .ok (.cl (.bl n)) := by cases n <;> rfl
@[simp] theorem oEq_nil {n : Bool} : oEq n (.lst l) (.lst []) = .ok (.cl (.bl (if n then !l.isEmpty else l.isEmpty))) := nrfl rfl
@[simp] theorem oIsN_eq {n : Bool} : oIsN n d = .ok (.cl (.bl (if n then !d.isNon else d.isNon))) := nrfl rfl
@[simp] theorem isNon_non : D.non.isNon = true := nrfl rfl
@[simp] theorem isNon_int {i : Int} : (D.int i).isNon = false := nrfl rfl
@[simp] theorem isNon_lst : (D.lst l).isNon = false := nrfl rfl
@[simp] theorem isNon_ob {n : Nat} : (D.ob n l).isNon = false := nrfl rfl
@[simp] theorem isNon_str {s : Str} : (D.str s).isNon = false := nrfl rfl
@[simp] theorem oLen_lst : oLen (.lst l) = .ok (.cl (.int (l.length : Nat))) := nrfl rfl
@[simp] theorem oLen_tup : oLen (.tup l) = .ok (.cl (.int (l.length : Nat))) := nrfl rfl
@[simp] theorem oLen_arg : oLen (.arg l) = .ok (.cl (.int (l.length : Nat))) := nrfl rfl
theorem ixOf_nat {n k : Nat} (h : k < n) : ixOf n (k : Int) = some k := by
  unfold ixOf
  rw [if_pos (by omega), if_pos (by omega), Int.toNat_natCast]
theorem oIx_lst {k : Nat} {i : Int} (h : l[k]? = some d) (e : i = (k : Int)) : oIx (.lst l) (.int i) = .ok (.cl d) := by
  subst e
  have hk : k < l.length := (List.getElem?_eq_some_iff.mp h).1
  show (match (ixOf l.length (k : Int)).bind fun j => l[j]? with | some d => R.ok (E.cl d) | none => .bad) = _
  rw [ixOf_nat hk]
  show (match l[k]? with | some d => R.ok (E.cl d) | none => .bad) = _
  rw [h]
theorem oIx_arg {k : Nat} {i : Int} (h : l[k]? = some d) (e : i = (k : Int)) : oIx (.arg l) (.int i) = .ok (.cl d) := by
  subst e
  have hk : k < l.length := (List.getElem?_eq_some_iff.mp h).1
  show (match (ixOf l.length (k : Int)).bind fun j => l[j]? with | some d => R.ok (E.cl d) | none => .bad) = _
  rw [ixOf_nat hk]
  show (match l[k]? with | some d => R.ok (E.cl d) | none => .bad) = _
  rw [h]
/-- lists, as they are read -/
structure Sq (S : List D → D) : Prop where
  len : ∀ l, oLen (S l) = .ok (.cl (.int (l.length : Nat)))
  ix : ∀ (l : List D) (k : Nat) (i : Int) (d : D), l[k]? = some d → i = (k : Int) → oIx (S l) (.int i) = .ok (.cl d)
theorem sqL : Sq D.lst := ⟨fun _ => rfl, fun _ _ _ _ h e => oIx_lst h e⟩
theorem sqA : Sq D.arg := ⟨fun _ => rfl, fun _ _ _ _ h e => oIx_arg h e⟩
theorem oIx_tup {k : Nat} {i : Int} (h : l[k]? = some d) (e : i = (k : Int)) : oIx (.tup l) (.int i) = .ok (.cl d) := by
  subst e
  have hk : k < l.length := (List.getElem?_eq_some_iff.mp h).1
  show (match (ixOf l.length (k : Int)).bind fun j => l[j]? with | some d => R.ok (E.cl d) | none => .bad) = _
  rw [ixOf_nat hk]
  show (match l[k]? with | some d => R.ok (E.cl d) | none => .bad) = _
  rw [h]
theorem oIx_last {n : Nat} (h : l[n]? = some d) (e : l.length = n + 1) : oIx (.lst l) (.int (-1)) = .ok (.cl d) := by
  show (match (ixOf l.length (-1)).bind fun j => l[j]? with | some d => R.ok (E.cl d) | none => .bad) = _
  have : ixOf l.length (-1) = some n := by
    unfold ixOf
    rw [if_neg (by omega), if_pos (by omega)]
    congr 1
    omega
  rw [this]
  show (match l[n]? with | some d => R.ok (E.cl d) | none => .bad) = _
  rw [h]
@[simp] theorem pNoPart_eq : pNoPart r = .ok none := nrfl rfl
@[simp] theorem pPart_eq : pPart a r = (a r).bind fun x => match x.rd with | .int i => .ok (some i) | _ => .bad := nrfl rfl
@[simp] theorem pSl_eq {lo hi : PPart} : pSl a lo hi r = (a r).bind fun x => (lo r).bind fun i => (hi r).bind fun j => match x.rd with | .lst l => .ok (.li true (cut l i j)) | _ => .bad := nrfl rfl
@[simp] theorem pB_eq : pB a r = (a r).bind fun x => match x.rd with | .bl b => .ok b | _ => .bad := nrfl rfl
@[simp] theorem pNot_eq {t : PTe} : pNot t r = (t r).bind fun b => .ok (!b) := nrfl rfl
@[simp] theorem pAnd_eq {t u : PTe} : pAnd t u r = (t r).bind fun x => if x then u r else .ok false := nrfl rfl
@[simp] theorem pOr_eq {t u : PTe} : pOr t u r = (t r).bind fun x => if x then .ok true else u r := nrfl rfl
@[simp] theorem pChain_eq {f g : D → D → R E} : pChain f g a b c r = (a r).bind fun x => (b r).bind fun y => (f x.rd y.rd).bind fun z => match z.rd with | .bl true => (c r).bind fun u => g y.rd u.rd | .bl false => .ok (.cl (.bl false)) | _ => .bad := nrfl rfl
@[simp] theorem pAndV_eq : pAndV a b r = (a r).bind fun x => match x.rd with | .bl true => b r | .bl false => .ok (.cl (.bl false)) | _ => .bad := nrfl rfl
@[simp] theorem pOrV_eq : pOrV a b r = (a r).bind fun x => match x.rd with | .bl true => .ok (.cl (.bl true)) | .bl false => b r | _ => .bad := nrfl rfl
@[simp] theorem oNot_eq {k : Bool} : oNot (.bl k) = .ok (.cl (.bl (!k))) := nrfl rfl
@[simp] theorem pIf_eq {t : PTe} : pIf t a b r = (t r).bind fun x => if x then a r else b r := nrfl rfl
@[simp] theorem pNil_eq : pNil r = .ok [] := nrfl rfl
@[simp] theorem pCons_eq {p : PAr} : pCons a p r = (a r).bind fun x => x.keep.bind fun d => (p r).bind fun l => .ok (d :: l) := nrfl rfl
@[simp] theorem pConsR_eq {p : PAr} : pConsR a p r = (a r).bind fun x => (p r).bind fun l => .ok (x.rd :: l) := nrfl rfl
@[simp] theorem pLst_eq {p : PAr} : pLst p r = (p r).bind fun l => if l.length ≤ line then .ok (.li true l) else .bad := nrfl rfl
@[simp] theorem pTup_eq {p : PAr} : pTup p r = (p r).bind fun l => if l.length ≤ line then .ok (.cl (.tup l)) else .bad := nrfl rfl
@[simp] theorem pCall_eq {F : Fn} {p : PAr} : pCall F p r = (p r).bind F := nrfl rfl
@[simp] theorem pMake_eq {c n : Nat} {p : PAr} : pMake c n p r = (p r).bind fun l => if l.length = n then .ok (.cl (.ob c l)) else .bad := nrfl rfl
@[simp] theorem pMeth_eq {c : Nat} {F : Fn} {p : PAr} : pMeth c F a p r = (a r).bind fun x => match x with
  | .cl (.ob c' l) => if c' = c then (p r).bind fun as => F (.ob c' l :: as) else .bad
  | _ => .bad := nrfl rfl
@[simp] theorem pAttr_eq {ix : Nat → Option Nat} : pAttr ix a r = (a r).bind fun x => match x with
  | .cl (.ob c l) => match (ix c).bind fun i => l[i]? with
    | some d => .ok (.cl d)
    | none => .bad
  | _ => .bad := nrfl rfl
@[simp] theorem bMax2_eq {i j : Int} : bMax2 (.int i) (.int j) = .ok (.cl (.int (if j > i then j else i))) := nrfl rfl
@[simp] theorem bMin2_eq {i j : Int} : bMin2 (.int i) (.int j) = .ok (.cl (.int (if j < i then j else i))) := nrfl rfl
@[simp] theorem bInt_int {i : Int} : bInt (.int i) = .ok (.cl (.int i)) := nrfl rfl
@[simp] theorem bInt_bl {k : Bool} : bInt (.bl k) = .ok (.cl (.int (if k then 1 else 0))) := nrfl rfl
@[simp] theorem bList_eq : bList (.lst l) = .ok (.li true l) := nrfl rfl
@[simp] theorem ints?_map (ns : List Int) : ints? (ns.map D.int) = some ns := by
  induction ns with
  | nil => rfl
  | cons n r ih => simp [ints?, ih]
@[simp] theorem bools?_map (ns : List Bool) : bools? (ns.map D.bl) = some ns := by
  induction ns with
  | nil => rfl
  | cons n r ih => simp [bools?, ih]
theorem bSum_eq (ns : List Int) : bSum (.lst (ns.map D.int)) = .ok (.cl (.int ns.sum)) := by simp [bSum]
theorem bAll_eq (ns : List Bool) : bAll (.lst (ns.map D.bl)) = .ok (.cl (.bl (ns.all id))) := by simp [bAll]
@[simp] theorem gSet_eq : gSet i d r = .ok (r.set i (.va d)) := nrfl rfl
@[simp] theorem gNil'_eq : gNil' [] r = .ok r := nrfl rfl
@[simp] theorem gCons'_eq {g : PTg} {h : List D → Env → R Env} : gCons' g h (d :: l) r = (g d r).bind fun r1 => h l r1 := nrfl rfl
@[simp] theorem gTup'_eq {n : Nat} {h : List D → Env → R Env} : gTup' n h (.tup l) r = if l.length = n then h l r else .bad := nrfl rfl
@[simp] theorem iLst_eq : iLst a r = (a r).bind fun x => x.keep.bind fun d => match d with | .lst l => .ok l | .arg l => .ok l | _ => .bad := nrfl rfl
@[simp] theorem iLstR_eq : iLstR a r = (a r).bind fun x => match x.rd with | .lst l => .ok l | .arg l => .ok l | _ => .bad := nrfl rfl
@[simp] theorem iEnum_eq : iEnum a r = (a r).bind fun x => x.keep.bind fun d => match d with | .lst l => .ok (enumL 0 l) | _ => .bad := nrfl rfl
@[simp] theorem iZip_eq : iZip a b r = (a r).bind fun x => x.keep.bind fun d => (b r).bind fun y => y.keep.bind fun e => match d, e with | .lst l, .lst m => .ok (zipL l m) | _, _ => .bad := nrfl rfl
@[simp] theorem iRng1_eq : iRng1 a r = (a r).bind fun x => match x.rd with | .int n => if r62 n then .ok (rangeL 0 n) else .bad | _ => .bad := nrfl rfl
@[simp] theorem iRng2_eq : iRng2 a b r = (a r).bind fun x => (b r).bind fun y => match x.rd, y.rd with | .int n, .int m => if r62 n && r62 m then .ok (rangeL n m) else .bad | _, _ => .bad := nrfl rfl
@[simp] theorem iRevR1_eq : iRevR1 a r = (a r).bind fun x => match x.rd with | .int n => if r62 n then .ok ((rangeL 0 n).reverse) else .bad | _ => .bad := nrfl rfl
theorem r62_nat {n : Nat} {i : Int} (e : i = (n : Int)) (h : n < 2 ^ 62) : r62 i = true := by
  unfold r62
  rw [Bool.and_eq_true, decide_eq_true_eq, decide_eq_true_eq]
  omega
theorem r62_int {i : Int} (h1 : -(2 ^ 62) ≤ i) (h2 : i < 2 ^ 62) : r62 i = true := by
  unfold r62
  rw [Bool.and_eq_true, decide_eq_true_eq, decide_eq_true_eq]
  exact ⟨h1, h2⟩
@[simp] theorem wipe_nil' : wipe r [] = r := nrfl rfl
@[simp] theorem wipe_cons' {v : Nat} {vs : List Nat} : wipe r (v :: vs) = (wipe r vs).set v .un := nrfl rfl
@[simp] theorem lcLoop_nil {g : PTg} {t : PTe} {acc : List D} : lcLoop g t a r [] acc = .ok (.li true acc) := nrfl rfl
@[simp] theorem lcLoop_cons {g : PTg} {t : PTe} {acc : List D} : lcLoop g t a r (d :: l) acc = (g d r).bind fun r1 => (t r1).bind fun b => if b then (a r1).bind fun x => x.keep.bind fun y => if acc.length < line then lcLoop g t a r l (acc ++ [y]) else .bad
    else lcLoop g t a r l acc := nrfl rfl
@[simp] theorem pLc_eq {vs : List Nat} {it : PIt} {g : PTg} {t : PTe} : pLc vs it g t a r = (it r).bind fun l => lcLoop g t a (wipe r vs) l [] := nrfl rfl
@[simp] theorem pYes_eq : pYes r = .ok true := nrfl rfl
@[simp] theorem nox_ok {q : α} : (R.ok q).nox = .ok q := nrfl rfl
@[simp] theorem pNoxE_eq : pNoxE a r = (a r).nox := nrfl rfl
@[simp] theorem pNoxT_eq {t : PTe} : pNoxT t r = (t r).nox := nrfl rfl
/-- a comprehension without tests, each element a value -/
theorem lc_map {γ : Type} {g : PTg} {t : PTe} {f : γ → D} {h : γ → D} : ∀ (l : List γ) (acc : List D), (∀ x ∈ l, ∃ r1, g (f x) r = .ok r1 ∧ t r1 = .ok true ∧ ∃ z, a r1 = .ok z ∧ z.keep = .ok (h x)) → acc.length + l.length ≤ line → lcLoop g t a r (l.map f) acc = .ok (.li true (acc ++ l.map h))
  | [], acc, _, _ => by simp
  | x :: l, acc, H, hl => by
    obtain ⟨r1, h1, h2, z, h3, h4⟩ := H x (by simp)
    have ih := lc_map l (acc ++ [h x]) (fun y hy => H y (by simp [hy])) (by simp at hl ⊢; omega)
    rw [List.map_cons, lcLoop_cons, h1]
    simp only [R.bind_ok, h2, if_true, h3, h4]
    rw [if_pos (by simp at hl; omega), ih]
    simp
/-- .. with a test -/
theorem lc_filter {γ : Type} {g : PTg} {t : PTe} {f : γ → D} {h : γ → D} {p : γ → Bool} : ∀ (l : List γ) (acc : List D), (∀ x ∈ l, ∃ r1, g (f x) r = .ok r1 ∧ t r1 = .ok (p x) ∧ (p x = true → ∃ z, a r1 = .ok z ∧ z.keep = .ok (h x))) → acc.length + l.length ≤ line → lcLoop g t a r (l.map f) acc = .ok (.li true (acc ++ (l.filter p).map h))
  | [], acc, _, _ => by simp
  | x :: l, acc, H, hl => by
    obtain ⟨r1, h1, h2, h3⟩ := H x (by simp)
    rw [List.map_cons, lcLoop_cons, h1]
    simp only [R.bind_ok, h2]
    cases q : p x with
    | false =>
      have ih := lc_filter l acc (fun y hy => H y (by simp [hy])) (by simp at hl ⊢; omega)
      simp only [Bool.false_eq_true, if_false]
      rw [ih, List.filter_cons_of_neg (by simp [q])]
    | true =>
      obtain ⟨z, h4, h5⟩ := h3 q
      have ih := lc_filter l (acc ++ [h x]) (fun y hy => H y (by simp [hy])) (by simp at hl ⊢; omega)
      simp only [if_true, R.bind_ok, h4, h5]
      rw [if_pos (by simp at hl; omega), ih, List.filter_cons_of_pos q]
      simp
@[simp] theorem sNext_eq : sNext r = .nx r := nrfl rfl
/-- one behind the other -/
def Fl.seq : Fl → PSt → Fl
  | .nx r, t => t r
  | o, _ => o
@[simp] theorem seq_nx {t : PSt} : (Fl.nx r).seq t = t r := nrfl rfl
@[simp] theorem seq_bk {t : PSt} : (Fl.bk r).seq t = .bk r := nrfl rfl
@[simp] theorem seq_ct {t : PSt} : (Fl.ct r).seq t = .ct r := nrfl rfl
@[simp] theorem seq_rt {e : E} {t : PSt} : (Fl.rt e).seq t = .rt e := nrfl rfl
@[simp] theorem seq_ex {e : Exc} {t : PSt} : (Fl.ex e).seq t = .ex e := nrfl rfl
@[simp] theorem seq_bad {t : PSt} : Fl.bad.seq t = .bad := nrfl rfl
@[simp] theorem sSeq_eq {s t : PSt} : sSeq s t r = (s r).seq t := by
  show (match s r with | .nx r1 => t r1 | o => o) = _
  cases s r <;> rfl
/-- what a def gives by what its body does -/
def Fl.out : Fl → R E
  | .rt e => .ok e
  | .nx _ => .ok (.cl .non)
  | .ex e => .ex e
  | _ => .bad
@[simp] theorem out_nx : (Fl.nx r).out = .ok (.cl .non) := nrfl rfl
@[simp] theorem out_rt {e : E} : (Fl.rt e).out = .ok e := nrfl rfl
@[simp] theorem out_ex {e : Exc} : (Fl.ex e).out = .ex e := nrfl rfl
@[simp] theorem out_bad : Fl.bad.out = .bad := nrfl rfl
theorem run_eq {k n : Nat} {s : PSt} (h : l.length = k) : run k n s l = (s (l.map Sl.va ++ List.replicate (n - k) .un)).out := by
  unfold run
  rw [if_pos h]
  cases s (l.map Sl.va ++ List.replicate (n - k) .un) <;> rfl
@[simp] theorem run_1 {n : Nat} {s : PSt} : run 1 n s [d] = (s (.va d :: List.replicate (n - 1) .un)).out := run_eq rfl
@[simp] theorem run_2 {n : Nat} {s : PSt} : run 2 n s [d, e] = (s (.va d :: .va e :: List.replicate (n - 2) .un)).out := run_eq rfl
@[simp] theorem run_3 {n : Nat} {s : PSt} : run 3 n s [d, e, x] = (s (.va d :: .va e :: .va x :: List.replicate (n - 3) .un)).out := run_eq rfl
@[simp] theorem run_4 {n : Nat} {s : PSt} : run 4 n s [d, e, x, y] = (s (.va d :: .va e :: .va x :: .va y :: List.replicate (n - 4) .un)).out := run_eq rfl
/-- behind a turn of a loop -/
def Fl.turn : Fl → PSt → Fl
  | .nx r, t => t r
  | .ct r, t => t r
  | .bk r, _ => .nx r
  | o, _ => o
@[simp] theorem turn_nx {t : PSt} : (Fl.nx r).turn t = t r := nrfl rfl
@[simp] theorem turn_bk {t : PSt} : (Fl.bk r).turn t = .nx r := nrfl rfl
@[simp] theorem turn_ct {t : PSt} : (Fl.ct r).turn t = t r := nrfl rfl
@[simp] theorem turn_rt {e : E} {t : PSt} : (Fl.rt e).turn t = .rt e := nrfl rfl
@[simp] theorem turn_ex {e : Exc} {t : PSt} : (Fl.ex e).turn t = .ex e := nrfl rfl
@[simp] theorem turn_bad {t : PSt} : Fl.bad.turn t = .bad := nrfl rfl
@[simp] theorem sBreak_eq : sBreak r = .bk r := nrfl rfl
@[simp] theorem sCont_eq : sCont r = .ct r := nrfl rfl
@[simp] theorem sRet_eq : sRet a r = (a r).fl fun x => match x with | .cl d => .rt (.cl d) | .li true l => .rt (.li true l) | .li false _ => .bad := nrfl rfl
@[simp] theorem sRetV_eq : sRetV i r = match r[i]? with | some (.va d) => .rt (.cl d) | some (.ow l) => .rt (.li true l) | _ => .bad := nrfl rfl
@[simp] theorem sRetN_eq : sRetN r = .rt (.cl .non) := nrfl rfl
@[simp] theorem sDrop_eq : sDrop a r = (a r).fl fun _ => .nx r := nrfl rfl
@[simp] theorem sIf_eq {t : PTe} {s u : PSt} : sIf t s u r = (t r).fl fun x => if x then s r else u r := nrfl rfl
@[simp] theorem sSet_eq : sSet i a r = (a r).fl fun x => match x with | .cl d => .nx (r.set i (.va d)) | .li true l => .nx (r.set i (.ow l)) | .li false _ => .bad := nrfl rfl
@[simp] theorem sSetK_eq : sSetK i a r = (a r).fl fun x => x.keep.fl fun d => .nx (r.set i (.va d)) := nrfl rfl
@[simp] theorem sSetT_eq {g : PTg} : sSetT g a r = (a r).fl fun x => x.keep.fl fun d => (g d r).fl fun r1 => .nx r1 := nrfl rfl
@[simp] theorem sAug_eq {f : D → D → R E} : sAug i f a r = match r[i]? with
  | some (.va d) => (a r).fl fun y => (f d y.rd).fl fun z => match z with
    | .cl d => .nx (r.set i (.va d))
    | .li _ _ => .bad
  | _ => .bad := nrfl rfl
@[simp] theorem frz1_eq : frz1 i r = match r[i]? with | some (.ow l) => r.set i (.va (.lst l)) | _ => r := nrfl rfl
@[simp] theorem frz_nil : frz [] r = r := nrfl rfl
@[simp] theorem frz_cons {l : List Nat} : frz (i :: l) r = frz l (frz1 i r) := nrfl rfl
@[simp] theorem sFrz_eq {l : List Nat} {s : PSt} : sFrz l s r = s (frz l r) := nrfl rfl
@[simp] theorem sApp_eq : sApp i a r = match r[i]? with
  | some (.ow _) => (a r).fl fun x => x.keep.fl fun d => match r[i]? with
    | some (.ow l) => if l.length < line then .nx (r.set i (.ow (l ++ [d]))) else .bad
    | _ => .bad
  | _ => .bad := nrfl rfl
@[simp] theorem sExt_eq : sExt i a r = match r[i]? with
  | some (.ow l) => (a r).fl fun x => match x.rd with
    | .lst m => if l.length + m.length ≤ line then .nx (r.set i (.ow (l ++ m))) else .bad
    | _ => .bad
  | _ => .bad := nrfl rfl
@[simp] theorem sPut_eq : sPut i a b r = match r[i]? with
  | some (.ow l) => (b r).fl fun x => x.keep.fl fun d => (a r).fl fun y => match y.rd with
    | .int z => match ixOf l.length z with
      | some j => .nx (r.set i (.ow (l.set j d)))
      | none => .bad
    | _ => .bad
  | _ => .bad := nrfl rfl
theorem forL_nil {g : PTg} {s : PSt} : forL g s [] r = .nx r := rfl
theorem forL_cons {g : PTg} {s : PSt} : forL g s (d :: l) r = (g d r).fl fun r1 => (s r1).turn (forL g s l) := by
  show ((g d r).fl fun r1 => match s r1 with
    | .nx r2 => forL g s l r2
    | .ct r2 => forL g s l r2
    | .bk r2 => .nx r2
    | o => o) = _
  congr 1
  funext r1
  cases s r1 <;> rfl
@[simp] theorem sFor_eq {it : PIt} {g : PTg} {s : PSt} : sFor it g s r = (it r).fl fun l => forL g s l r := nrfl rfl
theorem whileN_succ {t : PTe} {s : PSt} {n : Nat} : whileN t s (n + 1) r = (t r).fl fun x => if x then (s r).turn (whileN t s n) else .nx r := by
  show ((t r).fl fun x => if x then match s r with
    | .nx r2 => whileN t s n r2
    | .ct r2 => whileN t s n r2
    | .bk r2 => .nx r2
    | o => o
    else .nx r) = _
  congr 1
  funext x
  cases s r <;> rfl
@[simp] theorem sWhile_eq {t : PTe} {s : PSt} : sWhile t s r = whileN t s fuel r := nrfl rfl
@[simp] theorem sRefuse_eq : sRefuse a r = (a r).fl fun x => x.keep.fl fun d => .ex (.refused d) := nrfl rfl
/-- a for that folds: enc tells the slots by the state -/
theorem forL_fold {γ δ : Type} {g : PTg} {s : PSt} {f : γ → D} (enc : δ → Env) (step : δ → γ → δ) (I : List γ → δ → Prop) (hI : ∀ x l q, I (x :: l) q → I l (step q x)) (h : ∀ x l q, I (x :: l) q → ∃ r1, g (f x) (enc q) = .ok r1 ∧ s r1 = .nx (enc (step q x))) :
    ∀ (l : List γ) (q : δ), I l q → forL g s (l.map f) (enc q) = .nx (enc (l.foldl step q))
  | [], q, _ => rfl
  | x :: l, q, hq => by
    obtain ⟨r1, h1, h2⟩ := h x l q hq
    rw [List.map_cons, forL_cons, h1]
    simp only [R.fl_ok, h2, turn_nx]
    exact forL_fold enc step I hI h l _ (hI x l q hq)
end
end PW
namespace PL
open PW PF
def nI (n : Nat) : D := .int (n : Int)
def nL (l : List Nat) : D := .lst (l.map nI)
@[simp] theorem nI_isNon (n : Nat) : (nI n).isNon = false := rfl
@[simp] theorem nL_isNon (l : List Nat) : (nL l).isNon = false := rfl
def sizeBy (n : Nat) : Nat := if n < 128 then 1 else if 192 ≤ n ∧ n < 224 then 2 else if 224 ≤ n ∧ n < 240 then 3 else if 240 ≤ n ∧ n < 248 then 4 else 0
theorem size_by_eq (n : Nat) : pf_size_by [nI n] = .ok (.cl (nI (sizeBy n))) := by
  unfold pf_size_by pb_size_by sizeBy nI
  by_cases h1 : n < 128
  · have q1 : (n : Int) < 128 := by omega
    simp [h1, q1]
  have q1 : ¬ (n : Int) < 128 := by omega
  by_cases h2 : 192 ≤ n
  · have q2 : 192 ≤ (n : Int) := by omega
    by_cases h3 : n < 224
    · have q3 : (n : Int) < 224 := by omega
      simp [h1, h2, h3, q1, q2, q3]
    have q3 : ¬ (n : Int) < 224 := by omega
    have q4 : 224 ≤ (n : Int) := by omega
    have h4 : 224 ≤ n := by omega
    by_cases h5 : n < 240
    · have q5 : (n : Int) < 240 := by omega
      simp [h1, h2, h3, h4, h5, q1, q2, q3, q4, q5]
    have q5 : ¬ (n : Int) < 240 := by omega
    have q6 : 240 ≤ (n : Int) := by omega
    have h6 : 240 ≤ n := by omega
    by_cases h7 : n < 248
    · have q7 : (n : Int) < 248 := by omega
      simp [h1, h2, h3, h4, h5, h6, h7, q1, q2, q3, q4, q5, q6, q7]
    have q7 : ¬ (n : Int) < 248 := by omega
    simp [h1, h2, h3, h4, h5, h6, h7, q1, q2, q3, q4, q5, q6, q7]
  have q2 : ¬ 192 ≤ (n : Int) := by omega
  have q4 : ¬ 224 ≤ (n : Int) := by omega
  have q6 : ¬ 240 ≤ (n : Int) := by omega
  have h4 : ¬ 224 ≤ n := by omega
  have h6 : ¬ 240 ≤ n := by omega
  simp [h1, h2, h4, h6, q1, q2, q4, q6]
end PL
namespace PL
open PW PF
abbrev mI (n : Nat) : D := .int (n : Int)
def isSign (n : Nat) : Bool := decide (n ≤ 1114111) && !(decide (55296 ≤ n) && decide (n ≤ 57343))
theorem is_sign_eq (n : Nat) : pf_is_sign [.int (n : Int)] = .ok (.cl (.bl (isSign n))) := by
  unfold pf_is_sign pb_is_sign isSign
  have q0 : 0 ≤ (n : Int) := by omega
  by_cases h1 : n ≤ 1114111
  · have q1 : (n : Int) ≤ 1114111 := by omega
    by_cases h2 : 55296 ≤ n
    · have q2 : 55296 ≤ (n : Int) := by omega
      by_cases h3 : n ≤ 57343
      · have q3 : (n : Int) ≤ 57343 := by omega
        simp [q0, q1, q2, q3, h1, h2, h3]
      have q3 : ¬ (n : Int) ≤ 57343 := by omega
      simp [q0, q1, q2, q3, h1, h2, h3]
    have q2 : ¬ 55296 ≤ (n : Int) := by omega
    simp [q0, q1, q2, h1, h2]
  have q1 : ¬ (n : Int) ≤ 1114111 := by omega
  simp [q0, q1, h1]
theorem at_of {S : List D → D} (sq : Sq S) {t : List Nat} {k a : Nat} {i : Int} (h : t[k]? = some a) (e : i = (k : Int)) : oIx (S (t.map mI)) (.int i) = .ok (.cl (.int (a : Int))) := sq.ix _ k i (mI a) (by rw [List.getElem?_map, h] <;> rfl) e
def L0 : List D := [.int 0, .int 0, .int 192, .int 224, .int 240]
theorem range11 : rangeL 1 1 = [] := rfl
theorem range12 : rangeL 1 2 = [.int 1] := rfl
theorem range13 : rangeL 1 3 = [.int 1, .int 2] := rfl
theorem range14 : rangeL 1 4 = [.int 1, .int 2, .int 3] := rfl
theorem r62_1 : r62 1 = true := rfl
theorem r62_2 : r62 2 = true := rfl
theorem r62_3 : r62 3 = true := rfl
theorem r62_4 : r62 4 = true := rfl
theorem mul64 {i : Int} : oMul (.int 64) (.int i) = .ok (.cl (.int (64 * i))) := oMul_int (.inl (by decide))
theorem lead1 : oIx (.tup [.int 0, .int 0, .int 192, .int 224, .int 240]) (.int 1) = .ok (.cl (.int 0)) := rfl
theorem lead2 : oIx (.tup [.int 0, .int 0, .int 192, .int 224, .int 240]) (.int 2) = .ok (.cl (.int 192)) := rfl
theorem lead3 : oIx (.tup [.int 0, .int 0, .int 192, .int 224, .int 240]) (.int 3) = .ok (.cl (.int 224)) := rfl
theorem lead4 : oIx (.tup [.int 0, .int 0, .int 192, .int 224, .int 240]) (.int 4) = .ok (.cl (.int 240)) := rfl
theorem least1 : oIx (.tup [.int 0, .int 0, .int 128, .int 2048, .int 65536]) (.int 1) = .ok (.cl (.int 0)) := rfl
theorem least2 : oIx (.tup [.int 0, .int 0, .int 128, .int 2048, .int 65536]) (.int 2) = .ok (.cl (.int 128)) := rfl
theorem least3 : oIx (.tup [.int 0, .int 0, .int 128, .int 2048, .int 65536]) (.int 3) = .ok (.cl (.int 2048)) := rfl
theorem least4 : oIx (.tup [.int 0, .int 0, .int 128, .int 2048, .int 65536]) (.int 4) = .ok (.cl (.int 65536)) := rfl
/-- a sign by its number, if it is one -/
def oSign (o : Option Nat) : D := match o with
  | some n => .int (n : Int)
  | none => .non
theorem sign0 {S : List D → D} (sq : Sq S) (t : List Nat) (k : Nat) : pf_sign_at [S (t.map mI), .int (k : Int), .int 0] = .ok (.cl .non) := by
  unfold pf_sign_at pb_sign_at
  simp
theorem sign_short {S : List D → D} (sq : Sq S) (t : List Nat) (k n : Nat) (h : t.length < k + n) (hn : n ≠ 0) : pf_sign_at [S (t.map mI), .int (k : Int), .int (n : Int)] = .ok (.cl .non) := by
  unfold pf_sign_at pb_sign_at
  have q : (t.length : Int) < (k : Int) + (n : Int) := by omega
  have q0 : ¬ (n : Int) = 0 := by omega
  simp [sq.len, q, q0]
theorem sign1 {S : List D → D} (sq : Sq S) (t : List Nat) (k a : Nat) (h : t[k]? = some a) : pf_sign_at [S (t.map mI), .int (k : Int), .int 1] = .ok (.cl (oSign (if isSign a then some a else none))) := by
  unfold pf_sign_at pb_sign_at
  have hk := (List.getElem?_eq_some_iff.mp h).1
  have q : ¬ (t.length : Int) < (k : Int) + 1 := by omega
  have q1 : (0 : Int) ≤ (a : Int) := by omega
  cases e : isSign a <;> simp [sq.len, q, q1, at_of sq h, lead1, least1, range11, r62_1, is_sign_eq, e, oSign, forL_nil]
end PL
namespace PL
open PW PF
def cont (b : Nat) : Bool := decide (128 ≤ b) && decide (b < 192)
theorem cont_no {b : Nat} (h : cont b = false) : (128 : Int) ≤ (b : Int) → ¬ (b : Int) < 192 := by
  intro h1 h2
  unfold cont at h
  have h3 : 128 ≤ b := by omega
  have h4 : b < 192 := by omega
  simp [h3, h4] at h
theorem cont_yes {b : Nat} (h : cont b = true) : (128 : Int) ≤ (b : Int) ∧ (b : Int) < 192 := by
  unfold cont at h
  have := Bool.and_eq_true_iff.mp h
  have h1 := of_decide_eq_true this.1
  have h2 := of_decide_eq_true this.2
  omega
theorem sign2 {S : List D → D} (sq : Sq S) (t : List Nat) (k a b : Nat) (ha : 192 ≤ a) (h : t[k]? = some a) (h1 : t[k + 1]? = some b) : pf_sign_at [S (t.map mI), .int (k : Int), .int 2] = .ok (.cl (oSign (if cont b then (if 128 ≤ 64 * (a - 192) + (b - 128) ∧ isSign (64 * (a - 192) + (b - 128)) then some (64 * (a - 192) + (b - 128)) else none) else none))) := by
  unfold pf_sign_at pb_sign_at
  have hk := (List.getElem?_eq_some_iff.mp h1).1
  have q : ¬ (t.length : Int) < (k : Int) + 2 := by omega
  cases hb : cont b with
  | false =>
    by_cases q2 : (128 : Int) ≤ (b : Int)
    · have q3 := cont_no hb q2
      simp [sq.len, q, at_of sq h, at_of sq h1, lead2, least2, range12, r62_1, r62_2, oSign, forL_cons, q2, q3]
    · simp [sq.len, q, at_of sq h, at_of sq h1, lead2, least2, range12, r62_1, r62_2, oSign, forL_cons, q2]
  | true =>
    obtain ⟨q2, q3⟩ := cont_yes hb
    have ev : 64 * ((a : Int) - 192) + (b : Int) - 128 = ((64 * (a - 192) + (b - 128) : Nat) : Int) := by omega
    generalize 64 * (a - 192) + (b - 128) = c at ev
    by_cases hc : 128 ≤ c
    · have q4 : (128 : Int) ≤ (c : Int) := by omega
      cases e : isSign c <;> simp [sq.len, q, at_of sq h, at_of sq h1, lead2, least2, range12, r62_1, r62_2, oSign, forL_cons, forL_nil, q2, q3, mul64, ev, q4, hc, is_sign_eq, e]
    · have q4 : ¬ (128 : Int) ≤ (c : Int) := by omega
      simp [sq.len, q, at_of sq h, at_of sq h1, lead2, least2, range12, r62_1, r62_2, oSign, forL_cons, forL_nil, q2, q3, mul64, ev, q4, hc]
theorem sign3 {S : List D → D} (sq : Sq S) (t : List Nat) (k a b c : Nat) (ha : 224 ≤ a) (h : t[k]? = some a) (h1 : t[k + 1]? = some b) (h2 : t[k + 2]? = some c) : pf_sign_at [S (t.map mI), .int (k : Int), .int 3] = .ok (.cl (oSign (if cont b ∧ cont c then (if 2048 ≤ 64 * (64 * (a - 224) + (b - 128)) + (c - 128) ∧ isSign (64 * (64 * (a - 224) + (b - 128)) + (c - 128)) then some (64 * (64 * (a - 224) + (b - 128)) + (c - 128)) else none) else none))) := by
  unfold pf_sign_at pb_sign_at
  have hk := (List.getElem?_eq_some_iff.mp h2).1
  have q : ¬ (t.length : Int) < (k : Int) + 3 := by omega
  cases hb : cont b with
  | false =>
    by_cases q2 : (128 : Int) ≤ (b : Int)
    · have q3 := cont_no hb q2
      simp [sq.len, q, at_of sq h, at_of sq h1, lead3, least3, range13, r62_1, r62_3, oSign, forL_cons, q2, q3]
    · simp [sq.len, q, at_of sq h, at_of sq h1, lead3, least3, range13, r62_1, r62_3, oSign, forL_cons, q2]
  | true =>
    obtain ⟨q2, q3⟩ := cont_yes hb
    cases hc : cont c with
    | false =>
      by_cases q4 : (128 : Int) ≤ (c : Int)
      · have q5 := cont_no hc q4
        simp [sq.len, q, at_of sq h, at_of sq h1, at_of sq h2, lead3, least3, range13, r62_1, r62_3, oSign, forL_cons, q2, q3, q4, q5, mul64]
      · simp [sq.len, q, at_of sq h, at_of sq h1, at_of sq h2, lead3, least3, range13, r62_1, r62_3, oSign, forL_cons, q2, q3, q4, mul64]
    | true =>
      obtain ⟨q4, q5⟩ := cont_yes hc
      have ev : 64 * (64 * ((a : Int) - 224) + (b : Int) - 128) + (c : Int) - 128 = ((64 * (64 * (a - 224) + (b - 128)) + (c - 128) : Nat) : Int) := by omega
      generalize 64 * (64 * (a - 224) + (b - 128)) + (c - 128) = v at ev
      by_cases hv : 2048 ≤ v
      · have q6 : (2048 : Int) ≤ (v : Int) := by omega
        cases e : isSign v <;> simp [sq.len, q, at_of sq h, at_of sq h1, at_of sq h2, lead3, least3, range13, r62_1, r62_3, oSign, forL_cons, forL_nil, q2, q3, q4, q5, mul64, ev, q6, hv, is_sign_eq, e]
      · have q6 : ¬ (2048 : Int) ≤ (v : Int) := by omega
        simp [sq.len, q, at_of sq h, at_of sq h1, at_of sq h2, lead3, least3, range13, r62_1, r62_3, oSign, forL_cons, forL_nil, q2, q3, q4, q5, mul64, ev, q6, hv]
theorem sign4 {S : List D → D} (sq : Sq S) (t : List Nat) (k a b c d : Nat) (ha : 240 ≤ a) (h : t[k]? = some a) (h1 : t[k + 1]? = some b) (h2 : t[k + 2]? = some c) (h3 : t[k + 3]? = some d) : pf_sign_at [S (t.map mI), .int (k : Int), .int 4] = .ok (.cl (oSign (if cont b ∧ cont c ∧ cont d then (if 65536 ≤ 64 * (64 * (64 * (a - 240) + (b - 128)) + (c - 128)) + (d - 128) ∧ isSign (64 * (64 * (64 * (a - 240) + (b - 128)) + (c - 128)) + (d - 128)) then some (64 * (64 * (64 * (a - 240) + (b - 128)) + (c - 128)) + (d - 128)) else none) else none))) := by
  unfold pf_sign_at pb_sign_at
  have hk := (List.getElem?_eq_some_iff.mp h3).1
  have q : ¬ (t.length : Int) < (k : Int) + 4 := by omega
  cases hb : cont b with
  | false =>
    by_cases q2 : (128 : Int) ≤ (b : Int)
    · have q3 := cont_no hb q2
      simp [sq.len, q, at_of sq h, at_of sq h1, lead4, least4, range14, r62_1, r62_4, oSign, forL_cons, q2, q3]
    · simp [sq.len, q, at_of sq h, at_of sq h1, lead4, least4, range14, r62_1, r62_4, oSign, forL_cons, q2]
  | true =>
    obtain ⟨q2, q3⟩ := cont_yes hb
    cases hc : cont c with
    | false =>
      by_cases q4 : (128 : Int) ≤ (c : Int)
      · have q5 := cont_no hc q4
        simp [sq.len, q, at_of sq h, at_of sq h1, at_of sq h2, lead4, least4, range14, r62_1, r62_4, oSign, forL_cons, q2, q3, q4, q5, mul64]
      · simp [sq.len, q, at_of sq h, at_of sq h1, at_of sq h2, lead4, least4, range14, r62_1, r62_4, oSign, forL_cons, q2, q3, q4, mul64]
    | true =>
      obtain ⟨q4, q5⟩ := cont_yes hc
      cases hd : cont d with
      | false =>
        by_cases q6 : (128 : Int) ≤ (d : Int)
        · have q7 := cont_no hd q6
          simp [sq.len, q, at_of sq h, at_of sq h1, at_of sq h2, at_of sq h3, lead4, least4, range14, r62_1, r62_4, oSign, forL_cons, q2, q3, q4, q5, q6, q7, mul64]
        · simp [sq.len, q, at_of sq h, at_of sq h1, at_of sq h2, at_of sq h3, lead4, least4, range14, r62_1, r62_4, oSign, forL_cons, q2, q3, q4, q5, q6, mul64]
      | true =>
        obtain ⟨q6, q7⟩ := cont_yes hd
        have ev : 64 * (64 * (64 * ((a : Int) - 240) + (b : Int) - 128) + (c : Int) - 128) + (d : Int) - 128 = ((64 * (64 * (64 * (a - 240) + (b - 128)) + (c - 128)) + (d - 128) : Nat) : Int) := by omega
        generalize 64 * (64 * (64 * (a - 240) + (b - 128)) + (c - 128)) + (d - 128) = v at ev
        by_cases hv : 65536 ≤ v
        · have q8 : (65536 : Int) ≤ (v : Int) := by omega
          cases e : isSign v <;> simp [sq.len, q, at_of sq h, at_of sq h1, at_of sq h2, at_of sq h3, lead4, least4, range14, r62_1, r62_4, oSign, forL_cons, forL_nil, q2, q3, q4, q5, q6, q7, mul64, ev, q8, hv, is_sign_eq, e]
        · have q8 : ¬ (65536 : Int) ≤ (v : Int) := by omega
          simp [sq.len, q, at_of sq h, at_of sq h1, at_of sq h2, at_of sq h3, lead4, least4, range14, r62_1, r62_4, oSign, forL_cons, forL_nil, q2, q3, q4, q5, q6, q7, mul64, ev, q8, hv]
end PL
namespace PL
open PW PF
theorem isSign_eq (n : Nat) : isSign n = Kh450.isScalar n := by
  unfold isSign Kh450.isScalar
  have e1 : (n ≤ 1114111) = (n < 0x110000) := propext (by omega)
  have e2 : (n ≤ 57343) = (n < 0xE000) := propext (by omega)
  simp only [e1, e2]
theorem cont_eq (n : Nat) : cont n = Kh450.isContinuation n := rfl
theorem sizeBy_lt {a : Nat} (h : a < 128) : sizeBy a = 1 := if_pos h
theorem sizeBy_no {a : Nat} (h : ¬ a < 128) (h2 : a < 192) : sizeBy a = 0 := by
  unfold sizeBy
  rw [if_neg h, if_neg (by omega), if_neg (by omega), if_neg (by omega)]
theorem sizeBy_2 {a : Nat} (h : 192 ≤ a) (h2 : a < 224) : sizeBy a = 2 := by
  unfold sizeBy
  rw [if_neg (by omega), if_pos (by omega)]
theorem sizeBy_3 {a : Nat} (h : 224 ≤ a) (h2 : a < 240) : sizeBy a = 3 := by
  unfold sizeBy
  rw [if_neg (by omega), if_neg (by omega), if_pos (by omega)]
theorem sizeBy_4 {a : Nat} (h : 240 ≤ a) (h2 : a < 248) : sizeBy a = 4 := by
  unfold sizeBy
  rw [if_neg (by omega), if_neg (by omega), if_neg (by omega), if_pos (by omega)]
theorem sizeBy_big {a : Nat} (h : 248 ≤ a) : sizeBy a = 0 := by
  unfold sizeBy
  rw [if_neg (by omega), if_neg (by omega), if_neg (by omega), if_neg (by omega)]
theorem drop_at {t : List Nat} {k : Nat} {l : List Nat} (h : t.drop k = l) (i : Nat) : t[k + i]? = l[i]? := by rw [← h, List.getElem?_drop]
theorem drop_len {t : List Nat} {k : Nat} {l : List Nat} (h : t.drop k = l) (hl : l ≠ []) : t.length = k + l.length := by
  have e := congrArg List.length h
  rw [List.length_drop] at e
  have : l.length ≠ 0 := fun z => hl (List.length_eq_zero_iff.mp z)
  omega
theorem drop_more {t : List Nat} {k : Nat} {l : List Nat} (h : t.drop k = l) (i : Nat) : t.drop (k + i) = l.drop i := by rw [← h, List.drop_drop]
/-- one sign is read as the document's reader does -/
theorem sign_at_eq {S : List D → D} (sq : Sq S) (t : List Nat) (k a : Nat) (r : List Nat) (h : t.drop k = a :: r) : pf_sign_at [S (t.map mI), .int (k : Int), .int (sizeBy a : Nat)] = .ok (.cl (oSign ((Kh450.decodeUtf8 (a :: r)).map (·.1)))) ∧
    ∀ c s, Kh450.decodeUtf8 (a :: r) = some (c, s) → s = t.drop (k + sizeBy a) ∧ 1 ≤ sizeBy a := by
  have hl := drop_len h (by simp)
  have h0 : t[k]? = some a := drop_at h 0
  by_cases c1 : a < 128
  · rw [sizeBy_lt c1]
    have e : Kh450.decodeUtf8 (a :: r) = some (a, r) := by
      show (if a < 128 then some (a, r) else _) = _
      rw [if_pos c1]
    rw [e]
    have es : isSign a = true := by
      unfold isSign
      have z1 : a ≤ 1114111 := by omega
      have z2 : ¬ 55296 ≤ a := by omega
      simp [z1, z2]
    refine ⟨?_, fun c s q => ?_⟩
    · have := sign1 sq t k a h0
      rw [es] at this
      exact this
    · cases q
      exact ⟨(drop_more h 1).symm, by decide⟩
  by_cases c2 : a < 192
  · rw [sizeBy_no c1 c2]
    have e : Kh450.decodeUtf8 (a :: r) = none := by
      show (if a < 128 then some (a, r) else if a < 194 then none else _) = _
      rw [if_neg c1, if_pos (by omega)]
    rw [e]
    exact ⟨sign0 sq t k, fun c s q => nomatch q⟩
  by_cases c3 : a < 224
  · rw [sizeBy_2 (by omega) c3]
    cases r with
    | nil =>
      have e : Kh450.decodeUtf8 [a] = none := by
        rw [Kh450.decodeUtf8]
        rw [if_neg c1]
        split <;> first | rfl | (rw [if_pos c3])
      rw [e]
      exact ⟨sign_short sq t k 2 (by simp at hl; omega) (by decide), fun c s q => nomatch q⟩
    | cons b r =>
      have h1 : t[k + 1]? = some b := drop_at h 1
      have s2 := sign2 sq t k a b (by omega) h0 h1
      by_cases c4 : a < 0xC2
      · have e : Kh450.decodeUtf8 (a :: b :: r) = none := by
          rw [Kh450.decodeUtf8]
          rw [if_neg c1, if_pos c4]
        rw [e]
        refine ⟨s2.trans ?_, fun c s q => nomatch q⟩
        cases hb : cont b with
        | false => rfl
        | true =>
          unfold cont at hb
          have hb2 := Bool.and_eq_true_iff.mp hb
          have b1 := of_decide_eq_true hb2.1
          have b2 := of_decide_eq_true hb2.2
          rw [if_pos rfl, if_neg (fun z => by omega)] <;> rfl
      · cases hb : cont b with
        | false =>
          have e : Kh450.decodeUtf8 (a :: b :: r) = none := by
            rw [Kh450.decodeUtf8]
            rw [if_neg c1, if_neg c4, if_pos c3]
            simp only [← cont_eq, hb, Bool.false_eq_true, if_false]
          rw [e]
          refine ⟨s2.trans ?_, fun c s q => nomatch q⟩
          rw [hb] <;> rfl
        | true =>
          have e : Kh450.decodeUtf8 (a :: b :: r) = some (a % 32 * 64 + b % 64, r) := by
            rw [Kh450.decodeUtf8]
            rw [if_neg c1, if_neg c4, if_pos c3]
            simp only [← cont_eq, hb, if_true]
          rw [e]
          rw [hb] at s2
          unfold cont at hb
          have hb2 := Bool.and_eq_true_iff.mp hb
          have b1 := of_decide_eq_true hb2.1
          have b2 := of_decide_eq_true hb2.2
          have ev : 64 * (a - 192) + (b - 128) = a % 32 * 64 + b % 64 := by omega
          have es : isSign (a % 32 * 64 + b % 64) = true := by
            unfold isSign
            have z1 : a % 32 * 64 + b % 64 ≤ 1114111 := by omega
            have z2 : ¬ 55296 ≤ a % 32 * 64 + b % 64 := by omega
            simp [z1, z2]
          rw [ev] at s2
          refine ⟨s2.trans ?_, fun c s q => ?_⟩
          · rw [if_pos rfl, if_pos ⟨by omega, es⟩] <;> rfl
          · cases q
            exact ⟨(drop_more h 2).symm, by decide⟩
  by_cases c4 : a < 240
  · rw [sizeBy_3 (by omega) c4]
    match r, h, hl with
    | [], h, hl =>
      have e : Kh450.decodeUtf8 [a] = none := by
        rw [Kh450.decodeUtf8]
        rw [if_neg c1, if_neg (by omega), if_neg c3, if_pos c4]
      rw [e]
      exact ⟨sign_short sq t k 3 (by simp at hl; omega) (by decide), fun c s q => nomatch q⟩
    | [b], h, hl =>
      have e : Kh450.decodeUtf8 [a, b] = none := by
        rw [Kh450.decodeUtf8]
        rw [if_neg c1, if_neg (by omega), if_neg c3, if_pos c4]
      rw [e]
      exact ⟨sign_short sq t k 3 (by simp at hl; omega) (by decide), fun c s q => nomatch q⟩
    | b :: c :: r, h, hl =>
      have h1 : t[k + 1]? = some b := drop_at h 1
      have h2 : t[k + 2]? = some c := drop_at h 2
      have s3 := sign3 sq t k a b c (by omega) h0 h1 h2
      have e : Kh450.decodeUtf8 (a :: b :: c :: r) = if (cont b && cont c && decide (0x800 ≤ a % 16 * 4096 + b % 64 * 64 + c % 64) && isSign (a % 16 * 4096 + b % 64 * 64 + c % 64)) = true then some (a % 16 * 4096 + b % 64 * 64 + c % 64, r) else none := by
        rw [isSign_eq]
        rw [Kh450.decodeUtf8]
        rw [if_neg c1, if_neg (by omega), if_neg c3, if_pos c4] <;> rfl
      rw [e]
      cases hb : cont b with
      | false =>
        rw [hb] at s3
        exact ⟨s3, fun c s q => nomatch q⟩
      | true =>
        cases hc : cont c with
        | false =>
          rw [hb, hc] at s3
          exact ⟨s3, fun c s q => nomatch q⟩
        | true =>
          rw [hb, hc] at s3
          unfold cont at hb hc
          have hb2 := Bool.and_eq_true_iff.mp hb
          have b1 := of_decide_eq_true hb2.1
          have b2 := of_decide_eq_true hb2.2
          have hc2 := Bool.and_eq_true_iff.mp hc
          have d1 := of_decide_eq_true hc2.1
          have d2 := of_decide_eq_true hc2.2
          have ev : 64 * (64 * (a - 224) + (b - 128)) + (c - 128) = a % 16 * 4096 + b % 64 * 64 + c % 64 := by omega
          rw [ev] at s3
          generalize a % 16 * 4096 + b % 64 * 64 + c % 64 = v at s3 ⊢
          rw [if_pos ⟨rfl, rfl⟩] at s3
          by_cases cv : 2048 ≤ v ∧ isSign v = true
          · rw [if_pos cv] at s3
            rw [if_pos (by simp [cv.1, cv.2])]
            refine ⟨s3, fun c s q => ?_⟩
            cases q
            exact ⟨(drop_more h 3).symm, by decide⟩
          · rw [if_neg cv] at s3
            rw [if_neg (by simpa using cv)]
            exact ⟨s3, fun c s q => nomatch q⟩
  by_cases c5 : a < 248
  · rw [sizeBy_4 (by omega) c5]
    have short : ∀ r : List Nat, r.length < 3 → Kh450.decodeUtf8 (a :: r) = none := fun r hr => by
      match r, hr with
      | [], _ =>
        rw [Kh450.decodeUtf8, if_neg c1, if_neg (by omega), if_neg c3, if_neg c4]
        split <;> rfl
      | [_], _ =>
        rw [Kh450.decodeUtf8, if_neg c1, if_neg (by omega), if_neg c3, if_neg c4]
        split <;> rfl
      | [_, _], _ =>
        rw [Kh450.decodeUtf8, if_neg c1, if_neg (by omega), if_neg c3, if_neg c4]
        split <;> rfl
    match r, h, hl with
    | [], h, hl =>
      rw [short _ (by simp)]
      exact ⟨sign_short sq t k 4 (by simp at hl; omega) (by decide), fun c s q => nomatch q⟩
    | [b], h, hl =>
      rw [short _ (by simp)]
      exact ⟨sign_short sq t k 4 (by simp at hl; omega) (by decide), fun c s q => nomatch q⟩
    | [b, c], h, hl =>
      rw [short _ (by simp)]
      exact ⟨sign_short sq t k 4 (by simp at hl; omega) (by decide), fun c s q => nomatch q⟩
    | b :: c :: d :: r, h, hl =>
      have h1 : t[k + 1]? = some b := drop_at h 1
      have h2 : t[k + 2]? = some c := drop_at h 2
      have h3 : t[k + 3]? = some d := drop_at h 3
      have s4 := sign4 sq t k a b c d (by omega) h0 h1 h2 h3
      have e : Kh450.decodeUtf8 (a :: b :: c :: d :: r) = if a < 0xF5 then (if (cont b && cont c && cont d && decide (0x10000 ≤ a % 8 * 262144 + b % 64 * 4096 + c % 64 * 64 + d % 64) && isSign (a % 8 * 262144 + b % 64 * 4096 + c % 64 * 64 + d % 64)) = true then some (a % 8 * 262144 + b % 64 * 4096 + c % 64 * 64 + d % 64, r) else none) else none := by
        rw [isSign_eq]
        rw [Kh450.decodeUtf8]
        rw [if_neg c1, if_neg (by omega), if_neg c3, if_neg c4] <;> rfl
      rw [e]
      cases hb : cont b with
      | false =>
        rw [hb] at s4
        have z : (if a < 0xF5 then (if (false && cont c && cont d && decide (0x10000 ≤ a % 8 * 262144 + b % 64 * 4096 + c % 64 * 64 + d % 64) && isSign (a % 8 * 262144 + b % 64 * 4096 + c % 64 * 64 + d % 64)) = true then some (a % 8 * 262144 + b % 64 * 4096 + c % 64 * 64 + d % 64, r) else none) else none) = none := by simp
        rw [z]
        exact ⟨s4.trans (by simp), fun c s q => nomatch q⟩
      | true =>
        cases hc : cont c with
        | false =>
          rw [hb, hc] at s4
          exact ⟨s4.trans (by simp), fun c s q => by simp at q⟩
        | true =>
          cases hd : cont d with
          | false =>
            rw [hb, hc, hd] at s4
            exact ⟨s4.trans (by simp), fun c s q => by simp at q⟩
          | true =>
            rw [hb, hc, hd] at s4
            unfold cont at hb hc hd
            have hb2 := Bool.and_eq_true_iff.mp hb
            have b1 := of_decide_eq_true hb2.1
            have b2 := of_decide_eq_true hb2.2
            have hc2 := Bool.and_eq_true_iff.mp hc
            have d1 := of_decide_eq_true hc2.1
            have d2 := of_decide_eq_true hc2.2
            have hd2 := Bool.and_eq_true_iff.mp hd
            have f1 := of_decide_eq_true hd2.1
            have f2 := of_decide_eq_true hd2.2
            have ev : 64 * (64 * (64 * (a - 240) + (b - 128)) + (c - 128)) + (d - 128) = a % 8 * 262144 + b % 64 * 4096 + c % 64 * 64 + d % 64 := by omega
            rw [ev] at s4
            have big : ¬ a < 0xF5 → isSign (a % 8 * 262144 + b % 64 * 4096 + c % 64 * 64 + d % 64) = false := fun q => by
              unfold isSign
              have : ¬ a % 8 * 262144 + b % 64 * 4096 + c % 64 * 64 + d % 64 ≤ 1114111 := by omega
              simp [this]
            generalize a % 8 * 262144 + b % 64 * 4096 + c % 64 * 64 + d % 64 = v at s4 big ⊢
            rw [if_pos ⟨rfl, rfl, rfl⟩] at s4
            by_cases c6 : a < 0xF5
            · rw [if_pos c6]
              by_cases cv : 65536 ≤ v ∧ isSign v = true
              · rw [if_pos cv] at s4
                rw [if_pos (by simp [cv.1, cv.2])]
                refine ⟨s4, fun c s q => ?_⟩
                cases q
                exact ⟨(drop_more h 4).symm, by decide⟩
              · rw [if_neg cv] at s4
                rw [if_neg (by simpa using cv)]
                exact ⟨s4, fun c s q => nomatch q⟩
            · rw [if_neg c6]
              rw [if_neg (fun z => by rw [big c6] at z; exact Bool.noConfusion z.2)] at s4
              exact ⟨s4, fun c s q => nomatch q⟩
  · rw [sizeBy_big (by omega)]
    have e : Kh450.decodeUtf8 (a :: r) = none := by
      show (if a < 128 then some (a, r) else if a < 194 then none else if a < 224 then _ else if a < 240 then _ else if a < 245 then _ else none) = _
      rw [if_neg c1, if_neg (by omega), if_neg c3, if_neg c4, if_neg (by omega)]
    rw [e]
    exact ⟨sign0 sq t k, fun c s q => nomatch q⟩
end PL
namespace PL
open PW PF
/-! ### texts of numbers -/
def dT : PTe := (pB (pOp oLt (pVar 2) (pUn oLen (pVar 0))))
def dB : PSt := (sSeq (sSetK 3 (pCall pf_size_by (pCons (pOp oIx (pVar 0) (pVar 2)) pNil)))
 (sSeq (sSetK 4 (pCall pf_sign_at (pCons (pVar 0) (pCons (pVar 2) (pCons (pVar 3) pNil)))))
 (sSeq (sIf (pB (pUn (oIsN false) (pVar 4))) (sRet (pC .non)) sNext)
 (sSeq (sApp 1 (pVar 4))
 (sAug 2 oAddI (pVar 3))))))
theorem size_by_eq' (n : Nat) : pf_size_by [.int (n : Int)] = .ok (.cl (.int (sizeBy n : Nat))) := size_by_eq n
theorem dec_loop {S : List D → D} (sq : Sq S) (t : List Nat) (ht : t.length ≤ line) : ∀ (m k f : Nat) (acc : List D) (x y : Sl), t.length - k < m → (t.drop k).length ≤ f → acc.length ≤ k →
    (whileN dT dB m [.va (S (t.map mI)), .ow acc, .va (.int (k : Int)), x, y]).seq (sRetV 1) = match Kh450.decodeAllLoop f (t.drop k) with
      | none => .rt (.cl .non)
      | some s => .rt (.li true (acc ++ s.map mI))
  | 0, k, f, acc, x, y, h, _, _ => by omega
  | m + 1, k, f, acc, x, y, h, hf, ha => by
    rw [whileN_succ]
    cases hd : t.drop k with
    | nil =>
      have hl : t.length - k = 0 := by rw [← List.length_drop, hd] <;> rfl
      have q : ¬ (k : Int) < (t.length : Int) := by omega
      have e : Kh450.decodeAllLoop f [] = some [] := by cases f <;> rfl
      rw [e]
      simp [sq.len, dT, q]
    | cons a r =>
      have hl := drop_len hd (by simp)
      have q : (k : Int) < (t.length : Int) := by simp at hl; omega
      have h0 : t[k]? = some a := drop_at hd 0
      obtain ⟨s1, s2⟩ := sign_at_eq sq t k a r hd
      cases f with
      | zero => rw [hd] at hf; simp at hf
      | succ f =>
        have e : Kh450.decodeAllLoop (f + 1) (a :: r) = match Kh450.decodeUtf8 (a :: r) with
          | none => none
          | some (c, rest) => (Kh450.decodeAllLoop f rest).map fun codes => c :: codes := rfl
        rw [e]
        cases hu : Kh450.decodeUtf8 (a :: r) with
        | none =>
          rw [hu] at s1
          simp [sq.len, dT, q, dB, at_of sq h0, size_by_eq', s1, oSign]
        | some p =>
          obtain ⟨c, s⟩ := p
          rw [hu] at s1
          obtain ⟨e1, e2⟩ := s2 c s hu
          have hs : s.length < t.length - k := by
            rw [e1, List.length_drop]
            simp at hl
            omega
          have hacc : acc.length < line := by simp at hl; omega
          have ih := dec_loop sq t ht m (k + sizeBy a) f (acc ++ [mI c]) (.va (.int (sizeBy a : Nat))) (.va (.int (c : Int))) (by simp at hl; omega) (by rw [List.length_drop]; rw [hd] at hf; simp at hf hl; omega) (by simp; omega)
          have run : ((dT [.va (S (t.map mI)), .ow acc, .va (.int (k : Int)), x, y]).fl fun b => if b then (dB [.va (S (t.map mI)), .ow acc, .va (.int (k : Int)), x, y]).turn (whileN dT dB m) else .nx [.va (S (t.map mI)), .ow acc, .va (.int (k : Int)), x, y]) =
              whileN dT dB m [.va (S (t.map mI)), .ow (acc ++ [mI c]), .va (.int ((k + sizeBy a : Nat) : Int)), .va (.int (sizeBy a : Nat)), .va (.int (c : Int))] := by
            simp [sq.len, dT, q, dB, at_of sq h0, size_by_eq', s1, oSign, hacc]
          rw [run]
          rw [ih, ← e1]
          show _ = (match (Kh450.decodeAllLoop f s).map fun codes => c :: codes with
            | none => Fl.rt (E.cl .non)
            | some s => .rt (.li true (acc ++ s.map mI)))
          cases Kh450.decodeAllLoop f s with
          | none => rfl
          | some l => simp
/-- the value of a text that may be none -/
def oText (o : Option (List Nat)) : E := match o with
  | none => .cl .non
  | some s => .li true (s.map mI)
theorem decoded_eq {S : List D → D} (sq : Sq S) (t : List Nat) (ht : t.length < 1000000) : pf_decoded [S (t.map mI)] = .ok (oText (Kh450.decodeAll t)) := by
  unfold pf_decoded pb_decoded
  have h := dec_loop sq t (by unfold line; omega) fuel 0 t.length [] .un .un (by unfold fuel; omega) (by simp) (Nat.le_refl 0)
  simp only [run_1, sSeq_eq, sSet_eq, sSetK_eq, pLst_eq, pNil_eq, pC_eq, R.bind_ok, R.fl_ok, E.keep_cl, List.length_nil, Nat.zero_le, if_true, List.set, List.replicate, seq_nx, sWhile_eq, Nat.reduceSub]
  show (Fl.seq (whileN dT dB fuel [.va (S (t.map mI)), .ow [], .va (.int ((0 : Nat) : Int)), .un, .un]) (sRetV 1)).out = _
  rw [h, List.drop_zero]
  show Fl.out (match Kh450.decodeAll t with
    | none => Fl.rt (E.cl .non)
    | some s => .rt (.li true ([] ++ s.map mI))) = _
  cases Kh450.decodeAll t <;> rfl
end PL
namespace PL
open PW PF
abbrev mL (l : List Nat) : D := .lst (l.map mI)
/-! ### words -/
def wordsAux : List Nat → List Nat → List (List Nat)
  | w, [] => if w = [] then [] else [w]
  | w, c :: r => if Kh450.isWhite c then (if w = [] then wordsAux [] r else w :: wordsAux [] r) else wordsAux (w ++ [c]) r
theorem takeWhile_len (p : Nat → Bool) : ∀ t : List Nat, (Kh450.takeWhile p t).2.length ≤ t.length
  | [] => Nat.le_refl _
  | b :: r => by
    unfold Kh450.takeWhile
    split
    · have := takeWhile_len p r
      simp only [List.length_cons]
      omega
    · exact Nat.le_refl _
theorem words_skip : ∀ t : List Nat, wordsAux [] (Kh450.takeWhile Kh450.isWhite t).2 = wordsAux [] t
  | [] => rfl
  | b :: r => by
    unfold Kh450.takeWhile
    cases h : Kh450.isWhite b with
    | true =>
      have e : wordsAux [] (b :: r) = wordsAux [] r := by
        show (if Kh450.isWhite b = true then _ else _) = _
        rw [if_pos h, if_pos rfl]
      rw [e, if_pos rfl]
      exact words_skip r
    | false => rfl
theorem words_word : ∀ (t w : List Nat), w ≠ [] ∨ (∃ c r, t = c :: r ∧ Kh450.isWhite c = false) → wordsAux w t = (w ++ (Kh450.takeWhile (fun x => !Kh450.isWhite x) t).1) :: wordsAux [] (Kh450.takeWhile (fun x => !Kh450.isWhite x) t).2
  | [], w, h => by
    rcases h with h | ⟨c, r, h, _⟩
    · show (if w = [] then _ else _) = _
      rw [if_neg h]
      simp [Kh450.takeWhile, wordsAux]
    · cases h
  | b :: r, w, h => by
    unfold Kh450.takeWhile
    cases hb : Kh450.isWhite b with
    | true =>
      rcases h with h | ⟨c, r', h1, h2⟩
      · have e : wordsAux w (b :: r) = w :: wordsAux [] r := by
          show (if Kh450.isWhite b = true then _ else _) = _
          rw [if_pos hb, if_neg h]
        have e2 : wordsAux [] (b :: r) = wordsAux [] r := by
          show (if Kh450.isWhite b = true then _ else _) = _
          rw [if_pos hb, if_pos rfl]
        simp [e, e2]
      · cases h1
        rw [hb] at h2
        cases h2
    | false =>
      have e : wordsAux w (b :: r) = wordsAux (w ++ [b]) r := by
        show (if Kh450.isWhite b = true then _ else _) = _
        rw [if_neg (by simp [hb])]
      rw [e, words_word r (w ++ [b]) (.inl (by simp))]
      simp
def wordOf : Kh450.Atom → Option Kh450.Text := fun a => match a with
  | .word w => some w
  | _ => none
theorem atoms_words : ∀ (f : Nat) (t : List Nat), t.length < f → (Kh450.atomsOf f t).filterMap wordOf = wordsAux [] t
  | 0, t, h => by omega
  | f + 1, [], _ => rfl
  | f + 1, c :: r, h => by
    have h : r.length < f := by simpa using h
    show (if Kh450.isWhite c = true then _ else _ : List Kh450.Atom).filterMap wordOf = _
    cases hc : Kh450.isWhite c with
    | true =>
      rw [if_pos rfl]
      show (Kh450.atomsOf f (Kh450.takeWhile Kh450.isWhite r).2).filterMap wordOf = _
      rw [atoms_words f _ (Nat.lt_of_le_of_lt (takeWhile_len _ r) h), words_skip]
      show _ = if Kh450.isWhite c = true then _ else _
      rw [if_pos hc, if_pos rfl]
    | false =>
      rw [if_neg (by simp)]
      have hl : (Kh450.takeWhile (fun x => !Kh450.isWhite x) (c :: r)).2.length ≤ r.length := by
        unfold Kh450.takeWhile
        rw [if_pos (by simp [hc])]
        exact takeWhile_len _ r
      show (Kh450.takeWhile (fun x => !Kh450.isWhite x) (c :: r)).1 :: (Kh450.atomsOf f (Kh450.takeWhile (fun x => !Kh450.isWhite x) (c :: r)).2).filterMap wordOf = _
      rw [atoms_words f _ (Nat.lt_of_le_of_lt hl h), words_word (c :: r) [] (.inr ⟨c, r, rfl, hc⟩)]
      rfl
theorem wordsOf_eq (t : List Nat) : Kh455.wordsOf t = wordsAux [] t := atoms_words _ t (Nat.lt_succ_self _)
theorem white_in (n : Nat) : oIn true (.int (n : Int)) (.tup [.int 9, .int 10, .int 13, .int 32]) = .ok (.cl (.bl (!Kh450.isWhite n))) := by
  have e : ([.int 9, .int 10, .int 13, .int 32] : List D).any (fun z => D.same z (.int (n : Int))) = Kh450.isWhite n := by
    unfold Kh450.isWhite
    have e1 : (n == 9) = decide ((9 : Int) = (n : Int)) := by rw [Bool.eq_iff_iff]; simp; omega
    have e2 : (n == 10) = decide ((10 : Int) = (n : Int)) := by rw [Bool.eq_iff_iff]; simp; omega
    have e3 : (n == 13) = decide ((13 : Int) = (n : Int)) := by rw [Bool.eq_iff_iff]; simp; omega
    have e4 : (n == 32) = decide ((32 : Int) = (n : Int)) := by rw [Bool.eq_iff_iff]; simp; omega
    rw [e1, e2, e3, e4]
    simp only [List.any, D.same]
    cases decide ((9 : Int) = (n : Int)) <;> cases decide ((10 : Int) = (n : Int)) <;> cases decide ((13 : Int) = (n : Int)) <;> cases decide ((32 : Int) = (n : Int)) <;> rfl
  show R.ok (E.cl (.bl (!(([.int 9, .int 10, .int 13, .int 32] : List D).any fun z => D.same z (.int (n : Int)))))) = _
  rw [e]
def wB : PSt := (sIf (pB (pOp (oIn true) (pVar 3) (pC (.tup [.int 9, .int 10, .int 13, .int 32])))) (sApp 2 (pVar 3)) (sIf (pB (pOp (oEq true) (pVar 2) (pLst pNil))) (sSeq (sFrz [2] (sApp 1 (pVar 2)))
 (sSet 2 (pLst pNil))) sNext))
def wE : PSt := (sSeq (sIf (pB (pOp (oEq true) (pVar 2) (pLst pNil))) (sFrz [2] (sApp 1 (pVar 2))) sNext)
 (sRetV 1))
theorem words_loop (s : D) : ∀ (t : List Nat) (ws : List D) (w : List Nat) (x : Sl), ws.length + w.length + t.length < line →
    (forL (gSet 3) wB (t.map mI) [.va s, .ow ws, .ow (w.map mI), x]).seq wE = .rt (.li true (ws ++ (wordsAux w t).map mL))
  | [], ws, w, x, h => by
    have h1 : ws.length < line := by simp at h; omega
    rw [List.map_nil, forL_nil]
    cases w with
    | nil => simp [wE, wordsAux]
    | cons a w => simp [wE, wordsAux, h1]
  | c :: t, ws, w, x, h => by
    rw [List.map_cons, forL_cons]
    have h2 : w.length < line := by simp at h; omega
    have h1 : ws.length < line := by simp at h; omega
    cases hc : Kh450.isWhite c with
    | false =>
      have ih := words_loop s t ws (w ++ [c]) (.va (mI c)) (by simp at h ⊢; omega)
      have e : wordsAux w (c :: t) = wordsAux (w ++ [c]) t := by
        show (if Kh450.isWhite c = true then _ else _) = _
        rw [if_neg (by simp [hc])]
      rw [e, ← ih]
      simp [wB, white_in, hc, h2]
    | true =>
      cases w with
      | nil =>
        have ih := words_loop s t ws [] (.va (mI c)) (by simp at h ⊢; omega)
        have e : wordsAux [] (c :: t) = wordsAux [] t := by
          show (if Kh450.isWhite c = true then _ else _) = _
          rw [if_pos hc, if_pos rfl]
        rw [e, ← ih]
        simp [wB, white_in, hc]
      | cons a w =>
        have ih := words_loop s t (ws ++ [mL (a :: w)]) [] (.va (mI c)) (by simp at h ⊢; omega)
        have e : wordsAux (a :: w) (c :: t) = (a :: w) :: wordsAux [] t := by
          show (if Kh450.isWhite c = true then _ else _) = _
          rw [if_pos hc, if_neg (by simp)]
        rw [e]
        have e2 : ws ++ ((a :: w) :: wordsAux [] t).map mL = ws ++ [mL (a :: w)] ++ (wordsAux [] t).map mL := by simp
        rw [e2, ← ih]
        simp [wB, white_in, hc, h1, mL]
theorem words_of_eq (t : List Nat) (h : t.length < line) : pf_words_of [mL t] = .ok (.li true ((Kh455.wordsOf t).map mL)) := by
  unfold pf_words_of pb_words_of
  have q := words_loop (mL t) t [] [] .un (by simpa using h)
  rw [wordsOf_eq]
  have e : ([] : List D) ++ (wordsAux [] t).map mL = (wordsAux [] t).map mL := rfl
  rw [e] at q
  simp only [run_1, sSeq_eq, sSet_eq, pLst_eq, pNil_eq, R.bind_ok, R.fl_ok, E.keep_cl, List.length_nil, Nat.zero_le, if_true, List.set, List.replicate, seq_nx, Nat.reduceSub, sFor_eq, iLst_eq, pVar_eq, List.getElem?_cons_zero]
  show (Fl.seq (forL (gSet 3) wB (t.map mI) [.va (mL t), .ow [], .ow (([] : List Nat).map mI), .un]) wE).out = _
  rw [q] <;> rfl
end PL
namespace PL
open PW PF
/-! ### signs to numbers -/
theorem ll1 : 1 ≤ line := by decide
theorem ll2 : 2 ≤ line := by decide
theorem ll3 : 3 ≤ line := by decide
theorem ll4 : 4 ≤ line := by decide
theorem d64 (i : Int) : oDiv (.int i) (.int 64) = .ok (.cl (.int (i / 64))) := oDiv_int (by decide) (by decide)
theorem d4096 (i : Int) : oDiv (.int i) (.int 4096) = .ok (.cl (.int (i / 4096))) := oDiv_int (by decide) (by decide)
theorem d262144 (i : Int) : oDiv (.int i) (.int 262144) = .ok (.cl (.int (i / 262144))) := oDiv_int (by decide) (by decide)
theorem m64 (i : Int) : oMod (.int i) (.int 64) = .ok (.cl (.int (i % 64))) := oMod_int (by decide)
theorem bytes_of_eq (n : Nat) : pf_bytes_of [.int (n : Int)] = .ok (.li true ((Kh450.encodeUtf8 n).map mI)) := by
  unfold pf_bytes_of pb_bytes_of Kh450.encodeUtf8
  by_cases h1 : n < 128
  · have q1 : (n : Int) < 128 := by omega
    simp [h1, q1, ll1]
  have q1 : ¬ (n : Int) < 128 := by omega
  by_cases h2 : n < 2048
  · have q2 : (n : Int) < 2048 := by omega
    simp [h1, q1, h2, q2, d64, m64, ll2]
  have q2 : ¬ (n : Int) < 2048 := by omega
  by_cases h3 : n < 65536
  · have q3 : (n : Int) < 65536 := by omega
    simp [h1, q1, h2, q2, h3, q3, d64, m64, d4096, ll3]
  have q3 : ¬ (n : Int) < 65536 := by omega
  simp [h1, q1, h2, q2, h3, q3, d64, m64, d4096, d262144, ll4]
theorem encodeUtf8_len (n : Nat) : (Kh450.encodeUtf8 n).length ≤ 4 := by
  unfold Kh450.encodeUtf8
  split
  · simp
  · split
    · simp
    · split <;> simp
def eB : PSt := (sExt 1 (pCall pf_bytes_of (pCons (pVar 2) pNil)))
theorem enc_loop (s : D) : ∀ (t acc : List Nat) (x : Sl), acc.length + 4 * t.length ≤ line →
    (forL (gSet 2) eB (t.map mI) [.va s, .ow (acc.map mI), x]).seq (sRetV 1) = .rt (.li true ((acc ++ Kh450.encodeAll t).map mI))
  | [], acc, x, h => by simp [forL_nil, Kh450.encodeAll]
  | c :: t, acc, x, h => by
    rw [List.map_cons, forL_cons]
    have hl := encodeUtf8_len c
    have ih := enc_loop s t (acc ++ Kh450.encodeUtf8 c) (.va (mI c)) (by simp at h ⊢; omega)
    have e : acc ++ Kh450.encodeAll (c :: t) = acc ++ Kh450.encodeUtf8 c ++ Kh450.encodeAll t := by simp [Kh450.encodeAll]
    have hz : acc.length + (Kh450.encodeUtf8 c).length ≤ line := by simp at h; omega
    rw [e, ← ih]
    simp [eB, bytes_of_eq, hz]
theorem encoded_eq (t : List Nat) (h : 4 * t.length ≤ line) : pf_encoded [mL t] = .ok (.li true ((Kh450.encodeAll t).map mI)) := by
  unfold pf_encoded pb_encoded
  have q := enc_loop (mL t) t [] .un (by simpa using h)
  simp only [run_1, sSeq_eq, sSet_eq, pLst_eq, pNil_eq, R.bind_ok, R.fl_ok, E.keep_cl, List.length_nil, Nat.zero_le, if_true, List.set, List.replicate, seq_nx, Nat.reduceSub, sFor_eq, iLst_eq, pVar_eq, List.getElem?_cons_zero]
  show (Fl.seq (forL (gSet 2) eB (t.map mI) [.va (mL t), .ow (([] : List Nat).map mI), .un]) (sRetV 1)).out = _
  rw [q] <;> rfl
/-! ### divided at a mark -/
def divAux (m : Nat) : List Nat → List Nat → List (List Nat)
  | p, [] => [p]
  | p, c :: r => if c = m then p :: divAux m [] r else divAux m (p ++ [c]) r
theorem splitAt_ne (m : Nat) : ∀ t, ∃ a l, Kh455.splitAt m t = a :: l
  | [] => ⟨[], [], rfl⟩
  | c :: r => by
    obtain ⟨a, l, e⟩ := splitAt_ne m r
    unfold Kh455.splitAt
    rw [e]
    simp only
    split <;> exact ⟨_, _, rfl⟩
theorem div_split (m : Nat) : ∀ (t p a : List Nat) (l : List (List Nat)), Kh455.splitAt m t = a :: l → divAux m p t = (p ++ a) :: l
  | [], p, a, l, h => by
    cases h
    simp [divAux]
  | c :: r, p, a, l, h => by
    obtain ⟨b, k, e⟩ := splitAt_ne m r
    unfold Kh455.splitAt at h
    rw [e] at h
    simp only at h
    show (if c = m then p :: divAux m [] r else divAux m (p ++ [c]) r) = _
    by_cases hc : c = m
    · rw [if_pos hc] at h ⊢
      cases h
      rw [div_split m r [] b k e]
      simp
    · rw [if_neg hc] at h ⊢
      cases h
      rw [div_split m r (p ++ [c]) b _ e]
      simp
theorem divAux_eq (m : Nat) (t : List Nat) : divAux m [] t = Kh455.splitAt m t := by
  obtain ⟨a, l, e⟩ := splitAt_ne m t
  rw [div_split m t [] a l e, e]
  rfl
def vB : PSt := (sIf (pB (pOp (oEq false) (pVar 4) (pVar 1))) (sSeq (sFrz [3] (sApp 2 (pVar 3)))
 (sSet 3 (pLst pNil))) (sApp 3 (pVar 4)))
def vE : PSt := (sSeq (sFrz [3] (sApp 2 (pVar 3)))
 (sRetV 2))
theorem div_loop (s : D) (m : Nat) : ∀ (t : List Nat) (ps : List D) (p : List Nat) (x : Sl), ps.length + p.length + t.length < line →
    (forL (gSet 4) vB (t.map mI) [.va s, .va (mI m), .ow ps, .ow (p.map mI), x]).seq vE = .rt (.li true (ps ++ (divAux m p t).map mL))
  | [], ps, p, x, h => by
    have h1 : ps.length < line := by simp at h; omega
    rw [List.map_nil, forL_nil]
    simp [vE, divAux, h1]
  | c :: t, ps, p, x, h => by
    rw [List.map_cons, forL_cons]
    have h2 : p.length < line := by simp at h; omega
    have h1 : ps.length < line := by simp at h; omega
    by_cases hc : c = m
    · subst hc
      have ih := div_loop s c t (ps ++ [mL p]) [] (.va (mI c)) (by simp at h ⊢; omega)
      have e : divAux c p (c :: t) = p :: divAux c [] t := if_pos rfl
      have e2 : ps ++ (p :: divAux c [] t).map mL = ps ++ [mL p] ++ (divAux c [] t).map mL := by simp
      rw [e, e2, ← ih]
      simp [vB, h1]
    · have ih := div_loop s m t ps (p ++ [c]) (.va (mI c)) (by simp at h ⊢; omega)
      have e : divAux m p (c :: t) = divAux m (p ++ [c]) t := if_neg hc
      have q : ¬ (c : Int) = (m : Int) := by omega
      rw [e, ← ih]
      simp [vB, q, h2]
theorem divided_at_eq (t : List Nat) (m : Nat) (h : t.length < line) : pf_divided_at [mL t, mI m] = .ok (.li true ((Kh455.splitAt m t).map mL)) := by
  unfold pf_divided_at pb_divided_at
  have q := div_loop (mL t) m t [] [] .un (by simpa using h)
  rw [divAux_eq] at q
  simp only [run_2, sSeq_eq, sSet_eq, pLst_eq, pNil_eq, R.bind_ok, R.fl_ok, E.keep_cl, List.length_nil, Nat.zero_le, if_true, List.set, List.replicate, seq_nx, Nat.reduceSub, sFor_eq, iLst_eq, pVar_eq, List.getElem?_cons_zero]
  show (Fl.seq (forL (gSet 4) vB (t.map mI) [.va (mL t), .va (mI m), .ow [], .ow (([] : List Nat).map mI), .un]) vE).out = _
  rw [q] <;> rfl
/-! ### joined -/
theorem enumL_map {γ : Type} (f : γ → D) : ∀ (l : List γ) (k : Nat), enumL k (l.map f) = (l.zipIdx k).map fun p => .tup [.int (p.2 : Nat), f p.1]
  | [], _ => rfl
  | x :: l, k => by
    rw [List.map_cons, List.zipIdx_cons, List.map_cons, ← enumL_map f l (k + 1)] <;> rfl
def jB : PSt := (sSeq (sIf (pB (pOp oGt (pVar 3) (pC (.int 0)))) (sExt 2 (pVar 1)) sNext)
 (sExt 2 (pVar 4)))
def jG : PTg := (gTup' 2 (gCons' (gSet 3) (gCons' (gSet 4) gNil')))
/-- what is behind the k-th part -/
def joinFrom (sep : List Nat) : Nat → List (List Nat) → List Nat
  | _, [] => []
  | k, p :: r => (if 0 < k then sep else []) ++ p ++ joinFrom sep (k + 1) r
theorem joinFrom_pos (sep : List Nat) : ∀ (l : List (List Nat)) (k j : Nat), 0 < k → 0 < j → joinFrom sep k l = joinFrom sep j l
  | [], _, _, _, _ => rfl
  | p :: r, k, j, h1, h2 => by
    show (if 0 < k then sep else []) ++ p ++ joinFrom sep (k + 1) r = (if 0 < j then sep else []) ++ p ++ joinFrom sep (j + 1) r
    rw [if_pos h1, if_pos h2, joinFrom_pos sep r (k + 1) (j + 1) (by omega) (by omega)]
theorem joinFrom_eq (sep : List Nat) : ∀ l : List (List Nat), joinFrom sep 0 l = Kh450.joinTexts sep l
  | [] => rfl
  | [p] => by simp [joinFrom, Kh450.joinTexts]
  | p :: q :: r => by
    have ih := joinFrom_eq sep (q :: r)
    show (if 0 < 0 then sep else []) ++ p ++ joinFrom sep 1 (q :: r) = p ++ sep ++ Kh450.joinTexts sep (q :: r)
    rw [← ih]
    show (if 0 < 0 then sep else []) ++ p ++ ((if 0 < 1 then sep else []) ++ q ++ joinFrom sep 2 r) = p ++ sep ++ ((if 0 < 0 then sep else []) ++ q ++ joinFrom sep 1 r)
    rw [joinFrom_pos sep r 2 1 (by decide) (by decide)]
    simp
theorem join_loop (s : D) (sep : List Nat) : ∀ (l : List (List Nat)) (k : Nat) (acc : List Nat) (x y : Sl), acc.length + (joinFrom sep k l).length ≤ line →
    (forL jG jB (enumL k (l.map mL)) [.va s, .va (mL sep), .ow (acc.map mI), x, y]).seq (sRetV 2) = .rt (.li true ((acc ++ joinFrom sep k l).map mI))
  | [], k, acc, x, y, h => by simp [forL_nil, enumL, joinFrom]
  | p :: r, k, acc, x, y, h => by
    have e : joinFrom sep k (p :: r) = (if 0 < k then sep else []) ++ p ++ joinFrom sep (k + 1) r := rfl
    rw [e] at h ⊢
    rw [List.map_cons]
    show (forL jG jB (.tup [.int (k : Nat), mL p] :: enumL (k + 1) (r.map mL)) _).seq _ = _
    rw [forL_cons]
    have ih := join_loop s sep r (k + 1) (acc ++ ((if 0 < k then sep else []) ++ p)) (.va (mI k)) (.va (mL p)) (by simp at h ⊢; omega)
    have e2 : acc ++ ((if 0 < k then sep else []) ++ p ++ joinFrom sep (k + 1) r) = acc ++ ((if 0 < k then sep else []) ++ p) ++ joinFrom sep (k + 1) r := by simp
    rw [e2, ← ih]
    by_cases hk : 0 < k
    · have q : (0 : Int) < (k : Int) := by omega
      rw [if_pos hk] at h ⊢
      have h1 : acc.length + sep.length ≤ line := by simp at h; omega
      have h2 : acc.length + (sep.length + p.length) ≤ line := by simp at h; omega
      have h3 : acc.length + sep.length + p.length ≤ line := by omega
      simp [jB, jG, q, hk, h1, h2, h3]
    · have q : ¬ (0 : Int) < (k : Int) := by omega
      rw [if_neg hk] at h ⊢
      have h2 : acc.length + p.length ≤ line := by simp at h; omega
      simp [jB, jG, q, hk, h2]
theorem joined_eq (l : List (List Nat)) (sep : List Nat) (h : (Kh450.joinTexts sep l).length ≤ line) : pf_joined [.lst (l.map mL), mL sep] = .ok (.li true ((Kh450.joinTexts sep l).map mI)) := by
  unfold pf_joined pb_joined
  have q := join_loop (.lst (l.map mL)) sep l 0 [] .un .un (by rw [joinFrom_eq]; simpa using h)
  rw [joinFrom_eq] at q
  simp only [run_2, sSeq_eq, sSet_eq, pLst_eq, pNil_eq, R.bind_ok, R.fl_ok, E.keep_cl, List.length_nil, Nat.zero_le, if_true, List.set, List.replicate, seq_nx, Nat.reduceSub, sFor_eq, iEnum_eq, pVar_eq, List.getElem?_cons_zero]
  show (Fl.seq (forL jG jB (enumL 0 (l.map mL)) [.va (.lst (l.map mL)), .va (mL sep), .ow (([] : List Nat).map mI), .un, .un]) (sRetV 2)).out = _
  rw [q] <;> rfl
end PL
namespace PL
open PW PF
/-! ### a justified line -/
theorem words_bound : ∀ (t w : List Nat), ((wordsAux w t).map List.length).sum ≤ w.length + t.length ∧ (wordsAux w t).length ≤ w.length + t.length
  | [], w => by
    unfold wordsAux
    cases w with
    | nil => simp
    | cons a w => simp
  | c :: r, w => by
    show ((if Kh450.isWhite c = true then (if w = [] then wordsAux [] r else w :: wordsAux [] r) else wordsAux (w ++ [c]) r).map List.length).sum ≤ _ ∧ _
    show _ ∧ (if Kh450.isWhite c = true then (if w = [] then wordsAux [] r else w :: wordsAux [] r) else wordsAux (w ++ [c]) r).length ≤ _
    have b0 := words_bound r []
    have b1 := words_bound r (w ++ [c])
    cases w with
    | nil =>
      split
      · simp at b0 ⊢; omega
      · simp at b1 ⊢; omega
    | cons a w =>
      split
      · simp at b0 ⊢; omega
      · simp at b1 ⊢; omega
def spAt (g sp k : Nat) : List Nat := if k < g then List.replicate (sp / g + (if k < sp % g then 1 else 0)) 32 else []
def jf (g sp : Nat) (p : List Nat × Nat) : List Nat := p.1 ++ spAt g sp p.2
theorem spAt_len (g sp k : Nat) : (spAt g sp k).length ≤ sp + 1 := by
  unfold spAt
  split
  · rw [List.length_replicate]
    have := Nat.div_le_self sp g
    split <;> omega
  · simp
theorem jf_len (g sp : Nat) : ∀ (l : List (List Nat)) (k : Nat), ((l.zipIdx k).flatMap (jf g sp)).length ≤ (l.map List.length).sum + l.length * (sp + 1)
  | [], k => by simp
  | p :: r, k => by
    have ih := jf_len g sp r (k + 1)
    have := spAt_len g sp k
    rw [List.zipIdx_cons, List.flatMap_cons, List.length_append, List.map_cons, List.sum_cons, List.length_cons, Nat.add_mul]
    have e : (jf g sp (p, k)).length = p.length + (spAt g sp k).length := by simp [jf]
    rw [e]
    omega
def lB : PSt := (sSeq (sExt 6 (pVar 5))
 (sIf (pB (pOp oLt (pVar 7) (pVar 3))) (sExt 6 (pOp oMul (pLst (pCons (pC (.int 32)) pNil)) (pOp oAdd (pOp oDiv (pVar 4) (pVar 3)) (pUn bInt (pOp oLt (pVar 7) (pOp oMod (pVar 4) (pVar 3))))))) sNext))
def lG : PTg := (gTup' 2 (gCons' (gSet 7) (gCons' (gSet 5) gNil')))
theorem rep_flat (n : Nat) : (List.replicate n [D.int 32]).flatten = (List.replicate n 32).map mI := by
  induction n with
  | zero => rfl
  | succ n ih => rw [List.replicate_succ, List.flatten_cons, ih, List.replicate_succ, List.map_cons] <;> rfl
theorem mul32 {i : Int} (n : Nat) (e : i = (n : Int)) (h : n ≤ line) : oMul (.lst [.int 32]) (.int i) = .ok (.li true ((List.replicate n 32).map mI)) := by
  have h2 : n < 2 ^ 63 := Nat.lt_of_le_of_lt h (by decide)
  have h3 : ([D.int 32] : List D).length * n ≤ line := by
    rw [List.length_singleton, Nat.one_mul]
    exact h
  rw [oMul_lst e h2 h3, rep_flat]
theorem sExt_of {i : Nat} {a : PEx} {r : Env} {l m : List D} {z : E} (h : r[i]? = some (.ow l)) (ha : a r = .ok z) (hz : z.rd = .lst m) (hl : l.length + m.length ≤ line) : sExt i a r = .nx (r.set i (.ow (l ++ m))) := by
  rw [sExt_eq, h]
  simp only [ha, R.fl_ok, hz]
  rw [if_pos hl]
theorem in1 (g sp k : Nat) (hgi : (0 : Int) < (g : Int)) (hgi2 : (g : Int) < 1073741824) (r : Env) (h4 : r[4]? = some (.va (.int (sp : Int)))) (h3 : r[3]? = some (.va (.int (g : Int)))) (h7 : r[7]? = some (.va (.int (k : Int)))) :
   (pOp oAdd (pOp oDiv (pVar 4) (pVar 3)) (pUn bInt (pOp oLt (pVar 7) (pOp oMod (pVar 4) (pVar 3))))) r = .ok (.cl (.int ((sp / g + (if k < sp % g then 1 else 0) : Nat) : Int))) := by
  have dv := oDiv_int (i := (sp : Int)) hgi hgi2
  have md := oMod_int (i := (sp : Int)) hgi
  by_cases hm : k < sp % g
  · have qm : (k : Int) < (sp : Int) % (g : Int) := by omega
    simp [h4, h3, h7, dv, md, qm, hm]
  · have qm : ¬ (k : Int) < (sp : Int) % (g : Int) := by omega
    simp [h4, h3, h7, dv, md, qm, hm]
theorem in2 (r : Env) : (pLst (pCons (pC (.int 32)) pNil)) r = .ok (.li true [.int 32]) := by simp [ll1]
theorem in3 (n : Nat) (h : n ≤ line) (b : PEx) (r : Env) (hb : b r = .ok (.cl (.int (n : Int)))) : (pOp oMul (pLst (pCons (pC (.int 32)) pNil)) b) r = .ok (.li true ((List.replicate n 32).map mI)) := by
  rw [pOp_eq, in2, hb, R.bind_ok, R.bind_ok, E.rd_li, E.rd_cl]
  exact mul32 n rfl h
theorem just_step (s w W : D) (g sp : Nat) (hg : 0 < g) (hg2 : g < 1073741824) (p : List Nat) (k : Nat) (acc : List Nat) (x y : Sl) (h : acc.length + p.length + (spAt g sp k).length ≤ line) :
    ∃ r1, lG (.tup [.int (k : Nat), mL p]) [.va s, .va w, .va W, .va (mI g), .va (mI sp), x, .ow (acc.map mI), y] = .ok r1 ∧ lB r1 = .nx [.va s, .va w, .va W, .va (mI g), .va (mI sp), .va (mL p), .ow ((acc ++ (p ++ spAt g sp k)).map mI), .va (mI k)] := by
  refine ⟨[.va s, .va w, .va W, .va (mI g), .va (mI sp), .va (mL p), .ow (acc.map mI), .va (mI k)], rfl, ?_⟩
  have h1 : (acc.map mI).length + (p.map mI).length ≤ line := by rw [List.length_map, List.length_map]; omega
  have hgi : (0 : Int) < (g : Int) := by omega
  have hgi2 : (g : Int) < 1073741824 := by omega
  unfold lB
  rw [sSeq_eq, sExt_of (l := acc.map mI) (m := p.map mI) (z := .cl (mL p)) rfl rfl rfl h1, seq_nx, ← List.map_append, ← List.append_assoc]
  show sIf _ _ _ [.va s, .va w, .va W, .va (mI g), .va (mI sp), .va (mL p), .ow ((acc ++ p).map mI), .va (mI k)] = _
  have ht : (pB (pOp oLt (pVar 7) (pVar 3))) [.va s, .va w, .va W, .va (mI g), .va (mI sp), .va (mL p), .ow ((acc ++ p).map mI), .va (mI k)] = .ok (decide ((k : Int) < (g : Int))) := rfl
  rw [sIf_eq, ht, R.fl_ok]
  unfold spAt at h ⊢
  by_cases hk : k < g
  · rw [if_pos hk] at h ⊢
    rw [if_pos (by simpa using hk)]
    rw [List.length_replicate] at h
    rw [sExt_of (l := (acc ++ p).map mI) (m := (List.replicate (sp / g + (if k < sp % g then 1 else 0)) 32).map mI) rfl (in3 _ (by omega) _ _ (in1 g sp k hgi hgi2 _ rfl rfl rfl)) rfl (by rw [List.length_map, List.length_map, List.length_append, List.length_replicate]; omega), ← List.map_append]
    rfl
  · rw [if_neg hk, if_neg (by simpa using hk), List.append_nil]
    rfl
theorem just_loop (s w W : D) (g sp : Nat) (hg : 0 < g) (hg2 : g < 1073741824) : ∀ (l : List (List Nat)) (k : Nat) (acc : List Nat) (x y : Sl), acc.length + ((l.zipIdx k).flatMap (jf g sp)).length ≤ line →
    (forL lG lB (enumL k (l.map mL)) [.va s, .va w, .va W, .va (mI g), .va (mI sp), x, .ow (acc.map mI), y]).seq (sRetV 6) = .rt (.li true ((acc ++ (l.zipIdx k).flatMap (jf g sp)).map mI))
  | [], k, acc, x, y, h => by simp [forL_nil, enumL]
  | p :: r, k, acc, x, y, h => by
    rw [List.map_cons]
    show (forL lG lB (.tup [.int (k : Nat), mL p] :: enumL (k + 1) (r.map mL)) _).seq _ = _
    rw [forL_cons]
    rw [List.zipIdx_cons, List.flatMap_cons] at h ⊢
    have e1 : jf g sp (p, k) = p ++ spAt g sp k := rfl
    rw [e1] at h ⊢
    have ih := just_loop s w W g sp hg hg2 r (k + 1) (acc ++ (p ++ spAt g sp k)) (.va (mL p)) (.va (mI k)) (by simp at h ⊢; omega)
    obtain ⟨r1, h1, h2⟩ := just_step s w W g sp hg hg2 p k acc x y (by simp at h; omega)
    rw [← List.append_assoc acc, ← ih, h1, R.fl_ok, h2, turn_nx]
theorem len_map (l : List (List Nat)) (r : Env) (i : Nat) (hi : i < r.length) (hl : l.length ≤ line) : lcLoop (gSet i) (pNoxT pYes) (pNoxE (pUn oLen (pVar i))) r (l.map mL) [] = .ok (.li true (l.map fun x => mI x.length)) := by
  have := lc_map (g := gSet i) (t := pNoxT pYes) (a := pNoxE (pUn oLen (pVar i))) (r := r) (f := mL) (h := fun x : List Nat => mI x.length) l [] (fun x hx => ⟨r.set i (.va (mL x)), rfl, rfl, .cl (mI x.length), by simp [hi], rfl⟩) (by simpa using hl)
  simpa using this
theorem sum_cast : ∀ l : List (List Nat), (l.map fun x => ((x.length : Nat) : Int)).sum = (((l.map List.length).sum : Nat) : Int)
  | [] => rfl
  | x :: r => by
    simp only [List.map_cons, List.sum_cons]
    rw [sum_cast r]
    omega
theorem justified_line_eq (t : List Nat) (w : Nat) (ht : t.length ≤ 4000) (hw : w ≤ 80) : pf_justified_line [mL t, mI w] = .ok (.li true ((Kh455.justify w t).map mI)) := by
  obtain ⟨b1, b2⟩ := words_bound t []
  have hww := wordsOf_eq t
  generalize hW : Kh455.wordsOf t = W at hww
  rw [← hww] at b1 b2
  have e1 : pf_words_of [mL t] = .ok (.li true (W.map mL)) := by rw [words_of_eq t (by unfold line; omega), hW]
  have e2 : bSum (.lst (W.map fun x => mI x.length)) = .ok (.cl (.int (((W.map List.length).sum : Nat) : Int))) := by
    have := bSum_eq (W.map fun x => ((x.length : Nat) : Int))
    rw [List.map_map, sum_cast] at this
    exact this
  unfold Kh455.justify
  rw [hW]
  simp only
  generalize hL : (W.map List.length).sum = L at e2 b1 ⊢
  have b1' : L ≤ 4000 := by simp at b1; omega
  have b2' : W.length ≤ 4000 := by simp at b2; omega
  unfold pf_justified_line pb_justified_line
  by_cases c : W.length - 1 = 0 ∨ w < L + (W.length - 1)
  · rw [if_pos c]
    have lm : lcLoop (gSet 5) (pNoxT pYes) (pNoxE (pUn oLen (pVar 5))) [.va (mL t), .va (mI w), .va (.lst (W.map mL)), .va (.int ((W.length : Int) - 1)), .un, .un, .un, .un] (W.map mL) [] = .ok (.li true (W.map fun x => mI x.length)) := len_map W _ 5 (by simp) (by unfold line; omega)
    by_cases c1 : (W.length : Int) - 1 < 1
    · simp [e1, lm, e2, c1]
    · have c2 : (w : Int) - (L : Int) < (W.length : Int) - 1 := by omega
      simp [e1, lm, e2, c1, c2]
  · rw [if_neg c]
    have g1 : ¬ (W.length : Int) - 1 < 1 := by omega
    have g2 : ¬ (w : Int) - (L : Int) < (W.length : Int) - 1 := by omega
    have lm : lcLoop (gSet 5) (pNoxT pYes) (pNoxE (pUn oLen (pVar 5))) [.va (mL t), .va (mI w), .va (.lst (W.map mL)), .va (.int ((W.length : Int) - 1)), .un, .un, .un, .un] (W.map mL) [] = .ok (.li true (W.map fun x => mI x.length)) := len_map W _ 5 (by simp) (by unfold line; omega)
    have eg : (W.length : Int) - 1 = ((W.length - 1 : Nat) : Int) := by omega
    have es : (w : Int) - (L : Int) = ((w - L : Nat) : Int) := by omega
    have bd := jf_len (W.length - 1) (w - L) W 0
    have bd2 : W.length * (w - L + 1) ≤ 4000 * 81 := Nat.mul_le_mul b2' (by omega)
    have jl := just_loop (mL t) (mI w) (.lst (W.map mL)) (W.length - 1) (w - L) (by omega) (by omega) W 0 [] .un .un (by rw [hL] at bd; simp only [List.length_nil]; unfold line; omega)
    have ef : (fun p : List Nat × Nat => p.1 ++ (if p.2 < W.length - 1 then List.replicate ((w - L) / (W.length - 1) + (if p.2 < (w - L) % (W.length - 1) then 1 else 0)) 32 else [])) = jf (W.length - 1) (w - L) := rfl
    rw [ef]
    have pre : ∀ tail : PSt, (sSeq (sSetK 2 (pCall pf_words_of (pCons (pVar 0) pNil)))
     (sSeq (sSetK 3 (pOp oSub (pUn oLen (pVar 2)) (pC (.int 1))))
     (sSeq (sSetK 4 (pOp oSub (pVar 1) (pUn bSum (pLc [5] (iLstR (pVar 2)) (gSet 5) (pNoxT pYes) (pNoxE (pUn oLen (pVar 5)))))))
     (sSeq (sIf (pOr (pB (pOp oLt (pVar 3) (pC (.int 1)))) (pB (pOp oLt (pVar 4) (pVar 3)))) (sRet (pUn bList (pVar 0))) sNext) tail)))) [.va (mL t), .va (mI w), .un, .un, .un, .un, .un, .un] = tail [.va (mL t), .va (mI w), .va (.lst (W.map mL)), .va (.int ((W.length : Int) - 1)), .va (.int ((w : Int) - (L : Int))), .un, .un, .un] := fun tail => by
      simp [e1, lm, e2, g1, g2]
    rw [run_2]
    show Fl.out (sSeq _ _ [.va (mL t), .va (mI w), .un, .un, .un, .un, .un, .un]) = _
    rw [pre, eg, es]
    simp only [sSeq_eq, sSet_eq, pLst_eq, pNil_eq, R.bind_ok, R.fl_ok, List.length_nil, Nat.zero_le, if_true, List.set, seq_nx, sFor_eq, iEnum_eq, pVar_eq, List.getElem?_cons_zero, List.getElem?_cons_succ, E.keep_cl]
    show (Fl.seq (forL lG lB (enumL 0 (W.map mL)) [.va (mL t), .va (mI w), .va (.lst (W.map mL)), .va (mI (W.length - 1)), .va (mI (w - L)), .un, .ow (([] : List Nat).map mI), .un]) (sRetV 6)).out = _
    rw [jl] <;> rfl
end PL
namespace PL
open PW PF
theorem ask_eq (b : Bool) (c : Int) : pf_ask [.bl b, .int c] = if b then .ok (.cl .non) else .ex (.refused (.int c)) := by
  unfold pf_ask pb_ask
  cases b <;> simp
theorem check_width_eq (w : Nat) : pf_check_width [.int (w : Int)] = if Kh455.isWidth w then .ok (.cl .non) else .ex (.refused (.int (-22))) := by
  unfold pf_check_width pb_check_width Kh455.isWidth
  by_cases h1 : 10 ≤ w
  · have q1 : (10 : Int) ≤ (w : Int) := by omega
    by_cases h2 : w ≤ 80
    · have q2 : (w : Int) ≤ 80 := by omega
      simp [q1, q2, h1, h2, ask_eq]
    · have q2 : ¬ (w : Int) ≤ 80 := by omega
      simp [q1, q2, h1, h2, ask_eq]
  · have q1 : ¬ (10 : Int) ≤ (w : Int) := by omega
    simp [q1, h1, ask_eq]
theorem text_in_eq {S : List D → D} (sq : Sq S) (t : List Nat) (ht : t.length < 1000000) : pf_text_in [S (t.map mI)] = match Kh450.decodeAll t with
    | none => .ex (.refused (.int (-24)))
    | some s => .ok (.cl (mL s)) := by
  unfold pf_text_in pb_text_in
  have e := decoded_eq sq t ht
  cases h : Kh450.decodeAll t with
  | none =>
    rw [h] at e
    simp [e, oText, ask_eq]
  | some s =>
    rw [h] at e
    simp [e, oText, ask_eq]
theorem text_answer_eq (l : List (List Nat)) (h : 4 * (Kh450.joinTexts [10] l).length < 16000000) : pf_text_answer [.lst (l.map mL)] = .ok (.li true (((Kh450.encodeAll (Kh450.joinTexts [10] l)).length :: Kh450.encodeAll (Kh450.joinTexts [10] l)).map mI)) := by
  have e1 : pf_joined [.lst (l.map mL), .lst [.int 10]] = .ok (.li true ((Kh450.joinTexts [10] l).map mI)) := joined_eq l [10] (by unfold line; omega)
  have e2 := encoded_eq (Kh450.joinTexts [10] l) (by unfold line; omega)
  have hb : ∀ t : List Nat, (Kh450.encodeAll t).length ≤ 4 * t.length := fun t => by
    induction t with
    | nil => simp [Kh450.encodeAll]
    | cons a r ih =>
      have := encodeUtf8_len a
      simp [Kh450.encodeAll] at ih ⊢
      omega
  have hl := hb (Kh450.joinTexts [10] l)
  generalize Kh450.joinTexts [10] l = j at e1 e2 hl h ⊢
  have hz : 1 + (Kh450.encodeAll j).length ≤ line := by unfold line; omega
  unfold pf_text_answer pb_text_answer
  simp [e1, e2, ll1, hz]
theorem just_map (l : List (List Nat)) (w : Nat) (r : Env) (hr : r.length = 4) (h0 : r[0]? = some (.va (mI w))) (hw : w ≤ 80) (hl : l.length ≤ line) (hs : ∀ x ∈ l, x.length ≤ 4000) :
    lcLoop (gSet 3) (pNoxT pYes) (pNoxE (pCall pf_justified_line (pCons (pVar 3) (pCons (pVar 0) pNil)))) r (l.map mL) [] = .ok (.li true ((l.map (Kh455.justify w)).map mL)) := by
  have := lc_map (g := gSet 3) (t := pNoxT pYes) (a := pNoxE (pCall pf_justified_line (pCons (pVar 3) (pCons (pVar 0) pNil)))) (r := r) (f := mL) (h := fun x : List Nat => mL (Kh455.justify w x)) l []
    (fun x hx => ⟨r.set 3 (.va (mL x)), rfl, rfl, .li true ((Kh455.justify w x).map mI), by
      have e0 : (r.set 3 (.va (mL x)))[0]? = some (.va (mI w)) := by rw [List.getElem?_set_ne (by decide), h0]
      have e3 : (r.set 3 (.va (mL x)))[3]? = some (.va (mL x)) := by rw [List.getElem?_set_self (by rw [hr]; decide)]
      simp [e0, e3, justified_line_eq x w (hs x hx) hw], rfl⟩) (by simpa using hl)
  rw [this]
  simp
theorem split_bound (m : Nat) : ∀ t : List Nat, (Kh455.splitAt m t).length ≤ t.length + 1 ∧ ∀ x ∈ Kh455.splitAt m t, x.length ≤ t.length
  | [] => by simp [Kh455.splitAt]
  | c :: r => by
    obtain ⟨h1, h2⟩ := split_bound m r
    obtain ⟨a, l, e⟩ := splitAt_ne m r
    rw [e] at h1 h2
    unfold Kh455.splitAt
    rw [e]
    simp only
    split
    · refine ⟨by simp at h1 ⊢; omega, fun x hx => ?_⟩
      rcases List.mem_cons.mp hx with rfl | hx
      · simp
      · have := h2 x hx
        simp
        omega
    · refine ⟨by simp at h1 ⊢; omega, fun x hx => ?_⟩
      rcases List.mem_cons.mp hx with rfl | hx
      · have := h2 a (by simp)
        simp
        omega
      · have := h2 x (by simp [hx])
        simp
        omega
theorem jf_len2 (g sp : Nat) : ∀ (l : List (List Nat)) (k : Nat), ((l.zipIdx k).flatMap (jf g sp)).length ≤ (l.map List.length).sum + l.length * (sp / g + 1)
  | [], k => by simp
  | p :: r, k => by
    have ih := jf_len2 g sp r (k + 1)
    have h2 : (spAt g sp k).length ≤ sp / g + 1 := by
      unfold spAt
      split
      · rw [List.length_replicate]
        split <;> omega
      · simp
    rw [List.zipIdx_cons, List.flatMap_cons, List.length_append, List.map_cons, List.sum_cons, List.length_cons, Nat.add_mul]
    have e : (jf g sp (p, k)).length = p.length + (spAt g sp k).length := by simp [jf]
    rw [e]
    omega
theorem justify_len (w : Nat) (t : List Nat) (hw : w ≤ 80) : (Kh455.justify w t).length ≤ 2 * t.length + 161 := by
  unfold Kh455.justify
  simp only
  obtain ⟨b1, b2⟩ := words_bound t []
  rw [← wordsOf_eq] at b1 b2
  split
  · omega
  · rename_i c
    have := jf_len2 ((Kh455.wordsOf t).length - 1) (w - ((Kh455.wordsOf t).map List.length).sum) (Kh455.wordsOf t) 0
    simp only [List.length_nil, Nat.zero_add] at b1 b2
    generalize hL : ((Kh455.wordsOf t).map List.length).sum = L at *
    generalize hn : (Kh455.wordsOf t).length = n at *
    have hn1 : n = (n - 1) + 1 := by omega
    generalize n - 1 = g at *
    subst hn1
    have hd : g * ((w - L) / g) ≤ w - L := Nat.mul_div_le _ _
    have hd2 : (w - L) / g ≤ w - L := Nat.div_le_self _ _
    rw [Nat.add_mul, Nat.mul_add, Nat.one_mul] at this
    exact Nat.le_trans this (by omega)
theorem join_len (sep : List Nat) : ∀ (l : List (List Nat)) (k b : Nat), (∀ x ∈ l, x.length ≤ b) → (joinFrom sep k l).length ≤ l.length * (sep.length + b)
  | [], _, _, _ => by simp [joinFrom]
  | p :: r, k, b, h => by
    have ih := join_len sep r (k + 1) b fun x hx => h x (by simp [hx])
    have := h p (by simp)
    have e : joinFrom sep k (p :: r) = (if 0 < k then sep else []) ++ p ++ joinFrom sep (k + 1) r := rfl
    rw [e]
    simp only [List.length_append, List.length_cons, Nat.add_mul]
    split
    · omega
    · simp
      omega
theorem dec_len : ∀ (f : Nat) (t s : List Nat), Kh450.decodeAllLoop f t = some s → s.length ≤ f
  | _, [], s, h => by
    have e : ∀ f, Kh450.decodeAllLoop f [] = some [] := fun f => by cases f <;> rfl
    rw [e] at h
    cases h
    simp
  | 0, a :: r, s, h => by cases h
  | f + 1, a :: r, s, h => by
    have e : Kh450.decodeAllLoop (f + 1) (a :: r) = match Kh450.decodeUtf8 (a :: r) with
      | none => none
      | some (c, rest) => (Kh450.decodeAllLoop f rest).map fun codes => c :: codes := rfl
    rw [e] at h
    cases hu : Kh450.decodeUtf8 (a :: r) with
    | none => rw [hu] at h; cases h
    | some p =>
      rw [hu] at h
      obtain ⟨l, h1, h2⟩ := Option.map_eq_some_iff.mp h
      have := dec_len f _ l h1
      rw [← h2]
      simp
      omega
/-- what justify gives -/
theorem justify_eq (w : Nat) (t : List Nat) (ht : t.length ≤ 600) : pf_justify [.int (w : Int), .arg (t.map mI)] = .ok (.li true ((Kh455Neutral.integers (Kh455.answer (.justify w t))).map D.int)) := by
  unfold pf_justify pb_justify
  have hc := check_width_eq w
  show _ = R.ok (E.li true ((Kh455Neutral.integers (if !Kh455.isWidth w then Kh450.number (-22) else Kh450.withText t fun t => Kh455.textResult (Kh455.linesText ((Kh455.splitAt 10 t).map (Kh455.justify w))))).map D.int))
  cases hw : Kh455.isWidth w with
  | false =>
    rw [hw] at hc
    simp [sTryRef, hc, Kh455Neutral.integers, Kh450.number, D.scalar]
  | true =>
    rw [hw] at hc
    have hw2 : w ≤ 80 := by
      have := Bool.and_eq_true_iff.mp hw
      exact of_decide_eq_true this.2
    have ht2 := text_in_eq sqA t (by omega)
    cases hd : Kh450.decodeAll t with
    | none =>
      rw [hd] at ht2
      simp [sTryRef, hc, ht2, Kh455Neutral.integers, Kh450.number, D.scalar, Kh450.withText, hd]
    | some s =>
      rw [hd] at ht2
      have hs : s.length ≤ 600 := Nat.le_trans (dec_len _ _ _ hd) ht
      obtain ⟨b1, b2⟩ := split_bound 10 s
      have e1 : pf_divided_at [mL s, .int 10] = .ok (.li true ((Kh455.splitAt 10 s).map mL)) := divided_at_eq s 10 (by unfold line; omega)
      have e2 := just_map (Kh455.splitAt 10 s) w [.va (mI w), .va (.arg (t.map mI)), .un, .un] rfl rfl hw2 (by unfold line; omega) (fun x hx => by have := b2 x hx; omega)
      have hj : (Kh450.joinTexts [10] ((Kh455.splitAt 10 s).map (Kh455.justify w))).length ≤ 601 * (1 + 1361) := by
        rw [← joinFrom_eq]
        refine Nat.le_trans (join_len [10] _ 0 1361 fun x hx => ?_) (Nat.mul_le_mul (by simp; omega) (Nat.le_refl _))
        obtain ⟨y, hy, rfl⟩ := List.mem_map.mp hx
        have := justify_len w y hw2
        have := b2 y hy
        omega
      have e3 := text_answer_eq ((Kh455.splitAt 10 s).map (Kh455.justify w)) (by omega)
      have e4 : Kh455Neutral.integers (Kh450.withText t fun t => Kh455.textResult (Kh455.linesText ((Kh455.splitAt 10 t).map (Kh455.justify w)))) = ((Kh450.encodeAll (Kh450.joinTexts [10] ((Kh455.splitAt 10 s).map (Kh455.justify w)))).length :: Kh450.encodeAll (Kh450.joinTexts [10] ((Kh455.splitAt 10 s).map (Kh455.justify w)))).map Int.ofNat := by
        unfold Kh450.withText
        rw [hd]
        rfl
      have e5 : ∀ l : List Nat, (l.map Int.ofNat).map D.int = l.map mI := fun l => by
        rw [List.map_map] <;> rfl
      simp only [Bool.not_true, Bool.false_eq_true, if_false]
      rw [e4, e5]
      rw [List.map_map] at e3
      simp [sTryRef, hc, ht2, e1, e2, e3]
end PL
namespace PL
open PW PF
/-! ### kinds of signs -/
theorem chain_in (lo hi n : Nat) : (if (lo : Int) ≤ (n : Int) then decide ((n : Int) ≤ (hi : Int)) else false) = (decide (lo ≤ n) && decide (n ≤ hi)) := by
  by_cases h : lo ≤ n
  · have : (lo : Int) ≤ (n : Int) := by omega
    rw [if_pos this, decide_eq_true h, Bool.true_and]
    have e : ((n : Int) ≤ (hi : Int)) = (n ≤ hi) := propext (by omega)
    simp only [e]
  · have : ¬ (lo : Int) ≤ (n : Int) := by omega
    rw [if_neg this, decide_eq_false h, Bool.false_and]
theorem is_digit_eq (n : Nat) : pf_is_digit [.int (n : Int)] = .ok (.cl (.bl (Kh450.isDigit n))) := by
  unfold pf_is_digit pb_is_digit Kh450.isDigit
  by_cases h1 : 48 ≤ n
  · have q1 : (48 : Int) ≤ (n : Int) := by omega
    have e : ((n : Int) ≤ 57) = (n ≤ 57) := propext (by omega)
    simp [h1, q1, e]
  · have q1 : ¬ (48 : Int) ≤ (n : Int) := by omega
    simp [h1, q1]
theorem is_lower_eq (n : Nat) : pf_is_lower [.int (n : Int)] = .ok (.cl (.bl (Kh450.isLower n))) := by
  unfold pf_is_lower pb_is_lower Kh450.isLower
  by_cases h1 : 97 ≤ n
  · have q1 : (97 : Int) ≤ (n : Int) := by omega
    have e : ((n : Int) ≤ 122) = (n ≤ 122) := propext (by omega)
    simp [h1, q1, e]
  · have q1 : ¬ (97 : Int) ≤ (n : Int) := by omega
    simp [h1, q1]
theorem is_upper_eq (n : Nat) : pf_is_upper [.int (n : Int)] = .ok (.cl (.bl (Kh450.isUpper n))) := by
  unfold pf_is_upper pb_is_upper Kh450.isUpper
  by_cases h1 : 65 ≤ n
  · have q1 : (65 : Int) ≤ (n : Int) := by omega
    have e : ((n : Int) ≤ 90) = (n ≤ 90) := propext (by omega)
    simp [h1, q1, e]
  · have q1 : ¬ (65 : Int) ≤ (n : Int) := by omega
    simp [h1, q1]
/-! ### a pattern -/
theorem m0 : mI 0 = D.int 0 := rfl
abbrev pD (p : Kh455.Pattern) : D := .ob 0 [mL p.letters, mL p.levels]
def patAux : Option Nat → List Nat → Option Kh455.Pattern
  | dg, [] => some ⟨[], [dg.getD 0]⟩
  | dg, c :: r => if (Kh450.isDigit c && dg.isNone) = true then patAux (some (c - 48)) r
    else if (Kh450.isLower c || c == 46) = true then (patAux none r).map fun p => ⟨c :: p.letters, dg.getD 0 :: p.levels⟩
    else none
/-- behind a digit -/
def afterDigit (d : Nat) (t : List Nat) : Option Kh455.Pattern := match t with
  | [] => some ⟨[], [d]⟩
  | c :: _ => if Kh450.isDigit c then none else (Kh455.readPattern t).map fun p => ⟨p.letters, d :: p.levels.drop 1⟩
theorem digit_no {c : Nat} (h : Kh450.isDigit c = true) : (Kh450.isLower c || c == 46) = false := by
  unfold Kh450.isDigit at h
  have h2 := Bool.and_eq_true_iff.mp h
  have h3 := of_decide_eq_true h2.1
  have h4 := of_decide_eq_true h2.2
  unfold Kh450.isLower
  have e1 : ¬ 97 ≤ c := by omega
  have e2 : ¬ c = 46 := by omega
  simp [e1, e2]
theorem pat_both : ∀ t : List Nat, patAux none t = Kh455.readPattern t ∧ ∀ d, patAux (some d) t = afterDigit d t
  | [] => ⟨rfl, fun d => rfl⟩
  | c :: r => by
    obtain ⟨i1, i2⟩ := pat_both r
    have e0 : Kh455.readPattern (c :: r) = if Kh450.isDigit c then (match r with
        | [] => some ⟨[], [c - 48]⟩
        | d :: _ => if Kh450.isDigit d then none else (Kh455.readPattern r).map fun p => ⟨p.letters, (c - 48) :: p.levels.drop 1⟩)
      else if Kh450.isLower c || c == 46 then (Kh455.readPattern r).map fun p => ⟨c :: p.letters, 0 :: p.levels⟩ else none := by
      cases r <;> rfl
    have e1 : ∀ dg, patAux dg (c :: r) = if (Kh450.isDigit c && dg.isNone) = true then patAux (some (c - 48)) r
      else if (Kh450.isLower c || c == 46) = true then (patAux none r).map fun p => ⟨c :: p.letters, dg.getD 0 :: p.levels⟩
      else none := fun _ => rfl
    refine ⟨?_, fun d => ?_⟩
    · rw [e0, e1]
      cases hc : Kh450.isDigit c with
      | true =>
        simp only [Option.isNone_none, Bool.and_self, if_true]
        rw [i2]
        cases r <;> rfl
      | false =>
        simp only [Bool.false_and, Bool.false_eq_true, if_false, i1, Option.getD_none]
    · show _ = if Kh450.isDigit c then none else (Kh455.readPattern (c :: r)).map fun p => (⟨p.letters, d :: p.levels.drop 1⟩ : Kh455.Pattern)
      rw [e0, e1]
      cases hc : Kh450.isDigit c with
      | true =>
        have := digit_no hc
        simp [this]
      | false =>
        simp only [Bool.false_and, Bool.false_eq_true, if_false, i1]
        cases hl : (Kh450.isLower c || c == 46) with
        | false => simp
        | true =>
          simp only [if_true]
          cases Kh455.readPattern r <;> rfl
def oDig (o : Option Nat) : D := match o with
  | none => .non
  | some d => .int (d : Int)
def pB1 : PSt := (sIf (pAnd (pB (pCall pf_is_digit (pCons (pVar 4) pNil))) (pB (pUn (oIsN false) (pVar 3)))) (sSetK 3 (pOp oSub (pVar 4) (pC (.int 48)))) (sIf (pOr (pB (pCall pf_is_lower (pCons (pVar 4) pNil))) (pB (pOp (oEq false) (pVar 4) (pC (.int 46))))) (sSeq (sApp 1 (pVar 4))
 (sSeq (sApp 2 (pIf (pB (pUn (oIsN false) (pVar 3))) (pC (.int 0)) (pVar 3)))
 (sSetK 3 (pC .non)))) (sRet (pC .non))))
def pE1 : PSt := (sSeq (sApp 2 (pIf (pB (pUn (oIsN false) (pVar 3))) (pC (.int 0)) (pVar 3)))
 (sFrz [1, 2] (sRet (pIf (pB (pOp (oEq true) (pVar 1) (pLst pNil))) (pMake 0 2 (pCons (pVar 1) (pCons (pVar 2) pNil))) (pC .non)))))
def patOut (ls vs : List Nat) : Option Kh455.Pattern → D
  | none => .non
  | some p => if (ls ++ p.letters).isEmpty then .non else .ob 0 [mL (ls ++ p.letters), mL (vs ++ p.levels)]
theorem pat_loop (w : D) : ∀ (t ls vs : List Nat) (dg : Option Nat) (x : Sl), ls.length + t.length < line → vs.length + t.length < line →
    (forL (gSet 4) pB1 (t.map mI) [.va w, .ow (ls.map mI), .ow (vs.map mI), .va (oDig dg), x]).seq pE1 = .rt (.cl (patOut ls vs (patAux dg t)))
  | [], ls, vs, dg, x, h1, h2 => by
    rw [List.map_nil, forL_nil]
    have h3 : vs.length < line := by simpa using h2
    cases dg with
    | none =>
      cases ls <;> simp [pE1, oDig, patAux, patOut, h3]
    | some d =>
      cases ls <;> simp [pE1, oDig, patAux, patOut, h3]
  | c :: r, ls, vs, dg, x, h1, h2 => by
    rw [List.map_cons, forL_cons]
    have h3 : ls.length < line := by simp at h1; omega
    have h4 : vs.length < line := by simp at h2; omega
    have e1 : patAux dg (c :: r) = if (Kh450.isDigit c && dg.isNone) = true then patAux (some (c - 48)) r
      else if (Kh450.isLower c || c == 46) = true then (patAux none r).map fun p => ⟨c :: p.letters, dg.getD 0 :: p.levels⟩
      else none := rfl
    rw [e1]
    by_cases hd : (Kh450.isDigit c && dg.isNone) = true
    · rw [if_pos hd]
      have hd2 := Bool.and_eq_true_iff.mp hd
      have hn : dg = none := by
        cases dg with
        | none => rfl
        | some d => cases hd2.2
      subst hn
      have hc : 48 ≤ c := by
        have := hd2.1
        unfold Kh450.isDigit at this
        exact of_decide_eq_true (Bool.and_eq_true_iff.mp this).1
      have ih := pat_loop w r ls vs (some (c - 48)) (.va (mI c)) (by simp at h1 ⊢; omega) (by simp at h2 ⊢; omega)
      rw [← ih]
      have ec : (c : Int) - 48 = ((c - 48 : Nat) : Int) := by omega
      simp [pB1, is_digit_eq, hd2.1, oDig, ec]
    · rw [if_neg hd]
      by_cases hl : (Kh450.isLower c || c == 46) = true
      · rw [if_pos hl]
        have hcd : Kh450.isDigit c = false := by
          cases q : Kh450.isDigit c with
          | false => rfl
          | true => rw [digit_no q] at hl; cases hl
        have ih := pat_loop w r (ls ++ [c]) (vs ++ [dg.getD 0]) none (.va (mI c)) (by simp at h1 ⊢; omega) (by simp at h2 ⊢; omega)
        have e2 : patOut ls vs ((patAux none r).map fun p => ⟨c :: p.letters, dg.getD 0 :: p.levels⟩) = patOut (ls ++ [c]) (vs ++ [dg.getD 0]) (patAux none r) := by
          cases patAux none r with
          | none => rfl
          | some p => simp [patOut]
        rw [e2, ← ih]
        cases hlo : Kh450.isLower c with
        | true => cases dg <;> simp [pB1, is_digit_eq, is_lower_eq, hcd, hlo, oDig, h3, h4, m0]
        | false =>
          rw [hlo] at hl
          have h46 : c = 46 := by simpa using hl
          subst h46
          cases dg <;> simp [pB1, is_digit_eq, is_lower_eq, hcd, hlo, oDig, h3, h4, m0]
      · rw [if_neg hl]
        have hl2 : (Kh450.isLower c || c == 46) = false := by simpa using hl
        have hl3 := Bool.or_eq_false_iff.mp hl2
        have h46 : ¬ (c : Int) = 46 := by
          have : ¬ c = 46 := by simpa using hl3.2
          omega
        cases hcd : Kh450.isDigit c with
        | false => simp [pB1, is_digit_eq, is_lower_eq, hcd, hl3.1, h46, patOut]
        | true =>
          cases dg with
          | none => rw [hcd] at hd; exact absurd rfl hd
          | some d => simp [pB1, is_digit_eq, is_lower_eq, hcd, hl3.1, h46, patOut, oDig]
def oPat (o : Option Kh455.Pattern) : D := match o with
  | none => .non
  | some p => if p.letters.isEmpty then .non else pD p
theorem pattern_of_eq (t : List Nat) (h : t.length < line) : pf_pattern_of [mL t] = .ok (.cl (oPat (Kh455.readPattern t))) := by
  unfold pf_pattern_of pb_pattern_of
  have q := pat_loop (mL t) t [] [] none .un (by simpa using h) (by simpa using h)
  rw [(pat_both t).1] at q
  have e : patOut [] [] (Kh455.readPattern t) = oPat (Kh455.readPattern t) := by cases Kh455.readPattern t <;> rfl
  rw [e] at q
  simp only [run_1, sSeq_eq, sSet_eq, sSetK_eq, pC_eq, pLst_eq, pNil_eq, R.bind_ok, R.fl_ok, E.keep_cl, List.length_nil, Nat.zero_le, if_true, List.set, List.replicate, seq_nx, Nat.reduceSub, sFor_eq, iLst_eq, pVar_eq, List.getElem?_cons_zero]
  show (Fl.seq (forL (gSet 4) pB1 (t.map mI) [.va (mL t), .ow (([] : List Nat).map mI), .ow (([] : List Nat).map mI), .va (oDig none), .un]) pE1).out = _
  rw [q] <;> rfl
/-! ### the patterns -/
def rB : PSt := (sSeq (sSetK 3 (pCall pf_pattern_of (pCons (pVar 2) pNil)))
 (sSeq (sIf (pB (pUn (oIsN false) (pVar 3))) (sRet (pC .non)) sNext)
 (sApp 1 (pVar 3))))
def readAll : List Kh450.Text → Option (List Kh455.Pattern) := List.foldr (fun w found => match Kh455.readPattern w, found with
  | some p, some l => if p.letters.isEmpty then none else some (p :: l)
  | _, _ => none) (some [])
def oPats (o : Option (List Kh455.Pattern)) (acc : List D) : E := match o with
  | none => .cl .non
  | some l => .li true (acc ++ l.map pD)
theorem read_loop (s : D) : ∀ (ws : List (List Nat)) (acc : List D) (x y : Sl), acc.length + ws.length < line → (∀ w ∈ ws, w.length < line) →
    (forL (gSet 2) rB (ws.map mL) [.va s, .ow acc, x, y]).seq (sRetV 1) = .rt (oPats (readAll ws) acc)
  | [], acc, x, y, h, hw => by simp [forL_nil, readAll, oPats]
  | w :: r, acc, x, y, h, hw => by
    rw [List.map_cons, forL_cons]
    have hp := pattern_of_eq w (hw w (by simp))
    have hz : acc.length < line := by simp at h; omega
    have e : readAll (w :: r) = match Kh455.readPattern w, readAll r with
      | some p, some l => if p.letters.isEmpty then none else some (p :: l)
      | _, _ => none := rfl
    rw [e]
    cases hq : Kh455.readPattern w with
    | none =>
      rw [hq] at hp
      simp [rB, hp, oPat, oPats]
    | some p =>
      rw [hq] at hp
      by_cases hl : p.letters.isEmpty = true
      · have e2 : (match some p, readAll r with
          | some p, some l => if p.letters.isEmpty then none else some (p :: l)
          | _, _ => none : Option (List Kh455.Pattern)) = none := by
          cases readAll r with
          | none => rfl
          | some l => exact if_pos hl
        rw [e2]
        have e3 : oPat (some p) = .non := if_pos hl
        rw [e3] at hp
        simp [rB, hp, oPats]
      · have e3 : oPat (some p) = pD p := if_neg hl
        rw [e3] at hp
        have ih := read_loop s r (acc ++ [pD p]) (.va (mL w)) (.va (pD p)) (by simp at h ⊢; omega) (fun v hv => hw v (by simp [hv]))
        have e2 : oPats (match some p, readAll r with
          | some p, some l => if p.letters.isEmpty then none else some (p :: l)
          | _, _ => none) acc = oPats (readAll r) (acc ++ [pD p]) := by
          cases readAll r with
          | none => rfl
          | some l =>
            show oPats (if p.letters.isEmpty then none else some (p :: l)) acc = _
            rw [if_neg hl]
            simp [oPats]
        rw [e2, ← ih]
        simp [rB, hp, hz]
theorem wordsAux_len : ∀ (t w : List Nat) (v : List Nat), v ∈ wordsAux w t → v.length ≤ w.length + t.length
  | [], w, v, h => by
    unfold wordsAux at h
    split at h
    · cases h
    · simp at h
      subst h
      simp
  | c :: r, w, v, h => by
    have e : wordsAux w (c :: r) = if Kh450.isWhite c = true then (if w = [] then wordsAux [] r else w :: wordsAux [] r) else wordsAux (w ++ [c]) r := rfl
    rw [e] at h
    split at h
    · split at h
      · have := wordsAux_len r [] v h
        simp at this ⊢
        omega
      · rcases List.mem_cons.mp h with rfl | h
        · simp
        · have := wordsAux_len r [] v h
          simp at this ⊢
          omega
    · have := wordsAux_len r (w ++ [c]) v h
      simp at this ⊢
      omega
theorem read_patterns_eq (t : List Nat) (h : t.length < 16000000) : pf_read_patterns [mL t] = .ok (oPats (Kh455.readPatterns t) []) := by
  unfold pf_read_patterns pb_read_patterns
  have e1 := words_of_eq t (by unfold line; omega)
  obtain ⟨b1, b2⟩ := words_bound t []
  have q := read_loop (mL t) (Kh455.wordsOf t) [] .un .un (by rw [wordsOf_eq]; simp at b2 ⊢; unfold line; omega) (fun w hw => by
    rw [wordsOf_eq] at hw
    have := wordsAux_len t [] w hw
    simp at this
    unfold line
    omega)
  have e2 : readAll (Kh455.wordsOf t) = Kh455.readPatterns t := rfl
  rw [e2] at q
  simp only [run_1, sSeq_eq, sSet_eq, pLst_eq, pNil_eq, pCall_eq, pCons_eq, e1, R.bind_ok, R.fl_ok, E.keep_cl, E.keep_li, List.length_nil, Nat.zero_le, if_true, List.set, List.replicate, seq_nx, Nat.reduceSub, sFor_eq, iLst_eq, pVar_eq, List.getElem?_cons_zero]
  show (Fl.seq (forL (gSet 2) rB ((Kh455.wordsOf t).map mL) [.va (mL t), .ow [], .un, .un]) (sRetV 1)).out = _
  rw [q] <;> rfl
end PL
namespace PL
open PW PF
/-! ### levels -/
/-- the greatest of two lists, place by place, from a place on -/
theorem raise_get : ∀ (n : Nat) (as l : List Nat) (j : Nat), (Kh455.raiseAt n as l)[j]? = (l[j]?).map fun b => if n ≤ j then max (as.getD (j - n) 0) b else b
  | n, as, [], j => by
    cases n <;> cases as <;> simp [Kh455.raiseAt]
  | 0, [], b :: bs, j => by
    simp [Kh455.raiseAt]
  | 0, a :: as, b :: bs, 0 => by simp [Kh455.raiseAt]
  | 0, a :: as, b :: bs, j + 1 => by
    have ih := raise_get 0 as bs j
    simp [Kh455.raiseAt] at ih ⊢
    rw [ih]
  | n + 1, as, b :: bs, 0 => by
    cases as <;> simp [Kh455.raiseAt]
  | n + 1, as, b :: bs, j + 1 => by
    have ih := raise_get n as bs j
    cases as with
    | nil => simp [Kh455.raiseAt]
    | cons a as =>
      show (b :: Kh455.raiseAt n (a :: as) bs)[j + 1]? = _
      rw [List.getElem?_cons_succ, List.getElem?_cons_succ, ih]
      have e : (n + 1 ≤ j + 1) = (n ≤ j) := propext (by omega)
      have e2 : j + 1 - (n + 1) = j - n := by omega
      simp only [e, e2]
theorem raise_len (n : Nat) (as l : List Nat) : (Kh455.raiseAt n as l).length = l.length := by
  have h : ∀ j, ((Kh455.raiseAt n as l)[j]?).isSome = (l[j]?).isSome := fun j => by rw [raise_get, Option.isSome_map]
  apply Nat.le_antisymm
  · apply Nat.le_of_not_lt
    intro z
    have := h l.length
    simp [z] at this
  · apply Nat.le_of_not_lt
    intro z
    have := h (Kh455.raiseAt n as l).length
    simp [z] at this
theorem raise_comm (n m : Nat) (as bs l : List Nat) : Kh455.raiseAt n as (Kh455.raiseAt m bs l) = Kh455.raiseAt m bs (Kh455.raiseAt n as l) := by
  apply List.ext_getElem?
  intro j
  rw [raise_get, raise_get, raise_get, raise_get]
  cases l[j]? with
  | none => rfl
  | some b =>
    simp only [Option.map_some, Option.some.injEq]
    split <;> split <;> omega
/-- one step: place by place -/
theorem raise_step (n : Nat) (a : Nat) (as l : List Nat) (h : n < l.length) : Kh455.raiseAt n (a :: as) l = Kh455.raiseAt (n + 1) as (l.set n (max (l.getD n 0) a)) := by
  apply List.ext_getElem?
  intro j
  rw [raise_get, raise_get, List.getElem?_set]
  by_cases e : n = j
  · subst e
    have e1 : l[n]? = some l[n] := by simp [h]
    rw [if_pos rfl, if_pos h, e1]
    simp only [Option.map_some, Option.some.injEq, Nat.le_refl, if_true, Nat.sub_self, List.getD_cons_zero]
    rw [if_neg (by omega)]
    simp [List.getD, h]
    omega
  · rw [if_neg e]
    congr 1
    funext b
    by_cases hn : n ≤ j
    · rw [if_pos hn, if_pos (by omega)]
      have e2 : j - n = (j - (n + 1)) + 1 := by omega
      rw [e2, List.getD_cons_succ]
    · rw [if_neg hn, if_neg (by omega)]
theorem foldl_congr_mem {α β : Type} {f g : β → α → β} : ∀ (l : List α) (b : β), (∀ b a, a ∈ l → f b a = g b a) → l.foldl f b = l.foldl g b
  | [], _, _ => rfl
  | x :: l, b, h => by
    rw [List.foldl_cons, List.foldl_cons, h b x (by simp)]
    exact foldl_congr_mem l _ fun b a ha => h b a (by simp [ha])
theorem foldl_push {α β : Type} {f : β → α → β} {g : β → β} (h : ∀ b a, g (f b a) = f (g b) a) : ∀ (l : List α) (b : β), g (l.foldl f b) = l.foldl f (g b)
  | [], _ => rfl
  | x :: l, b => by rw [List.foldl_cons, List.foldl_cons, foldl_push h l, h]
/-- two loops, one in the other, of steps that commute -/
theorem foldl_swap {α γ β : Type} {f : β → α → γ → β} (h : ∀ b x y u v, f (f b x y) u v = f (f b u v) x y) (ys : List γ) : ∀ (xs : List α) (b : β), xs.foldl (fun s x => ys.foldl (fun s y => f s x y) s) b = ys.foldl (fun s y => xs.foldl (fun s x => f s x y) s) b
  | [], b => by
    rw [List.foldl_nil]
    induction ys with
    | nil => rfl
    | cons y ys ih => rw [List.foldl_cons]; exact ih
  | x :: xs, b => by
    rw [List.foldl_cons, foldl_swap h ys xs]
    have key : ∀ (ys : List γ) (b : β), (ys.foldl (fun s y => xs.foldl (fun s x => f s x y) s) (ys.foldl (fun s y => f s x y) b)) = ys.foldl (fun s y => (x :: xs).foldl (fun s x => f s x y) s) b := by
      intro ys
      induction ys with
      | nil => intro b; rfl
      | cons y ys ih =>
        intro b
        rw [List.foldl_cons, List.foldl_cons, List.foldl_cons, ← ih, List.foldl_cons]
        congr 1
        have p1 : ∀ s : β, xs.foldl (fun s x => f s x y) (ys.foldl (fun s y' => f s x y') s) = ys.foldl (fun s y' => f s x y') (xs.foldl (fun s x => f s x y) s) := fun s =>
          (foldl_push (g := fun s => xs.foldl (fun s x => f s x y) s) (f := fun s y' => f s x y') (fun b a => by
            exact (foldl_push (g := fun s => f s x a) (f := fun s x => f s x y) (fun b' a' => h b' a' y x a) xs b).symm) ys s)
        exact p1 _
    exact key ys b
end PL
namespace PL
open PW PF
theorem occurs_eq (p : Kh455.Pattern) (t : List Nat) (k : Nat) : pf_Pattern_occurs_at [pD p, mL t, .int (k : Int)] = .ok (.cl (.bl (if p.letters.isEmpty then (cut t (some (k : Int)) (some ((k : Int) + (p.letters.length : Int)))).isEmpty else decide (cut t (some (k : Int)) (some ((k : Int) + (p.letters.length : Int))) = p.letters)))) := by
  unfold pf_Pattern_occurs_at pb_Pattern_occurs_at
  have hc : cut (t.map mI) (some (k : Int)) (some ((k : Int) + (p.letters.length : Int))) = (cut t (some (k : Int)) (some ((k : Int) + (p.letters.length : Int)))).map mI := by
    unfold cut
    rw [List.length_map, List.map_take, List.map_drop]
  generalize cut t (some (k : Int)) (some ((k : Int) + (p.letters.length : Int))) = c at hc
  have he : oEq false (.lst (c.map mI)) (.lst (p.letters.map mI)) = .ok (.cl (.bl (if p.letters.isEmpty then c.isEmpty else decide (c = p.letters)))) := by
    have hm : ∀ l : List Nat, ints? (l.map mI) = some (l.map Int.ofNat) := fun l => by
      have := ints?_map (l.map Int.ofNat)
      rw [List.map_map] at this
      exact this
    show (match eqv (.lst (c.map mI)) (.lst (p.letters.map mI)) with | some k => R.ok (E.cl (.bl (if false = true then !k else k))) | none => .bad) = _
    have e : eqv (.lst (c.map mI)) (.lst (p.letters.map mI)) = some (if p.letters.isEmpty then c.isEmpty else decide (c = p.letters)) := by
      show (if (p.letters.map mI).isEmpty then some (c.map mI).isEmpty else match ints? (c.map mI), ints? (p.letters.map mI) with
        | some x, some y => some (decide (x = y))
        | _, _ => none) = _
      rw [hm, hm]
      cases hl : p.letters with
      | nil => cases c <;> rfl
      | cons a l =>
        have : (c.map Int.ofNat = (a :: l).map Int.ofNat) = (c = a :: l) := propext ⟨fun z => List.map_inj_right (fun _ _ q => Int.ofNat.inj q) |>.mp z, fun z => by rw [z]⟩
        show some (decide (c.map Int.ofNat = (a :: l).map Int.ofNat)) = some (decide (c = a :: l))
        simp only [this]
    rw [e]
    rfl
  simp [ixc, hc, he]
theorem cut_prefix (t l : List Nat) (k : Nat) (h : k + l.length ≤ t.length) : decide (cut t (some (k : Int)) (some ((k : Int) + (l.length : Int))) = l) = l.isPrefixOf (t.drop k) := by
  have e1 : sIx t.length 0 (some (k : Int)) = k := by
    show (if (k : Int) < 0 then max ((k : Int) + (t.length : Int)) 0 else min (k : Int) (t.length : Int)).toNat = k
    rw [if_neg (by omega)]
    omega
  have e2 : sIx t.length t.length (some ((k : Int) + (l.length : Int))) = k + l.length := by
    show (if (k : Int) + (l.length : Int) < 0 then max ((k : Int) + (l.length : Int) + (t.length : Int)) 0 else min ((k : Int) + (l.length : Int)) (t.length : Int)).toNat = _
    rw [if_neg (by omega)]
    omega
  unfold cut
  rw [e1, e2, Nat.add_sub_cancel_left]
  rw [Bool.eq_iff_iff, decide_eq_true_eq, List.isPrefixOf_iff_prefix, List.prefix_iff_eq_take]
  exact eq_comm
/-- levels[at + k] = max(levels[at + k], level), one after another -/
def kB : PSt := (sPut 2 (pOp oAdd (pVar 4) (pVar 5)) (pOp bMax2 (pOp oIx (pVar 2) (pOp oAdd (pVar 4) (pVar 5))) (pVar 6)))
def kG : PTg := (gTup' 2 (gCons' (gSet 5) (gCons' (gSet 6) gNil')))
theorem level_loop (P S p : D) (a : Nat) : ∀ (as lv : List Nat) (k : Nat) (x y : Sl), a + k + as.length ≤ lv.length →
    ∃ x' y', forL kG kB (enumL k (as.map mI)) [.va P, .va S, .ow (lv.map mI), .va p, .va (mI a), x, y] = .nx [.va P, .va S, .ow ((Kh455.raiseAt (a + k) as lv).map mI), .va p, .va (mI a), x', y']
  | [], lv, k, x, y, h => by
    refine ⟨x, y, ?_⟩
    have : Kh455.raiseAt (a + k) [] lv = lv := by cases lv <;> cases (a + k) <;> rfl
    rw [this]
    rfl
  | b :: as, lv, k, x, y, h => by
    have hk : a + k < lv.length := by simp at h; omega
    obtain ⟨x', y', ih⟩ := level_loop P S p a as (lv.set (a + k) (max (lv.getD (a + k) 0) b)) (k + 1) (.va (mI k)) (.va (mI b)) (by simp at h ⊢; omega)
    refine ⟨x', y', ?_⟩
    rw [raise_step _ _ _ _ hk, show a + k + 1 = a + (k + 1) from by omega, ← ih]
    rw [List.map_cons]
    show forL kG kB (.tup [.int (k : Nat), mI b] :: enumL (k + 1) (as.map mI)) _ = _
    rw [forL_cons]
    have hg : lv[a + k]? = some (lv.getD (a + k) 0) := by simp [List.getD, hk]
    have hx : oIx (.lst (lv.map mI)) (.int ((a : Int) + (k : Int))) = .ok (.cl (.int ((lv.getD (a + k) 0 : Nat) : Int))) := oIx_lst (d := mI (lv.getD (a + k) 0)) (k := a + k) (by rw [List.getElem?_map, hg] <;> rfl) (by omega)
    have hp : ixOf (lv.map mI).length ((a : Int) + (k : Int)) = some (a + k) := by
      rw [show ((a : Int) + (k : Int)) = ((a + k : Nat) : Int) from by omega]
      exact ixOf_nat (by simpa using hk)
    have hp2 : ixOf lv.length ((a : Int) + (k : Int)) = some (a + k) := by rw [List.length_map] at hp; exact hp
    generalize lv.getD (a + k) 0 = g at hx ⊢
    have hm : (if (b : Int) > (g : Int) then (b : Int) else (g : Int)) = ((max g b : Nat) : Int) := by split <;> omega
    have hm2 : (if (g : Int) < (b : Int) then (b : Int) else (g : Int)) = ((max g b : Nat) : Int) := hm
    have step : kB [.va P, .va S, .ow (lv.map mI), .va p, .va (mI a), .va (mI k), .va (mI b)] = .nx [.va P, .va S, .ow ((lv.set (a + k) (max g b)).map mI), .va p, .va (mI a), .va (mI k), .va (mI b)] := by
      unfold kB
      rw [sPut_eq]
      simp only [List.getElem?_cons_succ, List.getElem?_cons_zero, pOp_eq, pVar_eq, R.bind_ok, E.rd_cl, E.rd_li, oAdd_int, hx, bMax2_eq, R.fl_ok, E.keep_cl, hp, List.set, List.map_set]
      rw [hm]
    show ((R.ok [.va P, .va S, .ow (lv.map mI), .va p, .va (mI a), .va (mI k), .va (mI b)] : R Env).fl fun r1 => (kB r1).turn (forL kG kB (enumL (k + 1) (as.map mI)))) = _
    rw [R.fl_ok, step, turn_nx]
end PL
namespace PL
open PW PF
theorem patAux_len : ∀ (t : List Nat) (dg : Option Nat) (p : Kh455.Pattern), patAux dg t = some p → p.levels.length = p.letters.length + 1
  | [], dg, p, h => by
    cases h
    rfl
  | c :: r, dg, p, h => by
    have e1 : patAux dg (c :: r) = if (Kh450.isDigit c && dg.isNone) = true then patAux (some (c - 48)) r
      else if (Kh450.isLower c || c == 46) = true then (patAux none r).map fun p => ⟨c :: p.letters, dg.getD 0 :: p.levels⟩
      else none := rfl
    rw [e1] at h
    split at h
    · exact patAux_len r _ p h
    · split at h
      · obtain ⟨q, h1, h2⟩ := Option.map_eq_some_iff.mp h
        have := patAux_len r _ q h1
        rw [← h2]
        simp [this]
      · cases h
/-- a pattern that can be matched -/
def PatOk (p : Kh455.Pattern) : Prop := p.letters ≠ [] ∧ p.levels.length = p.letters.length + 1
theorem readAll_ok : ∀ (ws : List (List Nat)) (l : List Kh455.Pattern), readAll ws = some l → (∀ p ∈ l, PatOk p) ∧ l.length = ws.length
  | [], l, h => by
    cases h
    simp
  | w :: r, l, h => by
    have e : readAll (w :: r) = match Kh455.readPattern w, readAll r with
      | some p, some l => if p.letters.isEmpty then none else some (p :: l)
      | _, _ => none := rfl
    rw [e] at h
    split at h
    · rename_i p l' h1 h2
      split at h
      · cases h
      · rename_i hn
        cases h
        obtain ⟨i1, i2⟩ := readAll_ok r l' h2
        refine ⟨fun q hq => ?_, by simp [i2]⟩
        rcases List.mem_cons.mp hq with rfl | hq
        · refine ⟨fun z => hn (by rw [z] <;> rfl), ?_⟩
          rw [← (pat_both w).1] at h1
          exact patAux_len w none _ h1
        · exact i1 q hq
    · cases h
def aB : PSt := (sIf (pB (pMeth 0 pf_Pattern_occurs_at (pVar 3) (pCons (pVar 1) (pCons (pVar 4) pNil)))) (sFor (iEnum (pAttr (ixc 0 1) (pVar 3))) kG kB) sNext)
def lvStep (t : List Nat) (lv : List Nat) (i : Nat) (p : Kh455.Pattern) : List Nat := if p.letters.isPrefixOf (t.drop i) then Kh455.raiseAt i p.levels lv else lv
theorem lvStep_len (t lv : List Nat) (i : Nat) (p : Kh455.Pattern) : (lvStep t lv i p).length = lv.length := by
  unfold lvStep
  split
  · exact raise_len _ _ _
  · rfl
theorem at_loop (P : D) (t : List Nat) (p : Kh455.Pattern) (hp : PatOk p) : ∀ (l : List Nat) (lv : List Nat) (x4 x5 x6 : Sl), (∀ a ∈ l, a + p.letters.length ≤ t.length) → lv.length = t.length + 1 →
    ∃ y4 y5 y6, forL (gSet 4) aB (l.map mI) [.va P, .va (mL t), .ow (lv.map mI), .va (pD p), x4, x5, x6] = .nx [.va P, .va (mL t), .ow ((l.foldl (fun lv a => lvStep t lv a p) lv).map mI), .va (pD p), y4, y5, y6]
  | [], lv, x4, x5, x6, _, _ => ⟨x4, x5, x6, rfl⟩
  | a :: l, lv, x4, x5, x6, ha, hl => by
    have h1 := ha a (by simp)
    rw [List.map_cons, forL_cons, List.foldl_cons]
    have ho := occurs_eq p t a
    have hne : p.letters.isEmpty = false := by
      cases q : p.letters with
      | nil => exact absurd q hp.1
      | cons x y => rfl
    rw [hne, cut_prefix t p.letters a h1] at ho
    simp only [Bool.false_eq_true, if_false] at ho
    have test : (pB (pMeth 0 pf_Pattern_occurs_at (pVar 3) (pCons (pVar 1) (pCons (pVar 4) pNil)))) [.va P, .va (mL t), .ow (lv.map mI), .va (pD p), .va (mI a), x5, x6] = .ok (p.letters.isPrefixOf (t.drop a)) := by
      simp [ho]
    have e0 : gSet 4 (mI a) [.va P, .va (mL t), .ow (lv.map mI), .va (pD p), x4, x5, x6] = .ok [.va P, .va (mL t), .ow (lv.map mI), .va (pD p), .va (mI a), x5, x6] := rfl
    rw [e0, R.fl_ok]
    have hb : aB [.va P, .va (mL t), .ow (lv.map mI), .va (pD p), .va (mI a), x5, x6] = if p.letters.isPrefixOf (t.drop a) = true then forL kG kB (enumL 0 (p.levels.map mI)) [.va P, .va (mL t), .ow (lv.map mI), .va (pD p), .va (mI a), x5, x6] else .nx [.va P, .va (mL t), .ow (lv.map mI), .va (pD p), .va (mI a), x5, x6] := by
      unfold aB
      rw [sIf_eq, test, R.fl_ok]
      rfl
    rw [hb]
    cases hm : p.letters.isPrefixOf (t.drop a) with
    | true =>
      obtain ⟨y5, y6, e⟩ := level_loop P (mL t) (pD p) a p.levels lv 0 x5 x6 (by rw [hp.2]; omega)
      rw [Nat.add_zero] at e
      obtain ⟨z4, z5, z6, ih⟩ := at_loop P t p hp l (Kh455.raiseAt a p.levels lv) (.va (mI a)) y5 y6 (fun b hb => ha b (by simp [hb])) (by rw [raise_len]; exact hl)
      refine ⟨z4, z5, z6, ?_⟩
      rw [if_pos rfl, e, turn_nx, ih]
      have : lvStep t lv a p = Kh455.raiseAt a p.levels lv := if_pos hm
      rw [this]
    | false =>
      obtain ⟨z4, z5, z6, ih⟩ := at_loop P t p hp l lv (.va (mI a)) x5 x6 (fun b hb => ha b (by simp [hb])) hl
      refine ⟨z4, z5, z6, ?_⟩
      rw [if_neg (by simp), turn_nx, ih]
      have : lvStep t lv a p = lv := if_neg (by simp [hm])
      rw [this]
/-- how many places there are for a pattern -/
def places (n m : Nat) : Nat := n + 1 - m
theorem rangeL_nat (n : Nat) (i : Int) (h : i.toNat = n) : rangeL 0 i = (List.range n).map mI := by
  unfold rangeL
  rw [Int.sub_zero, h]
  refine List.map_congr_left fun x _ => ?_
  show D.int (0 + (x : Int)) = D.int (x : Int)
  rw [Int.zero_add]
def gB : PSt := (sFor (iRng1 (pOp oAdd (pOp oSub (pUn oLen (pVar 1)) (pUn oLen (pAttr (ixc 0 0) (pVar 3)))) (pC (.int 1)))) (gSet 4) aB)
def patStep (t : List Nat) (lv : List Nat) (p : Kh455.Pattern) : List Nat := (List.range (places t.length p.letters.length)).foldl (fun lv a => lvStep t lv a p) lv
theorem fold_len (t : List Nat) (p : Kh455.Pattern) : ∀ (l : List Nat) (lv : List Nat), (l.foldl (fun lv a => lvStep t lv a p) lv).length = lv.length
  | [], _ => rfl
  | a :: l, lv => by rw [List.foldl_cons, fold_len t p l, lvStep_len]
theorem pat_level_loop (P : D) (t : List Nat) (ht : t.length ≤ 16000000) : ∀ (ps : List Kh455.Pattern) (lv : List Nat) (x3 x4 x5 x6 : Sl), (∀ p ∈ ps, PatOk p ∧ p.letters.length ≤ 16000000) → lv.length = t.length + 1 →
    (forL (gSet 3) gB (ps.map pD) [.va P, .va (mL t), .ow (lv.map mI), x3, x4, x5, x6]).seq (sRetV 2) = .rt (.li true ((ps.foldl (patStep t) lv).map mI))
  | [], lv, x3, x4, x5, x6, _, _ => by simp [forL_nil]
  | p :: ps, lv, x3, x4, x5, x6, hp, hl => by
    obtain ⟨hp1, hp2⟩ := hp p (by simp)
    rw [List.map_cons, forL_cons, List.foldl_cons]
    obtain ⟨y4, y5, y6, e⟩ := at_loop P t p hp1 (List.range (places t.length p.letters.length)) lv x4 x5 x6 (fun a ha => by
      have := List.mem_range.mp ha
      unfold places at this
      omega) hl
    have ih := pat_level_loop P t ht ps (patStep t lv p) (.va (pD p)) y4 y5 y6 (fun q hq => hp q (by simp [hq])) (by unfold patStep; rw [fold_len]; exact hl)
    rw [← ih]
    show (((R.ok [.va P, .va (mL t), .ow (lv.map mI), .va (pD p), x4, x5, x6] : R Env).fl fun r1 => (gB r1).turn (forL (gSet 3) gB (ps.map pD))).seq (sRetV 2)) = _
    rw [R.fl_ok]
    have hr : r62 ((t.length : Int) - (p.letters.length : Int) + 1) = true := r62_int (by omega) (by omega)
    have hg : gB [.va P, .va (mL t), .ow (lv.map mI), .va (pD p), x4, x5, x6] = forL (gSet 4) aB (rangeL 0 ((t.length : Int) - (p.letters.length : Int) + 1)) [.va P, .va (mL t), .ow (lv.map mI), .va (pD p), x4, x5, x6] := by
      unfold gB
      simp [ixc, hr]
    rw [hg, rangeL_nat (places t.length p.letters.length) _ (by unfold places; omega), e, turn_nx]
    rfl
theorem range_more {β : Type} {f : β → Nat → β} (c n : Nat) (h : c ≤ n) (b : β) (hf : ∀ b i, c ≤ i → i < n → f b i = b) : (List.range n).foldl f b = (List.range c).foldl f b := by
  obtain ⟨d, rfl⟩ : ∃ d, n = c + d := ⟨n - c, by omega⟩
  clear h
  induction d with
  | zero => rfl
  | succ d ih =>
    rw [show c + (d + 1) = (c + d) + 1 from by omega, List.range_succ, List.foldl_append, List.foldl_cons, List.foldl_nil, hf _ _ (by omega) (by omega)]
    exact ih fun b i h1 h2 => hf b i h1 (by omega)
theorem lvStep_comm (t : List Nat) (b : List Nat) (x : Nat) (y : Kh455.Pattern) (u : Nat) (v : Kh455.Pattern) : lvStep t (lvStep t b x y) u v = lvStep t (lvStep t b u v) x y := by
  unfold lvStep
  split <;> split <;> first | rfl | exact raise_comm _ _ _ _ _
theorem levelsOf_eq (ps : List Kh455.Pattern) (t : List Nat) (hp : ∀ p ∈ ps, PatOk p) : ps.foldl (patStep t) (List.replicate (t.length + 1) 0) = Kh455.levelsOf ps t := by
  have e : Kh455.levelsOf ps t = (List.range t.length).foldl (fun lv i => ps.foldl (fun lv p => lvStep t lv i p) lv) (List.replicate (t.length + 1) 0) := rfl
  rw [e, foldl_swap (f := fun lv i p => lvStep t lv i p) (fun b x y u v => lvStep_comm t b x y u v) ps (List.range t.length)]
  refine foldl_congr_mem ps _ fun lv p hm => ?_
  have hne := (hp p hm).1
  have hm1 : 1 ≤ p.letters.length := by
    cases q : p.letters with
    | nil => exact absurd q hne
    | cons a l => simp
  unfold patStep
  refine (range_more (f := fun lv i => lvStep t lv i p) _ _ (by unfold places; omega) lv fun b i h1 h2 => ?_).symm
  unfold lvStep
  rw [if_neg]
  intro z
  have := (List.isPrefixOf_iff_prefix.mp z).length_le
  rw [List.length_drop] at this
  unfold places at h1
  omega
theorem zeros_eq (n : Nat) (h : n ≤ line) (b : PEx) (r : Env) (hb : b r = .ok (.cl (.int (n : Int)))) : (pOp oMul (pLst (pCons (pC (.int 0)) pNil)) b) r = .ok (.li true ((List.replicate n 0).map mI)) := by
  have e1 : (pLst (pCons (pC (.int 0)) pNil)) r = .ok (.li true [.int 0]) := by simp [ll1]
  have h2 : n < 2 ^ 63 := Nat.lt_of_le_of_lt h (by decide)
  have h3 : ([D.int 0] : List D).length * n ≤ line := by
    rw [List.length_singleton, Nat.one_mul]
    exact h
  have e2 : ∀ n : Nat, (List.replicate n [D.int 0]).flatten = (List.replicate n 0).map mI := fun n => by
    induction n with
    | zero => rfl
    | succ n ih => rw [List.replicate_succ, List.flatten_cons, ih, List.replicate_succ, List.map_cons] <;> rfl
  rw [pOp_eq, e1, hb, R.bind_ok, R.bind_ok, E.rd_li, E.rd_cl, oMul_lst rfl h2 h3, e2]
theorem greatest_levels_eq (ps : List Kh455.Pattern) (t : List Nat) (ht : t.length ≤ 16000000) (hp : ∀ p ∈ ps, PatOk p ∧ p.letters.length ≤ 16000000) : pf_greatest_levels [.lst (ps.map pD), mL t] = .ok (.li true ((Kh455.levelsOf ps t).map mI)) := by
  unfold pf_greatest_levels pb_greatest_levels
  have q := pat_level_loop (.lst (ps.map pD)) t ht ps (List.replicate (t.length + 1) 0) .un .un .un .un hp (by simp)
  rw [levelsOf_eq ps t fun p h => (hp p h).1] at q
  rw [run_2]
  have pre : ∀ tail : PSt, (sSeq (sSet 2 (pOp oMul (pLst (pCons (pC (.int 0)) pNil)) (pOp oAdd (pUn oLen (pVar 1)) (pC (.int 1))))) tail) [.va (.lst (ps.map pD)), .va (mL t), .un, .un, .un, .un, .un] = tail [.va (.lst (ps.map pD)), .va (mL t), .ow ((List.replicate (t.length + 1) 0).map mI), .un, .un, .un, .un] := fun tail => by
    have ex := zeros_eq (t.length + 1) (by unfold line; omega) (pOp oAdd (pUn oLen (pVar 1)) (pC (.int 1))) [.va (.lst (ps.map pD)), .va (mL t), .un, .un, .un, .un, .un] (by simp)
    rw [sSeq_eq, sSet_eq, ex]
    rfl
  show Fl.out ((sSeq _ _) [.va (.lst (ps.map pD)), .va (mL t), .un, .un, .un, .un, .un]) = _
  rw [pre, sSeq_eq, sFor_eq, iLst_eq]
  simp only [pVar_eq, List.getElem?_cons_zero, R.bind_ok, E.keep_cl, R.fl_ok]
  show (Fl.seq (forL (gSet 3) gB (ps.map pD) [.va (.lst (ps.map pD)), .va (mL t), .ow ((List.replicate (t.length + 1) 0).map mI), .un, .un, .un, .un]) (sRetV 2)).out = _
  rw [q] <;> rfl
end PL
namespace PL
open PW PF
theorem lowered_eq (t : List Nat) (h : t.length ≤ line) : pf_lowered [mL t] = .ok (.li true ((t.map Kh450.lowerCase).map mI)) := by
  unfold pf_lowered pb_lowered
  have q := lc_map (g := gSet 1) (t := pNoxT pYes) (a := pNoxE (pIf (pB (pCall pf_is_upper (pCons (pVar 1) pNil))) (pOp oAdd (pVar 1) (pC (.int 32))) (pVar 1))) (r := [.va (mL t), .un]) (f := mI) (h := fun x => mI (Kh450.lowerCase x)) t []
    (fun x _ => ⟨[.va (mL t), .va (mI x)], rfl, rfl, .cl (mI (Kh450.lowerCase x)), by
      unfold Kh450.lowerCase
      cases hu : Kh450.isUpper x <;> simp [is_upper_eq, hu], rfl⟩) (by simpa using h)
  have e : ([] : List D) ++ t.map (fun x => mI (Kh450.lowerCase x)) = (t.map Kh450.lowerCase).map mI := by rw [List.nil_append, List.map_map] <;> rfl
  rw [e] at q
  simp [q]
theorem letters_eq (t : List Nat) (r : Env) (i : Nat) (hi : i < r.length) (h : t.length ≤ line) : lcLoop (gSet i) (pNoxT pYes) (pNoxE (pOrV (pCall pf_is_lower (pCons (pVar i) pNil)) (pCall pf_is_upper (pCons (pVar i) pNil)))) r (t.map mI) [] = .ok (.li true ((t.map Kh455.isLetter).map D.bl)) := by
  have q := lc_map (g := gSet i) (t := pNoxT pYes) (a := pNoxE (pOrV (pCall pf_is_lower (pCons (pVar i) pNil)) (pCall pf_is_upper (pCons (pVar i) pNil)))) (r := r) (f := mI) (h := fun x => D.bl (Kh455.isLetter x)) t []
    (fun x _ => ⟨r.set i (.va (mI x)), rfl, rfl, .cl (.bl (Kh455.isLetter x)), by
      have e0 : (r.set i (.va (mI x)))[i]? = some (.va (mI x)) := List.getElem?_set_self hi
      unfold Kh455.isLetter
      cases hl : Kh450.isLower x <;> simp [e0, is_lower_eq, is_upper_eq, hl], rfl⟩) (by simpa using h)
  have e : ([] : List D) ++ t.map (fun x => D.bl (Kh455.isLetter x)) = (t.map Kh455.isLetter).map D.bl := by rw [List.nil_append, List.map_map] <;> rfl
  rw [e] at q
  exact q
theorem levelsOf_len (ps : List Kh455.Pattern) (t : List Nat) (hp : ∀ p ∈ ps, PatOk p) : (Kh455.levelsOf ps t).length = t.length + 1 := by
  rw [← levelsOf_eq ps t hp]
  have : ∀ (ps : List Kh455.Pattern) (lv : List Nat), (ps.foldl (patStep t) lv).length = lv.length := fun ps => by
    induction ps with
    | nil => intro lv; rfl
    | cons p ps ih =>
      intro lv
      rw [List.foldl_cons, ih]
      unfold patStep
      rw [fold_len]
  rw [this]
  simp
/-- numbers from 2 on -/
theorem range_from2 (n : Nat) : rangeL 2 ((n : Int) - 2 + 1) = ((List.range (n - 3)).map (· + 2)).map mI := by
  unfold rangeL
  have e : ((n : Int) - 2 + 1 - 2).toNat = n - 3 := by omega
  rw [e, List.map_map]
  refine List.map_congr_left fun x _ => ?_
  show D.int (2 + (x : Int)) = D.int ((x + 2 : Nat) : Int)
  congr 1
  omega
theorem filter_range (n : Nat) (p : Nat → Bool) : (List.range (n + 1)).filter (fun k => decide (2 ≤ k) && decide (k + 2 ≤ n) && p k) = ((List.range (n - 3)).map (· + 2)).filter p := by
  by_cases h : n < 4
  · have e1 : ((List.range (n - 3)).map (· + 2)).filter p = [] := by
      have : n - 3 = 0 ∨ n = 3 := by omega
      rcases this with z | z
      · rw [z] <;> rfl
      · subst z; rfl
    rw [e1, List.filter_eq_nil_iff]
    intro k hk
    have := List.mem_range.mp hk
    by_cases c1 : 2 ≤ k
    · have : ¬ k + 2 ≤ n := by omega
      simp [this]
    · simp [c1]
  · have hn : n + 1 = 2 + ((n - 3) + 2) := by omega
    rw [hn, List.range_add, List.filter_append]
    have e1 : (List.range 2).filter (fun k => decide (2 ≤ k) && decide (k + 2 ≤ n) && p k) = [] := by
      rw [List.filter_eq_nil_iff]
      intro k hk
      have := List.mem_range.mp hk
      have c1 : ¬ 2 ≤ k := by omega
      simp [c1]
    rw [e1, List.nil_append, List.range_add, List.map_append, List.filter_append]
    have e2 : (((List.range 2).map fun x => n - 3 + x).map fun x => 2 + x).filter (fun k => decide (2 ≤ k) && decide (k + 2 ≤ n) && p k) = [] := by
      rw [List.filter_eq_nil_iff]
      intro k hk
      simp only [List.map_map, List.mem_map, List.mem_range, Function.comp] at hk
      obtain ⟨a, ha, rfl⟩ := hk
      have c1 : ¬ 2 + (n - 3 + a) + 2 ≤ n := by omega
      simp [c1]
    rw [e2, List.append_nil]
    have e3 : ((List.range (n - 3)).map fun x => 2 + x) = (List.range (n - 3)).map (· + 2) := List.map_congr_left fun x _ => Nat.add_comm _ _
    rw [e3]
    refine List.filter_congr fun k hk => ?_
    obtain ⟨a, ha, rfl⟩ := List.mem_map.mp hk
    have := List.mem_range.mp ha
    have c1 : 2 ≤ a + 2 := by omega
    have c2 : a + 2 + 2 ≤ n := by omega
    simp [c1, c2]
theorem lst1 (d : D) (r : Env) : (pLst (pCons (pC d) pNil)) r = .ok (.li true [d]) := by simp [ll1]
theorem positions_eq (ps : List Kh455.Pattern) (w : List Nat) (hw : w.length ≤ 15000000) (hp : ∀ p ∈ ps, PatOk p ∧ p.letters.length ≤ 16000000) : pf_positions_of [.lst (ps.map pD), mL w] = .ok (.li true ((Kh455.hyphenate ps w).map mI)) := by
  unfold pf_positions_of pb_positions_of Kh455.hyphenate
  have h1 := letters_eq w [.va (.lst (ps.map pD)), .va (mL w), .un, .un, .un] 2 (by simp) (by unfold line; omega)
  have hall : bAll (.lst ((w.map Kh455.isLetter).map D.bl)) = .ok (.cl (.bl (w.all Kh455.isLetter))) := by
    rw [bAll_eq]
    simp
  cases ha : w.all Kh455.isLetter with
  | false =>
    rw [ha] at hall
    simp only [Bool.not_false, if_true]
    rw [run_2]
    simp only [sSeq_eq, sIf_eq, pNot_eq, pB_eq, pUn_eq, pLc_eq, iLstR_eq, pVar_eq, List.getElem?_cons_succ, List.getElem?_cons_zero, R.bind_ok, E.rd_cl, List.replicate, Nat.reduceSub, wipe_nil', wipe_cons', List.set, h1, E.rd_li, hall, R.fl_ok, Bool.not_false, if_true, sRet_eq, pLst_eq, pNil_eq, List.length_nil, Nat.zero_le, seq_rt, out_rt]
    try rfl
  | true =>
    rw [ha] at hall
    simp only [Bool.not_true, Bool.false_eq_true, if_false]
    have hz : ([46] ++ w.map Kh450.lowerCase ++ [46]).length = w.length + 2 := by simp
    have h2 := greatest_levels_eq ps ([46] ++ w.map Kh450.lowerCase ++ [46]) (by rw [hz]; omega) hp
    have hl := levelsOf_len ps ([46] ++ w.map Kh450.lowerCase ++ [46]) fun p h => (hp p h).1
    rw [hz] at hl
    generalize Kh455.levelsOf ps ([46] ++ w.map Kh450.lowerCase ++ [46]) = lv at h2 hl ⊢
    have pre : ∀ tail : PSt, (sSeq (sIf (pNot (pB (pUn bAll (pLc [2] (iLstR (pVar 1)) (gSet 2) (pNoxT pYes) (pNoxE (pOrV (pCall pf_is_lower (pCons (pVar 2) pNil)) (pCall pf_is_upper (pCons (pVar 2) pNil)))))))) (sRet (pLst pNil)) sNext)
       (sSeq (sSetK 3 (pCall pf_greatest_levels (pCons (pVar 0) (pCons (pOp oAdd (pOp oAdd (pLst (pCons (pC (.int 46)) pNil)) (pCall pf_lowered (pCons (pVar 1) pNil))) (pLst (pCons (pC (.int 46)) pNil))) pNil)))) tail)) [.va (.lst (ps.map pD)), .va (mL w), .un, .un, .un] = tail [.va (.lst (ps.map pD)), .va (mL w), .un, .va (mL lv), .un] := fun tail => by
      have e5 : (pCall pf_greatest_levels (pCons (pVar 0) (pCons (pOp oAdd (pOp oAdd (pLst (pCons (pC (.int 46)) pNil)) (pCall pf_lowered (pCons (pVar 1) pNil))) (pLst (pCons (pC (.int 46)) pNil))) pNil))) [.va (.lst (ps.map pD)), .va (mL w), .un, .un, .un] = .ok (.li true (lv.map mI)) := by
        have h3 : (pCall pf_lowered (pCons (pVar 1) pNil)) [.va (.lst (ps.map pD)), .va (mL w), .un, .un, .un] = .ok (.li true ((w.map Kh450.lowerCase).map mI)) := lowered_eq w (by unfold line; omega)
        have a1 : (pOp oAdd (pLst (pCons (pC (.int 46)) pNil)) (pCall pf_lowered (pCons (pVar 1) pNil))) [.va (.lst (ps.map pD)), .va (mL w), .un, .un, .un] = .ok (.li true (([46] ++ w.map Kh450.lowerCase).map mI)) := by
          rw [pOp_eq, lst1, h3, R.bind_ok, R.bind_ok, E.rd_li, E.rd_li, oAdd_lst, if_pos (by rw [List.length_map, List.length_map, List.length_singleton]; unfold line; omega), List.map_append]
          rfl
        have a2 : (pOp oAdd (pOp oAdd (pLst (pCons (pC (.int 46)) pNil)) (pCall pf_lowered (pCons (pVar 1) pNil))) (pLst (pCons (pC (.int 46)) pNil))) [.va (.lst (ps.map pD)), .va (mL w), .un, .un, .un] = .ok (.li true (([46] ++ w.map Kh450.lowerCase ++ [46]).map mI)) := by
          rw [pOp_eq, a1, lst1, R.bind_ok, R.bind_ok, E.rd_li, E.rd_li, oAdd_lst, if_pos (by rw [List.length_map, List.length_append, List.length_map, List.length_singleton, List.length_singleton]; unfold line; omega), List.map_append (l₁ := [46] ++ w.map Kh450.lowerCase)]
          rfl
        rw [pCall_eq, pCons_eq, pCons_eq, a2]
        simp only [R.bind_ok, E.keep_li, pVar_eq, List.getElem?_cons_zero, E.keep_cl, pNil_eq]
        exact h2
      rw [sSeq_eq, sIf_eq]
      simp only [pNot_eq, pB_eq, pUn_eq, pLc_eq, iLstR_eq, pVar_eq, List.getElem?_cons_succ, List.getElem?_cons_zero, R.bind_ok, E.rd_cl, wipe_nil', wipe_cons', List.set, h1, E.rd_li, hall, R.fl_ok, Bool.not_true, Bool.false_eq_true, if_false, sNext_eq, seq_nx]
      rw [sSeq_eq, sSetK_eq, e5]
      rfl
    rw [run_2]
    show Fl.out (sSeq _ (sSeq _ _) [.va (.lst (ps.map pD)), .va (mL w), .un, .un, .un]) = _
    rw [pre]
    have h4 := lc_filter (g := gSet 4) (t := pNoxT (pB (pOp (oEq false) (pOp oMod (pOp oIx (pVar 3) (pOp oAdd (pVar 4) (pC (.int 1)))) (pC (.int 2))) (pC (.int 1))))) (a := pNoxE (pVar 4)) (r := [.va (.lst (ps.map pD)), .va (mL w), .un, .va (mL lv), .un]) (f := mI) (h := mI) (p := fun k => lv.getD (k + 1) 0 % 2 == 1) ((List.range (w.length - 3)).map (· + 2)) []
      (fun k hk => ⟨[.va (.lst (ps.map pD)), .va (mL w), .un, .va (mL lv), .va (mI k)], rfl, by
        obtain ⟨a, ha, rfl⟩ := List.mem_map.mp hk
        have := List.mem_range.mp ha
        have hg : lv[a + 2 + 1]? = some (lv.getD (a + 2 + 1) 0) := by
          have : a + 2 + 1 < lv.length := by omega
          simp [List.getD, this]
        have hx : oIx (.lst (lv.map mI)) (.int (((a + 2 : Nat) : Int) + 1)) = .ok (.cl (.int ((lv.getD (a + 2 + 1) 0 : Nat) : Int))) := oIx_lst (d := mI (lv.getD (a + 2 + 1) 0)) (k := a + 2 + 1) (by rw [List.getElem?_map, hg] <;> rfl) (by omega)
        generalize lv.getD (a + 2 + 1) 0 = g at hx ⊢
        have hm : oMod (.int (g : Int)) (.int 2) = .ok (.cl (.int ((g : Int) % 2))) := oMod_int (by decide)
        have hd : decide ((g : Int) % 2 = 1) = (g % 2 == 1) := by
          rw [Bool.eq_iff_iff]
          simp
          omega
        simp only [pNoxT_eq, pB_eq, pOp_eq, pVar_eq, List.getElem?_cons_succ, List.getElem?_cons_zero, R.bind_ok, E.rd_cl, pC_eq, oAdd_int, hx, hm, oEq_int, Bool.false_eq_true, if_false, nox_ok, hd], fun _ => ⟨.cl (mI k), rfl, rfl⟩⟩) (by simp; unfold line; omega)
    rw [List.nil_append] at h4
    rw [filter_range w.length fun k => lv.getD (k + 1) 0 % 2 == 1]
    have hr : (r62 2 && r62 ((w.length : Int) - 2 + 1)) = true := by
      rw [r62_int (i := (w.length : Int) - 2 + 1) (by omega) (by omega)]
      rfl
    rw [sRet_eq, pLc_eq, iRng2_eq]
    simp only [pC_eq, pOp_eq, pUn_eq, pVar_eq, List.getElem?_cons_succ, List.getElem?_cons_zero, R.bind_ok, E.rd_cl, oLen_lst, List.length_map, oSub_int, oAdd_int, hr, if_true, range_from2, wipe_nil', wipe_cons', List.set, h4, R.fl_ok, out_rt]
end PL
namespace PL
open PW PF
theorem dec_len2 {t s : List Nat} (h : Kh450.decodeAll t = some s) : s.length ≤ t.length := dec_len _ _ _ h
theorem readPatterns_ok {s : List Nat} {ps : List Kh455.Pattern} (h : Kh455.readPatterns s = some ps) : ∀ p ∈ ps, PatOk p := (readAll_ok (Kh455.wordsOf s) ps h).1
theorem patAux_small : ∀ (t : List Nat) (dg : Option Nat) (p : Kh455.Pattern), patAux dg t = some p → p.letters.length ≤ t.length
  | [], dg, p, h => by
    cases h
    simp
  | c :: r, dg, p, h => by
    have e1 : patAux dg (c :: r) = if (Kh450.isDigit c && dg.isNone) = true then patAux (some (c - 48)) r
      else if (Kh450.isLower c || c == 46) = true then (patAux none r).map fun p => ⟨c :: p.letters, dg.getD 0 :: p.levels⟩
      else none := rfl
    rw [e1] at h
    split at h
    · have := patAux_small r _ p h
      simp
      omega
    · split at h
      · obtain ⟨q, h1, h2⟩ := Option.map_eq_some_iff.mp h
        have := patAux_small r _ q h1
        rw [← h2]
        simp [this]
      · cases h
theorem readAll_small : ∀ (ws : List (List Nat)) (l : List Kh455.Pattern), readAll ws = some l → ∀ p ∈ l, ∃ w ∈ ws, p.letters.length ≤ w.length
  | [], l, h => by
    cases h
    simp
  | w :: r, l, h => by
    have e : readAll (w :: r) = match Kh455.readPattern w, readAll r with
      | some p, some l => if p.letters.isEmpty then none else some (p :: l)
      | _, _ => none := rfl
    rw [e] at h
    split at h
    · rename_i p l' h1 h2
      split at h
      · cases h
      · cases h
        intro q hq
        rcases List.mem_cons.mp hq with rfl | hq
        · rw [← (pat_both w).1] at h1
          exact ⟨w, by simp, patAux_small w none _ h1⟩
        · obtain ⟨v, h3, h4⟩ := readAll_small r l' h2 q hq
          exact ⟨v, by simp [h3], h4⟩
    · cases h
/-- patterns as they come out of a text -/
def PatsOk (ps : List Kh455.Pattern) : Prop := ∀ p ∈ ps, PatOk p ∧ p.letters.length ≤ 16000000
theorem readPatterns_pats {s : List Nat} {ps : List Kh455.Pattern} (hs : s.length ≤ 16000000) (h : Kh455.readPatterns s = some ps) : PatsOk ps := fun p hp => by
  refine ⟨readPatterns_ok h p hp, ?_⟩
  obtain ⟨w, h1, h2⟩ := readAll_small _ _ h p hp
  rw [wordsOf_eq] at h1
  have := wordsAux_len s [] w h1
  simp at this
  omega
theorem patterns_in_eq {S : List D → D} (sq : Sq S) (t : List Nat) (ht : t.length < 1000000) : pf_patterns_in [S (t.map mI)] = match Kh450.decodeAll t with
    | none => .ex (.refused (.int (-24)))
    | some s => match Kh455.readPatterns s with
      | none => .ex (.refused (.int (-21)))
      | some ps => .ok (.cl (.lst (ps.map pD))) := by
  unfold pf_patterns_in pb_patterns_in
  have e := text_in_eq sq t ht
  cases h : Kh450.decodeAll t with
  | none =>
    rw [h] at e
    simp [e]
  | some s =>
    rw [h] at e
    have e2 := read_patterns_eq s (by have := dec_len2 h; omega)
    cases h2 : Kh455.readPatterns s with
    | none =>
      rw [h2] at e2
      simp [e, e2, h2, oPats, ask_eq]
    | some ps =>
      rw [h2] at e2
      simp [e, e2, h2, oPats, ask_eq]
theorem list_answer_eq (l : List Nat) (h : l.length < 16000000) : pf_list_answer [mL l] = .ok (.li true ((l.length :: l).map mI)) := by
  unfold pf_list_answer pb_list_answer
  have hz : 1 + l.length ≤ line := by unfold line; omega
  simp [ll1, hz]
theorem hyphenate_len (ps : List Kh455.Pattern) (w : List Nat) : (Kh455.hyphenate ps w).length ≤ w.length + 1 := by
  unfold Kh455.hyphenate
  split
  · simp
  · exact Nat.le_trans (List.length_filter_le _ _) (by simp)
theorem hyphenate_eq (p w : List Nat) (hp : p.length ≤ 600) (hw : w.length ≤ 600) : pf_hyphenate [.arg (p.map mI), .arg (w.map mI)] = .ok (.li true ((Kh455Neutral.integers (Kh455.answer (.hyphenate p w))).map D.int)) := by
  unfold pf_hyphenate pb_hyphenate
  have e1 := patterns_in_eq sqA p (by omega)
  have e2 := text_in_eq sqA w (by omega)
  show _ = R.ok (E.li true ((Kh455Neutral.integers (Kh455.withPatterns p fun ps => Kh450.withText w fun w => Kh450.listResult (Kh455.hyphenate ps w))).map D.int))
  unfold Kh455.withPatterns Kh450.withText
  cases h : Kh450.decodeAll p with
  | none =>
    rw [h] at e1
    simp [sTryRef, e1, Kh455Neutral.integers, Kh450.number, D.scalar]
  | some s =>
    rw [h] at e1
    cases h2 : Kh455.readPatterns s with
    | none =>
      simp only [h2] at e1
      simp [sTryRef, e1, Kh455Neutral.integers, Kh455.number, Kh450.number, D.scalar, h2]
    | some ps =>
      simp only [h2] at e1
      cases h3 : Kh450.decodeAll w with
      | none =>
        rw [h3] at e2
        simp [sTryRef, e1, e2, Kh455Neutral.integers, Kh450.number, D.scalar, h2, h3]
      | some v =>
        rw [h3] at e2
        have hv := dec_len2 h3
        have hs := dec_len2 h
        have e3 := positions_eq ps v (by omega) (readPatterns_pats (by omega) h2)
        have hl := hyphenate_len ps v
        have e4 := list_answer_eq (Kh455.hyphenate ps v) (by omega)
        have e5 : ∀ l : List Nat, (l.map Int.ofNat).map D.int = l.map mI := fun l => by
          rw [List.map_map] <;> rfl
        have e6 : (Kh455Neutral.integers (Kh450.listResult (Kh455.hyphenate ps v))).map D.int = ((Kh455.hyphenate ps v).length :: Kh455.hyphenate ps v).map mI := by
          rw [← e5]
          rfl
        simp only [h2, h3]
        rw [e6]
        simp [sTryRef, e1, e2, e3, e4]
end PL
namespace PL
open PW PF
/-! ### parts of a slice -/
theorem sIx_nat (n d k : Nat) : sIx n d (some (k : Int)) = min k n := by
  show (if (k : Int) < 0 then max ((k : Int) + (n : Int)) 0 else min (k : Int) (n : Int)).toNat = _
  rw [if_neg (by omega)]
  omega
theorem cut_nn {α : Type} (l : List α) (i j : Nat) : cut l (some (i : Int)) (some (j : Int)) = (l.drop i).take (j - i) := by
  unfold cut
  rw [sIx_nat, sIx_nat]
  by_cases hi : i ≤ l.length
  · rw [Nat.min_eq_left hi]
    by_cases hj : j ≤ l.length
    · rw [Nat.min_eq_left hj]
    · rw [Nat.min_eq_right (by omega), List.take_of_length_le (by rw [List.length_drop]; omega), List.take_of_length_le (by rw [List.length_drop]; omega)]
  · have m1 : min i l.length = l.length := Nat.min_eq_right (by omega)
    rw [m1, List.drop_eq_nil_of_le (Nat.le_refl _), List.drop_eq_nil_of_le (by omega)]
    simp
theorem cut_n {α : Type} (l : List α) (i : Nat) : cut l (some (i : Int)) none = l.drop i := by
  unfold cut
  rw [sIx_nat]
  show (l.drop (min i l.length)).take (l.length - min i l.length) = _
  by_cases hi : i ≤ l.length
  · rw [Nat.min_eq_left hi, List.take_of_length_le (by rw [List.length_drop]; omega)]
  · have m1 : min i l.length = l.length := Nat.min_eq_right (by omega)
    rw [m1, List.drop_eq_nil_of_le (Nat.le_refl _), List.drop_eq_nil_of_le (by omega)]
    simp
theorem cut_map {α β : Type} (f : α → β) (l : List α) (i j : Option Int) : cut (l.map f) i j = (cut l i j).map f := by
  unfold cut
  rw [List.length_map, List.map_take, List.map_drop]
/-! ### a word's parts -/
def partsAux : List Nat → List Nat → List (List Nat)
  | cur, [] => [cur]
  | cur, c :: r => if c = 45 ∧ r ≠ [] ∧ r.head? ≠ some 45 then (cur ++ [c]) :: partsAux [] r else partsAux (cur ++ [c]) r
theorem split_ne : ∀ t, ∃ a l, Kh455.splitHyphens t = a :: l
  | [] => ⟨[], [], rfl⟩
  | c :: r => by
    obtain ⟨a, l, e⟩ := split_ne r
    unfold Kh455.splitHyphens
    simp only
    rw [e]
    split <;> exact ⟨_, _, rfl⟩
theorem parts_split : ∀ (t cur a : List Nat) (l : List (List Nat)), Kh455.splitHyphens t = a :: l → partsAux cur t = (cur ++ a) :: l
  | [], cur, a, l, h => by
    cases h
    simp [partsAux]
  | c :: r, cur, a, l, h => by
    obtain ⟨b, k, e⟩ := split_ne r
    unfold Kh455.splitHyphens at h
    simp only at h
    rw [e] at h
    have e1 : partsAux cur (c :: r) = if c = 45 ∧ r ≠ [] ∧ r.head? ≠ some 45 then (cur ++ [c]) :: partsAux [] r else partsAux (cur ++ [c]) r := rfl
    rw [e1]
    by_cases hc : c = 45 ∧ r ≠ [] ∧ r.head? ≠ some 45
    · rw [if_pos hc, parts_split r [] b k e]
      have hc2 : c = 45 ∧ (!r.isEmpty) = true ∧ r.head? ≠ some 45 := ⟨hc.1, by simpa using hc.2.1, hc.2.2⟩
      rw [if_pos hc2] at h
      cases h
      simp
    · rw [if_neg hc, parts_split r (cur ++ [c]) b k e]
      have hc2 : ¬ (c = 45 ∧ (!r.isEmpty) = true ∧ r.head? ≠ some 45) := fun z => hc ⟨z.1, by simpa using z.2.1, z.2.2⟩
      rw [if_neg hc2] at h
      cases h
      simp
theorem partsAux_eq (t : List Nat) : partsAux [] t = Kh455.splitHyphens t := by
  obtain ⟨a, l, e⟩ := split_ne t
  rw [parts_split t [] a l e, e]
  rfl
def hB : PSt := (sIf (pAnd (pB (pOp (oEq false) (pOp oIx (pVar 0) (pVar 3)) (pC (.int 45)))) (pB (pOp (oEq true) (pOp oIx (pVar 0) (pOp oAdd (pVar 3) (pC (.int 1)))) (pC (.int 45))))) (sSeq (sApp 1 (pSl (pVar 0) (pPart (pVar 2)) (pPart (pOp oAdd (pVar 3) (pC (.int 1))))))
 (sSetK 2 (pOp oAdd (pVar 3) (pC (.int 1))))) sNext)
def hE : PSt := (sSeq (sApp 1 (pSl (pVar 0) (pPart (pVar 2)) pNoPart))
 (sRetV 1))
theorem parts_loop (w : List Nat) : ∀ (n at_ b : Nat) (ps : List D) (x : Sl), at_ + n + 1 = w.length → b ≤ at_ → ps.length + n < line →
    (forL (gSet 3) hB ((List.range' at_ n).map mI) [.va (mL w), .ow ps, .va (mI b), x]).seq hE = .rt (.li true (ps ++ (partsAux ((w.drop b).take (at_ - b)) (w.drop at_)).map mL))
  | 0, at_, b, ps, x, hn, hb, hl => by
    have h1 : ps.length < line := by omega
    have h2 : cut (w.map mI) (some (b : Int)) none = (w.drop b).map mI := by rw [cut_map, cut_n]
    have h3 : ∃ c, w.drop at_ = [c] := by
      cases q : w.drop at_ with
      | nil => have := congrArg List.length q; rw [List.length_drop] at this; simp at this; omega
      | cons c r =>
        have := congrArg List.length q
        rw [List.length_drop] at this
        simp at this
        have : r = [] := List.length_eq_zero_iff.mp (by omega)
        subst this
        exact ⟨c, rfl⟩
    obtain ⟨c, hc⟩ := h3
    have h4 : partsAux ((w.drop b).take (at_ - b)) (w.drop at_) = [w.drop b] := by
      rw [hc]
      have : w.drop at_ = (w.drop b).drop (at_ - b) := by rw [List.drop_drop]; congr 1; omega
      show (if c = 45 ∧ ([] : List Nat) ≠ [] ∧ _ then _ else [(w.drop b).take (at_ - b) ++ [c]]) = _
      rw [if_neg (fun z => z.2.1 rfl), ← hc, this, List.take_append_drop]
    rw [h4]
    show (forL (gSet 3) hB [] _).seq hE = _
    rw [forL_nil]
    simp [hE, h2, h1]
  | n + 1, at_, b, ps, x, hn, hb, hl => by
    have h1 : ps.length < line := by omega
    rw [List.range'_succ, List.map_cons, forL_cons]
    obtain ⟨c, r, hc⟩ : ∃ c r, w.drop at_ = c :: r := by
      cases q : w.drop at_ with
      | nil => have := congrArg List.length q; rw [List.length_drop] at this; simp at this; omega
      | cons c r => exact ⟨c, r, rfl⟩
    have hr : w.drop (at_ + 1) = r := by rw [drop_more hc 1] <;> rfl
    have g0 : w[at_]? = some c := drop_at hc 0
    obtain ⟨d, r2, hd⟩ : ∃ d r2, r = d :: r2 := by
      cases q : r with
      | nil => have := congrArg List.length hr; rw [q, List.length_drop] at this; simp at this; omega
      | cons d r2 => exact ⟨d, r2, rfl⟩
    have g1 : w[at_ + 1]? = some d := by rw [drop_at hc 1, hd] <;> rfl
    have x0 := at_of sqL g0 (i := (at_ : Int)) rfl
    have x1 := at_of sqL g1 (i := (at_ : Int) + 1) (by omega)
    have e1 : partsAux ((w.drop b).take (at_ - b)) (w.drop at_) = if c = 45 ∧ r ≠ [] ∧ r.head? ≠ some 45 then ((w.drop b).take (at_ - b) ++ [c]) :: partsAux [] r else partsAux ((w.drop b).take (at_ - b) ++ [c]) r := by rw [hc] <;> rfl
    have e2 : (w.drop b).take (at_ - b) ++ [c] = (w.drop b).take (at_ + 1 - b) := by
      have : at_ + 1 - b = (at_ - b) + 1 := by omega
      rw [this, List.take_succ]
      congr 1
      rw [List.getElem?_drop, show b + (at_ - b) = at_ from by omega, g0] <;> rfl
    rw [e1, e2]
    have hcut : cut (w.map mI) (some (b : Int)) (some ((at_ : Int) + 1)) = ((w.drop b).take (at_ + 1 - b)).map mI := by
      rw [cut_map]
      have := cut_nn w b (at_ + 1)
      rw [show ((at_ + 1 : Nat) : Int) = (at_ : Int) + 1 from by omega] at this
      rw [this]
    by_cases k1 : c = 45
    · have q1 : (c : Int) = 45 := by omega
      by_cases k2 : d = 45
      · have q2 : (d : Int) = 45 := by omega
        rw [if_neg (fun z => z.2.2 (by rw [hd, k2] <;> rfl))]
        have ih := parts_loop w n (at_ + 1) b ps (.va (mI at_)) (by omega) (by omega) (by omega)
        rw [hr] at ih
        rw [← ih]
        simp [hB, x0, x1, q1, q2]
      · have q2 : ¬ (d : Int) = 45 := by omega
        rw [if_pos ⟨k1, by rw [hd]; simp, by rw [hd]; simpa using k2⟩]
        have ih := parts_loop w n (at_ + 1) (at_ + 1) (ps ++ [mL ((w.drop b).take (at_ + 1 - b))]) (.va (mI at_)) (by omega) (Nat.le_refl _) (by simp; omega)
        rw [hr, Nat.sub_self, List.take_zero] at ih
        rw [List.map_cons, show ps ++ mL ((w.drop b).take (at_ + 1 - b)) :: (partsAux [] r).map mL = ps ++ [mL ((w.drop b).take (at_ + 1 - b))] ++ (partsAux [] r).map mL from by simp, ← ih]
        have e7 : mI (at_ + 1) = .int ((at_ : Int) + 1) := by simp
        rw [e7]
        generalize (w.drop b).take (at_ + 1 - b) = G at hcut
        simp [hB, x0, x1, q1, q2, hcut, h1, mL]
    · have q1 : ¬ (c : Int) = 45 := by omega
      rw [if_neg (fun z => k1 z.1)]
      have ih := parts_loop w n (at_ + 1) b ps (.va (mI at_)) (by omega) (by omega) (by omega)
      rw [hr] at ih
      rw [← ih]
      simp [hB, x0, q1]
theorem parts_of_eq (w : List Nat) (hw : w ≠ []) (h : w.length < 16000000) : pf_parts_of [mL w] = .ok (.li true ((Kh455.splitHyphens w).map mL)) := by
  have hl : w.length ≠ 0 := fun z => hw (List.length_eq_zero_iff.mp z)
  unfold pf_parts_of pb_parts_of
  have q := parts_loop w (w.length - 1) 0 0 [] .un (by omega) (Nat.le_refl _) (by unfold line; simp; omega)
  rw [Nat.sub_self, List.take_zero, List.drop_zero, partsAux_eq] at q
  have hr : rangeL 0 ((w.length : Int) - 1) = (List.range' 0 (w.length - 1)).map mI := by
    rw [rangeL_nat (w.length - 1) _ (by omega), List.range_eq_range']
  have h62 : r62 ((w.length : Int) - 1) = true := r62_int (by omega) (by omega)
  simp only [run_1, sSeq_eq, sSet_eq, sSetK_eq, pC_eq, pLst_eq, pNil_eq, pOp_eq, pUn_eq, oLen_lst, oSub_int, List.length_map, R.bind_ok, R.fl_ok, E.keep_cl, E.rd_cl, List.length_nil, Nat.zero_le, if_true, List.set, List.replicate, seq_nx, Nat.reduceSub, sFor_eq, iRng1_eq, pVar_eq, List.getElem?_cons_zero, h62, hr]
  show (Fl.seq (forL (gSet 3) hB ((List.range' 0 (w.length - 1)).map mI) [.va (mL w), .ow [], .va (mI 0), .un]) hE).out = _
  rw [q] <;> rfl
end PL
namespace PL
open PW PF
/-! ### pieces -/
def jI : Kh455.Joint → Int
  | .space => 0
  | .plain => 1
  | .hyphen => 2
abbrev cD (p : Kh455.Piece) : D := .ob 1 [mL p.content, .int (jI p.joint)]
/-- the pieces of a part from a cut on -/
def pcs (part : List Nat) (last : Kh455.Joint) : Nat → List Nat → List Kh455.Piece
  | s, [] => [⟨part.drop s, last⟩]
  | s, p :: r => ⟨(part.drop s).take (p - s), .hyphen⟩ :: pcs part last p r
theorem cutAt_pcs (part : List Nat) (last : Kh455.Joint) : ∀ (ps : List Nat) (s : Nat) (n k : Nat), n = k + (Kh455.cutAt s ps (part.drop s)).length → List.Pairwise (· < ·) (s :: ps) →
    ((Kh455.cutAt s ps (part.drop s)).zipIdx k).map (fun p => (⟨p.1, if p.2 + 1 = n then last else .hyphen⟩ : Kh455.Piece)) = pcs part last s ps
  | [], s, n, k, hn, hs => by
    have : k + 1 = n := by
      rw [hn]
      rfl
    simp [Kh455.cutAt, pcs, this]
  | p :: r, s, n, k, hn, hs => by
    have hsp : s < p := by
      have := List.pairwise_cons.mp hs
      exact this.1 p (by simp)
    have e1 : Kh455.cutAt s (p :: r) (part.drop s) = (part.drop s).take (p - s) :: Kh455.cutAt p r ((part.drop s).drop (p - s)) := rfl
    have e2 : (part.drop s).drop (p - s) = part.drop p := by rw [List.drop_drop]; congr 1; omega
    rw [e1, e2] at hn ⊢
    have hne : ∀ (t : List Nat) (s : Nat) (x : List Nat), (Kh455.cutAt s t x).length = t.length + 1 := fun t => by
      induction t with
      | nil => intro s x; rfl
      | cons a t ih =>
        intro s x
        show (Kh455.cutAt a t (x.drop (a - s))).length + 1 = _
        rw [ih]
        rfl
    have ih := cutAt_pcs part last r p n (k + 1) (by rw [hn, List.length_cons]; omega) (List.pairwise_cons.mp hs).2
    rw [List.zipIdx_cons, List.map_cons, ih]
    have : ¬ k + 1 = n := by
      rw [hn, List.length_cons, hne]
      omega
    simp [pcs, this]
theorem hyphenate_mem {ps : List Kh455.Pattern} {w : List Nat} {k : Nat} (h : k ∈ Kh455.hyphenate ps w) : 2 ≤ k ∧ k + 2 ≤ w.length := by
  unfold Kh455.hyphenate at h
  split at h
  · cases h
  · have := (List.mem_filter.mp h).2
    have h2 := Bool.and_eq_true_iff.mp (Bool.and_eq_true_iff.mp this).1
    exact ⟨of_decide_eq_true h2.1, of_decide_eq_true h2.2⟩
theorem hyphenate_sorted (ps : List Kh455.Pattern) (w : List Nat) : List.Pairwise (· < ·) (0 :: Kh455.hyphenate ps w) := by
  refine List.pairwise_cons.mpr ⟨fun k hk => by have := hyphenate_mem hk; omega, ?_⟩
  unfold Kh455.hyphenate
  split
  · exact .nil
  · exact List.Pairwise.filter _ List.pairwise_lt_range
theorem partPieces_eq (ps : List Kh455.Pattern) (part : List Nat) (last : Kh455.Joint) : Kh455.partPieces ps part last = pcs part last 0 (Kh455.hyphenate ps part) := by
  have := cutAt_pcs part last (Kh455.hyphenate ps part) 0 _ 0 rfl (hyphenate_sorted ps part)
  rw [List.drop_zero, Nat.zero_add] at this
  exact this
def qB : PSt := (sApp 4 (pMake 1 2 (pCons (pSl (pVar 1) (pPart (pVar 5)) (pPart (pVar 6))) (pCons (pIf (pB (pOp (oEq false) (pVar 6) (pUn oLen (pVar 1)))) (pVar 2) (pC (.int 2))) pNil))))
def qG : PTg := (gTup' 2 (gCons' (gSet 5) (gCons' (gSet 6) gNil')))
theorem piece_loop (P C : D) (part : List Nat) (last : Kh455.Joint) : ∀ (ps : List Nat) (s : Nat) (acc : List D) (x y : Sl), (∀ p ∈ ps, p < part.length) → s ≤ part.length → acc.length + ps.length < line →
    (forL qG qB (zipL ((s :: (ps ++ [part.length])).map mI) ((ps ++ [part.length]).map mI)) [.va P, .va (mL part), .va (.int (jI last)), .va C, .ow acc, x, y]).seq (sRetV 4) = .rt (.li true (acc ++ (pcs part last s ps).map cD))
  | [], s, acc, x, y, hp, hs, hl => by
    have h1 : acc.length < line := by simpa using hl
    show (forL qG qB [.tup [mI s, mI part.length]] _).seq _ = _
    rw [forL_cons]
    have hc : cut (part.map mI) (some (s : Int)) (some (part.length : Int)) = (part.drop s).map mI := by
      rw [cut_map, cut_nn, List.take_of_length_le (by rw [List.length_drop]; omega)]
    generalize hG : part.drop s = G at hc
    simp [qG, qB, hc, h1, pcs, forL_nil, hG]
  | p :: r, s, acc, x, y, hp, hs, hl => by
    have h1 : acc.length < line := by simp at hl; omega
    have hpl := hp p (by simp)
    have ih := piece_loop P C part last r p (acc ++ [cD ⟨(part.drop s).take (p - s), .hyphen⟩]) (.va (mI s)) (.va (mI p)) (fun q hq => hp q (by simp [hq])) (by omega) (by simp at hl ⊢; omega)
    show (forL qG qB (.tup [mI s, mI p] :: zipL ((p :: (r ++ [part.length])).map mI) ((r ++ [part.length]).map mI)) _).seq _ = _
    rw [forL_cons]
    have e : pcs part last s (p :: r) = ⟨(part.drop s).take (p - s), .hyphen⟩ :: pcs part last p r := rfl
    rw [e, show acc ++ (⟨(part.drop s).take (p - s), .hyphen⟩ :: pcs part last p r).map cD = acc ++ [cD ⟨(part.drop s).take (p - s), .hyphen⟩] ++ (pcs part last p r).map cD from by simp, ← ih]
    have hc : cut (part.map mI) (some (s : Int)) (some (p : Int)) = ((part.drop s).take (p - s)).map mI := by rw [cut_map, cut_nn]
    have q : ¬ (p : Int) = (part.length : Int) := by omega
    generalize (part.drop s).take (p - s) = G at hc
    have step : ((qG (.tup [mI s, mI p]) [.va P, .va (mL part), .va (.int (jI last)), .va C, .ow acc, x, y]).fl fun r1 => (qB r1).turn (forL qG qB (zipL ((p :: (r ++ [part.length])).map mI) ((r ++ [part.length]).map mI)))) = forL qG qB (zipL ((p :: (r ++ [part.length])).map mI) ((r ++ [part.length]).map mI)) [.va P, .va (mL part), .va (.int (jI last)), .va C, .ow (acc ++ [cD ⟨G, .hyphen⟩]), .va (mI s), .va (mI p)] := by
      generalize forL qG qB (zipL ((p :: (r ++ [part.length])).map mI) ((r ++ [part.length]).map mI)) = W
      simp [qG, qB, hc, h1, q, jI, cD, mL]
    rw [step]
theorem pieces_of_part_eq (ps : List Kh455.Pattern) (part : List Nat) (last : Kh455.Joint) (hw : part.length ≤ 15000000) (hp : PatsOk ps) : pf_pieces_of_part [.lst (ps.map pD), mL part, .int (jI last)] = .ok (.li true ((Kh455.partPieces ps part last).map cD)) := by
  unfold pf_pieces_of_part pb_pieces_of_part
  have e1 := positions_eq ps part hw hp
  have hl := hyphenate_len ps part
  have hm : ∀ k ∈ Kh455.hyphenate ps part, k < part.length := fun k hk => by have := hyphenate_mem hk; omega
  rw [partPieces_eq]
  generalize Kh455.hyphenate ps part = hs at e1 hl hm ⊢
  have q := piece_loop (.lst (ps.map pD)) (.lst ((0 :: (hs ++ [part.length])).map mI)) part last hs 0 [] .un .un hm (Nat.zero_le _) (by simp; unfold line; omega)
  rw [List.nil_append] at q
  have a1 : (pOp oAdd (pOp oAdd (pLst (pCons (pC (.int 0)) pNil)) (pCall pf_positions_of (pCons (pVar 0) (pCons (pVar 1) pNil)))) (pLst (pCons (pUn oLen (pVar 1)) pNil))) [.va (.lst (ps.map pD)), .va (mL part), .va (.int (jI last)), .un, .un, .un, .un] = .ok (.li true ((0 :: (hs ++ [part.length])).map mI)) := by
    have b0 : (pCall pf_positions_of (pCons (pVar 0) (pCons (pVar 1) pNil))) [.va (.lst (ps.map pD)), .va (mL part), .va (.int (jI last)), .un, .un, .un, .un] = .ok (.li true (hs.map mI)) := by simp [e1]
    have b1 : (pOp oAdd (pLst (pCons (pC (.int 0)) pNil)) (pCall pf_positions_of (pCons (pVar 0) (pCons (pVar 1) pNil)))) [.va (.lst (ps.map pD)), .va (mL part), .va (.int (jI last)), .un, .un, .un, .un] = .ok (.li true ((0 :: hs).map mI)) := by
      rw [pOp_eq, lst1, b0, R.bind_ok, R.bind_ok, E.rd_li, E.rd_li, oAdd_lst, if_pos (by rw [List.length_map, List.length_singleton]; unfold line; omega)]
      rfl
    have b2 : (pLst (pCons (pUn oLen (pVar 1)) pNil)) [.va (.lst (ps.map pD)), .va (mL part), .va (.int (jI last)), .un, .un, .un, .un] = .ok (.li true [mI part.length]) := by simp [ll1]
    rw [pOp_eq, b1, b2, R.bind_ok, R.bind_ok, E.rd_li, E.rd_li, oAdd_lst, if_pos (by rw [List.length_map, List.length_cons, List.length_singleton]; unfold line; omega)]
    simp
  have a2 : cut ((0 :: (hs ++ [part.length])).map mI) (some 1) none = (hs ++ [part.length]).map mI := by
    have := cut_n ((0 :: (hs ++ [part.length])).map mI) 1
    rw [show ((1 : Nat) : Int) = 1 from rfl] at this
    rw [this]
    rfl
  have pre : ∀ tail : PSt, (sSeq (sSetK 3 (pOp oAdd (pOp oAdd (pLst (pCons (pC (.int 0)) pNil)) (pCall pf_positions_of (pCons (pVar 0) (pCons (pVar 1) pNil)))) (pLst (pCons (pUn oLen (pVar 1)) pNil)))) tail) [.va (.lst (ps.map pD)), .va (mL part), .va (.int (jI last)), .un, .un, .un, .un] = tail [.va (.lst (ps.map pD)), .va (mL part), .va (.int (jI last)), .va (.lst ((0 :: (hs ++ [part.length])).map mI)), .un, .un, .un] := fun tail => by
    rw [sSeq_eq, sSetK_eq, a1, R.fl_ok, E.keep_li, R.fl_ok, seq_nx]
    rfl
  rw [run_3]
  show Fl.out ((sSeq _ _) [.va (.lst (ps.map pD)), .va (mL part), .va (.int (jI last)), .un, .un, .un, .un]) = _
  rw [pre]
  generalize hC : (0 :: (hs ++ [part.length])).map mI = C at a2 q
  simp only [sSeq_eq, sSet_eq, pLst_eq, pNil_eq, R.bind_ok, R.fl_ok, List.length_nil, Nat.zero_le, if_true, List.set, seq_nx, sFor_eq, iZip_eq, pVar_eq, List.getElem?_cons_succ, List.getElem?_cons_zero, E.keep_cl, pSl_eq, pPart_eq, pNoPart_eq, pC_eq, E.rd_cl, a2, E.keep_li]
  show (Fl.seq (forL qG qB (zipL C ((hs ++ [part.length]).map mI)) [.va (.lst (ps.map pD)), .va (mL part), .va (.int (jI last)), .va (.lst C), .ow [], .un, .un]) (sRetV 4)).out = _
  rw [q, out_rt]
end PL
namespace PL
open PW PF
/-! ### the pieces of a text -/
def wB1 : PSt := (sSeq (sSetK 7 (pIf (pB (pOp (oEq false) (pVar 5) (pOp oSub (pUn oLen (pVar 4)) (pC (.int 1))))) (pC (.int 0)) (pC (.int 1))))
 (sExt 2 (pCall pf_pieces_of_part (pCons (pVar 0) (pCons (pVar 6) (pCons (pVar 7) pNil))))))
def wG1 : PTg := (gTup' 2 (gCons' (gSet 5) (gCons' (gSet 6) gNil')))
def partF (ps : List Kh455.Pattern) (n : Nat) (p : List Nat × Nat) : List Kh455.Piece := Kh455.partPieces ps p.1 (if p.2 + 1 = n then .space else .plain)
theorem word_loop (ps : List Kh455.Pattern) (hps : PatsOk ps) (s w : D) (parts : List (List Nat)) : ∀ (l : List (List Nat)) (k : Nat) (acc : List Kh455.Piece) (x5 x6 x7 : Sl), parts.length = k + l.length → (∀ x ∈ l, x.length ≤ 15000000) → acc.length + ((l.zipIdx k).flatMap (partF ps parts.length)).length ≤ line →
    ∃ y5 y6 y7, forL wG1 wB1 (enumL k (l.map mL)) [.va (.lst (ps.map pD)), .va s, .ow (acc.map cD), .va w, .va (.lst (parts.map mL)), x5, x6, x7] = .nx [.va (.lst (ps.map pD)), .va s, .ow ((acc ++ (l.zipIdx k).flatMap (partF ps parts.length)).map cD), .va w, .va (.lst (parts.map mL)), y5, y6, y7]
  | [], k, acc, x5, x6, x7, _, _, _ => ⟨x5, x6, x7, by simp [enumL, forL_nil]⟩
  | p :: r, k, acc, x5, x6, x7, hn, hx, hl => by
    rw [List.zipIdx_cons, List.flatMap_cons] at hl ⊢
    have e0 : partF ps parts.length (p, k) = Kh455.partPieces ps p (if k + 1 = parts.length then .space else .plain) := rfl
    rw [e0] at hl ⊢
    have e1 := pieces_of_part_eq ps p (if k + 1 = parts.length then .space else .plain) (hx p (by simp)) hps
    generalize hG : Kh455.partPieces ps p (if k + 1 = parts.length then .space else .plain) = G at e1 hl ⊢
    obtain ⟨y5, y6, y7, ih⟩ := word_loop ps hps s w parts r (k + 1) (acc ++ G) (.va (mI k)) (.va (mL p)) (.va (.int (jI (if k + 1 = parts.length then .space else .plain)))) (by rw [hn, List.length_cons]; omega) (fun y hy => hx y (by simp [hy])) (by simp at hl ⊢; omega)
    refine ⟨y5, y6, y7, ?_⟩
    rw [← List.append_assoc, ← ih, List.map_cons]
    show forL wG1 wB1 (.tup [.int (k : Nat), mL p] :: enumL (k + 1) (r.map mL)) _ = _
    rw [forL_cons]
    have hz : acc.length + G.length ≤ line := by simp at hl; omega
    have ej : (pIf (pB (pOp (oEq false) (pVar 5) (pOp oSub (pUn oLen (pVar 4)) (pC (.int 1))))) (pC (.int 0)) (pC (.int 1))) [.va (.lst (ps.map pD)), .va s, .ow (acc.map cD), .va w, .va (.lst (parts.map mL)), .va (mI k), .va (mL p), x7] = .ok (.cl (.int (jI (if k + 1 = parts.length then .space else .plain)))) := by
      by_cases c : k + 1 = parts.length
      · have q : (k : Int) = (parts.length : Int) - 1 := by omega
        simp [c, q, jI]
      · have q : ¬ (k : Int) = (parts.length : Int) - 1 := by omega
        simp [c, q, jI]
    have e2 : wG1 (.tup [.int (k : Nat), mL p]) [.va (.lst (ps.map pD)), .va s, .ow (acc.map cD), .va w, .va (.lst (parts.map mL)), x5, x6, x7] = .ok [.va (.lst (ps.map pD)), .va s, .ow (acc.map cD), .va w, .va (.lst (parts.map mL)), .va (mI k), .va (mL p), x7] := rfl
    rw [e2, R.fl_ok]
    generalize (if k + 1 = parts.length then Kh455.Joint.space else .plain) = J at e1 ej ⊢
    have e3 : wB1 [.va (.lst (ps.map pD)), .va s, .ow (acc.map cD), .va w, .va (.lst (parts.map mL)), .va (mI k), .va (mL p), x7] = .nx [.va (.lst (ps.map pD)), .va s, .ow ((acc ++ G).map cD), .va w, .va (.lst (parts.map mL)), .va (mI k), .va (mL p), .va (.int (jI J))] := by
      unfold wB1
      rw [sSeq_eq, sSetK_eq, ej, R.fl_ok, E.keep_cl, R.fl_ok, seq_nx]
      show sExt 2 _ [.va (.lst (ps.map pD)), .va s, .ow (acc.map cD), .va w, .va (.lst (parts.map mL)), .va (mI k), .va (mL p), .va (.int (jI J))] = _
      rw [sExt_of (l := acc.map cD) (m := G.map cD) (z := .li true (G.map cD)) rfl (by simp [e1]) rfl (by rw [List.length_map, List.length_map]; exact hz), ← List.map_append]
      rfl
    rw [e3, turn_nx]
def tB1 : PSt := (sSeq (sSetK 4 (pCall pf_parts_of (pCons (pVar 3) pNil)))
 (sFor (iEnum (pVar 4)) wG1 wB1))
theorem parts_ne : ∀ (t : List Nat), (Kh455.splitHyphens t).length ≤ t.length + 1 ∧ ∀ x ∈ Kh455.splitHyphens t, x.length ≤ t.length
  | [] => by simp [Kh455.splitHyphens]
  | c :: r => by
    obtain ⟨h1, h2⟩ := parts_ne r
    obtain ⟨a, l, e⟩ := split_ne r
    unfold Kh455.splitHyphens
    simp only
    rw [e] at h1 h2 ⊢
    split
    · refine ⟨by simp at h1 ⊢; omega, fun x hx => ?_⟩
      rcases List.mem_cons.mp hx with rfl | hx
      · simp
      · have := h2 x hx
        simp
        omega
    · refine ⟨by simp at h1 ⊢; omega, fun x hx => ?_⟩
      rcases List.mem_cons.mp hx with rfl | hx
      · have := h2 a (by simp)
        simp
        omega
      · have := h2 x (by simp [hx])
        simp
        omega
theorem text_loop (ps : List Kh455.Pattern) (hps : PatsOk ps) (s : D) : ∀ (ws : List (List Nat)) (acc : List Kh455.Piece) (x3 x4 x5 x6 x7 : Sl), (∀ w ∈ ws, w ≠ [] ∧ w.length ≤ 15000000) → acc.length + (ws.flatMap (Kh455.wordPieces ps)).length ≤ line →
    (forL (gSet 3) tB1 (ws.map mL) [.va (.lst (ps.map pD)), .va s, .ow (acc.map cD), x3, x4, x5, x6, x7]).seq (sRetV 2) = .rt (.li true ((acc ++ ws.flatMap (Kh455.wordPieces ps)).map cD))
  | [], acc, x3, x4, x5, x6, x7, _, _ => by simp [forL_nil]
  | w :: r, acc, x3, x4, x5, x6, x7, hw, hl => by
    obtain ⟨w1, w2⟩ := hw w (by simp)
    rw [List.flatMap_cons] at hl ⊢
    have ew : Kh455.wordPieces ps w = ((Kh455.splitHyphens w).zipIdx 0).flatMap (partF ps (Kh455.splitHyphens w).length) := rfl
    rw [ew] at hl ⊢
    have e1 := parts_of_eq w w1 (by omega)
    obtain ⟨p1, p2⟩ := parts_ne w
    obtain ⟨y5, y6, y7, e2⟩ := word_loop ps hps s (mL w) (Kh455.splitHyphens w) (Kh455.splitHyphens w) 0 acc x5 x6 x7 (by omega) (fun x hx => by have := p2 x hx; omega) (by simp at hl ⊢; omega)
    generalize ((Kh455.splitHyphens w).zipIdx 0).flatMap (partF ps (Kh455.splitHyphens w).length) = G at hl e2 ⊢
    have ih := text_loop ps hps s r (acc ++ G) (.va (mL w)) (.va (.lst ((Kh455.splitHyphens w).map mL))) y5 y6 y7 (fun v hv => hw v (by simp [hv])) (by simp at hl ⊢; omega)
    rw [← List.append_assoc, ← ih, List.map_cons, forL_cons]
    have e3 : tB1 [.va (.lst (ps.map pD)), .va s, .ow (acc.map cD), .va (mL w), x4, x5, x6, x7] = .nx [.va (.lst (ps.map pD)), .va s, .ow ((acc ++ G).map cD), .va (mL w), .va (.lst ((Kh455.splitHyphens w).map mL)), y5, y6, y7] := by
      unfold tB1
      have e4 : (pCall pf_parts_of (pCons (pVar 3) pNil)) [.va (.lst (ps.map pD)), .va s, .ow (acc.map cD), .va (mL w), x4, x5, x6, x7] = .ok (.li true ((Kh455.splitHyphens w).map mL)) := by simp [e1]
      rw [sSeq_eq, sSetK_eq, e4, R.fl_ok, E.keep_li, R.fl_ok, seq_nx, sFor_eq]
      exact e2
    show (((R.ok [.va (.lst (ps.map pD)), .va s, .ow (acc.map cD), .va (mL w), x4, x5, x6, x7] : R Env).fl fun r1 => (tB1 r1).turn (forL (gSet 3) tB1 (r.map mL))).seq (sRetV 2)) = _
    rw [R.fl_ok, e3, turn_nx]
/-! how many pieces there are -/
theorem hyph_len (ps : List Kh455.Pattern) (part : List Nat) (j : Kh455.Joint) : (Kh455.partPieces ps part j).length ≤ part.length + 2 := by
  rw [partPieces_eq]
  have : ∀ (l : List Nat) (s : Nat), (pcs part j s l).length = l.length + 1 := fun l => by
    induction l with
    | nil => intro s; rfl
    | cons a l ih => intro s; show (pcs part j a l).length + 1 = _; rw [ih] <;> rfl
  rw [this]
  have := hyphenate_len ps part
  omega
theorem flat_len {α β : Type} (f : α → List β) (c : α → Nat) (h : ∀ x, (f x).length ≤ c x) : ∀ l : List α, (l.flatMap f).length ≤ (l.map c).sum
  | [] => by simp
  | x :: l => by
    have := flat_len f c h l
    have := h x
    rw [List.flatMap_cons, List.length_append, List.map_cons, List.sum_cons]
    omega
theorem split_sum : ∀ t : List Nat, ((Kh455.splitHyphens t).map List.length).sum = t.length
  | [] => rfl
  | c :: r => by
    have ih := split_sum r
    obtain ⟨a, l, e⟩ := split_ne r
    unfold Kh455.splitHyphens
    simp only
    rw [e] at ih ⊢
    split
    · simp at ih ⊢; omega
    · simp at ih ⊢; omega
theorem word_len (ps : List Kh455.Pattern) (w : List Nat) : (Kh455.wordPieces ps w).length ≤ 3 * w.length + 2 := by
  have h := flat_len (partF ps (Kh455.splitHyphens w).length) (fun p => p.1.length + 2) (fun p => hyph_len ps p.1 _) ((Kh455.splitHyphens w).zipIdx 0)
  have e : (((Kh455.splitHyphens w).zipIdx 0).map fun p : List Nat × Nat => p.1.length + 2).sum = ((Kh455.splitHyphens w).map List.length).sum + 2 * (Kh455.splitHyphens w).length := by
    have : ∀ (l : List (List Nat)) (k : Nat), ((l.zipIdx k).map fun p : List Nat × Nat => p.1.length + 2).sum = (l.map List.length).sum + 2 * l.length := fun l => by
      induction l with
      | nil => intro k; rfl
      | cons a l ih =>
        intro k
        rw [List.zipIdx_cons, List.map_cons, List.sum_cons, ih, List.map_cons, List.sum_cons, List.length_cons]
        show a.length + 2 + _ = _
        omega
    exact this _ 0
  rw [e, split_sum] at h
  have := (parts_ne w).1
  exact Nat.le_trans h (by omega)
theorem pieces_len (ps : List Kh455.Pattern) (t : List Nat) : (Kh455.pieces ps t).length ≤ 5 * t.length := by
  have h := flat_len (Kh455.wordPieces ps) (fun w => 3 * w.length + 2) (word_len ps) (Kh455.wordsOf t)
  have e : ∀ l : List (List Nat), (l.map fun w => 3 * w.length + 2).sum = 3 * (l.map List.length).sum + 2 * l.length := fun l => by
    induction l with
    | nil => rfl
    | cons a l ih => simp [ih]; omega
  rw [e, wordsOf_eq] at h
  obtain ⟨b1, b2⟩ := words_bound t []
  simp only [List.length_nil, Nat.zero_add] at b1 b2
  show ((Kh455.wordsOf t).flatMap (Kh455.wordPieces ps)).length ≤ _
  rw [wordsOf_eq]
  omega
theorem words_ne : ∀ (t w v : List Nat), v ∈ wordsAux w t → v ≠ []
  | [], w, v, h => by
    unfold wordsAux at h
    split at h
    · cases h
    · rename_i hw
      simp at h
      subst h
      exact hw
  | c :: r, w, v, h => by
    have e : wordsAux w (c :: r) = if Kh450.isWhite c = true then (if w = [] then wordsAux [] r else w :: wordsAux [] r) else wordsAux (w ++ [c]) r := rfl
    rw [e] at h
    split at h
    · split at h
      · exact words_ne r [] v h
      · rename_i hw
        rcases List.mem_cons.mp h with rfl | h
        · exact hw
        · exact words_ne r [] v h
    · exact words_ne r _ v h
theorem pieces_of_eq (ps : List Kh455.Pattern) (t : List Nat) (ht : t.length ≤ 3000000) (hps : PatsOk ps) : pf_pieces_of [.lst (ps.map pD), mL t] = .ok (.li true ((Kh455.pieces ps t).map cD)) := by
  unfold pf_pieces_of pb_pieces_of
  have e1 := words_of_eq t (by unfold line; omega)
  have hl := pieces_len ps t
  have q := text_loop ps hps (mL t) (Kh455.wordsOf t) [] .un .un .un .un .un (fun w hw => by
    rw [wordsOf_eq] at hw
    have := wordsAux_len t [] w hw
    simp at this
    exact ⟨words_ne t [] w hw, by omega⟩) (by unfold Kh455.pieces at hl; rw [List.length_nil, Nat.zero_add]; unfold line; omega)
  have e2 : ([] : List Kh455.Piece) ++ (Kh455.wordsOf t).flatMap (Kh455.wordPieces ps) = Kh455.pieces ps t := rfl
  rw [e2] at q
  simp only [run_2, sSeq_eq, sSet_eq, pLst_eq, pNil_eq, pCall_eq, pCons_eq, R.bind_ok, R.fl_ok, E.keep_cl, List.length_nil, Nat.zero_le, if_true, List.set, List.replicate, seq_nx, Nat.reduceSub, sFor_eq, iLst_eq, pVar_eq, List.getElem?_cons_zero, List.getElem?_cons_succ, e1, E.keep_li]
  show (Fl.seq (forL (gSet 3) tB1 ((Kh455.wordsOf t).map mL) [.va (.lst (ps.map pD)), .va (mL t), .ow (([] : List Kh455.Piece).map cD), .un, .un, .un, .un, .un]) (sRetV 2)).out = _
  rw [q] <;> rfl
end PL
namespace PL
open PW PF
/-! ### a line -/
def nB : PSt := (sSeq (sExt 1 (pAttr (ixc 1 0) (pVar 3)))
 (sSeq (sSetK 4 (pOp (oEq false) (pVar 2) (pOp oSub (pUn oLen (pVar 0)) (pC (.int 1)))))
 (sSeq (sIf (pAnd (pB (pOp (oEq false) (pAttr (ixc 1 1) (pVar 3)) (pC (.int 0)))) (pNot (pB (pVar 4)))) (sApp 1 (pC (.int 32))) sNext)
 (sIf (pAnd (pB (pOp (oEq false) (pAttr (ixc 1 1) (pVar 3)) (pC (.int 2)))) (pB (pVar 4))) (sApp 1 (pC (.int 45))) sNext))))
def nG : PTg := (gTup' 2 (gCons' (gSet 2) (gCons' (gSet 3) gNil')))
/-- what a piece puts into its line -/
def pieceT (p : Kh455.Piece) (isLast : Bool) : List Nat := p.content ++ (if isLast then (if p.joint = .hyphen then [45] else []) else (if p.joint = .space then [32] else []))
theorem line_step (n k : Nat) (P : D) (hP : oLen P = .ok (.cl (.int (n : Int)))) (p : Kh455.Piece) (acc : List Nat) (x2 x3 x4 : Sl) (h : acc.length + (pieceT p (k + 1 == n)).length ≤ line) :
    ((nG (.tup [.int (k : Nat), cD p]) [.va P, .ow (acc.map mI), x2, x3, x4]).fl fun r1 => nB r1) = .nx [.va P, .ow ((acc ++ pieceT p (k + 1 == n)).map mI), .va (mI k), .va (cD p), .va (.bl (k + 1 == n))] := by
  obtain ⟨c, j⟩ := p
  have e1 : nG (.tup [.int (k : Nat), cD ⟨c, j⟩]) [.va P, .ow (acc.map mI), x2, x3, x4] = .ok [.va P, .ow (acc.map mI), .va (mI k), .va (cD ⟨c, j⟩), x4] := rfl
  rw [e1, R.fl_ok]
  have hd : decide ((k : Int) = (n : Int) - 1) = (k + 1 == n) := by
    rw [Bool.eq_iff_iff]
    simp
    omega
  unfold nB
  generalize hb : (k + 1 == n) = b at h hd ⊢
  have h1 : (acc.map mI).length + (c.map mI).length ≤ line := by
    rw [List.length_map, List.length_map]
    unfold pieceT at h
    simp at h
    omega
  rw [sSeq_eq, sExt_of (l := acc.map mI) (m := c.map mI) (z := .cl (mL c)) rfl (by simp [ixc]) rfl h1, seq_nx, ← List.map_append]
  show sSeq _ _ [.va P, .ow ((acc ++ c).map mI), .va (mI k), .va (cD ⟨c, j⟩), x4] = _
  have e2 : (pOp (oEq false) (pVar 2) (pOp oSub (pUn oLen (pVar 0)) (pC (.int 1)))) [.va P, .ow ((acc ++ c).map mI), .va (mI k), .va (cD ⟨c, j⟩), x4] = .ok (.cl (.bl b)) := by
    simp [hP, hd]
  rw [sSeq_eq, sSetK_eq, e2, R.fl_ok, E.keep_cl, R.fl_ok, seq_nx]
  show sSeq _ _ [.va P, .ow ((acc ++ c).map mI), .va (mI k), .va (cD ⟨c, j⟩), .va (.bl b)] = _
  cases b with
  | true =>
    cases j with
    | space => simp [pieceT, ixc, jI]
    | plain => simp [pieceT, ixc, jI]
    | hyphen =>
      have h2 : acc.length + c.length < line := by simp [pieceT] at h; omega
      simp [pieceT, ixc, jI, h2]
  | false =>
    cases j with
    | hyphen => simp [pieceT, ixc, jI]
    | plain => simp [pieceT, ixc, jI]
    | space =>
      have h2 : acc.length + c.length < line := by simp [pieceT] at h; omega
      simp [pieceT, ixc, jI, h2]
theorem lineText_cons (p : Kh455.Piece) (r : List Kh455.Piece) : Kh455.lineText (p :: r) = pieceT p r.isEmpty ++ Kh455.lineText r := by
  cases r with
  | nil => simp [Kh455.lineText, pieceT]
  | cons q r => simp [Kh455.lineText, pieceT]
theorem line_loop (n : Nat) (P : D) (hP : oLen P = .ok (.cl (.int (n : Int)))) : ∀ (l : List Kh455.Piece) (k : Nat) (acc : List Nat) (x2 x3 x4 : Sl), k + l.length = n → acc.length + (Kh455.lineText l).length ≤ line →
    (forL nG nB (enumL k (l.map cD)) [.va P, .ow (acc.map mI), x2, x3, x4]).seq (sRetV 1) = .rt (.li true ((acc ++ Kh455.lineText l).map mI))
  | [], k, acc, x2, x3, x4, _, _ => by simp [enumL, forL_nil, Kh455.lineText]
  | p :: r, k, acc, x2, x3, x4, hn, hl => by
    have hb : (k + 1 == n) = r.isEmpty := by
      cases r with
      | nil => simp at hn ⊢; omega
      | cons q r => simp at hn ⊢; omega
    rw [lineText_cons, ← hb] at hl ⊢
    have st := line_step n k P hP p acc x2 x3 x4 (by simp at hl; omega)
    have ih := line_loop n P hP r (k + 1) (acc ++ pieceT p (k + 1 == n)) (.va (mI k)) (.va (cD p)) (.va (.bl (k + 1 == n))) (by simp at hn; omega) (by simp at hl ⊢; omega)
    rw [← List.append_assoc, ← ih, List.map_cons]
    show (forL nG nB (.tup [.int (k : Nat), cD p] :: enumL (k + 1) (r.map cD)) _).seq _ = _
    rw [forL_cons]
    congr 1
    have e1 : nG (.tup [.int (k : Nat), cD p]) [.va P, .ow (acc.map mI), x2, x3, x4] = .ok [.va P, .ow (acc.map mI), .va (mI k), .va (cD p), x4] := rfl
    rw [e1, R.fl_ok] at st ⊢
    rw [st, turn_nx]
theorem line_of_eq (l : List Kh455.Piece) (h : (Kh455.lineText l).length ≤ line) : pf_line_of [.lst (l.map cD)] = .ok (.li true ((Kh455.lineText l).map mI)) := by
  unfold pf_line_of pb_line_of
  have q := line_loop l.length (.lst (l.map cD)) (by rw [oLen_lst, List.length_map]) l 0 [] .un .un .un (by omega) (by simpa using h)
  rw [List.nil_append] at q
  simp only [run_1, sSeq_eq, sSet_eq, pLst_eq, pNil_eq, R.bind_ok, R.fl_ok, E.keep_cl, List.length_nil, Nat.zero_le, if_true, List.set, List.replicate, seq_nx, Nat.reduceSub, sFor_eq, iEnum_eq, pVar_eq, List.getElem?_cons_zero]
  show (Fl.seq (forL nG nB (enumL 0 (l.map cD)) [.va (.lst (l.map cD)), .ow (([] : List Nat).map mI), .un, .un, .un]) (sRetV 1)).out = _
  rw [q] <;> rfl
/-! ### what a line costs -/
def oNat (o : Option Nat) : D := match o with
  | none => .non
  | some n => .int (n : Int)
theorem last_of {l : List Kh455.Piece} {p : Kh455.Piece} (h : l.getLast? = some p) : oIx (.lst (l.map cD)) (.int (-1)) = .ok (.cl (cD p)) := by
  have hl : l ≠ [] := fun z => by rw [z] at h; cases h
  have hn : l.length ≠ 0 := fun z => hl (List.length_eq_zero_iff.mp z)
  refine oIx_last (n := l.length - 1) ?_ (by rw [List.length_map]; omega)
  rw [List.getElem?_map, ← List.getLast?_eq_getElem?, h] <;> rfl
theorem line_cost_eq (w : Nat) (l : List Kh455.Piece) (b : Bool) (hl : l ≠ []) (hw : w ≤ 80) (h : (Kh455.lineText l).length ≤ 10000000) : pf_line_cost [.int (w : Int), .lst (l.map cD), .bl b] = .ok (.cl (oNat (Kh455.lineCost w l b))) := by
  have e1 := line_of_eq l (by unfold line; omega)
  obtain ⟨p, hp⟩ : ∃ p, l.getLast? = some p := by
    cases q : l.getLast? with
    | none => exact absurd (List.getLast?_eq_none_iff.mp q) hl
    | some p => exact ⟨p, rfl⟩
  have e2 := last_of hp
  have hn : l.length ≠ 0 := fun z => hl (List.length_eq_zero_iff.mp z)
  unfold pf_line_cost pb_line_cost Kh455.lineCost
  simp only [hp, Option.map_some]
  generalize hL : (Kh455.lineText l).length = L at h
  have e3 : (Kh455.lineText l).length = L := hL
  have hj : decide (jI p.joint = 2) = decide (p.joint = .hyphen) := by cases p.joint <;> rfl
  have hj2 : (jI p.joint = 2) = (p.joint = .hyphen) := by cases p.joint <;> simp [jI]
  by_cases c : L ≤ w
  · have q1 : ¬ (w : Int) < (L : Int) := by omega
    have q2 : (L : Int) ≤ (w : Int) := by omega
    have m1 : oMul (.int 10000) (.int ((L : Int) - (w : Int))) = .ok (.cl (.int (10000 * ((L : Int) - (w : Int))))) := oMul_int (.inl (by decide))
    have m2 : oMul (.int ((w : Int) - (L : Int))) (.int ((w : Int) - (L : Int))) = .ok (.cl (.int (((w : Int) - (L : Int)) * ((w : Int) - (L : Int))))) := oMul_int (.inl ⟨by omega, by omega⟩)
    have e4 : ((w : Int) - (L : Int)) * ((w : Int) - (L : Int)) = (((w - L) ^ 2 : Nat) : Int) := by
      have : (w : Int) - (L : Int) = ((w - L : Nat) : Int) := by omega
      rw [this, Nat.pow_two]
      push_cast
      rfl
    rw [if_pos c]
    cases b <;> cases hh : p.joint <;> simp [e1, e2, e3, q1, q2, m1, m2, e4, hh, ixc, oNat, c, jI]
  · have q1 : (w : Int) < (L : Int) := by omega
    have q2 : ¬ (L : Int) ≤ (w : Int) := by omega
    have m1 : oMul (.int 10000) (.int ((L : Int) - (w : Int))) = .ok (.cl (.int (10000 * ((L : Int) - (w : Int))))) := oMul_int (.inl (by decide))
    have e4 : 10000 * ((L : Int) - (w : Int)) = ((10000 * (L - w) : Nat) : Int) := by omega
    rw [if_neg c]
    by_cases k : l.length = 1
    · have q3 : ¬ (1 : Int) < (l.length : Int) := by omega
      rw [if_pos k]
      cases hh : p.joint <;> simp [e1, e2, e3, q1, q2, q3, m1, e4, hh, ixc, oNat, k, jI]
    · have q3 : (1 : Int) < (l.length : Int) := by omega
      rw [if_neg k]
      simp [e1, e3, q1, q3, oNat]
end PL
namespace PL
open PW PF
theorem pcs_len (part : List Nat) (last : Kh455.Joint) : ∀ (l : List Nat) (s : Nat) (p : Kh455.Piece), p ∈ pcs part last s l → p.content.length ≤ part.length
  | [], s, p, h => by
    simp [pcs] at h
    subst h
    simp
  | a :: l, s, p, h => by
    rcases List.mem_cons.mp h with rfl | h
    · simp
      omega
    · exact pcs_len part last l a p h
theorem pieces_content {ps : List Kh455.Pattern} {t : List Nat} {p : Kh455.Piece} (h : p ∈ Kh455.pieces ps t) : p.content.length ≤ t.length := by
  obtain ⟨w, hw, h2⟩ := List.mem_flatMap.mp h
  obtain ⟨q, hq, h3⟩ := List.mem_flatMap.mp h2
  rw [partPieces_eq] at h3
  have h4 := pcs_len _ _ _ _ _ h3
  have h5 : q.1 ∈ Kh455.splitHyphens w := (List.mem_zipIdx' hq).2 ▸ List.getElem_mem _
  have h6 := (parts_ne w).2 _ h5
  rw [wordsOf_eq] at hw
  have h7 := wordsAux_len t [] w hw
  simp at h7
  omega
theorem lineText_len (m : Nat) : ∀ l : List Kh455.Piece, (∀ p ∈ l, p.content.length ≤ m) → (Kh455.lineText l).length ≤ l.length * (m + 1)
  | [], _ => by simp [Kh455.lineText]
  | p :: r, h => by
    have ih := lineText_len m r fun q hq => h q (by simp [hq])
    have h1 := h p (by simp)
    have h2 : (pieceT p r.isEmpty).length ≤ p.content.length + 1 := by
      unfold pieceT
      rw [List.length_append]
      split <;> split <;> simp
    rw [lineText_cons, List.length_append, List.length_cons, Nat.add_mul, Nat.one_mul]
    omega
/-- pieces with which one can count -/
def PcOk (l : List Kh455.Piece) : Prop := l.length ≤ 3000 ∧ ∀ p ∈ l, p.content.length ≤ 600
theorem PcOk.text {l m : List Kh455.Piece} (h : PcOk l) (hs : m.length ≤ l.length) (hm : ∀ p ∈ m, p ∈ l) : (Kh455.lineText m).length ≤ 10000000 := by
  have h1 := lineText_len 600 m fun p hp => h.2 p (hm p hp)
  have h2 : m.length * (600 + 1) ≤ 3000 * 601 := Nat.mul_le_mul (Nat.le_trans hs h.1) (Nat.le_refl _)
  omega
theorem pieces_ok (ps : List Kh455.Pattern) (t : List Nat) (h : t.length ≤ 600) : PcOk (Kh455.pieces ps t) := ⟨by have := pieces_len ps t; omega, fun p hp => by have := pieces_content hp; omega⟩
theorem pieces_in_eq (w : Nat) (p t : List Nat) (hp : p.length ≤ 600) (ht : t.length ≤ 600) : pf_pieces_in [.int (w : Int), .arg (p.map mI), .arg (t.map mI)] = if Kh455.isWidth w then (match Kh450.decodeAll p with
    | none => .ex (.refused (.int (-24)))
    | some s => match Kh455.readPatterns s with
      | none => .ex (.refused (.int (-21)))
      | some ps => match Kh450.decodeAll t with
        | none => .ex (.refused (.int (-24)))
        | some v => .ok (.li true ((Kh455.pieces ps v).map cD))) else .ex (.refused (.int (-22))) := by
  unfold pf_pieces_in pb_pieces_in
  have e0 := check_width_eq w
  have e1 := patterns_in_eq sqA p (by omega)
  have e2 := text_in_eq sqA t (by omega)
  cases hw : Kh455.isWidth w with
  | false =>
    rw [hw] at e0
    simp [e0]
  | true =>
    rw [hw] at e0
    cases h : Kh450.decodeAll p with
    | none =>
      rw [h] at e1
      simp [e0, e1]
    | some s =>
      rw [h] at e1
      cases h2 : Kh455.readPatterns s with
      | none =>
        simp only [h2] at e1
        simp [e0, e1, h2]
      | some ps =>
        simp only [h2] at e1
        cases h3 : Kh450.decodeAll t with
        | none =>
          rw [h3] at e2
          simp [e0, e1, e2, h2]
        | some v =>
          rw [h3] at e2
          have hv := dec_len2 h3
          have hs := dec_len2 h
          have e3 := pieces_of_eq ps v (by omega) (readPatterns_pats (by omega) h2)
          simp [e0, e1, e2, e3, h2]
/-! ### what a division costs -/
theorem costOf_ok (w : Nat) : ∀ (ns : List Nat) (l : List Kh455.Piece) (c : Nat), Kh455.costOf w ns l = some c → ns.sum = l.length ∧ ∀ n ∈ ns, n ≠ 0
  | [], l, c, h => by
    unfold Kh455.costOf at h
    split at h
    · rename_i hl
      have : l = [] := List.isEmpty_iff.mp hl
      subst this
      simp
    · cases h
  | n :: r, l, c, h => by
    unfold Kh455.costOf at h
    split at h
    · cases h
    · rename_i hn
      split at h
      · rename_i a b h1 h2
        obtain ⟨i1, i2⟩ := costOf_ok w r _ b h2
        rw [List.length_drop] at i1
        refine ⟨by simp; omega, fun m hm => ?_⟩
        rcases List.mem_cons.mp hm with rfl | hm
        · exact fun z => hn (.inl z)
        · exact i2 m hm
      · cases h
def oB : PSt := (sSeq (sSetK 6 (pOp oAdd (pVar 4) (pVar 5)))
 (sSeq (sSetK 7 (pCall pf_line_cost (pCons (pVar 0) (pCons (pSl (pVar 1) (pPart (pVar 4)) (pPart (pVar 6))) (pCons (pOp (oEq false) (pVar 6) (pUn oLen (pVar 1))) pNil)))))
 (sSeq (sDrop (pCall pf_ask (pCons (pUn (oIsN true) (pVar 7)) (pCons (pC (.int (-33))) pNil))))
 (sSeq (sAug 3 oAddI (pVar 7))
 (sSetK 4 (pVar 6))))))
theorem cost_loop (w : Nat) (hw : w ≤ 80) (L : List Kh455.Piece) (hL : PcOk L) (C : D) : ∀ (ns : List Nat) (acc f : Nat) (x5 x6 x7 : Sl), f + ns.sum = L.length → (∀ n ∈ ns, n ≠ 0) →
    (forL (gSet 5) oB (ns.map mI) [.va (mI w), .va (.lst (L.map cD)), .va C, .va (mI acc), .va (mI f), x5, x6, x7]).seq (sRetV 3) = match Kh455.costOf w ns (L.drop f) with
      | none => .ex (.refused (.int (-33)))
      | some c => .rt (.cl (mI (acc + c)))
  | [], acc, f, x5, x6, x7, hf, _ => by
    have : L.drop f = [] := List.drop_eq_nil_of_le (by simp at hf; omega)
    rw [this]
    simp [forL_nil, Kh455.costOf]
  | n :: r, acc, f, x5, x6, x7, hf, hn => by
    rw [List.map_cons, forL_cons]
    have n0 := hn n (by simp)
    have hfl : f + n + r.sum = L.length := by simp at hf; omega
    have hdl : (L.drop f).length = L.length - f := List.length_drop
    have hne : ((L.drop f).take n) ≠ [] := fun z => by
      have := congrArg List.length z
      rw [List.length_take, hdl] at this
      simp at this
      omega
    have e1 := line_cost_eq w ((L.drop f).take n) (n == (L.drop f).length) hne hw (hL.text (by rw [List.length_take, hdl]; omega) fun p hp => List.mem_of_mem_drop (List.mem_of_mem_take hp))
    have e2 : Kh455.costOf w (n :: r) (L.drop f) = match Kh455.lineCost w ((L.drop f).take n) (n == (L.drop f).length), Kh455.costOf w r (L.drop (f + n)) with
      | some a, some b => some (a + b)
      | _, _ => none := by
      rw [← List.drop_drop]
      show (if n = 0 ∨ (L.drop f).length < n then none else _) = _
      rw [if_neg (by rw [hdl]; omega)]
      rfl
    rw [e2]
    have hcut : cut (L.map cD) (some (f : Int)) (some ((f : Int) + (n : Int))) = ((L.drop f).take n).map cD := by
      rw [cut_map]
      have := cut_nn L f (f + n)
      rw [show ((f + n : Nat) : Int) = (f : Int) + (n : Int) from by omega, Nat.add_sub_cancel_left] at this
      rw [this]
    have hb : decide ((f : Int) + (n : Int) = (L.length : Int)) = (n == (L.drop f).length) := by
      rw [Bool.eq_iff_iff, hdl]
      simp
      omega
    have a0 : (pOp oAdd (pVar 4) (pVar 5)) [.va (mI w), .va (.lst (L.map cD)), .va C, .va (mI acc), .va (mI f), .va (mI n), x6, x7] = .ok (.cl (.int ((f : Int) + (n : Int)))) := rfl
    generalize hG : (L.drop f).take n = G at e1 hcut ⊢
    generalize hbb : (n == (L.drop f).length) = bb at e1 hb ⊢
    have a1 : (pCall pf_line_cost (pCons (pVar 0) (pCons (pSl (pVar 1) (pPart (pVar 4)) (pPart (pVar 6))) (pCons (pOp (oEq false) (pVar 6) (pUn oLen (pVar 1))) pNil)))) [.va (mI w), .va (.lst (L.map cD)), .va C, .va (mI acc), .va (mI f), .va (mI n), .va (.int ((f : Int) + (n : Int))), x7] = .ok (.cl (oNat (Kh455.lineCost w G bb))) := by
      simp [hcut, hb, e1]
    have g0 : gSet 5 (mI n) [.va (mI w), .va (.lst (L.map cD)), .va C, .va (mI acc), .va (mI f), x5, x6, x7] = .ok [.va (mI w), .va (.lst (L.map cD)), .va C, .va (mI acc), .va (mI f), .va (mI n), x6, x7] := rfl
    rw [g0, R.fl_ok]
    have st : oB [.va (mI w), .va (.lst (L.map cD)), .va C, .va (mI acc), .va (mI f), .va (mI n), x6, x7] = match Kh455.lineCost w G bb with
      | none => .ex (.refused (.int (-33)))
      | some a => .nx [.va (mI w), .va (.lst (L.map cD)), .va C, .va (mI (acc + a)), .va (mI (f + n)), .va (mI n), .va (.int ((f : Int) + (n : Int))), .va (mI a)] := by
      unfold oB
      rw [sSeq_eq, sSetK_eq, a0, R.fl_ok, E.keep_cl, R.fl_ok, seq_nx]
      show sSeq _ _ [.va (mI w), .va (.lst (L.map cD)), .va C, .va (mI acc), .va (mI f), .va (mI n), .va (.int ((f : Int) + (n : Int))), x7] = _
      rw [sSeq_eq, sSetK_eq, a1, R.fl_ok, E.keep_cl, R.fl_ok, seq_nx]
      cases Kh455.lineCost w G bb with
      | none => simp [oNat, ask_eq]
      | some a => simp [oNat, ask_eq]
    rw [st]
    cases hc : Kh455.lineCost w G bb with
    | none => simp
    | some a =>
      have ih := cost_loop w hw L hL C r (acc + a) (f + n) (.va (mI n)) (.va (.int ((f : Int) + (n : Int)))) (.va (mI a)) hfl (fun m hm => hn m (by simp [hm]))
      simp only [turn_nx]
      rw [ih]
      cases Kh455.costOf w r (L.drop (f + n)) with
      | none => rfl
      | some b =>
        show Fl.rt (E.cl (mI (acc + a + b))) = Fl.rt (E.cl (mI (acc + (a + b))))
        rw [Nat.add_assoc]
theorem sum_arg (ns : List Nat) : bSum (.arg (ns.map mI)) = .ok (.cl (.int ((ns.sum : Nat) : Int))) := by
  have h : ints? (ns.map mI) = some (ns.map Int.ofNat) := by
    have := ints?_map (ns.map Int.ofNat)
    rw [List.map_map] at this
    exact this
  have h2 : (ns.map Int.ofNat).sum = ((ns.sum : Nat) : Int) := by
    induction ns with
    | nil => rfl
    | cons a r ih =>
      rw [List.map_cons, List.sum_cons, List.sum_cons, ih (by
        have := ints?_map (r.map Int.ofNat)
        rw [List.map_map] at this
        exact this)]
      show (a : Int) + _ = _
      omega
  show (match ints? (ns.map mI) with | some ns => R.ok (E.cl (.int ns.sum)) | none => .bad) = _
  rw [h]
  show R.ok (E.cl (.int (ns.map Int.ofNat).sum)) = _
  rw [h2]
theorem zero_in (ns : List Nat) : oIn true (.int 0) (.arg (ns.map mI)) = .ok (.cl (.bl (!ns.any fun n => n == 0))) := by
  have h1 : (ns.map mI).all D.flat = true := by
    rw [List.all_map]
    exact List.all_eq_true.mpr fun _ _ => rfl
  have h2 : (ns.map mI).any (fun z => D.same z (.int 0)) = ns.any fun n => n == 0 := by
    rw [List.any_map]
    congr 1
    funext n
    show decide ((n : Int) = 0) = (n == 0)
    rw [Bool.eq_iff_iff]
    simp
  show (if ((D.int 0).flat && (ns.map mI).all D.flat) = true then R.ok (E.cl (.bl (if true = true then !((ns.map mI).any fun z => D.same z (.int 0)) else (ns.map mI).any fun z => D.same z (.int 0)))) else .bad) = _
  rw [h1, h2]
  rfl
theorem cost_by_eq (w : Nat) (hw : w ≤ 80) (L : List Kh455.Piece) (hL : PcOk L) (ns : List Nat) : pf_cost_by [.int (w : Int), .lst (L.map cD), .arg (ns.map mI)] = match Kh455.costOf w ns L with
    | none => .ex (.refused (.int (-33)))
    | some c => .ok (.cl (mI c)) := by
  unfold pf_cost_by pb_cost_by
  have e1 := sum_arg ns
  have e2 := zero_in ns
  by_cases c : ns.sum = L.length ∧ (ns.any fun n => n == 0) = false
  · obtain ⟨c1, c2⟩ := c
    have q1 : ((ns.sum : Nat) : Int) = (L.length : Int) := by omega
    have hn : ∀ n ∈ ns, n ≠ 0 := fun n hm z => by
      have := List.any_eq_false.mp c2 n hm
      simp [z] at this
    have q := cost_loop w hw L hL (.arg (ns.map mI)) ns 0 0 .un .un .un (by omega) hn
    rw [List.drop_zero] at q
    rw [c2] at e2
    have pre : (pCall pf_ask (pCons (pAndV (pOp (oEq false) (pUn bSum (pVar 2)) (pUn oLen (pVar 1))) (pOp (oIn true) (pC (.int 0)) (pVar 2))) (pCons (pC (.int (-33))) pNil))) [.va (mI w), .va (.lst (L.map cD)), .va (.arg (ns.map mI)), .un, .un, .un, .un, .un] = .ok (.cl .non) := by
      simp [e1, e2, q1, ask_eq]
    rw [run_3]
    show Fl.out ((sSeq (sDrop _) _) [.va (mI w), .va (.lst (L.map cD)), .va (.arg (ns.map mI)), .un, .un, .un, .un, .un]) = _
    rw [sSeq_eq, sDrop_eq, pre, R.fl_ok, seq_nx]
    simp only [sSeq_eq, sSetK_eq, pC_eq, R.fl_ok, E.keep_cl, List.set, seq_nx, sFor_eq, iLst_eq, pVar_eq, List.getElem?_cons_succ, List.getElem?_cons_zero, R.bind_ok]
    show (Fl.seq (forL (gSet 5) oB (ns.map mI) [.va (mI w), .va (.lst (L.map cD)), .va (.arg (ns.map mI)), .va (mI 0), .va (mI 0), .un, .un, .un]) (sRetV 3)).out = _
    rw [q]
    cases Kh455.costOf w ns L with
    | none => rfl
    | some c => simp
  · have hc : Kh455.costOf w ns L = none := by
      cases q : Kh455.costOf w ns L with
      | none => rfl
      | some k =>
        obtain ⟨h1, h2⟩ := costOf_ok w ns L k q
        exact absurd ⟨h1, List.any_eq_false.mpr fun n hm => by simpa using h2 n hm⟩ c
    rw [hc]
    by_cases c1 : ns.sum = L.length
    · have c2 : (ns.any fun n => n == 0) = true := by
        cases q : ns.any fun n => n == 0 with
        | true => rfl
        | false => exact absurd ⟨c1, q⟩ c
      have q1 : ((ns.sum : Nat) : Int) = (L.length : Int) := by omega
      rw [c2] at e2
      simp [e1, e2, q1, ask_eq]
    · have q1 : ¬ ((ns.sum : Nat) : Int) = (L.length : Int) := by omega
      simp [e1, q1, ask_eq]
theorem cost_of_eq (w : Nat) (p t ns : List Nat) (hp : p.length ≤ 600) (ht : t.length ≤ 600) : pf_cost_of [.int (w : Int), .arg (p.map mI), .arg (t.map mI), .arg (ns.map mI)] = .ok (.li true ((Kh455Neutral.integers (Kh455.answer (.costOf w p t ns))).map D.int)) := by
  unfold pf_cost_of pb_cost_of
  have e1 := pieces_in_eq w p t hp ht
  show _ = R.ok (E.li true ((Kh455Neutral.integers (Kh455.withPieces w p t fun l => match Kh455.costOf w ns l with
    | none => Kh455.number (-33)
    | some c => Kh455.number c)).map D.int))
  unfold Kh455.withPieces Kh455.withPatterns Kh450.withText
  cases hw : Kh455.isWidth w with
  | false =>
    rw [hw] at e1
    simp [sTryRef, e1, Kh455Neutral.integers, Kh455.number, Kh450.number, D.scalar]
  | true =>
    rw [hw] at e1
    have hw2 : w ≤ 80 := of_decide_eq_true (Bool.and_eq_true_iff.mp hw).2
    cases h : Kh450.decodeAll p with
    | none =>
      simp only [h] at e1
      simp [sTryRef, e1, Kh455Neutral.integers, Kh450.number, D.scalar]
    | some s =>
      simp only [h] at e1
      cases h2 : Kh455.readPatterns s with
      | none =>
        simp only [h2] at e1
        simp [sTryRef, e1, Kh455Neutral.integers, Kh455.number, Kh450.number, D.scalar, h2]
      | some ps =>
        simp only [h2] at e1
        cases h3 : Kh450.decodeAll t with
        | none =>
          simp only [h3] at e1
          simp [sTryRef, e1, Kh455Neutral.integers, Kh450.number, D.scalar, h2]
        | some v =>
          simp only [h3] at e1
          have e2 := cost_by_eq w hw2 (Kh455.pieces ps v) (pieces_ok ps v (by have := dec_len2 h3; omega)) ns
          cases h4 : Kh455.costOf w ns (Kh455.pieces ps v) with
          | none =>
            simp only [h4] at e2
            simp [sTryRef, e1, e2, Kh455Neutral.integers, Kh455.number, Kh450.number, D.scalar, h2, h4]
          | some c =>
            simp only [h4] at e2
            simp [sTryRef, e1, e2, Kh455Neutral.integers, Kh455.number, Kh450.number, D.scalar, h2, h4, ll1]
end PL
namespace PL
open PW PF
/-! ### no piece is empty -/
theorem parts_full : ∀ (t : List Nat), t ≠ [] → ∀ x ∈ Kh455.splitHyphens t, x ≠ []
  | [], h, _, _ => absurd rfl h
  | c :: r, _, x, hx => by
    obtain ⟨a, l, e⟩ := split_ne r
    unfold Kh455.splitHyphens at hx
    simp only at hx
    rw [e] at hx
    split at hx
    · rename_i hc
      have hr : r ≠ [] := by simpa using hc.2.1
      rcases List.mem_cons.mp hx with rfl | hx
      · simp
      · exact parts_full r hr x (by rw [e]; exact hx)
    · rcases List.mem_cons.mp hx with rfl | hx
      · simp
      · have hr : r ≠ [] := fun z => by
          subst z
          have e2 : ([[]] : List (List Nat)) = a :: l := e
          have e3 : l = [] := by
            have := (List.cons.inj e2).2
            exact this.symm
          rw [e3] at hx
          simp at hx
        exact parts_full r hr x (by rw [e]; simp [hx])
theorem pcs_full (part : List Nat) (last : Kh455.Joint) : ∀ (l : List Nat) (s : Nat) (p : Kh455.Piece), s < part.length → (∀ k ∈ l, k < part.length) → List.Pairwise (· < ·) (s :: l) → p ∈ pcs part last s l → p.content ≠ []
  | [], s, p, hs, _, _, h => by
    simp [pcs] at h
    subst h
    intro z
    have := congrArg List.length z
    simp at this
    omega
  | a :: l, s, p, hs, hl, hw, h => by
    rcases List.mem_cons.mp h with rfl | h
    · intro z
      have := congrArg List.length z
      have ha := (List.pairwise_cons.mp hw).1 a (by simp)
      simp at this
      omega
    · exact pcs_full part last l a p (hl a (by simp)) (fun k hk => hl k (by simp [hk])) (List.pairwise_cons.mp hw).2 h
theorem pieces_full {ps : List Kh455.Pattern} {t : List Nat} {p : Kh455.Piece} (h : p ∈ Kh455.pieces ps t) : p.content ≠ [] := by
  obtain ⟨w, hw, h2⟩ := List.mem_flatMap.mp h
  obtain ⟨q, hq, h3⟩ := List.mem_flatMap.mp h2
  rw [partPieces_eq] at h3
  rw [wordsOf_eq] at hw
  have h5 : q.1 ∈ Kh455.splitHyphens w := (List.mem_zipIdx' hq).2 ▸ List.getElem_mem _
  have h6 := parts_full w (words_ne t [] w hw) _ h5
  have h7 : q.1.length ≠ 0 := fun z => h6 (List.length_eq_zero_iff.mp z)
  exact pcs_full _ _ _ 0 p (by omega) (fun k hk => by have := hyphenate_mem hk; omega) (hyphenate_sorted ps q.1) h3
/-! ### a longer line is not shorter -/
theorem lineText_more : ∀ (l : List Kh455.Piece) (p : Kh455.Piece), l ≠ [] → p.content ≠ [] → (Kh455.lineText l).length ≤ (Kh455.lineText (l ++ [p])).length
  | [], p, h, _ => absurd rfl h
  | [q], p, _, hp => by
    have h1 : p.content.length ≠ 0 := fun z => hp (List.length_eq_zero_iff.mp z)
    show (Kh455.lineText [q]).length ≤ (Kh455.lineText [q, p]).length
    rw [lineText_cons, lineText_cons q [p], lineText_cons p []]
    simp only [List.length_append, List.isEmpty_nil, List.isEmpty_cons, pieceT, Kh455.lineText, List.length_nil, if_true, Bool.false_eq_true, if_false]
    split <;> split <;> split <;> simp <;> omega
  | q :: r :: l, p, _, hp => by
    have ih := lineText_more (r :: l) p (by simp) hp
    show (Kh455.lineText (q :: r :: l)).length ≤ (Kh455.lineText (q :: (r :: (l ++ [p])))).length
    rw [lineText_cons, lineText_cons q (r :: (l ++ [p]))]
    simp only [List.length_append, List.isEmpty_cons]
    have e : (r :: l) ++ [p] = r :: (l ++ [p]) := rfl
    rw [e] at ih
    omega
def fit (w : Nat) (l : List Kh455.Piece) (n : Nat) : Bool := decide ((Kh455.lineText (l.take n)).length ≤ w)
theorem fit_less (w : Nat) (l : List Kh455.Piece) (hl : ∀ p ∈ l, p.content ≠ []) (n : Nat) (h1 : 1 ≤ n) (h2 : n + 1 ≤ l.length) (h : fit w l (n + 1) = true) : fit w l n = true := by
  have e : l.take (n + 1) = l.take n ++ [l[n]] := by
    rw [List.take_succ, List.getElem?_eq_getElem (by omega)]
    rfl
  have hne : l.take n ≠ [] := fun z => by
    have hz : (l.take n).length = 0 := by rw [z] <;> rfl
    rw [List.length_take] at hz
    omega
  have := lineText_more (l.take n) l[n] hne (hl _ (List.getElem_mem _))
  rw [← e] at this
  have h3 := of_decide_eq_true h
  exact decide_eq_true (by omega)
theorem fit_down (w : Nat) (l : List Kh455.Piece) (hl : ∀ p ∈ l, p.content ≠ []) (n : Nat) (h1 : 1 ≤ n) : ∀ d : Nat, n + d ≤ l.length → fit w l (n + d) = true → fit w l n = true
  | 0, _, h => h
  | d + 1, h2, h => fit_down w l hl n h1 d (by omega) (fit_less w l hl (n + d) (by omega) (by omega) h)
/-- from n on as long as one more fits -/
def up (w : Nat) (l : List Kh455.Piece) : Nat → Nat → Nat
  | 0, n => n
  | k + 1, n => if n < l.length ∧ fit w l (n + 1) = true then up w l k (n + 1) else n
theorem up_ge (w : Nat) (l : List Kh455.Piece) : ∀ (k n : Nat), n ≤ up w l k n
  | 0, n => Nat.le_refl n
  | k + 1, n => by
    unfold up
    split
    · exact Nat.le_trans (Nat.le_succ n) (up_ge w l k (n + 1))
    · exact Nat.le_refl n
theorem up_le (w : Nat) (l : List Kh455.Piece) : ∀ (k n : Nat), n ≤ l.length → up w l k n ≤ l.length
  | 0, n, h => h
  | k + 1, n, h => by
    unfold up
    split
    · rename_i c
      exact up_le w l k (n + 1) c.1
    · exact h
theorem up_end (w : Nat) (l : List Kh455.Piece) : ∀ (k n : Nat), l.length ≤ n + k → n ≤ l.length → up w l k n = l.length ∨ fit w l (up w l k n + 1) = false
  | 0, n, h, h2 => .inl (by show n = _; omega)
  | k + 1, n, h, h2 => by
    unfold up
    split
    · rename_i c
      exact up_end w l k (n + 1) (by omega) c.1
    · rename_i c
      by_cases z : n < l.length
      · exact .inr (by cases q : fit w l (n + 1) with | false => rfl | true => exact absurd ⟨z, q⟩ c)
      · exact .inl (by omega)
theorem up_fit (w : Nat) (l : List Kh455.Piece) : ∀ (k n : Nat), up w l k n = n ∨ fit w l (up w l k n) = true
  | 0, n => .inl rfl
  | k + 1, n => by
    unfold up
    split
    · rename_i c
      rcases up_fit w l k (n + 1) with z | z
      · rw [z]
        exact .inr c.2
      · exact .inr z
    · exact .inl rfl
theorem last_filter (p : Nat → Bool) (m n : Nat) (hm : m ≤ n) (hp : p m = true) (hno : ∀ j, m < j → j ≤ n → p j = false) : ((List.range (n + 1)).filter p).getLast? = some m := by
  have e : n + 1 = (m + 1) + (n - m) := by omega
  rw [e, List.range_add, List.filter_append]
  have e2 : ((List.range (n - m)).map fun x => m + 1 + x).filter p = [] := by
    rw [List.filter_eq_nil_iff]
    intro j hj
    obtain ⟨a, ha, rfl⟩ := List.mem_map.mp hj
    have := List.mem_range.mp ha
    rw [hno (m + 1 + a) (by omega) (by omega)]
    simp
  rw [e2, List.append_nil, List.range_succ, List.filter_append]
  have e3 : [m].filter p = [m] := by simp [hp]
  rw [e3]
  simp
theorem greedyCount_eq (w : Nat) (l : List Kh455.Piece) (hl : ∀ p ∈ l, p.content ≠ []) (hn : l ≠ []) : Kh455.greedyCount w l = up w l l.length 1 := by
  have hz : 1 ≤ l.length := by
    cases l with
    | nil => exact absurd rfl hn
    | cons a l => simp
  have hge := up_ge w l l.length 1
  have hle := up_le w l l.length 1 hz
  have hend := up_end w l l.length 1 (by omega) hz
  have hfit := up_fit w l l.length 1
  generalize hu : up w l l.length 1 = u at hge hle hend hfit
  have hno : ∀ j, u < j → j ≤ l.length → fit w l j = false := fun j h1 h2 => by
    cases q : fit w l j with
    | false => rfl
    | true =>
      rcases hend with z | z
      · omega
      · have := fit_down w l hl (u + 1) (by omega) (j - (u + 1)) (by omega) (by rw [show u + 1 + (j - (u + 1)) = j from by omega]; exact q)
        rw [this] at z
        cases z
  have hp : (fun n => decide ((Kh455.lineText (l.take n)).length ≤ w)) = fit w l := rfl
  unfold Kh455.greedyCount
  rw [hp]
  by_cases c : fit w l u = true
  · rw [last_filter (fit w l) u l.length hle c hno]
    show max 1 u = u
    omega
  · have hu1 : u = 1 := by
      rcases hfit with z | z
      · exact z
      · exact absurd z c
    subst hu1
    have h0 : fit w l 0 = true := decide_eq_true (by simp [Kh455.lineText])
    rw [last_filter (fit w l) 0 l.length (by omega) h0 (fun j h1 h2 => by
      by_cases z : j = 1
      · subst z
        cases q : fit w l 1 with
        | false => rfl
        | true => exact absurd q c
      · exact hno j (by omega) h2)]
    rfl
end PL
namespace PL
open PW PF
/-! ### greedy lines -/
def iT : PTe := (pAnd (pB (pOp oLt (pVar 4) (pUn oLen (pVar 1)))) (pB (pOp oLe (pUn oLen (pCall pf_line_of (pCons (pSl (pVar 1) (pPart (pVar 3)) (pPart (pOp oAdd (pVar 4) (pC (.int 1))))) pNil))) (pVar 0))))
def iB : PSt := (sAug 4 oAddI (pC (.int 1)))
theorem inner (w : Nat) (L : List Kh455.Piece) (hL : PcOk L) (C : Sl) (f : Nat) (hf : f ≤ L.length) : ∀ (k n : Nat) (m : Nat), (L.length - f) ≤ n + k → k < m → 1 ≤ n → n ≤ L.length - f →
    whileN iT iB m [.va (mI w), .va (.lst (L.map cD)), C, .va (mI f), .va (mI (f + n))] = .nx [.va (mI w), .va (.lst (L.map cD)), C, .va (mI f), .va (mI (f + up w (L.drop f) k n))]
  | k, n, 0, _, h, _, _ => by omega
  | 0, n, m + 1, h1, h2, h3, h4 => by
    rw [whileN_succ]
    have q : ¬ ((f + n : Nat) : Int) < (L.length : Int) := by omega
    have t : iT [.va (mI w), .va (.lst (L.map cD)), C, .va (mI f), .va (mI (f + n))] = .ok false := by
      unfold iT
      have q2 : ¬ (f : Int) + (n : Int) < (L.length : Int) := by omega
      simp [q2]
    rw [t, R.fl_ok]
    rfl
  | k + 1, n, m + 1, h1, h2, h3, h4 => by
    rw [whileN_succ]
    have hu : up w (L.drop f) (k + 1) n = if n < (L.drop f).length ∧ fit w (L.drop f) (n + 1) = true then up w (L.drop f) k (n + 1) else n := rfl
    rw [hu, List.length_drop]
    by_cases c : n < L.length - f
    · have hcut : cut (L.map cD) (some (f : Int)) (some ((f : Int) + (n : Int) + 1)) = ((L.drop f).take (n + 1)).map cD := by
        rw [cut_map]
        have := cut_nn L f (f + n + 1)
        rw [show ((f + n + 1 : Nat) : Int) = (f : Int) + (n : Int) + 1 from by omega, show f + n + 1 - f = n + 1 from by omega] at this
        rw [this]
      have hx := hL.text (m := (L.drop f).take (n + 1)) (by rw [List.length_take, List.length_drop]; omega) fun p hp => List.mem_of_mem_drop (List.mem_of_mem_take hp)
      have e1 := line_of_eq ((L.drop f).take (n + 1)) (by unfold line; omega)
      have t : iT [.va (mI w), .va (.lst (L.map cD)), C, .va (mI f), .va (mI (f + n))] = .ok (fit w (L.drop f) (n + 1)) := by
        have q2 : (f : Int) + (n : Int) < (L.length : Int) := by omega
        have q3 : decide (((Kh455.lineText ((L.drop f).take (n + 1))).length : Int) ≤ (w : Int)) = fit w (L.drop f) (n + 1) := by
          unfold fit
          rw [Bool.eq_iff_iff]
          simp
        generalize (L.drop f).take (n + 1) = G at hcut e1 q3
        have e4 : (pB (pOp oLe (pUn oLen (pCall pf_line_of (pCons (pSl (pVar 1) (pPart (pVar 3)) (pPart (pOp oAdd (pVar 4) (pC (.int 1))))) pNil))) (pVar 0))) [.va (mI w), .va (.lst (L.map cD)), C, .va (mI f), .va (mI (f + n))] = .ok (decide (((Kh455.lineText G).length : Int) ≤ (w : Int))) := by
          simp [hcut, e1]
        have e5 : (pB (pOp oLt (pVar 4) (pUn oLen (pVar 1)))) [.va (mI w), .va (.lst (L.map cD)), C, .va (mI f), .va (mI (f + n))] = .ok true := by
          simp [q2]
        unfold iT
        rw [pAnd_eq, e5, R.bind_ok, if_pos rfl, e4, q3]
      rw [t, R.fl_ok]
      cases hfit : fit w (L.drop f) (n + 1) with
      | true =>
        rw [if_pos rfl, if_pos ⟨c, rfl⟩]
        have ih := inner w L hL C f hf k (n + 1) m (by omega) (by omega) (by omega) (by omega)
        have st : iB [.va (mI w), .va (.lst (L.map cD)), C, .va (mI f), .va (mI (f + n))] = .nx [.va (mI w), .va (.lst (L.map cD)), C, .va (mI f), .va (mI (f + (n + 1)))] := by
          unfold iB
          simp
          omega
        rw [st, turn_nx, ih]
      | false =>
        rw [if_neg (by simp), if_neg (by simp)]
    · have q2 : ¬ (f : Int) + (n : Int) < (L.length : Int) := by omega
      have t : iT [.va (mI w), .va (.lst (L.map cD)), C, .va (mI f), .va (mI (f + n))] = .ok false := by
        unfold iT
        simp [q2]
      rw [t, R.fl_ok, if_neg (by simp), if_neg (fun z => c z.1)]
def oT2 : PTe := (pB (pOp oLt (pVar 3) (pUn oLen (pVar 1))))
def oB2 : PSt := (sSeq (sSetK 4 (pOp oAdd (pVar 3) (pC (.int 1))))
 (sSeq (sWhile iT iB)
 (sSeq (sApp 2 (pOp oSub (pVar 4) (pVar 3)))
 (sSetK 3 (pVar 4)))))
theorem outer (w : Nat) (L : List Kh455.Piece) (hL : PcOk L) (hfull : ∀ p ∈ L, p.content ≠ []) : ∀ (k m f : Nat) (acc : List Nat) (x : Sl), L.length - f ≤ k → k < m → f ≤ L.length → acc.length ≤ f →
    (whileN oT2 oB2 m [.va (mI w), .va (.lst (L.map cD)), .ow (acc.map mI), .va (mI f), x]).seq (sRetV 2) = .rt (.li true ((acc ++ Kh455.greedyLoop w k (L.drop f)).map mI))
  | k, 0, f, acc, x, _, h, _, _ => by omega
  | 0, m + 1, f, acc, x, h1, h2, h3, h4 => by
    rw [whileN_succ]
    have q : ¬ (f : Int) < (L.length : Int) := by omega
    have t : oT2 [.va (mI w), .va (.lst (L.map cD)), .ow (acc.map mI), .va (mI f), x] = .ok false := by
      unfold oT2
      simp [q]
    rw [t, R.fl_ok]
    simp [Kh455.greedyLoop]
  | k + 1, m + 1, f, acc, x, h1, h2, h3, h4 => by
    rw [whileN_succ]
    have eg : Kh455.greedyLoop w (k + 1) (L.drop f) = if (L.drop f).isEmpty then [] else Kh455.greedyCount w (L.drop f) :: Kh455.greedyLoop w k ((L.drop f).drop (Kh455.greedyCount w (L.drop f))) := rfl
    rw [eg]
    by_cases c : f < L.length
    · have hne : L.drop f ≠ [] := fun z => by
        have hz : (L.drop f).length = 0 := by rw [z] <;> rfl
        rw [List.length_drop] at hz
        omega
      have he : (L.drop f).isEmpty = false := by
        cases q : L.drop f with
        | nil => exact absurd q hne
        | cons a l => rfl
      have hg := greedyCount_eq w (L.drop f) (fun p hp => hfull p (List.mem_of_mem_drop hp)) hne
      rw [List.length_drop] at hg
      have hge := up_ge w (L.drop f) (L.length - f) 1
      have hle := up_le w (L.drop f) (L.length - f) 1 (by rw [List.length_drop]; omega)
      rw [List.length_drop] at hle
      have hin := inner w L hL (.ow (acc.map mI)) f h3 (L.length - f) 1 fuel (by omega) (by have := hL.1; unfold fuel; omega) (Nat.le_refl _) (by omega)
      rw [he, if_neg (by simp), hg]
      generalize up w (L.drop f) (L.length - f) 1 = u at hge hle hin ⊢
      have q : (f : Int) < (L.length : Int) := by omega
      have t : oT2 [.va (mI w), .va (.lst (L.map cD)), .ow (acc.map mI), .va (mI f), x] = .ok true := by
        unfold oT2
        simp [q]
      have hz : acc.length < line := by have := hL.1; unfold line; omega
      have st : oB2 [.va (mI w), .va (.lst (L.map cD)), .ow (acc.map mI), .va (mI f), x] = .nx [.va (mI w), .va (.lst (L.map cD)), .ow ((acc ++ [u]).map mI), .va (mI (f + u)), .va (mI (f + u))] := by
        unfold oB2
        have a0 : (pOp oAdd (pVar 3) (pC (.int 1))) [.va (mI w), .va (.lst (L.map cD)), .ow (acc.map mI), .va (mI f), x] = .ok (.cl (mI (f + 1))) := by simp
        rw [sSeq_eq, sSetK_eq, a0, R.fl_ok, E.keep_cl, R.fl_ok, seq_nx]
        show sSeq _ _ [.va (mI w), .va (.lst (L.map cD)), .ow (acc.map mI), .va (mI f), .va (mI (f + 1))] = _
        rw [sSeq_eq, sWhile_eq, hin, seq_nx]
        have e9 : (f : Int) + (u : Int) - (f : Int) = (u : Int) := by omega
        simp [hz, e9]
      have ih := outer w L hL hfull k m (f + u) (acc ++ [u]) (.va (mI (f + u))) (by omega) (by omega) (by omega) (by simp; omega)
      rw [t, R.fl_ok, if_pos rfl, st, turn_nx, ih, List.drop_drop]
      simp
    · have q : ¬ (f : Int) < (L.length : Int) := by omega
      have t : oT2 [.va (mI w), .va (.lst (L.map cD)), .ow (acc.map mI), .va (mI f), x] = .ok false := by
        unfold oT2
        simp [q]
      have he : (L.drop f).isEmpty = true := by rw [List.drop_eq_nil_of_le (by omega)] <;> rfl
      rw [t, R.fl_ok, he, if_pos rfl]
      simp
theorem greedy_counts_eq (w : Nat) (L : List Kh455.Piece) (hL : PcOk L) (hfull : ∀ p ∈ L, p.content ≠ []) : pf_greedy_counts [.int (w : Int), .lst (L.map cD)] = .ok (.li true ((Kh455.greedy w L).map mI)) := by
  unfold pf_greedy_counts pb_greedy_counts
  have q := outer w L hL hfull L.length fuel 0 [] .un (by omega) (by have := hL.1; unfold fuel; omega) (Nat.zero_le _) (Nat.le_refl _)
  rw [List.drop_zero, List.nil_append] at q
  simp only [run_2, sSeq_eq, sSet_eq, sSetK_eq, pC_eq, pLst_eq, pNil_eq, R.bind_ok, R.fl_ok, E.keep_cl, List.length_nil, Nat.zero_le, if_true, List.set, List.replicate, seq_nx, Nat.reduceSub, sWhile_eq]
  show (Fl.seq (whileN oT2 oB2 fuel [.va (mI w), .va (.lst (L.map cD)), .ow (([] : List Nat).map mI), .va (mI 0), .un]) (sRetV 2)).out = _
  rw [q] <;> rfl
end PL
namespace PL
open PW PF
def uB : PSt := (sSeq (sApp 2 (pCall pf_line_of (pCons (pSl (pVar 0) (pPart (pVar 3)) (pPart (pOp oAdd (pVar 3) (pVar 4)))) pNil)))
 (sAug 3 oAddI (pVar 4)))
theorem lines_loop (L : List Kh455.Piece) (hL : PcOk L) (C : D) : ∀ (ns : List Nat) (f : Nat) (acc : List D) (x : Sl), acc.length + ns.length < line →
    (forL (gSet 4) uB (ns.map mI) [.va (.lst (L.map cD)), .va C, .ow acc, .va (mI f), x]).seq (sRetV 2) = .rt (.li true (acc ++ ((Kh455.takeLines ns (L.drop f)).map Kh455.lineText).map mL))
  | [], f, acc, x, h => by simp [forL_nil, Kh455.takeLines]
  | n :: r, f, acc, x, h => by
    rw [List.map_cons, forL_cons]
    have hz : acc.length < line := by simp at h; omega
    have hcut : cut (L.map cD) (some (f : Int)) (some ((f : Int) + (n : Int))) = ((L.drop f).take n).map cD := by
      rw [cut_map]
      have := cut_nn L f (f + n)
      rw [show ((f + n : Nat) : Int) = (f : Int) + (n : Int) from by omega, Nat.add_sub_cancel_left] at this
      rw [this]
    have hx := hL.text (m := (L.drop f).take n) (by rw [List.length_take, List.length_drop]; omega) fun p hp => List.mem_of_mem_drop (List.mem_of_mem_take hp)
    have e1 := line_of_eq ((L.drop f).take n) (by unfold line; omega)
    have e2 : Kh455.takeLines (n :: r) (L.drop f) = (L.drop f).take n :: Kh455.takeLines r (L.drop (f + n)) := by
      rw [← List.drop_drop]
      rfl
    rw [e2]
    generalize (L.drop f).take n = G at hcut e1
    have ih := lines_loop L hL C r (f + n) (acc ++ [mL (Kh455.lineText G)]) (.va (mI n)) (by simp at h ⊢; omega)
    have g0 : gSet 4 (mI n) [.va (.lst (L.map cD)), .va C, .ow acc, .va (mI f), x] = .ok [.va (.lst (L.map cD)), .va C, .ow acc, .va (mI f), .va (mI n)] := rfl
    have a1 : (pCall pf_line_of (pCons (pSl (pVar 0) (pPart (pVar 3)) (pPart (pOp oAdd (pVar 3) (pVar 4)))) pNil)) [.va (.lst (L.map cD)), .va C, .ow acc, .va (mI f), .va (mI n)] = .ok (.li true ((Kh455.lineText G).map mI)) := by
      simp [hcut, e1]
    have st : uB [.va (.lst (L.map cD)), .va C, .ow acc, .va (mI f), .va (mI n)] = .nx [.va (.lst (L.map cD)), .va C, .ow (acc ++ [mL (Kh455.lineText G)]), .va (mI (f + n)), .va (mI n)] := by
      unfold uB
      rw [sSeq_eq, sApp_eq]
      simp only [List.getElem?_cons_succ, List.getElem?_cons_zero, a1, R.fl_ok, E.keep_li, hz, if_true, seq_nx, List.set]
      simp
    rw [g0, R.fl_ok, st, turn_nx, ih]
    simp
theorem lines_by_eq (L : List Kh455.Piece) (hL : PcOk L) (ns : List Nat) (hn : ns.length < 16000000) : pf_lines_by [.lst (L.map cD), mL ns] = .ok (.li true (((Kh455.takeLines ns L).map Kh455.lineText).map mL)) := by
  unfold pf_lines_by pb_lines_by
  have q := lines_loop L hL (mL ns) ns 0 [] .un (by simp; unfold line; omega)
  rw [List.drop_zero, List.nil_append] at q
  simp only [run_2, sSeq_eq, sSet_eq, sSetK_eq, pC_eq, pLst_eq, pNil_eq, R.bind_ok, R.fl_ok, E.keep_cl, List.length_nil, Nat.zero_le, if_true, List.set, List.replicate, seq_nx, Nat.reduceSub, sFor_eq, iLst_eq, pVar_eq, List.getElem?_cons_succ, List.getElem?_cons_zero]
  show (Fl.seq (forL (gSet 4) uB (ns.map mI) [.va (.lst (L.map cD)), .va (mL ns), .ow [], .va (mI 0), .un]) (sRetV 2)).out = _
  rw [q] <;> rfl
/-! ### how long the text of lines is -/
theorem greedyLoop_len (w : Nat) : ∀ (k : Nat) (l : List Kh455.Piece), (Kh455.greedyLoop w k l).length ≤ k
  | 0, l => by simp [Kh455.greedyLoop]
  | k + 1, l => by
    show (if l.isEmpty then [] else Kh455.greedyCount w l :: Kh455.greedyLoop w k (l.drop (Kh455.greedyCount w l))).length ≤ k + 1
    split
    · simp
    · have := greedyLoop_len w k (l.drop (Kh455.greedyCount w l))
      simp
      omega
theorem lines_sum (m : Nat) : ∀ (ns : List Nat) (l : List Kh455.Piece), (∀ p ∈ l, p.content.length ≤ m) → (((Kh455.takeLines ns l).map Kh455.lineText).map List.length).sum ≤ l.length * (m + 1)
  | [], l, _ => by simp [Kh455.takeLines]
  | n :: r, l, h => by
    have ih := lines_sum m r (l.drop n) fun p hp => h p (List.mem_of_mem_drop hp)
    have h1 := lineText_len m (l.take n) fun p hp => h p (List.mem_of_mem_take hp)
    have e : Kh455.takeLines (n :: r) l = l.take n :: Kh455.takeLines r (l.drop n) := rfl
    rw [e, List.map_cons, List.map_cons, List.sum_cons]
    have h2 : (l.take n).length * (m + 1) + (l.drop n).length * (m + 1) = l.length * (m + 1) := by
      rw [← Nat.add_mul, ← List.length_append, List.take_append_drop]
    omega
theorem join_sum (sep : List Nat) : ∀ (l : List (List Nat)) (k : Nat), (joinFrom sep k l).length ≤ (l.map List.length).sum + l.length * sep.length
  | [], _ => by simp [joinFrom]
  | p :: r, k => by
    have ih := join_sum sep r (k + 1)
    have e : joinFrom sep k (p :: r) = (if 0 < k then sep else []) ++ p ++ joinFrom sep (k + 1) r := rfl
    rw [e]
    simp only [List.length_append, List.length_cons, List.map_cons, List.sum_cons, Nat.add_mul]
    split
    · omega
    · simp
      omega
theorem takeLines_len : ∀ (ns : List Nat) (l : List Kh455.Piece), (Kh455.takeLines ns l).length = ns.length
  | [], _ => rfl
  | n :: r, l => by
    show (Kh455.takeLines r (l.drop n)).length + 1 = _
    rw [takeLines_len r]
    rfl
theorem joined_len (L : List Kh455.Piece) (hL : PcOk L) (ns : List Nat) (hn : ns.length ≤ 3000) : 4 * (Kh450.joinTexts [10] ((Kh455.takeLines ns L).map Kh455.lineText)).length < 16000000 := by
  have h1 := lines_sum 600 ns L hL.2
  have h2 := join_sum [10] ((Kh455.takeLines ns L).map Kh455.lineText) 0
  rw [joinFrom_eq, List.length_map, takeLines_len] at h2
  have h3 : L.length * (600 + 1) ≤ 3000 * 601 := Nat.mul_le_mul hL.1 (Nat.le_refl _)
  have h4 : ns.length * ([10] : List Nat).length = ns.length := by simp
  omega
theorem greedy_text_eq (w : Nat) (p t : List Nat) (hp : p.length ≤ 600) (ht : t.length ≤ 600) : pf_greedy_text [.int (w : Int), .arg (p.map mI), .arg (t.map mI)] = .ok (.li true ((Kh455Neutral.integers (Kh455.answer (.greedyText w p t))).map D.int)) := by
  unfold pf_greedy_text pb_greedy_text
  have e1 := pieces_in_eq w p t hp ht
  show _ = R.ok (E.li true ((Kh455Neutral.integers (Kh455.withPieces w p t fun l => Kh455.textResult (Kh455.linesText ((Kh455.takeLines (Kh455.greedy w l) l).map Kh455.lineText)))).map D.int))
  unfold Kh455.withPieces Kh455.withPatterns Kh450.withText
  cases hw : Kh455.isWidth w with
  | false =>
    rw [hw] at e1
    simp [sTryRef, e1, Kh455Neutral.integers, Kh455.number, Kh450.number, D.scalar]
  | true =>
    rw [hw] at e1
    cases h : Kh450.decodeAll p with
    | none =>
      simp only [h] at e1
      simp [sTryRef, e1, Kh455Neutral.integers, Kh450.number, D.scalar]
    | some s =>
      simp only [h] at e1
      cases h2 : Kh455.readPatterns s with
      | none =>
        simp only [h2] at e1
        simp [sTryRef, e1, Kh455Neutral.integers, Kh455.number, Kh450.number, D.scalar, h2]
      | some ps =>
        simp only [h2] at e1
        cases h3 : Kh450.decodeAll t with
        | none =>
          simp only [h3] at e1
          simp [sTryRef, e1, Kh455Neutral.integers, Kh450.number, D.scalar, h2]
        | some v =>
          simp only [h3] at e1
          have hk := pieces_ok ps v (by have := dec_len2 h3; omega)
          have hf : ∀ q ∈ Kh455.pieces ps v, q.content ≠ [] := fun q hq => pieces_full hq
          simp only [h2, h3]
          generalize Kh455.pieces ps v = L at e1 hk hf ⊢
          have e2 := greedy_counts_eq w L hk hf
          have hlen : (Kh455.greedy w L).length ≤ 3000 := Nat.le_trans (greedyLoop_len w L.length L) hk.1
          have e3 := lines_by_eq L hk (Kh455.greedy w L) (by omega)
          have hj := joined_len L hk (Kh455.greedy w L) hlen
          generalize (Kh455.takeLines (Kh455.greedy w L) L).map Kh455.lineText = G at e3 hj ⊢
          have e4 := text_answer_eq G hj
          have e5 : ∀ l : List Nat, (l.map Int.ofNat).map D.int = l.map mI := fun l => by
            rw [List.map_map] <;> rfl
          have e6 : (Kh455Neutral.integers (Kh455.textResult (Kh455.linesText G))).map D.int = ((Kh450.encodeAll (Kh450.joinTexts [10] G)).length :: Kh450.encodeAll (Kh450.joinTexts [10] G)).map mI := by
            rw [← e5]
            rfl
          simp only [Bool.not_true, Bool.false_eq_true, if_false]
          rw [e6]
          simp [sTryRef, e1, e2, e3, e4]
end PL
namespace PL
open PW PF
/-! ### best divisions, told from the right -/
@[simp] theorem pCallC_eq {i : Nat} {G : Nat → Fn} {a : PAr} {r : Env} : pCallC i G a r = match r[i]? with
  | some (.va (.clo k l)) => (a r).bind fun as => G k (as ++ l)
  | _ => .bad := nrfl rfl
/-- the best division of some things, given those of all its proper ends; c tells the cost of a first part -/
def bestG (c : Nat → Option Nat) (ends : List Kh455.Breaking) : Kh455.Breaking :=
  ((ends.zipIdx.map fun p => (c (p.2 + 1)).map fun cost => ((cost + p.1.1, (p.2 + 1) :: p.1.2) : Kh455.Breaking)).foldl Kh455.better none).getD (0, [])
def bestEnds (c : Nat → Nat → Option Nat) (m : Nat) : Nat → List Kh455.Breaking
  | 0 => [(0, [])]
  | k + 1 => bestG (c (m - (k + 1))) (bestEnds c m k) :: bestEnds c m k
theorem bestEnds_len (c : Nat → Nat → Option Nat) (m : Nat) : ∀ k, (bestEnds c m k).length = k + 1
  | 0 => rfl
  | k + 1 => by
    show (bestEnds c m k).length + 1 = _
    rw [bestEnds_len c m k]
/-- one turn -/
def stepB (c : Nat → Option Nat) (s : Option Kh455.Breaking) (p : Kh455.Breaking × Nat) : Option Kh455.Breaking := Kh455.better s ((c (p.2 + 1)).map fun cost => (cost + p.1.1, (p.2 + 1) :: p.1.2))
theorem bestG_eq (c : Nat → Option Nat) (ends : List Kh455.Breaking) : bestG c ends = ((ends.zipIdx).foldl (stepB c) none).getD (0, []) := by
  unfold bestG
  rw [List.foldl_map]
  rfl
theorem better_none (s : Option Kh455.Breaking) : Kh455.better s none = s := by
  cases s <;> rfl
/-- behind one that isn't allowed none is -/
def Down (c : Nat → Option Nat) : Prop := ∀ n, 1 ≤ n → c n = none → c (n + 1) = none
theorem Down.all {c : Nat → Option Nat} (h : Down c) {n : Nat} (hn : 1 ≤ n) (e : c n = none) : ∀ d, c (n + d) = none
  | 0 => e
  | d + 1 => h (n + d) (by omega) (h.all hn e d)
theorem fold_stop (c : Nat → Option Nat) (h : Down c) : ∀ (R : List Kh455.Breaking) (i : Nat) (s : Option Kh455.Breaking), c (i + 1) = none → (R.zipIdx i).foldl (stepB c) s = s
  | [], _, s, _ => rfl
  | e :: R, i, s, hc => by
    rw [List.zipIdx_cons, List.foldl_cons]
    have : stepB c s (e, i) = s := by
      unfold stepB
      rw [hc]
      exact better_none s
    rw [this]
    exact fold_stop c h R (i + 1) s (h (i + 1) (by omega) hc)
/-! ### what the slots hold -/
def bSl (s : Option Kh455.Breaking) : D := match s with
  | none => .non
  | some b => .int (b.1 : Int)
def nSl (s : Option Kh455.Breaking) : D := match s with
  | none => mI 0
  | some b => mI (b.2.headD 0)
def bdB (G : Nat → Fn) : PSt := (sSeq (sSetK 7 (pCallC 1 G (pCons (pVar 4) (pCons (pVar 6) pNil))))
 (sSeq (sIf (pB (pUn (oIsN false) (pVar 7))) sBreak sNext)
 (sIf (pOr (pB (pUn (oIsN false) (pVar 5))) (pB (pOp oLe (pOp oAdd (pVar 7) (pOp oIx (pVar 2) (pVar 6))) (pVar 5)))) (sSeq (sSetK 5 (pOp oAdd (pVar 7) (pOp oIx (pVar 2) (pVar 6))))
 (sPut 3 (pVar 4) (pOp oSub (pVar 6) (pVar 4)))) sNext)))
def bdO (G : Nat → Fn) : PSt := (sSeq (sSetK 5 (pC .non))
 (sSeq (sFor (iRng2 (pOp oAdd (pVar 4) (pC (.int 1))) (pOp oAdd (pVar 0) (pC (.int 1)))) (gSet 6) (bdB G))
 (sPut 2 (pVar 4) (pVar 5))))
theorem oIx_rep {pre : List D} {E : List Kh455.Breaking} {j : Nat} {e : Kh455.Breaking} (h : E[j]? = some e) {z : Int} (hz : z = ((pre.length + j : Nat) : Int)) : oIx (.lst (pre ++ E.map fun b => mI b.1)) (.int z) = .ok (.cl (mI e.1)) := by
  refine oIx_lst (k := pre.length + j) ?_ hz
  rw [List.getElem?_append_right (by omega), Nat.add_sub_cancel_left, List.getElem?_map, h] <;> rfl
theorem set_mid {pre post : List D} {x y : D} : (pre ++ x :: post).set pre.length y = pre ++ y :: post := by
  rw [List.set_append_right _ _ (Nat.le_refl _), Nat.sub_self]
  rfl
/-- one turn of the inner loop -/
theorem inner_step {G : Nat → Fn} {kk : Nat} {l : List D} {c : Nat → Option Nat} {f i : Nat} {M : Sl} {e : Kh455.Breaking} {Es : List Kh455.Breaking} {cpre npre npost : List D} (s : Option Kh455.Breaking) (x7 : Sl) {z zf : Int}
    (hz : z = ((f + (i + 1) : Nat) : Int)) (hzf : zf = (f : Int)) (hG : G kk ([.int zf, .int z] ++ l) = .ok (.cl (oNat (c (i + 1))))) (hcl : cpre.length = f + 1) (hnl : npre.length = f) (hE : Es[i]? = some e) :
    bdB G [M, .va (.clo kk l), .ow (cpre ++ Es.map fun b => mI b.1), .ow (npre ++ nSl s :: npost), .va (.int zf), .va (bSl s), .va (.int z), x7] =
      match c (i + 1) with
      | none => .bk [M, .va (.clo kk l), .ow (cpre ++ Es.map fun b => mI b.1), .ow (npre ++ nSl s :: npost), .va (.int zf), .va (bSl s), .va (.int z), .va .non]
      | some q => .nx [M, .va (.clo kk l), .ow (cpre ++ Es.map fun b => mI b.1), .ow (npre ++ nSl (stepB c s (e, i)) :: npost), .va (.int zf), .va (bSl (stepB c s (e, i))), .va (.int z), .va (mI q)] := by
  have hx := oIx_rep (pre := cpre) hE (z := z) (by rw [hz, hcl]; congr 1; omega)
  have hput : ixOf (npre ++ nSl s :: npost).length zf = some npre.length := by
    rw [hzf, ← hnl]
    exact ixOf_nat (by simp)
  have hsub : z - zf = ((i + 1 : Nat) : Int) := by omega
  unfold bdB
  have a0 : (pCallC 1 G (pCons (pVar 4) (pCons (pVar 6) pNil))) [M, .va (.clo kk l), .ow (cpre ++ Es.map fun b => mI b.1), .ow (npre ++ nSl s :: npost), .va (.int zf), .va (bSl s), .va (.int z), x7] = .ok (.cl (oNat (c (i + 1)))) := by
    simp only [pCallC_eq, List.getElem?_cons_succ, List.getElem?_cons_zero, pCons_eq, pVar_eq, pNil_eq, R.bind_ok, E.keep_cl]
    exact hG
  rw [sSeq_eq, sSetK_eq, a0, R.fl_ok, E.keep_cl, R.fl_ok, seq_nx]
  generalize hCc : c (i + 1) = o at *
  cases o with
  | none => simp [oNat]
  | some q =>
    simp only [oNat, List.set]
    have hst : stepB c s (e, i) = Kh455.better s (some (q + e.1, (i + 1) :: e.2)) := by
      unfold stepB
      simp only [hCc]
      rfl
    rw [hst]
    generalize hX : cpre ++ Es.map (fun b => mI b.1) = Xs at hx
    cases s with
    | none =>
      simp only [bSl, nSl, Kh455.better] at *
      have hq : ((q : Int) + (e.1 : Int)) = ((q + e.1 : Nat) : Int) := by omega
      simp only [sSeq_eq, sIf_eq, pB_eq, pUn_eq, pVar_eq, List.getElem?_cons_succ, List.getElem?_cons_zero, R.bind_ok, E.rd_cl, oIsN_eq, isNon_int, isNon_non, Bool.false_eq_true, if_false, R.fl_ok, sNext_eq, seq_nx, pOr_eq, if_true, sSetK_eq, pOp_eq, hx, E.rd_li, E.keep_cl,
        oAdd_int, List.set, sPut_eq, oSub_int, hput, hsub]
      rw [hq, set_mid]
      rfl
    | some b =>
      obtain ⟨bc, bl⟩ := b
      simp only [bSl, nSl] at *
      have hq : ((q : Int) + (e.1 : Int)) = ((q + e.1 : Nat) : Int) := by omega
      have hle : decide (((q + e.1 : Nat) : Int) ≤ (bc : Int)) = decide (q + e.1 ≤ bc) := by
        rw [Bool.eq_iff_iff]
        simp
        omega
      simp only [sSeq_eq, sIf_eq, pB_eq, pUn_eq, pVar_eq, List.getElem?_cons_succ, List.getElem?_cons_zero, R.bind_ok, E.rd_cl, oIsN_eq, isNon_int, isNon_non, Bool.false_eq_true, if_false, R.fl_ok, sNext_eq, seq_nx, pOr_eq, if_true, sSetK_eq, pOp_eq, hx, E.rd_li, E.keep_cl,
        oAdd_int, List.set, sPut_eq, oSub_int, hput, hsub, oCmp_int]
      rw [hq, hle]
      by_cases hc : q + e.1 ≤ bc
      · simp only [Kh455.better, hc, if_true, decide_true, List.getElem?_cons_succ, List.getElem?_cons_zero]
        rw [set_mid]
        rfl
      · simp only [Kh455.better, hc, if_false, decide_false, Bool.false_eq_true, List.headD_cons]

/-- the inner loop -/
theorem inner_loop {G : Nat → Fn} {kk : Nat} {l : List D} {c : Nat → Option Nat} (hd : Down c) {f m : Nat} {M : Sl} {Es : List Kh455.Breaking} {cpre npre npost : List D}
    (hG : ∀ n, 1 ≤ n → f + n ≤ m → G kk ([.int (f : Int), .int ((f + n : Nat) : Int)] ++ l) = .ok (.cl (oNat (c n)))) (hcl : cpre.length = f + 1) (hnl : npre.length = f) (hm : f + Es.length = m) :
    ∀ (k i : Nat) (s : Option Kh455.Breaking) (x6 x7 : Sl), i + k = Es.length → ∃ y6 y7,
      forL (gSet 6) (bdB G) ((List.range' (f + 1 + i) k).map mI) [M, .va (.clo kk l), .ow (cpre ++ Es.map fun b => mI b.1), .ow (npre ++ nSl s :: npost), .va (mI f), .va (bSl s), x6, x7] =
        .nx [M, .va (.clo kk l), .ow (cpre ++ Es.map fun b => mI b.1), .ow (npre ++ nSl (((Es.drop i).zipIdx i).foldl (stepB c) s) :: npost), .va (mI f), .va (bSl (((Es.drop i).zipIdx i).foldl (stepB c) s)), y6, y7]
  | 0, i, s, x6, x7, h => by
    refine ⟨x6, x7, ?_⟩
    rw [List.drop_eq_nil_of_le (by omega)]
    rfl
  | k + 1, i, s, x6, x7, h => by
    obtain ⟨e, hE⟩ : ∃ e, Es[i]? = some e := ⟨Es[i], List.getElem?_eq_getElem (by omega)⟩
    have hdr : Es.drop i = e :: Es.drop (i + 1) := by
      obtain ⟨hh, q⟩ := List.getElem?_eq_some_iff.mp hE
      rw [List.drop_eq_getElem_cons hh, q]
    have st := inner_step (G := G) (kk := kk) (l := l) (c := c) (M := M) (cpre := cpre) (npost := npost) s x7 (z := ((f + (i + 1) : Nat) : Int)) (zf := (f : Int)) rfl rfl (hG (i + 1) (by omega) (by omega)) hcl hnl hE
    rw [List.range'_succ, List.map_cons, forL_cons]
    have g0 : gSet 6 (mI (f + 1 + i)) [M, .va (.clo kk l), .ow (cpre ++ Es.map fun b => mI b.1), .ow (npre ++ nSl s :: npost), .va (mI f), .va (bSl s), x6, x7] = .ok [M, .va (.clo kk l), .ow (cpre ++ Es.map fun b => mI b.1), .ow (npre ++ nSl s :: npost), .va (mI f), .va (bSl s), .va (.int ((f + (i + 1) : Nat) : Int)), x7] := by
      have : f + 1 + i = f + (i + 1) := by omega
      rw [this]
      rfl
    rw [g0, R.fl_ok]
    show ∃ y6 y7, (bdB G [M, .va (.clo kk l), .ow (cpre ++ Es.map fun b => mI b.1), .ow (npre ++ nSl s :: npost), .va (.int (f : Int)), .va (bSl s), .va (.int ((f + (i + 1) : Nat) : Int)), x7]).turn _ = _
    rw [st, hdr, List.zipIdx_cons, List.foldl_cons]
    cases hc : c (i + 1) with
    | none =>
      have e1 : stepB c s (e, i) = s := by
        unfold stepB
        simp only [hc]
        exact better_none s
      rw [e1, fold_stop c hd _ (i + 1) s (hd (i + 1) (by omega) hc)]
      exact ⟨_, _, rfl⟩
    | some q =>
      obtain ⟨y6, y7, ih⟩ := inner_loop hd hG hcl hnl hm k (i + 1) (stepB c s (e, i)) (.va (.int ((f + (i + 1) : Nat) : Int))) (.va (mI q)) (by omega)
      refine ⟨y6, y7, ?_⟩
      rw [← ih]
      rfl
theorem fold_some (c : Nat → Option Nat) : ∀ (R : List (Kh455.Breaking × Nat)) (b : Kh455.Breaking), ∃ b', R.foldl (stepB c) (some b) = some b'
  | [], b => ⟨b, rfl⟩
  | p :: R, b => by
    have : ∃ b1, stepB c (some b) p = some b1 := by
      unfold stepB
      cases (c (p.2 + 1)) with
      | none => exact ⟨b, rfl⟩
      | some q =>
        show ∃ b1, (if q + p.1.1 ≤ b.1 then some (q + p.1.1, (p.2 + 1) :: p.1.2) else some b) = some b1
        split <;> exact ⟨_, rfl⟩
    obtain ⟨b1, h⟩ := this
    rw [List.foldl_cons, h]
    exact fold_some c R b1
/-- a part of one thing is allowed: there is a best one -/
theorem fold_has (c : Nat → Option Nat) (e : Kh455.Breaking) (R : List Kh455.Breaking) {q : Nat} (h : c 1 = some q) : ∃ b, ((e :: R).zipIdx).foldl (stepB c) none = some b := by
  rw [List.zipIdx_cons, List.foldl_cons]
  have : stepB c none (e, 0) = some (q + e.1, 1 :: e.2) := by
    unfold stepB
    simp only [Nat.zero_add, h]
    rfl
  rw [this]
  exact fold_some c _ _
/-- one turn of the outer loop: the place f -/
theorem outer_step {G : Nat → Fn} {kk : Nat} {l : List D} {c : Nat → Option Nat} (hd : Down c) {f m q : Nat} {Es : List Kh455.Breaking} {npost : List D} (h1 : c 1 = some q)
    (hG : ∀ n, 1 ≤ n → f + n ≤ m → G kk ([.int (f : Int), .int ((f + n : Nat) : Int)] ++ l) = .ok (.cl (oNat (c n)))) (hm : f + Es.length = m) (he : Es ≠ []) (hz : m < 16000000) (x5 x6 x7 : Sl) : ∃ y6 y7,
    bdO G [.va (mI m), .va (.clo kk l), .ow (List.replicate (f + 1) (mI 0) ++ Es.map fun b => mI b.1), .ow (List.replicate (f + 1) (mI 0) ++ npost), .va (mI f), x5, x6, x7] =
      .nx [.va (mI m), .va (.clo kk l), .ow (List.replicate f (mI 0) ++ (bestG c Es :: Es).map fun b => mI b.1), .ow (List.replicate f (mI 0) ++ mI ((bestG c Es).2.headD 0) :: npost), .va (mI f), .va (mI (bestG c Es).1), y6, y7] := by
  obtain ⟨e, Rs, hER⟩ : ∃ e Rs, Es = e :: Rs := by
    cases Es with
    | nil => exact absurd rfl he
    | cons e Rs => exact ⟨e, Rs, rfl⟩
  obtain ⟨b, hb⟩ := fold_has c e Rs h1
  rw [← hER] at hb
  have hbG : bestG c Es = b := by rw [bestG_eq, hb] <;> rfl
  have hrep : List.replicate (f + 1) (mI 0) ++ npost = List.replicate f (mI 0) ++ nSl none :: npost := by
    rw [List.replicate_succ', List.append_assoc]
    rfl
  obtain ⟨y6, y7, il⟩ := inner_loop (G := G) (kk := kk) (l := l) (c := c) hd (M := .va (mI m)) (cpre := List.replicate (f + 1) (mI 0)) (npre := List.replicate f (mI 0)) (npost := npost) hG (by simp) (by simp) hm Es.length 0 none x6 x7 (by omega)
  rw [List.drop_zero, hb] at il
  refine ⟨y6, y7, ?_⟩
  unfold bdO
  rw [sSeq_eq, sSetK_eq, pC_eq, R.fl_ok, E.keep_cl, R.fl_ok, seq_nx]
  show sSeq _ _ [.va (mI m), .va (.clo kk l), .ow (List.replicate (f + 1) (mI 0) ++ Es.map fun b => mI b.1), .ow (List.replicate (f + 1) (mI 0) ++ npost), .va (mI f), .va .non, x6, x7] = _
  have hr : (iRng2 (pOp oAdd (pVar 4) (pC (.int 1))) (pOp oAdd (pVar 0) (pC (.int 1)))) [.va (mI m), .va (.clo kk l), .ow (List.replicate (f + 1) (mI 0) ++ Es.map fun b => mI b.1), .ow (List.replicate (f + 1) (mI 0) ++ npost), .va (mI f), .va .non, x6, x7] = .ok ((List.range' (f + 1 + 0) Es.length).map mI) := by
    have r1 : r62 ((f : Int) + 1) = true := r62_int (by omega) (by omega)
    have r2 : r62 ((m : Int) + 1) = true := r62_int (by omega) (by omega)
    have r3 : rangeL ((f : Int) + 1) ((m : Int) + 1) = (List.range' (f + 1 + 0) Es.length).map mI := by
      unfold rangeL
      rw [show (((m : Int) + 1) - ((f : Int) + 1)).toNat = Es.length from by omega, List.range'_eq_map_range, List.map_map]
      refine List.map_congr_left fun j _ => ?_
      show D.int _ = D.int _
      congr 1
    simp [r1, r2, r3]
  rw [sSeq_eq, sFor_eq, hr, R.fl_ok, hrep]
  have il2 : forL (gSet 6) (bdB G) ((List.range' (f + 1 + 0) Es.length).map mI) [.va (mI m), .va (.clo kk l), .ow (List.replicate (f + 1) (mI 0) ++ Es.map fun b => mI b.1), .ow (List.replicate f (mI 0) ++ nSl none :: npost), .va (mI f), .va .non, x6, x7] = _ := il
  rw [il2, seq_nx]
  have hlen : (List.replicate (f + 1) (mI 0) ++ Es.map fun b => mI b.1) = List.replicate f (mI 0) ++ mI 0 :: (Es.map fun b => mI b.1) := by
    rw [List.replicate_succ', List.append_assoc]
    rfl
  have hput : ixOf (List.replicate f (mI 0) ++ mI 0 :: (Es.map fun b => mI b.1)).length (f : Int) = some f := ixOf_nat (by simp)
  have hset : (List.replicate f (mI 0) ++ mI 0 :: (Es.map fun b => mI b.1)).set f (mI b.1) = List.replicate f (mI 0) ++ mI b.1 :: (Es.map fun b => mI b.1) := by
    have := set_mid (pre := List.replicate f (mI 0)) (post := Es.map fun b => mI b.1) (x := mI 0) (y := mI b.1)
    rw [List.length_replicate] at this
    exact this
  rw [hlen, hbG]
  simp only [sPut_eq, List.getElem?_cons_succ, List.getElem?_cons_zero, pVar_eq, R.fl_ok, bSl, E.keep_cl, E.rd_cl, hput, List.set, List.map_cons]
  rw [hset]
  rfl

/-- what best_division has in its lists when k things are done -/
def csL (c : Nat → Nat → Option Nat) (m k : Nat) : List D := List.replicate (m - k) (mI 0) ++ (bestEnds c m k).map fun b => mI b.1
def nsN (c : Nat → Nat → Option Nat) (m k : Nat) : List Nat := (bestEnds c m k).dropLast.map fun b => b.2.headD 0
def nsL (c : Nat → Nat → Option Nat) (m k : Nat) : List D := List.replicate (m - k) (mI 0) ++ (nsN c m k).map mI
theorem nsN_succ (c : Nat → Nat → Option Nat) (m k : Nat) : nsN c m (k + 1) = (bestG (c (m - (k + 1))) (bestEnds c m k)).2.headD 0 :: nsN c m k := by
  unfold nsN
  have : bestEnds c m k ≠ [] := fun z => by
    have := congrArg List.length z
    rw [bestEnds_len] at this
    cases this
  show ((bestG (c (m - (k + 1))) (bestEnds c m k) :: bestEnds c m k).dropLast).map _ = _
  rw [List.dropLast_cons_of_ne_nil this]
  rfl
theorem nsN_len (c : Nat → Nat → Option Nat) (m : Nat) : ∀ k, (nsN c m k).length = k
  | 0 => rfl
  | k + 1 => by rw [nsN_succ, List.length_cons, nsN_len c m k]
structure CostOk (G : Nat → Fn) (kk : Nat) (l : List D) (c : Nat → Nat → Option Nat) (m : Nat) : Prop where
  g : ∀ f n, 1 ≤ n → f + n ≤ m → G kk ([.int (f : Int), .int ((f + n : Nat) : Int)] ++ l) = .ok (.cl (oNat (c f n)))
  one : ∀ f, f < m → ∃ q, c f 1 = some q
  down : ∀ f, f < m → Down (c f)
theorem outer_loop {G : Nat → Fn} {kk : Nat} {l : List D} {c : Nat → Nat → Option Nat} {m : Nat} (h : CostOk G kk l c m) (hz : m < 16000000) : ∀ (j k : Nat), k + j = m → ∀ (x4 x5 x6 x7 : Sl), ∃ y4 y5 y6 y7,
    forL (gSet 4) (bdO G) (((List.range j).map mI).reverse) [.va (mI m), .va (.clo kk l), .ow (csL c m k), .ow (nsL c m k), x4, x5, x6, x7] = .nx [.va (mI m), .va (.clo kk l), .ow (csL c m m), .ow (nsL c m m), y4, y5, y6, y7]
  | 0, k, e, x4, x5, x6, x7 => by
    have : k = m := by omega
    subst this
    exact ⟨x4, x5, x6, x7, rfl⟩
  | j + 1, k, e, x4, x5, x6, x7 => by
    rw [List.range_succ, List.map_append, List.reverse_append]
    show ∃ y4 y5 y6 y7, forL (gSet 4) (bdO G) (mI j :: ((List.range j).map mI).reverse) _ = _
    rw [forL_cons]
    have hj : m - k = j + 1 := by omega
    have hj2 : m - (k + 1) = j := by omega
    obtain ⟨q, hq⟩ := h.one j (by omega)
    obtain ⟨y6, y7, st⟩ := outer_step (G := G) (kk := kk) (l := l) (c := c j) (h.down j (by omega)) (f := j) (m := m) (Es := bestEnds c m k) (npost := (nsN c m k).map mI) hq (fun n h1 h2 => h.g j n h1 h2) (by rw [bestEnds_len]; omega) (fun z => by
      have := congrArg List.length z
      rw [bestEnds_len] at this
      cases this) hz x5 x6 x7
    have g0 : gSet 4 (mI j) [.va (mI m), .va (.clo kk l), .ow (csL c m k), .ow (nsL c m k), x4, x5, x6, x7] = .ok [.va (mI m), .va (.clo kk l), .ow (csL c m k), .ow (nsL c m k), .va (mI j), x5, x6, x7] := rfl
    rw [g0, R.fl_ok]
    have e1 : csL c m k = List.replicate (j + 1) (mI 0) ++ (bestEnds c m k).map fun b => mI b.1 := by
      unfold csL
      rw [hj]
    have e2 : nsL c m k = List.replicate (j + 1) (mI 0) ++ (nsN c m k).map mI := by
      unfold nsL
      rw [hj]
    have e3 : csL c m (k + 1) = List.replicate j (mI 0) ++ (bestG (c j) (bestEnds c m k) :: bestEnds c m k).map fun b => mI b.1 := by
      unfold csL
      rw [hj2]
      show List.replicate j (mI 0) ++ (bestG (c (m - (k + 1))) (bestEnds c m k) :: bestEnds c m k).map _ = _
      rw [hj2]
    have e4 : nsL c m (k + 1) = List.replicate j (mI 0) ++ mI ((bestG (c j) (bestEnds c m k)).2.headD 0) :: (nsN c m k).map mI := by
      unfold nsL
      rw [nsN_succ, hj2]
      rfl
    rw [e1, e2, st, turn_nx, ← e3, ← e4]
    exact outer_loop h hz j (k + 1) (by omega) _ _ _ _
/-! ### the parts -/
theorem fold_mem (c : Nat → Option Nat) : ∀ (R : List (Kh455.Breaking × Nat)) (s : Option Kh455.Breaking) (b : Kh455.Breaking), R.foldl (stepB c) s = some b → s = some b ∨ ∃ p ∈ R, b.2 = (p.2 + 1) :: p.1.2
  | [], s, b, h => .inl h
  | p :: R, s, b, h => by
    rw [List.foldl_cons] at h
    rcases fold_mem c R _ b h with z | ⟨r, hr, z⟩
    · unfold stepB at z
      cases hc : c (p.2 + 1) with
      | none =>
        rw [hc] at z
        exact .inl ((better_none s).symm.trans z)
      | some q =>
        rw [hc] at z
        cases s with
        | none =>
          cases z
          exact .inr ⟨p, by simp, rfl⟩
        | some a =>
          have z2 : (if q + p.1.1 ≤ a.1 then some (q + p.1.1, (p.2 + 1) :: p.1.2) else some a) = some b := z
          split at z2
          · cases z2
            exact .inr ⟨p, by simp, rfl⟩
          · exact .inl z2
    · exact .inr ⟨r, by simp [hr], z⟩
/-- the best division of the last k things -/
def bestB (c : Nat → Nat → Option Nat) (m k : Nat) : Kh455.Breaking := (bestEnds c m k).headD (0, [])
theorem bestEnds_at (c : Nat → Nat → Option Nat) (m : Nat) : ∀ (k i : Nat), i ≤ k → (bestEnds c m k)[i]? = some (bestB c m (k - i))
  | 0, 0, _ => rfl
  | k + 1, 0, _ => rfl
  | k + 1, i + 1, h => by
    have := bestEnds_at c m k i (by omega)
    rw [show k + 1 - (i + 1) = k - i from by omega, ← this]
    rfl
/-- its first part, then the best division of the others -/
theorem bestB_next {c : Nat → Nat → Option Nat} {m k q : Nat} (h : c (m - (k + 1)) 1 = some q) : ∃ n, 1 ≤ n ∧ n ≤ k + 1 ∧ (bestB c m (k + 1)).2 = n :: (bestB c m (k + 1 - n)).2 := by
  have e : bestB c m (k + 1) = bestG (c (m - (k + 1))) (bestEnds c m k) := rfl
  obtain ⟨a, Rs, hE⟩ : ∃ a Rs, bestEnds c m k = a :: Rs := by
    cases q : bestEnds c m k with
    | nil =>
      have := congrArg List.length q
      rw [bestEnds_len] at this
      cases this
    | cons a Rs => exact ⟨a, Rs, rfl⟩
  obtain ⟨b, hb⟩ := fold_has (c (m - (k + 1))) a Rs h
  rw [← hE] at hb
  rw [e, bestG_eq, hb]
  rcases fold_mem _ _ _ _ hb with z | ⟨p, hp, z⟩
  · cases z
  · obtain ⟨p1, p2⟩ := p
    obtain ⟨h1, h2⟩ := List.mem_zipIdx' hp
    rw [bestEnds_len] at h1
    have h3 := bestEnds_at c m k p2 (by omega)
    rw [List.getElem?_eq_getElem (by rw [bestEnds_len]; omega)] at h3
    have h4 : p1 = bestB c m (k - p2) := by
      have h5 : p1 = (bestEnds c m k)[p2]'(by rw [bestEnds_len]; exact h1) := h2
      rw [h5]
      exact Option.some.inj h3
    refine ⟨p2 + 1, by omega, by omega, ?_⟩
    show b.2 = _
    rw [z, h4, show k + 1 - (p2 + 1) = k - p2 from by omega]
theorem nsN_at (c : Nat → Nat → Option Nat) (m : Nat) : ∀ (k i : Nat), i < k → (nsN c m k)[i]? = some ((bestB c m (k - i)).2.headD 0)
  | k + 1, 0, _ => by rw [nsN_succ] <;> rfl
  | k + 1, i + 1, h => by
    rw [nsN_succ, List.getElem?_cons_succ, nsN_at c m k i (by omega), show k + 1 - (i + 1) = k - i from by omega]
def pfB : PSt := (sSeq (sApp 1 (pOp oIx (pVar 0) (pVar 2)))
 (sAug 2 oAddI (pOp oIx (pVar 0) (pVar 2))))
def pfT : PTe := (pB (pOp oLt (pVar 2) (pUn oLen (pVar 0))))
theorem parts_while {c : Nat → Nat → Option Nat} {m : Nat} (h1 : ∀ f, f < m → ∃ q, c f 1 = some q) (hz : m < 16000000) : ∀ (N k : Nat) (acc : List Nat), k ≤ m → k < N → acc.length + k ≤ m →
    (whileN pfT pfB N [.va (.lst ((nsN c m m).map mI)), .ow (acc.map mI), .va (mI (m - k))]).seq (sRetV 1) = .rt (.li true ((acc ++ (bestB c m k).2).map mI))
  | 0, k, acc, _, h, _ => by omega
  | N + 1, 0, acc, _, _, _ => by
    rw [whileN_succ]
    have t : pfT [.va (.lst ((nsN c m m).map mI)), .ow (acc.map mI), .va (mI (m - 0))] = .ok false := by
      unfold pfT
      simp [nsN_len]
    rw [t, R.fl_ok]
    simp [bestB, bestEnds]
  | N + 1, k + 1, acc, hk, hN, ha => by
    rw [whileN_succ]
    have t : pfT [.va (.lst ((nsN c m m).map mI)), .ow (acc.map mI), .va (mI (m - (k + 1)))] = .ok true := by
      unfold pfT
      have : ((m - (k + 1) : Nat) : Int) < (m : Int) := by omega
      simp [nsN_len, this]
    rw [t, R.fl_ok, if_pos rfl]
    obtain ⟨q, hq⟩ := h1 (m - (k + 1)) (by omega)
    obtain ⟨n, n1, n2, n3⟩ := bestB_next hq
    have hx := nsN_at c m m (m - (k + 1)) (by omega)
    rw [show m - (m - (k + 1)) = k + 1 from by omega, n3, List.headD_cons] at hx
    have hix : oIx (.lst ((nsN c m m).map mI)) (.int ((m - (k + 1) : Nat) : Int)) = .ok (.cl (mI n)) := oIx_lst (k := m - (k + 1)) (by rw [List.getElem?_map, hx] <;> rfl) rfl
    have hl : acc.length < line := by unfold line; omega
    have st : pfB [.va (.lst ((nsN c m m).map mI)), .ow (acc.map mI), .va (mI (m - (k + 1)))] = .nx [.va (.lst ((nsN c m m).map mI)), .ow ((acc ++ [n]).map mI), .va (mI (m - (k + 1 - n)))] := by
      unfold pfB
      generalize (nsN c m m).map mI = Xs at hix
      have e9 : ((m - (k + 1) : Nat) : Int) + (n : Int) = ((m - (k + 1 - n) : Nat) : Int) := by omega
      simp only [sSeq_eq, sApp_eq, List.getElem?_cons_succ, List.getElem?_cons_zero, pOp_eq, pVar_eq, R.bind_ok, E.rd_cl, hix, R.fl_ok, E.keep_cl, List.length_map, hl, if_true, seq_nx, List.set, sAug_eq, oAddI_int]
      rw [e9]
      simp
    rw [st, turn_nx, parts_while h1 hz N (k + 1 - n) (acc ++ [n]) (by omega) (by omega) (by simp; omega), n3]
    simp
theorem flat_rep {α : Type} (x : α) : ∀ n : Nat, (List.replicate n [x]).flatten = List.replicate n x
  | 0 => rfl
  | n + 1 => by
    rw [List.replicate_succ, List.flatten_cons, flat_rep x n]
    rfl
theorem best_division_eq {G : Nat → Fn} {kk : Nat} {l : List D} {c : Nat → Nat → Option Nat} {m : Nat} (h : CostOk G kk l c m) (hz : m < 900000) : pf_best_division G [.int (m : Int), .clo kk l] = .ok (.cl (.tup [mI (bestB c m m).1, mL (bestB c m m).2])) := by
  unfold pf_best_division pb_best_division
  obtain ⟨y4, y5, y6, y7, ol⟩ := outer_loop h (by omega) m 0 (by omega) .un .un .un .un
  have e1 : oMul (.lst [.int 0]) (.int ((m : Int) + 1)) = .ok (.li true (csL c m 0)) := by
    rw [oMul_lst (n := m + 1) (by omega) (by omega) (by simp; unfold line; omega)]
    have : csL c m 0 = List.replicate (m + 1) (mI 0) := by
      unfold csL bestEnds
      rw [Nat.sub_zero, List.replicate_succ']
      rfl
    rw [this, flat_rep] <;> rfl
  have e2 : oMul (.lst [.int 0]) (.int (m : Int)) = .ok (.li true (nsL c m 0)) := by
    rw [oMul_lst (n := m) rfl (by omega) (by simp; unfold line; omega)]
    have : nsL c m 0 = List.replicate m (mI 0) := by
      unfold nsL nsN bestEnds
      simp
    rw [this, flat_rep] <;> rfl
  have h62 : r62 (m : Int) = true := r62_nat rfl (by omega)
  have hr : (rangeL 0 (m : Int)).reverse = ((List.range m).map mI).reverse := by rw [rangeL_nat m _ rfl]
  have ex : oIx (.lst (csL c m m)) (.int 0) = .ok (.cl (mI (bestB c m m).1)) := by
    refine oIx_lst (k := 0) ?_ rfl
    unfold csL
    rw [Nat.sub_self]
    have := bestEnds_at c m m 0 (by omega)
    show ((bestEnds c m m).map fun b => mI b.1)[0]? = _
    rw [List.getElem?_map, this] <;> rfl
  have en : nsL c m m = (nsN c m m).map mI := by
    unfold nsL
    rw [Nat.sub_self]
    rfl
  have ep : pf_parts_from [.lst (nsL c m m)] = .ok (.li true ((bestB c m m).2.map mI)) := by
    unfold pf_parts_from pb_parts_from
    have q := parts_while (c := c) (m := m) h.one (by omega) fuel m [] (Nat.le_refl _) (by unfold fuel; omega) (by simp)
    rw [Nat.sub_self, List.nil_append, ← en] at q
    simp only [run_1, sSeq_eq, sSet_eq, sSetK_eq, pC_eq, pLst_eq, pNil_eq, R.bind_ok, R.fl_ok, E.keep_cl, List.length_nil, Nat.zero_le, if_true, List.set, List.replicate, seq_nx, Nat.reduceSub, sWhile_eq]
    show (Fl.seq (whileN pfT pfB fuel [.va (.lst (nsL c m m)), .ow (([] : List Nat).map mI), .va (mI 0)]) (sRetV 1)).out = _
    rw [q] <;> rfl
  rw [run_2]
  generalize hC : csL c m m = C at ol ex
  generalize hN : nsL c m m = N at ol ep
  simp only [sSeq_eq, sSet_eq, pOp_eq, pLst_eq, pCons_eq, pC_eq, pNil_eq, R.bind_ok, E.keep_cl, E.rd_li, E.rd_cl, List.length_cons, List.length_nil, pVar_eq, List.getElem?_cons_zero, oAdd_int, List.replicate, Nat.reduceSub, Nat.reduceAdd, show (1 : Nat) ≤ line from by decide, if_true, e1, e2, R.fl_ok, List.set, seq_nx, sFor_eq, iRevR1_eq, h62, hr]
  show (Fl.seq (forL (gSet 4) (bdO G) ((List.range m).map mI).reverse [.va (mI m), .va (.clo kk l), .ow (csL c m 0), .ow (nsL c m 0), .un, .un, .un, .un]) _).out = _
  rw [ol, seq_nx]
  simp [ex, ep, show (2 : Nat) ≤ line from by decide]
end PL
namespace PL
open PW PF
/-! ### best lines -/
def cL (w : Nat) (L : List Kh455.Piece) (f n : Nat) : Option Nat := Kh455.lineCost w ((L.drop f).take n) (n == (L.drop f).length)
theorem lineCost_none {w : Nat} {l : List Kh455.Piece} {b : Bool} : Kh455.lineCost w l b = none ↔ w < (Kh455.lineText l).length ∧ l.length ≠ 1 := by
  unfold Kh455.lineCost
  simp only
  by_cases h : (Kh455.lineText l).length ≤ w
  · rw [if_pos h]
    constructor
    · intro z
      cases z
    · intro z
      omega
  · rw [if_neg h]
    by_cases k : l.length = 1
    · rw [if_pos k]
      constructor
      · intro z
        cases z
      · intro z
        exact absurd k z.2
    · rw [if_neg k]
      exact ⟨fun _ => ⟨by omega, k⟩, fun _ => rfl⟩
theorem cL_down (w : Nat) (L : List Kh455.Piece) (hfull : ∀ p ∈ L, p.content ≠ []) (f : Nat) : Down (cL w L f) := by
  intro n hn h
  unfold cL at h ⊢
  rw [lineCost_none] at h ⊢
  obtain ⟨h1, h2⟩ := h
  rw [List.length_take] at h2 ⊢
  by_cases c : n < (L.drop f).length
  · have hne : (L.drop f).take n ≠ [] := fun z => by
      have hz : ((L.drop f).take n).length = 0 := by rw [z] <;> rfl
      rw [List.length_take] at hz
      omega
    have e : (L.drop f).take (n + 1) = (L.drop f).take n ++ [(L.drop f)[n]] := by
      rw [List.take_succ, List.getElem?_eq_getElem c]
      rfl
    have := lineText_more _ (L.drop f)[n] hne (hfull _ (List.mem_of_mem_drop (List.getElem_mem _)))
    rw [← e] at this
    exact ⟨by omega, by omega⟩
  · rw [List.take_of_length_le (by omega)] at h1 ⊢
    exact ⟨h1, by omega⟩
theorem cL_one (w : Nat) (L : List Kh455.Piece) (f : Nat) (hf : f < L.length) : ∃ q, cL w L f 1 = some q := by
  cases h : cL w L f 1 with
  | some q => exact ⟨q, rfl⟩
  | none =>
    unfold cL at h
    rw [lineCost_none, List.length_take, List.length_drop] at h
    omega
theorem best_cost_eq (w : Nat) (hw : w ≤ 80) (L : List Kh455.Piece) (hL : PcOk L) (f n : Nat) (h1 : 1 ≤ n) (h2 : f + n ≤ L.length) : pf_best_lines_cost_of [.int (f : Int), .int ((f + n : Nat) : Int), .int (w : Int), .lst (L.map cD)] = .ok (.cl (oNat (cL w L f n))) := by
  unfold pf_best_lines_cost_of pb_best_lines_cost_of
  have hdl : (L.drop f).length = L.length - f := List.length_drop
  have hne : ((L.drop f).take n) ≠ [] := fun z => by
    have := congrArg List.length z
    rw [List.length_take, hdl] at this
    simp at this
    omega
  have e1 := line_cost_eq w ((L.drop f).take n) (n == (L.drop f).length) hne hw (hL.text (by rw [List.length_take, hdl]; omega) fun p hp => List.mem_of_mem_drop (List.mem_of_mem_take hp))
  have hcut : cut (L.map cD) (some (f : Int)) (some ((f + n : Nat) : Int)) = ((L.drop f).take n).map cD := by
    rw [cut_map, cut_nn L f (f + n), Nat.add_sub_cancel_left]
  have hb : decide (((f + n : Nat) : Int) = (L.length : Int)) = (n == (L.drop f).length) := by
    rw [Bool.eq_iff_iff, hdl]
    simp
    omega
  unfold cL
  generalize hG : (L.drop f).take n = G at e1 hcut ⊢
  generalize hbb : (n == (L.drop f).length) = bb at e1 hb ⊢
  rw [run_4]
  simp only [sRet_eq, pCall_eq, pCons_eq, pSl_eq, pPart_eq, pVar_eq, List.getElem?_cons_succ, List.getElem?_cons_zero, R.bind_ok, E.rd_cl, E.keep_cl, E.keep_li, pOp_eq, pUn_eq, oLen_lst, List.length_map, oEq_int, Bool.false_eq_true, if_false, pNil_eq, hcut, hb, e1, R.fl_ok, out_rt]
theorem best_ok (w : Nat) (hw : w ≤ 80) (L : List Kh455.Piece) (hL : PcOk L) (hfull : ∀ p ∈ L, p.content ≠ []) : CostOk pG 0 [.int (w : Int), .lst (L.map cD)] (cL w L) L.length :=
  ⟨fun f n h1 h2 => best_cost_eq w hw L hL f n h1 h2, fun f hf => cL_one w L f hf, fun f _ => cL_down w L hfull f⟩
theorem bestAll_eq (w : Nat) (L : List Kh455.Piece) : ∀ k, k ≤ L.length → bestEnds (cL w L) L.length k = Kh455.bestAll w (L.drop (L.length - k))
  | 0, _ => by
    rw [Nat.sub_zero, List.drop_length]
    rfl
  | k + 1, h => by
    have ih := bestAll_eq w L k (by omega)
    obtain ⟨p, hp⟩ : ∃ p, L.drop (L.length - (k + 1)) = p :: L.drop (L.length - k) := by
      refine ⟨L[L.length - (k + 1)], ?_⟩
      rw [List.drop_eq_getElem_cons (by omega), show L.length - (k + 1) + 1 = L.length - k from by omega]
    show bestG (cL w L (L.length - (k + 1))) (bestEnds (cL w L) L.length k) :: bestEnds (cL w L) L.length k = _
    rw [ih, hp]
    show _ = Kh455.bestFrom w (p :: L.drop (L.length - k)) (Kh455.bestAll w (L.drop (L.length - k))) :: Kh455.bestAll w (L.drop (L.length - k))
    congr 1
    unfold bestG Kh455.bestFrom cL
    rw [hp]
theorem bestB_eq (w : Nat) (L : List Kh455.Piece) : bestB (cL w L) L.length L.length = Kh455.bestBreaking w L := by
  unfold bestB Kh455.bestBreaking
  rw [bestAll_eq w L L.length (Nat.le_refl _), Nat.sub_self]
  rfl
theorem plain_ints (l : List Nat) : plainAll (l.map mI) = true := by
  induction l with
  | nil => rfl
  | cons a l ih =>
    show (D.plain (mI a) && plainAll (l.map mI)) = true
    rw [ih]
    rfl
theorem plain_lst {l : List D} (h : plainAll l = true) : D.plain (.lst l) = true := by
  unfold D.plain
  exact h
theorem plain_cons {d : D} {l : List D} (h1 : d.plain = true) (h2 : plainAll l = true) : plainAll (d :: l) = true := by
  show (D.plain d && plainAll l) = true
  rw [h1, h2]
  rfl
theorem plain_mL (l : List Nat) : D.plain (mL l) = true := plain_lst (plain_ints l)
theorem plain_cD (p : Kh455.Piece) : D.plain (cD p) = true := by
  unfold cD D.plain
  exact plain_cons (plain_mL _) (plain_cons (by unfold D.plain; rfl) rfl)
theorem plain_pieces (L : List Kh455.Piece) : plainAll (L.map cD) = true := by
  induction L with
  | nil => rfl
  | cons a l ih => exact plain_cons (plain_cD a) ih
theorem plain_int (i : Int) : D.plain (.int i) = true := by unfold D.plain; rfl
theorem plain_tup {l : List D} (h : plainAll l = true) : D.plain (.tup l) = true := by
  unfold D.plain
  exact h
/-- the call that hands an inner def -/
theorem callB_eq {kk i n : Nat} {F : Fn} {a : PEx} {js : List Nat} {r : Env} {l0 l : List D} {d : D} (h1 : a r = .ok (.cl (.int (n : Int)))) (h2 : r[i]? = some (.va (.clo kk l0))) (h3 : slotVals r js = some l) (h4 : plainAll l = true) (h5 : F [.int (n : Int), .clo kk l] = .ok (.cl d)) (h6 : d.plain = true) :
    pCallB kk F a i js r = .ok (.cl d) := by
  unfold pCallB
  rw [h1, R.bind_ok]
  simp only [E.rd_cl, h2, h3]
  rw [if_pos ⟨trivial, h4⟩, h5]
  show (if (E.cl d).plain = true then R.ok (E.cl d) else .bad) = _
  rw [if_pos (show (E.cl d).plain = true from h6)]
theorem best_lines_eq (w : Nat) (hw : w ≤ 80) (L : List Kh455.Piece) (hL : PcOk L) (hfull : ∀ p ∈ L, p.content ≠ []) : pf_best_lines [.int (w : Int), .lst (L.map cD)] = .ok (.cl (.tup [mI (Kh455.bestBreaking w L).1, mL (Kh455.bestBreaking w L).2])) := by
  have q := best_division_eq (best_ok w hw L hL hfull) (by have := hL.1; omega)
  rw [bestB_eq] at q
  unfold pf_best_lines pb_best_lines
  generalize pf_best_division pG = F at q ⊢
  have p1 : plainAll [D.int (w : Int), .lst (L.map cD)] = true := plain_cons (plain_int _) (plain_cons (plain_lst (plain_pieces L)) rfl)
  have p2 : D.plain (.tup [mI (Kh455.bestBreaking w L).1, mL (Kh455.bestBreaking w L).2]) = true := plain_tup (plain_cons (plain_int _) (plain_cons (plain_mL _) rfl))
  have e1 : (pUn oLen (pVar 1)) [.va (.int (w : Int)), .va (.lst (L.map cD)), .va (.clo 0 [.int (w : Int), .lst (L.map cD)])] = .ok (.cl (.int ((L.length : Nat) : Int))) := by simp
  have a2 := callB_eq (js := [0, 1]) (i := 2) (r := [.va (.int (w : Int)), .va (.lst (L.map cD)), .va (.clo 0 [.int (w : Int), .lst (L.map cD)])]) e1 rfl rfl p1 q p2
  have a1 : sClo 2 0 [0, 1] [.va (.int (w : Int)), .va (.lst (L.map cD)), .un] = .nx [.va (.int (w : Int)), .va (.lst (L.map cD)), .va (.clo 0 [.int (w : Int), .lst (L.map cD)])] := rfl
  rw [run_2]
  simp only [List.replicate, Nat.reduceSub]
  rw [sSeq_eq, a1, seq_nx, sRet_eq, a2, R.fl_ok, out_rt]
/-! ### law s03 -/
theorem cost_eq (w : Nat) (p t : List Nat) (hp : p.length ≤ 600) (ht : t.length ≤ 600) : pf_cost [.int (w : Int), .arg (p.map mI), .arg (t.map mI)] = .ok (.li true ((Kh455Neutral.integers (Kh455.answer (.cost w p t))).map D.int)) := by
  unfold pf_cost pb_cost
  have e1 := pieces_in_eq w p t hp ht
  show _ = R.ok (E.li true ((Kh455Neutral.integers (Kh455.withPieces w p t fun l => { value := (Kh455.bestBreaking w l).1, rest := [(Kh455.bestBreaking w l).2.length] })).map D.int))
  unfold Kh455.withPieces Kh455.withPatterns Kh450.withText
  cases hw : Kh455.isWidth w with
  | false =>
    rw [hw] at e1
    simp [sTryRef, e1, Kh455Neutral.integers, Kh455.number, Kh450.number, D.scalar]
  | true =>
    rw [hw] at e1
    have hw2 : w ≤ 80 := of_decide_eq_true (Bool.and_eq_true_iff.mp hw).2
    cases h : Kh450.decodeAll p with
    | none =>
      simp only [h] at e1
      simp [sTryRef, e1, Kh455Neutral.integers, Kh450.number, D.scalar]
    | some s =>
      simp only [h] at e1
      cases h2 : Kh455.readPatterns s with
      | none =>
        simp only [h2] at e1
        simp [sTryRef, e1, Kh455Neutral.integers, Kh455.number, Kh450.number, D.scalar, h2]
      | some ps =>
        simp only [h2] at e1
        cases h3 : Kh450.decodeAll t with
        | none =>
          simp only [h3] at e1
          simp [sTryRef, e1, Kh455Neutral.integers, Kh450.number, D.scalar, h2]
        | some v =>
          simp only [h3] at e1
          have hk := pieces_ok ps v (by have := dec_len2 h3; omega)
          have hf : ∀ q ∈ Kh455.pieces ps v, q.content ≠ [] := fun q hq => pieces_full hq
          simp only [h2, h3]
          generalize Kh455.pieces ps v = L at e1 hk hf ⊢
          have e2 := best_lines_eq w hw2 L hk hf
          simp [sTryRef, e1, e2, Kh455Neutral.integers, ll1, show (2 : Nat) ≤ line from by decide]
end PL
namespace PL
open PW PF
theorem bestB_len {c : Nat → Nat → Option Nat} {m : Nat} (h1 : ∀ f, f < m → ∃ q, c f 1 = some q) : ∀ (N k : Nat), k < N → k ≤ m → (bestB c m k).2.length ≤ k
  | 0, _, h, _ => by omega
  | N + 1, 0, _, _ => by simp [bestB, bestEnds]
  | N + 1, k + 1, h, hk => by
    obtain ⟨q, hq⟩ := h1 (m - (k + 1)) (by omega)
    obtain ⟨n, n1, n2, n3⟩ := bestB_next hq
    have := bestB_len h1 N (k + 1 - n) (by omega) (by omega)
    rw [n3, List.length_cons]
    omega
theorem best_len (w : Nat) (L : List Kh455.Piece) : (Kh455.bestBreaking w L).2.length ≤ L.length := by
  rw [← bestB_eq]
  exact bestB_len (fun f hf => cL_one w L f hf) (L.length + 1) L.length (by omega) (Nat.le_refl _)
/-- the lines of the best division -/
theorem best_text (w : Nat) (hw : w ≤ 80) (L : List Kh455.Piece) (hL : PcOk L) (hfull : ∀ p ∈ L, p.content ≠ []) : pf_lines_by [.lst (L.map cD), mL (Kh455.bestBreaking w L).2] = .ok (.li true ((Kh455.breakLines w L).map mL)) := by
  have := best_len w L
  exact lines_by_eq L hL _ (by have := hL.1; omega)
theorem break_text_eq (w : Nat) (p t : List Nat) (hp : p.length ≤ 600) (ht : t.length ≤ 600) : pf_break_text [.int (w : Int), .arg (p.map mI), .arg (t.map mI)] = .ok (.li true ((Kh455Neutral.integers (Kh455.answer (.breakText w p t))).map D.int)) := by
  unfold pf_break_text pb_break_text
  have e1 := pieces_in_eq w p t hp ht
  show _ = R.ok (E.li true ((Kh455Neutral.integers (Kh455.withPieces w p t fun l => Kh455.textResult (Kh455.linesText (Kh455.breakLines w l)))).map D.int))
  unfold Kh455.withPieces Kh455.withPatterns Kh450.withText
  cases hw : Kh455.isWidth w with
  | false =>
    rw [hw] at e1
    simp [sTryRef, e1, Kh455Neutral.integers, Kh455.number, Kh450.number, D.scalar]
  | true =>
    rw [hw] at e1
    have hw2 : w ≤ 80 := of_decide_eq_true (Bool.and_eq_true_iff.mp hw).2
    cases h : Kh450.decodeAll p with
    | none =>
      simp only [h] at e1
      simp [sTryRef, e1, Kh455Neutral.integers, Kh450.number, D.scalar]
    | some s =>
      simp only [h] at e1
      cases h2 : Kh455.readPatterns s with
      | none =>
        simp only [h2] at e1
        simp [sTryRef, e1, Kh455Neutral.integers, Kh455.number, Kh450.number, D.scalar, h2]
      | some ps =>
        simp only [h2] at e1
        cases h3 : Kh450.decodeAll t with
        | none =>
          simp only [h3] at e1
          simp [sTryRef, e1, Kh455Neutral.integers, Kh450.number, D.scalar, h2]
        | some v =>
          simp only [h3] at e1
          have hk := pieces_ok ps v (by have := dec_len2 h3; omega)
          have hf : ∀ q ∈ Kh455.pieces ps v, q.content ≠ [] := fun q hq => pieces_full hq
          simp only [h2, h3]
          generalize Kh455.pieces ps v = L at e1 hk hf ⊢
          have e2 := best_lines_eq w hw2 L hk hf
          have e3 := best_text w hw2 L hk hf
          have hj := joined_len L hk (Kh455.bestBreaking w L).2 (Nat.le_trans (best_len w L) hk.1)
          have hx : oIx (.tup [mI (Kh455.bestBreaking w L).1, mL (Kh455.bestBreaking w L).2]) (.int 1) = .ok (.cl (mL (Kh455.bestBreaking w L).2)) := oIx_tup (k := 1) rfl rfl
          have hb : (Kh455.takeLines (Kh455.bestBreaking w L).2 L).map Kh455.lineText = Kh455.breakLines w L := rfl
          rw [hb] at hj
          generalize Kh455.breakLines w L = G at e3 hj ⊢
          generalize D.tup [mI (Kh455.bestBreaking w L).1, mL (Kh455.bestBreaking w L).2] = TT at e2 hx
          generalize mL (Kh455.bestBreaking w L).2 = NN at e3 hx
          have e4 := text_answer_eq G hj
          have e5 : ∀ l : List Nat, (l.map Int.ofNat).map D.int = l.map mI := fun l => by
            rw [List.map_map] <;> rfl
          have e6 : (Kh455Neutral.integers (Kh455.textResult (Kh455.linesText G))).map D.int = ((Kh450.encodeAll (Kh450.joinTexts [10] G)).length :: Kh450.encodeAll (Kh450.joinTexts [10] G)).map mI := by
            rw [← e5]
            rfl
          simp only [Bool.not_true, Bool.false_eq_true, if_false]
          rw [e6]
          simp [sTryRef, e1, e2, e3, e4, hx]
end PL
namespace PZ
open PySem PySem.Spec PyProof.Rows L2 PW PF PL
open PySem.W (Codec)
theorem nats {l : List Int} {m : Int} (h : l.all (Codec.inInt 0 m) = true) : l.map D.int = (l.map Int.toNat).map mI := by
  rw [List.map_map]
  refine List.map_congr_left fun x hx => ?_
  have := List.all_eq_true.mp h x hx
  have h2 := Bool.and_eq_true_iff.mp this
  have h3 := of_decide_eq_true h2.1
  show D.int x = D.int ((x.toNat : Nat) : Int)
  congr 1
  omega
theorem len_of {l : List Int} {m : Nat} (h : Codec.inLen 0 m l = true) : l.length ≤ m := by
  have h' : (decide (0 ≤ l.length) && decide (l.length ≤ m)) = true := h
  exact of_decide_eq_true (Bool.and_eq_true_iff.mp h').2
theorem pos_of {i m : Int} (h : Codec.inInt 0 m i = true) : 0 ≤ i := of_decide_eq_true (Bool.and_eq_true_iff.mp h).1
end PZ
namespace S02
open PySem PySem.Spec PyProof.Rows L2 PW PF
def top (i : Nat) : Stmt := PySem.Challenge.pw_plainlayout_s02_break_text.main.body.getD i (.Pass ⟨0, 0, 0, 0⟩)
structure Fx (T : Tx) (base : Heap) : Prop where
  tx : TxOk T
  i_Pattern : InitIs T 0 "Pattern" "Pattern.__init__" (inClass (top 23) 0)
  nm_Pattern : T.nms 0 = (["letters", "levels"] : List Str)
  i_Piece : InitIs T 1 "Piece" "Piece.__init__" (inClass (top 36) 0)
  nm_Piece : T.nms 1 = (["signs", "joint"] : List Str)
  d_size_by : DefIs T "size_by" (top 9)
  d_is_sign : DefIs T "is_sign" (top 10)
  d_sign_at : DefIs T "sign_at" (top 11)
  d_decoded : DefIs T "decoded" (top 12)
  d_bytes_of : DefIs T "bytes_of" (top 13)
  d_encoded : DefIs T "encoded" (top 14)
  d_words_of : DefIs T "words_of" (top 15)
  d_joined : DefIs T "joined" (top 16)
  d_is_digit : DefIs T "is_digit" (top 20)
  d_is_lower : DefIs T "is_lower" (top 21)
  d_is_upper : DefIs T "is_upper" (top 22)
  m_Pattern_occurs_at : MethIs T 0 "occurs_at" "Pattern.occurs_at" (inClass (top 23) 1)
  d_pattern_of : DefIs T "pattern_of" (top 24)
  d_read_patterns : DefIs T "read_patterns" (top 25)
  d_lowered : DefIs T "lowered" (top 26)
  d_greatest_levels : DefIs T "greatest_levels" (top 27)
  d_positions_of : DefIs T "positions_of" (top 28)
  d_parts_of : DefIs T "parts_of" (top 37)
  d_pieces_of_part : DefIs T "pieces_of_part" (top 38)
  d_pieces_of : DefIs T "pieces_of" (top 39)
  d_line_of : DefIs T "line_of" (top 40)
  d_line_cost : DefIs T "line_cost" (top 41)
  d_best_division : DefIs T "best_division" (top 42)
  d_parts_from : DefIs T "parts_from" (top 43)
  k_best_lines : MkIs T base "best_lines" (top 44) "best_lines.<locals>.cost_of"
  d_lines_by : DefIs T "lines_by" (top 45)
  d_ask : DefIs T "ask" (top 53)
  d_check_width : DefIs T "check_width" (top 54)
  d_text_in : DefIs T "text_in" (top 55)
  d_patterns_in : DefIs T "patterns_in" (top 56)
  d_text_answer : DefIs T "text_answer" (top 57)
  d_pieces_in : DefIs T "pieces_in" (top 59)
  d_break_text : DefIs T "break_text" (top 60)
  n_all : T.mg "all" = none
  n_enumerate : T.mg "enumerate" = none
  n_len : T.mg "len" = none
  n_max : T.mg "max" = none
  n_range : T.mg "range" = none
  n_reversed : T.mg "reversed" = none
  n_zip : T.mg "zip" = none
  g_AFTER_HYPHEN : Glo T "AFTER_HYPHEN" (.int 1)
  g_AFTER_WORD : Glo T "AFTER_WORD" (.int 0)
  g_BAD_INTEGER : Glo T "BAD_INTEGER" (.int (-22))
  g_BAD_PATTERNS : Glo T "BAD_PATTERNS" (.int (-21))
  g_BAD_TEXT : Glo T "BAD_TEXT" (.int (-24))
  g_DIVIDED : Glo T "DIVIDED" (.int 50)
  g_FIRST_SURROGATE : Glo T "FIRST_SURROGATE" (.int 55296)
  g_GREATEST : Glo T "GREATEST" (.int 1114111)
  g_GREATEST_WIDTH : Glo T "GREATEST_WIDTH" (.int 80)
  g_HYPHEN : Glo T "HYPHEN" (.int 45)
  g_IN_WORD : Glo T "IN_WORD" (.int 2)
  g_LAST_SURROGATE : Glo T "LAST_SURROGATE" (.int 57343)
  g_LEADS : Glo T "LEADS" (.tup [.int 0, .int 0, .int 192, .int 224, .int 240])
  g_LEAST : Glo T "LEAST" (.tup [.int 0, .int 0, .int 128, .int 2048, .int 65536])
  g_LEAST_WIDTH : Glo T "LEAST_WIDTH" (.int 10)
  g_LINE_FEED : Glo T "LINE_FEED" (.int 10)
  g_POINT : Glo T "POINT" (.int 46)
  g_SIDE : Glo T "SIDE" (.int 2)
  g_SPACE : Glo T "SPACE" (.int 32)
  g_TOO_LONG : Glo T "TOO_LONG" (.int 10000)
  g_WHITE : Glo T "WHITE" (.tup [.int 9, .int 10, .int 13, .int 32])
  ref : ∃ fI, PySem.RefX.RefTxt T.K T.mg T.CR fI
theorem Fx.nar {T : Tx} {base : Heap} (fx : Fx T base) (q : Nat → Nat → List PW.D → NdefX.NF → Prop) : Fx (T.nar q) base where
  tx := fx.tx.nar q
  i_Pattern := fx.i_Pattern.nar q
  nm_Pattern := fx.nm_Pattern
  i_Piece := fx.i_Piece.nar q
  nm_Piece := fx.nm_Piece
  d_size_by := fx.d_size_by.nar q
  d_is_sign := fx.d_is_sign.nar q
  d_sign_at := fx.d_sign_at.nar q
  d_decoded := fx.d_decoded.nar q
  d_bytes_of := fx.d_bytes_of.nar q
  d_encoded := fx.d_encoded.nar q
  d_words_of := fx.d_words_of.nar q
  d_joined := fx.d_joined.nar q
  d_is_digit := fx.d_is_digit.nar q
  d_is_lower := fx.d_is_lower.nar q
  d_is_upper := fx.d_is_upper.nar q
  m_Pattern_occurs_at := fx.m_Pattern_occurs_at.nar q
  d_pattern_of := fx.d_pattern_of.nar q
  d_read_patterns := fx.d_read_patterns.nar q
  d_lowered := fx.d_lowered.nar q
  d_greatest_levels := fx.d_greatest_levels.nar q
  d_positions_of := fx.d_positions_of.nar q
  d_parts_of := fx.d_parts_of.nar q
  d_pieces_of_part := fx.d_pieces_of_part.nar q
  d_pieces_of := fx.d_pieces_of.nar q
  d_line_of := fx.d_line_of.nar q
  d_line_cost := fx.d_line_cost.nar q
  d_best_division := fx.d_best_division.nar q
  d_parts_from := fx.d_parts_from.nar q
  k_best_lines := fx.k_best_lines.nar q
  d_lines_by := fx.d_lines_by.nar q
  d_ask := fx.d_ask.nar q
  d_check_width := fx.d_check_width.nar q
  d_text_in := fx.d_text_in.nar q
  d_patterns_in := fx.d_patterns_in.nar q
  d_text_answer := fx.d_text_answer.nar q
  d_pieces_in := fx.d_pieces_in.nar q
  d_break_text := fx.d_break_text.nar q
  n_all := fx.n_all
  n_enumerate := fx.n_enumerate
  n_len := fx.n_len
  n_max := fx.n_max
  n_range := fx.n_range
  n_reversed := fx.n_reversed
  n_zip := fx.n_zip
  g_AFTER_HYPHEN := fx.g_AFTER_HYPHEN.nar q rfl
  g_AFTER_WORD := fx.g_AFTER_WORD.nar q rfl
  g_BAD_INTEGER := fx.g_BAD_INTEGER.nar q rfl
  g_BAD_PATTERNS := fx.g_BAD_PATTERNS.nar q rfl
  g_BAD_TEXT := fx.g_BAD_TEXT.nar q rfl
  g_DIVIDED := fx.g_DIVIDED.nar q rfl
  g_FIRST_SURROGATE := fx.g_FIRST_SURROGATE.nar q rfl
  g_GREATEST := fx.g_GREATEST.nar q rfl
  g_GREATEST_WIDTH := fx.g_GREATEST_WIDTH.nar q rfl
  g_HYPHEN := fx.g_HYPHEN.nar q rfl
  g_IN_WORD := fx.g_IN_WORD.nar q rfl
  g_LAST_SURROGATE := fx.g_LAST_SURROGATE.nar q rfl
  g_LEADS := fx.g_LEADS.nar q rfl
  g_LEAST := fx.g_LEAST.nar q rfl
  g_LEAST_WIDTH := fx.g_LEAST_WIDTH.nar q rfl
  g_LINE_FEED := fx.g_LINE_FEED.nar q rfl
  g_POINT := fx.g_POINT.nar q rfl
  g_SIDE := fx.g_SIDE.nar q rfl
  g_SPACE := fx.g_SPACE.nar q rfl
  g_TOO_LONG := fx.g_TOO_LONG.nar q rfl
  g_WHITE := fx.g_WHITE.nar q rfl
  ref := fx.ref
section
variable {T : Tx} {P : Program} {w : World} {base : Heap}
theorem sc_Pattern : FnScope ["self", "letters", "levels"] ["self", "letters", "levels"] (defScope (inClass (top 23) 0)) := ⟨rfl, rfl, rfl, by decide +kernel, rfl, by decide +kernel, by decide +kernel⟩
theorem fok_Pattern (fx : Fx T base) : MkOk T P w base 1 0 "Pattern" 2 := by
  obtain ⟨cl, ⟨f, fd, F, M⟩, gC⟩ := fx.i_Pattern
  exact mkok_mk (st := (inClass (top 23) 0)) (ps := ["self", "letters", "levels"]) (N := ["self", "letters", "levels"]) [("letters", 1), ("levels", 2)] cl (by rw [fx.nm_Pattern] <;> rfl) rfl F gC M (F.binds fun _ _ _ _ _ _ us hl => match us, hl with | [_, _, _], _ => rfl) sc_Pattern rfl rfl (by decide) (fun cdv A outer s H E => (pss_cons (ps_fld (pv 0) (pv 1) rfl) (pss_one (ps_fld (pv 0) (pv 2) rfl))))
theorem sc_Piece : FnScope ["self", "signs", "joint"] ["self", "signs", "joint"] (defScope (inClass (top 36) 0)) := ⟨rfl, rfl, rfl, by decide +kernel, rfl, by decide +kernel, by decide +kernel⟩
theorem fok_Piece (fx : Fx T base) : MkOk T P w base 1 1 "Piece" 2 := by
  obtain ⟨cl, ⟨f, fd, F, M⟩, gC⟩ := fx.i_Piece
  exact mkok_mk (st := (inClass (top 36) 0)) (ps := ["self", "signs", "joint"]) (N := ["self", "signs", "joint"]) [("signs", 1), ("joint", 2)] cl (by rw [fx.nm_Piece] <;> rfl) rfl F gC M (F.binds fun _ _ _ _ _ _ us hl => match us, hl with | [_, _, _], _ => rfl) sc_Piece rfl rfl (by decide) (fun cdv A outer s H E => (pss_cons (ps_fld (pv 0) (pv 1) rfl) (pss_one (ps_fld (pv 0) (pv 2) rfl))))
theorem at_Pattern_letters (fx : Fx T base) : ∀ c i, ixc 0 0 c = some i → ClsOk T c ∧ (T.nms c)[i]? = some "letters" := at_cls fx.i_Pattern.cl (by rw [fx.nm_Pattern] <;> rfl)
theorem at_Pattern_levels (fx : Fx T base) : ∀ c i, ixc 0 1 c = some i → ClsOk T c ∧ (T.nms c)[i]? = some "levels" := at_cls fx.i_Pattern.cl (by rw [fx.nm_Pattern] <;> rfl)
theorem at_Piece_signs (fx : Fx T base) : ∀ c i, ixc 1 0 c = some i → ClsOk T c ∧ (T.nms c)[i]? = some "signs" := at_cls fx.i_Piece.cl (by rw [fx.nm_Piece] <;> rfl)
theorem at_Piece_joint (fx : Fx T base) : ∀ c i, ixc 1 1 c = some i → ClsOk T c ∧ (T.nms c)[i]? = some "joint" := at_cls fx.i_Piece.cl (by rw [fx.nm_Piece] <;> rfl)
theorem sc_size_by : FnScope ["lead"] ["lead"] (defScope (top 9)) := ⟨rfl, rfl, rfl, by decide +kernel, rfl, by decide +kernel, by decide +kernel⟩
theorem fok_size_by (fx : Fx T base) : FOk T P w base 1 "size_by" pf_size_by 1 := by
  obtain ⟨f, fd, F, hm⟩ := fx.d_size_by
  exact fok_mk (st := (top 9)) (ps := ["lead"]) fx.tx F hm (F.binds fun _ _ _ _ _ _ us hl => match us, hl with | [_], _ => rfl) sc_size_by rfl rfl (b := pb_size_by) (fun cdv A outer s H B0 E sb ok tk =>
 (dss_cons (ds_if (dt_lt (de_var 0) de_int)
 (dss_one (ds_ret de_int))
 dss_nil)
 (dss_cons (ds_if (dt_chain op_le op_lt (ok_cmp _) (nox_cmp _) (ok_cmp _) (nox_cmp _) de_int (de_var 0) de_int)
 (dss_one (ds_ret de_int))
 dss_nil)
 (dss_cons (ds_if (dt_chain op_le op_lt (ok_cmp _) (nox_cmp _) (ok_cmp _) (nox_cmp _) de_int (de_var 0) de_int)
 (dss_one (ds_ret de_int))
 dss_nil)
 (dss_cons (ds_if (dt_chain op_le op_lt (ok_cmp _) (nox_cmp _) (ok_cmp _) (nox_cmp _) de_int (de_var 0) de_int)
 (dss_one (ds_ret de_int))
 dss_nil)
 (dss_one (ds_ret de_int)))))))
theorem sc_is_sign : FnScope ["number"] ["number"] (defScope (top 10)) := ⟨rfl, rfl, rfl, by decide +kernel, rfl, by decide +kernel, by decide +kernel⟩
theorem fok_is_sign (fx : Fx T base) : FOk T P w base 1 "is_sign" pf_is_sign 1 := by
  obtain ⟨f, fd, F, hm⟩ := fx.d_is_sign
  exact fok_mk (st := (top 10)) (ps := ["number"]) fx.tx F hm (F.binds fun _ _ _ _ _ _ us hl => match us, hl with | [_], _ => rfl) sc_is_sign rfl rfl (b := pb_is_sign) (fun cdv A outer s H B0 E sb ok tk =>
 (dss_one (ds_ret (de_and (de_chain op_le op_le (ok_cmp _) (nox_cmp _) (ok_cmp _) (nox_cmp _) de_int (de_var 0) (de_glob ok fx.g_GREATEST)) (de_one (de_not (de_chain op_le op_le (ok_cmp _) (nox_cmp _) (ok_cmp _) (nox_cmp _) (de_glob ok fx.g_FIRST_SURROGATE) (de_var 0) (de_glob ok fx.g_LAST_SURROGATE))))))))
theorem sc_bytes_of : FnScope ["sign"] ["sign"] (defScope (top 13)) := ⟨rfl, rfl, rfl, by decide +kernel, rfl, by decide +kernel, by decide +kernel⟩
theorem fok_bytes_of (fx : Fx T base) : FOk T P w base 1 "bytes_of" pf_bytes_of 1 := by
  obtain ⟨f, fd, F, hm⟩ := fx.d_bytes_of
  exact fok_mk (st := (top 13)) (ps := ["sign"]) fx.tx F hm (F.binds fun _ _ _ _ _ _ us hl => match us, hl with | [_], _ => rfl) sc_bytes_of rfl rfl (b := pb_bytes_of) (fun cdv A outer s H B0 E sb ok tk =>
 (dss_cons (ds_if (dt_lt (de_var 0) de_int)
 (dss_one (ds_ret (de_lst ok (da_cons (de_var 0) da_nil))))
 dss_nil)
 (dss_cons (ds_if (dt_lt (de_var 0) de_int)
 (dss_one (ds_ret (de_lst ok (da_cons (de_add ok de_int (de_div (de_var 0) de_int)) (da_cons (de_add ok de_int (de_mod (de_var 0) de_int)) da_nil)))))
 dss_nil)
 (dss_cons (ds_if (dt_lt (de_var 0) de_int)
 (dss_one (ds_ret (de_lst ok (da_cons (de_add ok de_int (de_div (de_var 0) de_int)) (da_cons (de_add ok de_int (de_mod (de_div (de_var 0) de_int) de_int)) (da_cons (de_add ok de_int (de_mod (de_var 0) de_int)) da_nil))))))
 dss_nil)
 (dss_one (ds_ret (de_lst ok (da_cons (de_add ok de_int (de_div (de_var 0) de_int)) (da_cons (de_add ok de_int (de_mod (de_div (de_var 0) de_int) de_int)) (da_cons (de_add ok de_int (de_mod (de_div (de_var 0) de_int) de_int)) (da_cons (de_add ok de_int (de_mod (de_var 0) de_int)) da_nil)))))))))))
theorem sc_words_of : FnScope ["signs", "words", "word", "sign"] ["signs"] (defScope (top 15)) := ⟨rfl, rfl, rfl, by decide +kernel, rfl, by decide +kernel, by decide +kernel⟩
theorem fok_words_of (fx : Fx T base) : FOk T P w base 1 "words_of" pf_words_of 1 := by
  obtain ⟨f, fd, F, hm⟩ := fx.d_words_of
  exact fok_mk (st := (top 15)) (ps := ["signs"]) fx.tx F hm (F.binds fun _ _ _ _ _ _ us hl => match us, hl with | [_], _ => rfl) sc_words_of rfl rfl (b := pb_words_of) (fun cdv A outer s H B0 E sb ok tk =>
 (dss_cons (ds_set 1 ok (de_lst ok da_nil))
 (dss_cons (ds_set 2 ok (de_lst ok da_nil))
 (dss_cons (ds_for ok (di_list ok (de_var 0)) (dg_name 3 ok)
 (dss_one (ds_if (dt_nin ok (de_var 3) (de_glob ok fx.g_WHITE))
 (dss_one (ds_app 2 ok (de_var 3)))
 (dss_one (ds_if (dt_ne ok (de_var 2) (de_lst ok da_nil))
 (dss_cons (ds_frz [2] (ds_app 1 ok (de_var 2)))
 (dss_one (ds_set 2 ok (de_lst ok da_nil))))
 dss_nil)))))
 (dss_cons (ds_if (dt_ne ok (de_var 2) (de_lst ok da_nil))
 (dss_one (ds_frz [2] (ds_app 1 ok (de_var 2))))
 dss_nil)
 (dss_one (ds_retV 1)))))))
theorem sc_joined : FnScope ["parts", "between", "signs", "at", "part"] ["parts", "between"] (defScope (top 16)) := ⟨rfl, rfl, rfl, by decide +kernel, rfl, by decide +kernel, by decide +kernel⟩
theorem fok_joined (fx : Fx T base) : FOk T P w base 1 "joined" pf_joined 2 := by
  obtain ⟨f, fd, F, hm⟩ := fx.d_joined
  exact fok_mk (st := (top 16)) (ps := ["parts", "between"]) fx.tx F hm (F.binds fun _ _ _ _ _ _ us hl => match us, hl with | [_, _], _ => rfl) sc_joined rfl rfl (b := pb_joined) (fun cdv A outer s H B0 E sb ok tk =>
 (dss_cons (ds_set 2 ok (de_lst ok da_nil))
 (dss_cons (ds_for ok (di_enum ok fx.n_enumerate (de_var 0)) (dg_tup ok (dgs_cons (dg_name 3 ok) (dgs_cons (dg_name 4 ok) dgs_nil)))
 (dss_cons (ds_if (dt_gt (de_var 3) de_int)
 (dss_one (ds_ext 2 ok (de_var 1)))
 dss_nil)
 (dss_one (ds_ext 2 ok (de_var 4)))))
 (dss_one (ds_retV 2)))))
theorem sc_is_digit : FnScope ["sign"] ["sign"] (defScope (top 20)) := ⟨rfl, rfl, rfl, by decide +kernel, rfl, by decide +kernel, by decide +kernel⟩
theorem fok_is_digit (fx : Fx T base) : FOk T P w base 1 "is_digit" pf_is_digit 1 := by
  obtain ⟨f, fd, F, hm⟩ := fx.d_is_digit
  exact fok_mk (st := (top 20)) (ps := ["sign"]) fx.tx F hm (F.binds fun _ _ _ _ _ _ us hl => match us, hl with | [_], _ => rfl) sc_is_digit rfl rfl (b := pb_is_digit) (fun cdv A outer s H B0 E sb ok tk =>
 (dss_one (ds_ret (de_chain op_le op_le (ok_cmp _) (nox_cmp _) (ok_cmp _) (nox_cmp _) de_int (de_var 0) de_int))))
theorem sc_is_lower : FnScope ["sign"] ["sign"] (defScope (top 21)) := ⟨rfl, rfl, rfl, by decide +kernel, rfl, by decide +kernel, by decide +kernel⟩
theorem fok_is_lower (fx : Fx T base) : FOk T P w base 1 "is_lower" pf_is_lower 1 := by
  obtain ⟨f, fd, F, hm⟩ := fx.d_is_lower
  exact fok_mk (st := (top 21)) (ps := ["sign"]) fx.tx F hm (F.binds fun _ _ _ _ _ _ us hl => match us, hl with | [_], _ => rfl) sc_is_lower rfl rfl (b := pb_is_lower) (fun cdv A outer s H B0 E sb ok tk =>
 (dss_one (ds_ret (de_chain op_le op_le (ok_cmp _) (nox_cmp _) (ok_cmp _) (nox_cmp _) de_int (de_var 0) de_int))))
theorem sc_is_upper : FnScope ["sign"] ["sign"] (defScope (top 22)) := ⟨rfl, rfl, rfl, by decide +kernel, rfl, by decide +kernel, by decide +kernel⟩
theorem fok_is_upper (fx : Fx T base) : FOk T P w base 1 "is_upper" pf_is_upper 1 := by
  obtain ⟨f, fd, F, hm⟩ := fx.d_is_upper
  exact fok_mk (st := (top 22)) (ps := ["sign"]) fx.tx F hm (F.binds fun _ _ _ _ _ _ us hl => match us, hl with | [_], _ => rfl) sc_is_upper rfl rfl (b := pb_is_upper) (fun cdv A outer s H B0 E sb ok tk =>
 (dss_one (ds_ret (de_chain op_le op_le (ok_cmp _) (nox_cmp _) (ok_cmp _) (nox_cmp _) de_int (de_var 0) de_int))))
theorem sc_Pattern_occurs_at : FnScope ["self", "signs", "at"] ["self", "signs", "at"] (defScope (inClass (top 23) 1)) := ⟨rfl, rfl, rfl, by decide +kernel, rfl, by decide +kernel, by decide +kernel⟩
theorem fok_Pattern_occurs_at (fx : Fx T base) : MOk T P w base 1 0 "occurs_at" pf_Pattern_occurs_at 3 := by
  obtain ⟨f, fd, F, M⟩ := fx.m_Pattern_occurs_at
  refine ⟨fx.i_Pattern.cl, by rw [fx.nm_Pattern]; decide +kernel, ⟨f, fd, ["self", "signs", "at"], fnok_mk (st := (inClass (top 23) 1)) (ps := ["self", "signs", "at"]) fx.tx F sc_Pattern_occurs_at rfl rfl (b := pb_Pattern_occurs_at) (fun cdv A outer s H B0 E sb ok tk => ?_), M, F.binds fun _ _ _ _ _ _ us hl => match us, hl with | [_, _, _], _ => rfl⟩, run_ar⟩
  exact (dss_one (ds_ret (de_eq ok (de_slice ok (de_var 1) (do_some (de_var 2)) (do_some (de_add ok (de_var 2) (de_len ok fx.n_len (de_attr ok (at_Pattern_letters fx) (de_var 0)))))) (de_attr ok (at_Pattern_letters fx) (de_var 0)))))
theorem sc_parts_of : FnScope ["word", "parts", "begin", "at"] ["word"] (defScope (top 37)) := ⟨rfl, rfl, rfl, by decide +kernel, rfl, by decide +kernel, by decide +kernel⟩
theorem fok_parts_of (fx : Fx T base) : FOk T P w base 1 "parts_of" pf_parts_of 1 := by
  obtain ⟨f, fd, F, hm⟩ := fx.d_parts_of
  exact fok_mk (st := (top 37)) (ps := ["word"]) fx.tx F hm (F.binds fun _ _ _ _ _ _ us hl => match us, hl with | [_], _ => rfl) sc_parts_of rfl rfl (b := pb_parts_of) (fun cdv A outer s H B0 E sb ok tk =>
 (dss_cons (ds_set 1 ok (de_lst ok da_nil))
 (dss_cons (ds_setK 2 ok de_int)
 (dss_cons (ds_for ok (di_range1 ok fx.n_range (de_sub (de_len ok fx.n_len (de_var 0)) de_int)) (dg_name 3 ok)
 (dss_one (ds_if (DW.dt (dw_and (dt_eq ok (de_ix ok (de_var 0) (de_var 3)) (de_glob ok fx.g_HYPHEN)) (dw_and1 (dt_ne ok (de_ix ok (de_var 0) (de_add ok (de_var 3) de_int)) (de_glob ok fx.g_HYPHEN)))))
 (dss_cons (ds_app 1 ok (de_slice ok (de_var 0) (do_some (de_var 2)) (do_some (de_add ok (de_var 3) de_int))))
 (dss_one (ds_setK 2 ok (de_add ok (de_var 3) de_int))))
 dss_nil)))
 (dss_cons (ds_app 1 ok (de_slice ok (de_var 0) (do_some (de_var 2)) do_none))
 (dss_one (ds_retV 1)))))))
theorem sc_line_of : FnScope ["pieces", "signs", "at", "piece", "is_last"] ["pieces"] (defScope (top 40)) := ⟨rfl, rfl, rfl, by decide +kernel, rfl, by decide +kernel, by decide +kernel⟩
theorem fok_line_of (fx : Fx T base) : FOk T P w base 1 "line_of" pf_line_of 1 := by
  obtain ⟨f, fd, F, hm⟩ := fx.d_line_of
  exact fok_mk (st := (top 40)) (ps := ["pieces"]) fx.tx F hm (F.binds fun _ _ _ _ _ _ us hl => match us, hl with | [_], _ => rfl) sc_line_of rfl rfl (b := pb_line_of) (fun cdv A outer s H B0 E sb ok tk =>
 (dss_cons (ds_set 1 ok (de_lst ok da_nil))
 (dss_cons (ds_for ok (di_enum ok fx.n_enumerate (de_var 0)) (dg_tup ok (dgs_cons (dg_name 2 ok) (dgs_cons (dg_name 3 ok) dgs_nil)))
 (dss_cons (ds_ext 1 ok (de_attr ok (at_Piece_signs fx) (de_var 3)))
 (dss_cons (ds_setK 4 ok (de_eq ok (de_var 2) (de_sub (de_len ok fx.n_len (de_var 0)) de_int)))
 (dss_cons (ds_if (DW.dt (dw_and (dt_eq ok (de_attr ok (at_Piece_joint fx) (de_var 3)) (de_glob ok fx.g_AFTER_WORD)) (dw_and1 (dt_not (dt_val (de_var 4))))))
 (dss_one (ds_app 1 ok (de_glob ok fx.g_SPACE)))
 dss_nil)
 (dss_one (ds_if (DW.dt (dw_and (dt_eq ok (de_attr ok (at_Piece_joint fx) (de_var 3)) (de_glob ok fx.g_IN_WORD)) (dw_and1 (dt_val (de_var 4)))))
 (dss_one (ds_app 1 ok (de_glob ok fx.g_HYPHEN)))
 dss_nil))))))
 (dss_one (ds_retV 1)))))
theorem sc_parts_from : FnScope ["counts", "found", "at"] ["counts"] (defScope (top 43)) := ⟨rfl, rfl, rfl, by decide +kernel, rfl, by decide +kernel, by decide +kernel⟩
theorem fok_parts_from (fx : Fx T base) : FOk T P w base 1 "parts_from" pf_parts_from 1 := by
  obtain ⟨f, fd, F, hm⟩ := fx.d_parts_from
  exact fok_mk (st := (top 43)) (ps := ["counts"]) fx.tx F hm (F.binds fun _ _ _ _ _ _ us hl => match us, hl with | [_], _ => rfl) sc_parts_from rfl rfl (b := pb_parts_from) (fun cdv A outer s H B0 E sb ok tk =>
 (dss_cons (ds_set 1 ok (de_lst ok da_nil))
 (dss_cons (ds_setK 2 ok de_int)
 (dss_cons (ds_while ok (dt_lt (de_var 2) (de_len ok fx.n_len (de_var 0)))
 (dss_cons (ds_app 1 ok (de_ix ok (de_var 0) (de_var 2)))
 (dss_one (ds_augA 2 ok (de_ix ok (de_var 0) (de_var 2))))))
 (dss_one (ds_retV 1))))))
theorem sc_ask : FnScope ["good", "code"] ["good", "code"] (defScope (top 53)) := ⟨rfl, rfl, rfl, by decide +kernel, rfl, by decide +kernel, by decide +kernel⟩
theorem fok_ask (fx : Fx T base) : FOk T P w base 1 "ask" pf_ask 2 := by
  obtain ⟨f, fd, F, hm⟩ := fx.d_ask
  exact fok_mk (st := (top 53)) (ps := ["good", "code"]) fx.tx F hm (F.binds fun _ _ _ _ _ _ us hl => match us, hl with | [_, _], _ => rfl) sc_ask rfl rfl (b := pb_ask) (fun cdv A outer s H B0 E sb ok tk =>
 (dss_one (ds_if (dt_not (dt_val (de_var 0)))
 (dss_one (ds_refuse ok fx.ref.choose_spec tk (de_var 1)))
 dss_nil)))
theorem sc_sign_at : FnScope ["numbers", "at", "size", "sign", "k", "part"] ["numbers", "at", "size"] (defScope (top 11)) := ⟨rfl, rfl, rfl, by decide +kernel, rfl, by decide +kernel, by decide +kernel⟩
theorem fok_sign_at (fx : Fx T base) : FOk T P w base 2 "sign_at" pf_sign_at 3 := by
  obtain ⟨f, fd, F, hm⟩ := fx.d_sign_at
  exact fok_mk (st := (top 11)) (ps := ["numbers", "at", "size"]) fx.tx F hm (F.binds fun _ _ _ _ _ _ us hl => match us, hl with | [_, _, _], _ => rfl) sc_sign_at rfl rfl (b := pb_sign_at) (fun cdv A outer s H B0 E sb ok tk =>
 (dss_cons (ds_if (DW.dt (dw_or (dt_eq ok (de_var 2) de_int) (dw_or1 (dt_gt (de_add ok (de_var 1) (de_var 2)) (de_len ok fx.n_len (de_var 0))))))
 (dss_one (ds_ret de_non))
 dss_nil)
 (dss_cons (ds_setK 3 ok (de_sub (de_ix ok (de_var 0) (de_var 1)) (de_ix ok (de_glob ok fx.g_LEADS) (de_var 2))))
 (dss_cons (ds_for ok (di_range2 ok fx.n_range de_int (de_var 2)) (dg_name 4 ok)
 (dss_cons (ds_setK 5 ok (de_ix ok (de_var 0) (de_add ok (de_var 1) (de_var 4))))
 (dss_cons (ds_if (dt_not (dt_chain op_le op_lt (ok_cmp _) (nox_cmp _) (ok_cmp _) (nox_cmp _) de_int (de_var 5) de_int))
 (dss_one (ds_ret de_non))
 dss_nil)
 (dss_one (ds_setK 3 ok (de_sub (de_add ok (de_mul ok de_int (de_var 3)) (de_var 5)) de_int))))))
 (dss_one (ds_ret (de_if (DW.dt (dw_and (dt_ge (de_var 3) (de_ix ok (de_glob ok fx.g_LEAST) (de_var 2))) (dw_and1 (dt_val (de_call ok (fok_is_sign fx) (by decide) (da_cons (de_var 3) da_nil)))))) (de_var 3) de_non)))))))
theorem sc_encoded : FnScope ["signs", "numbers", "sign"] ["signs"] (defScope (top 14)) := ⟨rfl, rfl, rfl, by decide +kernel, rfl, by decide +kernel, by decide +kernel⟩
theorem fok_encoded (fx : Fx T base) : FOk T P w base 2 "encoded" pf_encoded 1 := by
  obtain ⟨f, fd, F, hm⟩ := fx.d_encoded
  exact fok_mk (st := (top 14)) (ps := ["signs"]) fx.tx F hm (F.binds fun _ _ _ _ _ _ us hl => match us, hl with | [_], _ => rfl) sc_encoded rfl rfl (b := pb_encoded) (fun cdv A outer s H B0 E sb ok tk =>
 (dss_cons (ds_set 1 ok (de_lst ok da_nil))
 (dss_cons (ds_for ok (di_list ok (de_var 0)) (dg_name 2 ok)
 (dss_one (ds_ext 1 ok (de_call ok (fok_bytes_of fx) (by decide) (da_cons (de_var 2) da_nil)))))
 (dss_one (ds_retV 1)))))
theorem sc_lowered : FnScope ["word", "sign"] ["word"] (defScope (top 26)) := ⟨rfl, rfl, rfl, by decide +kernel, rfl, by decide +kernel, by decide +kernel⟩
theorem fok_lowered (fx : Fx T base) : FOk T P w base 2 "lowered" pf_lowered 1 := by
  obtain ⟨f, fd, F, hm⟩ := fx.d_lowered
  exact fok_mk (st := (top 26)) (ps := ["word"]) fx.tx F hm (F.binds fun _ _ _ _ _ _ us hl => match us, hl with | [_], _ => rfl) sc_lowered rfl rfl (b := pb_lowered) (fun cdv A outer s H B0 E sb ok tk =>
 (dss_one (ds_ret (de_lc [("sign", 1)] ok (dir_list ok (de_var 0)) (blkOk_by (N := ["word", "sign"]) (sc := defScope (top 26)) (own := [("sign", 1)]) (by decide +kernel)) (fun s₁ H₁ c₁ cl₁ fp₁ ok => (dg_name 1 ok)) (by decide) (fun s₁ H₁ c₁ cl₁ fp₁ ok => dts_nil) (fun s₁ H₁ c₁ cl₁ fp₁ ok => (de_if (dt_val (de_call ok (fok_is_upper fx) (by decide) (da_cons (de_var 1) da_nil))) (de_add ok (de_var 1) de_int) (de_var 1)))))))
theorem sc_greatest_levels : FnScope ["patterns", "signs", "levels", "pattern", "at", "k", "level"] ["patterns", "signs"] (defScope (top 27)) := ⟨rfl, rfl, rfl, by decide +kernel, rfl, by decide +kernel, by decide +kernel⟩
theorem fok_greatest_levels (fx : Fx T base) : FOk T P w base 2 "greatest_levels" pf_greatest_levels 2 := by
  obtain ⟨f, fd, F, hm⟩ := fx.d_greatest_levels
  exact fok_mk (st := (top 27)) (ps := ["patterns", "signs"]) fx.tx F hm (F.binds fun _ _ _ _ _ _ us hl => match us, hl with | [_, _], _ => rfl) sc_greatest_levels rfl rfl (b := pb_greatest_levels) (fun cdv A outer s H B0 E sb ok tk =>
 (dss_cons (ds_set 2 ok (de_mul ok (de_lst ok (da_cons de_int da_nil)) (de_add ok (de_len ok fx.n_len (de_var 1)) de_int)))
 (dss_cons (ds_for ok (di_list ok (de_var 0)) (dg_name 3 ok)
 (dss_one (ds_for ok (di_range1 ok fx.n_range (de_add ok (de_sub (de_len ok fx.n_len (de_var 1)) (de_len ok fx.n_len (de_attr ok (at_Pattern_letters fx) (de_var 3)))) de_int)) (dg_name 4 ok)
 (dss_one (ds_if (dt_val (de_meth ok (fok_Pattern_occurs_at fx) (by decide) (de_var 3) (da_cons (de_var 1) (da_cons (de_var 4) da_nil))))
 (dss_one (ds_for ok (di_enum ok fx.n_enumerate (de_attr ok (at_Pattern_levels fx) (de_var 3))) (dg_tup ok (dgs_cons (dg_name 5 ok) (dgs_cons (dg_name 6 ok) dgs_nil)))
 (dss_one (ds_put 2 ok (de_add ok (de_var 4) (de_var 5)) (de_max2 ok fx.n_max (de_ix ok (de_var 2) (de_add ok (de_var 4) (de_var 5))) (de_var 6))))))
 dss_nil)))))
 (dss_one (ds_retV 2)))))
theorem sc_line_cost : FnScope ["width", "pieces", "is_last", "many", "cost"] ["width", "pieces", "is_last"] (defScope (top 41)) := ⟨rfl, rfl, rfl, by decide +kernel, rfl, by decide +kernel, by decide +kernel⟩
theorem fok_line_cost (fx : Fx T base) : FOk T P w base 2 "line_cost" pf_line_cost 3 := by
  obtain ⟨f, fd, F, hm⟩ := fx.d_line_cost
  exact fok_mk (st := (top 41)) (ps := ["width", "pieces", "is_last"]) fx.tx F hm (F.binds fun _ _ _ _ _ _ us hl => match us, hl with | [_, _, _], _ => rfl) sc_line_cost rfl rfl (b := pb_line_cost) (fun cdv A outer s H B0 E sb ok tk =>
 (dss_cons (ds_setK 3 ok (de_len ok fx.n_len (de_call ok (fok_line_of fx) (by decide) (da_cons (de_var 1) da_nil))))
 (dss_cons (ds_if (DW.dt (dw_and (dt_gt (de_var 3) (de_var 0)) (dw_and1 (dt_gt (de_len ok fx.n_len (de_var 1)) de_int))))
 (dss_one (ds_ret de_non))
 dss_nil)
 (dss_cons (ds_setK 4 ok (de_mul ok (de_glob ok fx.g_TOO_LONG) (de_sub (de_var 3) (de_var 0))))
 (dss_cons (ds_if (dt_le (de_var 3) (de_var 0))
 (dss_one (ds_setK 4 ok (de_if (dt_val (de_var 2)) de_int (de_mul ok (de_sub (de_var 0) (de_var 3)) (de_sub (de_var 0) (de_var 3))))))
 dss_nil)
 (dss_one (ds_ret (de_if (dt_eq ok (de_attr ok (at_Piece_joint fx) (de_ix ok (de_var 1) (de_neg de_int))) (de_glob ok fx.g_IN_WORD)) (de_add ok (de_var 4) (de_glob ok fx.g_DIVIDED)) (de_var 4)))))))))
theorem sc_lines_by : FnScope ["pieces", "counts", "lines", "first", "count"] ["pieces", "counts"] (defScope (top 45)) := ⟨rfl, rfl, rfl, by decide +kernel, rfl, by decide +kernel, by decide +kernel⟩
theorem fok_lines_by (fx : Fx T base) : FOk T P w base 2 "lines_by" pf_lines_by 2 := by
  obtain ⟨f, fd, F, hm⟩ := fx.d_lines_by
  exact fok_mk (st := (top 45)) (ps := ["pieces", "counts"]) fx.tx F hm (F.binds fun _ _ _ _ _ _ us hl => match us, hl with | [_, _], _ => rfl) sc_lines_by rfl rfl (b := pb_lines_by) (fun cdv A outer s H B0 E sb ok tk =>
 (dss_cons (ds_set 2 ok (de_lst ok da_nil))
 (dss_cons (ds_setK 3 ok de_int)
 (dss_cons (ds_for ok (di_list ok (de_var 1)) (dg_name 4 ok)
 (dss_cons (ds_app 2 ok (de_call ok (fok_line_of fx) (by decide) (da_cons (de_slice ok (de_var 0) (do_some (de_var 3)) (do_some (de_add ok (de_var 3) (de_var 4)))) da_nil)))
 (dss_one (ds_augA 3 ok (de_var 4)))))
 (dss_one (ds_retV 2))))))
theorem sc_check_width : FnScope ["width"] ["width"] (defScope (top 54)) := ⟨rfl, rfl, rfl, by decide +kernel, rfl, by decide +kernel, by decide +kernel⟩
theorem fok_check_width (fx : Fx T base) : FOk T P w base 2 "check_width" pf_check_width 1 := by
  obtain ⟨f, fd, F, hm⟩ := fx.d_check_width
  exact fok_mk (st := (top 54)) (ps := ["width"]) fx.tx F hm (F.binds fun _ _ _ _ _ _ us hl => match us, hl with | [_], _ => rfl) sc_check_width rfl rfl (b := pb_check_width) (fun cdv A outer s H B0 E sb ok tk =>
 (dss_one (ds_expr (de_call ok (fok_ask fx) (by decide) (da_cons (de_chain op_le op_le (ok_cmp _) (nox_cmp _) (ok_cmp _) (nox_cmp _) (de_glob ok fx.g_LEAST_WIDTH) (de_var 0) (de_glob ok fx.g_GREATEST_WIDTH)) (da_cons (de_glob ok fx.g_BAD_INTEGER) da_nil))))))
theorem sc_decoded : FnScope ["numbers", "signs", "at", "size", "sign"] ["numbers"] (defScope (top 12)) := ⟨rfl, rfl, rfl, by decide +kernel, rfl, by decide +kernel, by decide +kernel⟩
theorem fok_decoded (fx : Fx T base) : FOk T P w base 3 "decoded" pf_decoded 1 := by
  obtain ⟨f, fd, F, hm⟩ := fx.d_decoded
  exact fok_mk (st := (top 12)) (ps := ["numbers"]) fx.tx F hm (F.binds fun _ _ _ _ _ _ us hl => match us, hl with | [_], _ => rfl) sc_decoded rfl rfl (b := pb_decoded) (fun cdv A outer s H B0 E sb ok tk =>
 (dss_cons (ds_set 1 ok (de_lst ok da_nil))
 (dss_cons (ds_setK 2 ok de_int)
 (dss_cons (ds_while ok (dt_lt (de_var 2) (de_len ok fx.n_len (de_var 0)))
 (dss_cons (ds_setK 3 ok (de_call ok (fok_size_by fx) (by decide) (da_cons (de_ix ok (de_var 0) (de_var 2)) da_nil)))
 (dss_cons (ds_setK 4 ok (de_call ok (fok_sign_at fx) (by decide) (da_cons (de_var 0) (da_cons (de_var 2) (da_cons (de_var 3) da_nil)))))
 (dss_cons (ds_if (dt_isN (de_var 4))
 (dss_one (ds_ret de_non))
 dss_nil)
 (dss_cons (ds_app 1 ok (de_var 4))
 (dss_one (ds_augA 2 ok (de_var 3))))))))
 (dss_one (ds_retV 1))))))
theorem sc_pattern_of : FnScope ["word", "letters", "levels", "digit", "sign"] ["word"] (defScope (top 24)) := ⟨rfl, rfl, rfl, by decide +kernel, rfl, by decide +kernel, by decide +kernel⟩
theorem fok_pattern_of (fx : Fx T base) : FOk T P w base 3 "pattern_of" pf_pattern_of 1 := by
  obtain ⟨f, fd, F, hm⟩ := fx.d_pattern_of
  exact fok_mk (st := (top 24)) (ps := ["word"]) fx.tx F hm (F.binds fun _ _ _ _ _ _ us hl => match us, hl with | [_], _ => rfl) sc_pattern_of rfl rfl (b := pb_pattern_of) (fun cdv A outer s H B0 E sb ok tk =>
 (dss_cons (ds_set 1 ok (de_lst ok da_nil))
 (dss_cons (ds_set 2 ok (de_lst ok da_nil))
 (dss_cons (ds_setK 3 ok de_non)
 (dss_cons (ds_for ok (di_list ok (de_var 0)) (dg_name 4 ok)
 (dss_one (ds_if (DW.dt (dw_and (dt_val (de_call ok (fok_is_digit fx) (by decide) (da_cons (de_var 4) da_nil))) (dw_and1 (dt_isN (de_var 3)))))
 (dss_one (ds_setK 3 ok (de_sub (de_var 4) de_int)))
 (dss_one (ds_if (DW.dt (dw_or (dt_val (de_call ok (fok_is_lower fx) (by decide) (da_cons (de_var 4) da_nil))) (dw_or1 (dt_eq ok (de_var 4) (de_glob ok fx.g_POINT)))))
 (dss_cons (ds_app 1 ok (de_var 4))
 (dss_cons (ds_app 2 ok (de_if (dt_isN (de_var 3)) de_int (de_var 3)))
 (dss_one (ds_setK 3 ok de_non))))
 (dss_one (ds_ret de_non)))))))
 (dss_cons (ds_app 2 ok (de_if (dt_isN (de_var 3)) de_int (de_var 3)))
 (dss_one (ds_frz [1, 2] (ds_ret (de_if (dt_ne ok (de_var 1) (de_lst ok da_nil)) (de_make ok (fok_Pattern fx) (by decide) (da_cons (de_var 1) (da_cons (de_var 2) da_nil))) de_non))))))))))
theorem sc_positions_of : FnScope ["patterns", "word", "sign", "levels", "k"] ["patterns", "word"] (defScope (top 28)) := ⟨rfl, rfl, rfl, by decide +kernel, rfl, by decide +kernel, by decide +kernel⟩
theorem fok_positions_of (fx : Fx T base) : FOk T P w base 3 "positions_of" pf_positions_of 2 := by
  obtain ⟨f, fd, F, hm⟩ := fx.d_positions_of
  exact fok_mk (st := (top 28)) (ps := ["patterns", "word"]) fx.tx F hm (F.binds fun _ _ _ _ _ _ us hl => match us, hl with | [_, _], _ => rfl) sc_positions_of rfl rfl (b := pb_positions_of) (fun cdv A outer s H B0 E sb ok tk =>
 (dss_cons (ds_if (dt_not (dt_val (de_all ok fx.n_all (de_lc [("sign", 2)] ok (dir_list ok (de_var 1)) (blkOk_by (N := ["patterns", "word", "sign", "levels", "k"]) (sc := defScope (top 28)) (own := [("sign", 2)]) (by decide +kernel)) (fun s₁ H₁ c₁ cl₁ fp₁ ok => (dg_name 2 ok)) (by decide) (fun s₁ H₁ c₁ cl₁ fp₁ ok => dts_nil) (fun s₁ H₁ c₁ cl₁ fp₁ ok => (de_or (de_call ok (fok_is_lower fx) (by decide) (da_cons (de_var 2) da_nil)) (de_one (de_call ok (fok_is_upper fx) (by decide) (da_cons (de_var 2) da_nil)))))))))
 (dss_one (ds_ret (de_lst ok da_nil)))
 dss_nil)
 (dss_cons (ds_setK 3 ok (de_call ok (fok_greatest_levels fx) (by decide) (da_cons (de_var 0) (da_cons (de_add ok (de_add ok (de_lst ok (da_cons (de_glob ok fx.g_POINT) da_nil)) (de_call ok (fok_lowered fx) (by decide) (da_cons (de_var 1) da_nil))) (de_lst ok (da_cons (de_glob ok fx.g_POINT) da_nil))) da_nil))))
 (dss_one (ds_ret (de_lc [("k", 4)] ok (DI.r (di_range2 ok fx.n_range (de_glob ok fx.g_SIDE) (de_add ok (de_sub (de_len ok fx.n_len (de_var 1)) (de_glob ok fx.g_SIDE)) de_int))) (blkOk_by (N := ["patterns", "word", "sign", "levels", "k"]) (sc := defScope (top 28)) (own := [("k", 4)]) (by decide +kernel)) (fun s₁ H₁ c₁ cl₁ fp₁ ok => (dg_name 4 ok)) (by decide) (fun s₁ H₁ c₁ cl₁ fp₁ ok => (dts_one (dt_eq ok (de_mod (de_ix ok (de_var 3) (de_add ok (de_var 4) de_int)) de_int) de_int))) (fun s₁ H₁ c₁ cl₁ fp₁ ok => (de_var 4))))))))
theorem sc_text_answer : FnScope ["lines", "numbers"] ["lines"] (defScope (top 57)) := ⟨rfl, rfl, rfl, by decide +kernel, rfl, by decide +kernel, by decide +kernel⟩
theorem fok_text_answer (fx : Fx T base) : FOk T P w base 3 "text_answer" pf_text_answer 1 := by
  obtain ⟨f, fd, F, hm⟩ := fx.d_text_answer
  exact fok_mk (st := (top 57)) (ps := ["lines"]) fx.tx F hm (F.binds fun _ _ _ _ _ _ us hl => match us, hl with | [_], _ => rfl) sc_text_answer rfl rfl (b := pb_text_answer) (fun cdv A outer s H B0 E sb ok tk =>
 (dss_cons (ds_setK 1 ok (de_call ok (fok_encoded fx) (by decide) (da_cons (de_call ok (fok_joined fx) (by decide) (da_cons (de_var 0) (da_cons (de_lst ok (da_cons (de_glob ok fx.g_LINE_FEED) da_nil)) da_nil))) da_nil)))
 (dss_one (ds_ret (de_add ok (de_lst ok (da_cons (de_len ok fx.n_len (de_var 1)) da_nil)) (de_var 1))))))
theorem sc_read_patterns : FnScope ["signs", "patterns", "word", "pattern"] ["signs"] (defScope (top 25)) := ⟨rfl, rfl, rfl, by decide +kernel, rfl, by decide +kernel, by decide +kernel⟩
theorem fok_read_patterns (fx : Fx T base) : FOk T P w base 4 "read_patterns" pf_read_patterns 1 := by
  obtain ⟨f, fd, F, hm⟩ := fx.d_read_patterns
  exact fok_mk (st := (top 25)) (ps := ["signs"]) fx.tx F hm (F.binds fun _ _ _ _ _ _ us hl => match us, hl with | [_], _ => rfl) sc_read_patterns rfl rfl (b := pb_read_patterns) (fun cdv A outer s H B0 E sb ok tk =>
 (dss_cons (ds_set 1 ok (de_lst ok da_nil))
 (dss_cons (ds_for ok (di_list ok (de_call ok (fok_words_of fx) (by decide) (da_cons (de_var 0) da_nil))) (dg_name 2 ok)
 (dss_cons (ds_setK 3 ok (de_call ok (fok_pattern_of fx) (by decide) (da_cons (de_var 2) da_nil)))
 (dss_cons (ds_if (dt_isN (de_var 3))
 (dss_one (ds_ret de_non))
 dss_nil)
 (dss_one (ds_app 1 ok (de_var 3))))))
 (dss_one (ds_retV 1)))))
theorem sc_pieces_of_part : FnScope ["patterns", "part", "joint", "cuts", "pieces", "begin", "end"] ["patterns", "part", "joint"] (defScope (top 38)) := ⟨rfl, rfl, rfl, by decide +kernel, rfl, by decide +kernel, by decide +kernel⟩
theorem fok_pieces_of_part (fx : Fx T base) : FOk T P w base 4 "pieces_of_part" pf_pieces_of_part 3 := by
  obtain ⟨f, fd, F, hm⟩ := fx.d_pieces_of_part
  exact fok_mk (st := (top 38)) (ps := ["patterns", "part", "joint"]) fx.tx F hm (F.binds fun _ _ _ _ _ _ us hl => match us, hl with | [_, _, _], _ => rfl) sc_pieces_of_part rfl rfl (b := pb_pieces_of_part) (fun cdv A outer s H B0 E sb ok tk =>
 (dss_cons (ds_setK 3 ok (de_add ok (de_add ok (de_lst ok (da_cons de_int da_nil)) (de_call ok (fok_positions_of fx) (by decide) (da_cons (de_var 0) (da_cons (de_var 1) da_nil)))) (de_lst ok (da_cons (de_len ok fx.n_len (de_var 1)) da_nil))))
 (dss_cons (ds_set 4 ok (de_lst ok da_nil))
 (dss_cons (ds_for ok (di_zip ok fx.n_zip (de_var 3) (de_slice ok (de_var 3) (do_some de_int) do_none)) (dg_tup ok (dgs_cons (dg_name 5 ok) (dgs_cons (dg_name 6 ok) dgs_nil)))
 (dss_one (ds_app 4 ok (de_make ok (fok_Piece fx) (by decide) (da_cons (de_slice ok (de_var 1) (do_some (de_var 5)) (do_some (de_var 6))) (da_cons (de_if (dt_eq ok (de_var 6) (de_len ok fx.n_len (de_var 1))) (de_var 2) (de_glob ok fx.g_IN_WORD)) da_nil))))))
 (dss_one (ds_retV 4))))))
theorem sc_best_division : FnScope ["many", "cost_of", "costs", "counts", "first", "best", "stop", "cost"] ["many", "cost_of"] (defScope (top 42)) := ⟨rfl, rfl, rfl, by decide +kernel, rfl, by decide +kernel, by decide +kernel⟩
theorem fokB_best_division (fx : Fx T base) : ∃ f fd ps, (∀ q, FnOkS P w T.K T.mg base (L2.CX P w) 4 f fd ps (spB (T.nar q) P w base pG 3 2 (pf_best_division pG) 2)) ∧ T.mg "best_division" = some (.ref f) ∧ PySem.W.keepIn T.K (.ref f) = true ∧ Binds T.K fd ps [] := by
  obtain ⟨f, fd, F, hm⟩ := fx.d_best_division
  refine ⟨f, fd, ["many", "cost_of"], fun q => ?_, hm, F.kp, F.binds fun _ _ _ _ _ _ us hl => match us, hl with | [_, _], _ => rfl⟩
  have fx := fx.nar q
  exact fnokS_mk (T := T.nar q) (st := (top 42)) (ps := ["many", "cost_of"]) fx.tx F sc_best_division rfl rfl (b := pb_best_division pG) (fun cdv A outer s H B0 E sb ok cl =>
 (dss_cons (ds_set 2 ok (de_mul ok (de_lst ok (da_cons de_int da_nil)) (de_add ok (de_var 0) de_int)))
 (dss_cons (ds_set 3 ok (de_mul ok (de_lst ok (da_cons de_int da_nil)) (de_var 0)))
 (dss_cons (ds_for ok (di_rev1 ok fx.n_range fx.n_reversed (de_var 0)) (dg_name 4 ok)
 (dss_cons (ds_setK 5 ok de_non)
 (dss_cons (ds_for ok (di_range2 ok fx.n_range (de_add ok (de_var 4) de_int) (de_add ok (de_var 0) de_int)) (dg_name 6 ok)
 (dss_cons (ds_setK 7 ok (de_callC 1 ok cl (by decide) (da_cons (de_var 4) (da_cons (de_var 6) da_nil))))
 (dss_cons (ds_if (dt_isN (de_var 7))
 (dss_one ds_break)
 dss_nil)
 (dss_one (ds_if (DW.dt (dw_or (dt_isN (de_var 5)) (dw_or1 (dt_le (de_add ok (de_var 7) (de_ix ok (de_var 2) (de_var 6))) (de_var 5)))))
 (dss_cons (ds_setK 5 ok (de_add ok (de_var 7) (de_ix ok (de_var 2) (de_var 6))))
 (dss_one (ds_put 3 ok (de_var 4) (de_sub (de_var 6) (de_var 4)))))
 dss_nil)))))
 (dss_one (ds_put 2 ok (de_var 4) (de_var 5))))))
 (dss_one (ds_frz [3] (ds_ret (de_tup ok (da_cons (de_ix ok (de_var 2) de_int) (da_cons (de_call ok (fok_parts_from fx) (by decide) (da_cons (de_var 3) da_nil)) da_nil))))))))))
theorem sc_text_in : FnScope ["numbers", "signs"] ["numbers"] (defScope (top 55)) := ⟨rfl, rfl, rfl, by decide +kernel, rfl, by decide +kernel, by decide +kernel⟩
theorem fok_text_in (fx : Fx T base) : FOk T P w base 4 "text_in" pf_text_in 1 := by
  obtain ⟨f, fd, F, hm⟩ := fx.d_text_in
  exact fok_mk (st := (top 55)) (ps := ["numbers"]) fx.tx F hm (F.binds fun _ _ _ _ _ _ us hl => match us, hl with | [_], _ => rfl) sc_text_in rfl rfl (b := pb_text_in) (fun cdv A outer s H B0 E sb ok tk =>
 (dss_cons (ds_setK 1 ok (de_call ok (fok_decoded fx) (by decide) (da_cons (de_var 0) da_nil)))
 (dss_cons (ds_expr (de_call ok (fok_ask fx) (by decide) (da_cons (de_notN (de_var 1)) (da_cons (de_glob ok fx.g_BAD_TEXT) da_nil))))
 (dss_one (ds_retV 1)))))
theorem sc_pieces_of : FnScope ["patterns", "signs", "pieces", "word", "parts", "at", "part", "joint"] ["patterns", "signs"] (defScope (top 39)) := ⟨rfl, rfl, rfl, by decide +kernel, rfl, by decide +kernel, by decide +kernel⟩
theorem fok_pieces_of (fx : Fx T base) : FOk T P w base 5 "pieces_of" pf_pieces_of 2 := by
  obtain ⟨f, fd, F, hm⟩ := fx.d_pieces_of
  exact fok_mk (st := (top 39)) (ps := ["patterns", "signs"]) fx.tx F hm (F.binds fun _ _ _ _ _ _ us hl => match us, hl with | [_, _], _ => rfl) sc_pieces_of rfl rfl (b := pb_pieces_of) (fun cdv A outer s H B0 E sb ok tk =>
 (dss_cons (ds_set 2 ok (de_lst ok da_nil))
 (dss_cons (ds_for ok (di_list ok (de_call ok (fok_words_of fx) (by decide) (da_cons (de_var 1) da_nil))) (dg_name 3 ok)
 (dss_cons (ds_setK 4 ok (de_call ok (fok_parts_of fx) (by decide) (da_cons (de_var 3) da_nil)))
 (dss_one (ds_for ok (di_enum ok fx.n_enumerate (de_var 4)) (dg_tup ok (dgs_cons (dg_name 5 ok) (dgs_cons (dg_name 6 ok) dgs_nil)))
 (dss_cons (ds_setK 7 ok (de_if (dt_eq ok (de_var 5) (de_sub (de_len ok fx.n_len (de_var 4)) de_int)) (de_glob ok fx.g_AFTER_WORD) (de_glob ok fx.g_AFTER_HYPHEN)))
 (dss_one (ds_ext 2 ok (de_call ok (fok_pieces_of_part fx) (by decide) (da_cons (de_var 0) (da_cons (de_var 6) (da_cons (de_var 7) da_nil)))))))))))
 (dss_one (ds_retV 2)))))
theorem nsc_best_lines_cost_of : NdefX.NScope ["first", "stop", "width", "pieces"] ["first", "stop"] ["width", "pieces"] (C8.fnScope (innerOf (top 44))) := NdefX.nscope_by (by decide +kernel)
theorem nok_best_lines_cost_of (fx : Fx T base) {f c : Addr} {qual : Str} {cl : List (Str × Addr)} : NdefX.NOk P w T.K T.mg base (L2.CX P w) 3 f (NdefX.NF.of (innerOf (top 44)) "cost_of" qual cl c) ["first", "stop"] ["width", "pieces"] (spN T pf_best_lines_cost_of 2) :=
  (nok_mk (ps := ["first", "stop"]) (fr := ["width", "pieces"]) (k := 2) fx.tx (F := NdefX.NF.of (innerOf (top 44)) "cost_of" qual cl c) nsc_best_lines_cost_of (fun doc pm ctv us hl => match us, hl with | [_, _], _ => rfl) rfl rfl rfl (b := pb_best_lines_cost_of) (fun A outer s H B0 E sb ok tk =>
 (dss_one (ds_ret (de_call ok (fok_line_cost fx) (by decide) (da_cons (de_var 2) (da_cons (de_slice ok (de_var 3) (do_some (de_var 0)) (do_some (de_var 1))) (da_cons (de_eq ok (de_var 1) (de_len ok fx.n_len (de_var 3))) da_nil)))))))).mono (by decide)
theorem sc_best_lines : FnScope ["width", "pieces", "cost_of"] ["width", "pieces"] (defScope (top 44)) := ⟨rfl, rfl, rfl, by decide +kernel, rfl, by decide +kernel, by decide +kernel⟩
theorem fok_best_lines (fx : Fx T base) : FOk T P w base 5 "best_lines" pf_best_lines 2 := by
  obtain ⟨TT, f, fd, c, P0, hJ, F, hm, hc, TB, hmem, hu⟩ := fx.k_best_lines
  refine ⟨⟨f, fd, ["width", "pieces"], fnok_nar (k := 4) (st := (top 44)) (ps := ["width", "pieces"]) fx.tx F sc_best_lines rfl rfl (fun X k1 f1 l1 F1 => k1 = 0 ∧ ∃ c1, F1 = NdefX.NF.of (innerOf (top 44)) "cost_of" (X.env.qual ++ "cost_of") (cloFrom X.env.cells (C8.fnScope (innerOf (top 44))).names []) c1) hc (shape2 (nx_un nox_len (nx_var 1))) (b := pb_best_lines) (fun A outer s H B0 E sb ok => ?_), hm, F.kp, F.binds fun _ _ _ _ _ _ us hl => match us, hl with | [_, _], _ => rfl⟩, run_ar⟩
  have hB : NdefX.ndefB (defScope (top 44)) (C8.fnScope (innerOf (top 44))) ["width", "pieces"] = true := by decide +kernel
  exact dss_cons (ds_clo 2 0 [0, 1] (st := (innerOf (top 44))) (name := "cost_of") rfl TB rfl hmem rfl hu (NdefX.ndef_free hB) rfl rfl rfl ok.nd rfl (by first | exact .inl rfl | exact .inr rfl) (.inl rfl) hJ (fun f2 c2 l2 => ⟨rfl, c2, rfl⟩))
    (dss_one (ds_ret (de_callB 2 0 [0, 1] (jb := 4) (jn := 3) (m := 2) ok ⟨fokB_best_division (T := T) fx⟩ (by decide) (fun q1 f1 l1 F1 ⟨_, c1, e1⟩ => by
      subst e1
      exact ⟨rfl, nok_best_lines_cost_of (T := T.nar q1) (fx.nar q1)⟩) (fun ds l1 hd cs h1 h2 => run_ar _ (by rw [List.length_append]; simp at h2; omega)) (fun okx => NdefX.Caps.made okx (NdefX.ndef_free hB) (NdefX.ndef_fr hB) rfl) (fun _ => rfl) rfl rfl (de_len ok fx.n_len (de_var 1)))))
theorem sc_patterns_in : FnScope ["numbers", "patterns"] ["numbers"] (defScope (top 56)) := ⟨rfl, rfl, rfl, by decide +kernel, rfl, by decide +kernel, by decide +kernel⟩
theorem fok_patterns_in (fx : Fx T base) : FOk T P w base 5 "patterns_in" pf_patterns_in 1 := by
  obtain ⟨f, fd, F, hm⟩ := fx.d_patterns_in
  exact fok_mk (st := (top 56)) (ps := ["numbers"]) fx.tx F hm (F.binds fun _ _ _ _ _ _ us hl => match us, hl with | [_], _ => rfl) sc_patterns_in rfl rfl (b := pb_patterns_in) (fun cdv A outer s H B0 E sb ok tk =>
 (dss_cons (ds_setK 1 ok (de_call ok (fok_read_patterns fx) (by decide) (da_cons (de_call ok (fok_text_in fx) (by decide) (da_cons (de_var 0) da_nil)) da_nil)))
 (dss_cons (ds_expr (de_call ok (fok_ask fx) (by decide) (da_cons (de_notN (de_var 1)) (da_cons (de_glob ok fx.g_BAD_PATTERNS) da_nil))))
 (dss_one (ds_retV 1)))))
theorem sc_pieces_in : FnScope ["width", "patterns", "text", "found"] ["width", "patterns", "text"] (defScope (top 59)) := ⟨rfl, rfl, rfl, by decide +kernel, rfl, by decide +kernel, by decide +kernel⟩
theorem fok_pieces_in (fx : Fx T base) : FOk T P w base 6 "pieces_in" pf_pieces_in 3 := by
  obtain ⟨f, fd, F, hm⟩ := fx.d_pieces_in
  exact fok_mk (st := (top 59)) (ps := ["width", "patterns", "text"]) fx.tx F hm (F.binds fun _ _ _ _ _ _ us hl => match us, hl with | [_, _, _], _ => rfl) sc_pieces_in rfl rfl (b := pb_pieces_in) (fun cdv A outer s H B0 E sb ok tk =>
 (dss_cons (ds_expr (de_call ok (fok_check_width fx) (by decide) (da_cons (de_var 0) da_nil)))
 (dss_cons (ds_setK 3 ok (de_call ok (fok_patterns_in fx) (by decide) (da_cons (de_var 1) da_nil)))
 (dss_one (ds_ret (de_call ok (fok_pieces_of fx) (by decide) (da_cons (de_var 3) (da_cons (de_call ok (fok_text_in fx) (by decide) (da_cons (de_var 2) da_nil)) da_nil))))))))
theorem sc_break_text : FnScope ["width", "patterns", "text", "pieces", "refusal"] ["width", "patterns", "text"] (defScope (top 60)) := ⟨rfl, rfl, rfl, by decide +kernel, rfl, by decide +kernel, by decide +kernel⟩
theorem fok_break_text (fx : Fx T base) : FOk T P w base 7 "break_text" pf_break_text 3 := by
  obtain ⟨f, fd, F, hm⟩ := fx.d_break_text
  exact fok_mk (st := (top 60)) (ps := ["width", "patterns", "text"]) fx.tx F hm (F.binds fun _ _ _ _ _ _ us hl => match us, hl with | [_, _, _], _ => rfl) sc_break_text rfl rfl (b := pb_break_text) (fun cdv A outer s H B0 E sb ok tk =>
 (dss_one (ds_tryRef 4 ok sb fx.ref.choose_spec (fun W pn xe ok =>
 (dss_cons (ds_setK 3 ok (de_call ok (fok_pieces_in fx) (by decide) (da_cons (de_var 0) (da_cons (de_var 1) (da_cons (de_var 2) da_nil)))))
 (dss_one (ds_ret (de_call ok (fok_text_answer fx) (by decide) (da_cons (de_call ok (fok_lines_by fx) (by decide) (da_cons (de_var 3) (da_cons (de_ix ok (de_call ok (fok_best_lines fx) (by decide) (da_cons (de_var 0) (da_cons (de_var 3) da_nil))) de_int) da_nil))) da_nil)))))))))
theorem top_break_text (fx : Fx T base) {f : Addr} {fd : FuncData} (F : Fun T.K "break_text" "break_text" (top 60) f fd) : FnOk P w T.K T.mg base (L2.CX P w) 7 f fd ["width", "patterns", "text"] (spF T pf_break_text 3) := by
  exact fnok_mk (st := (top 60)) (ps := ["width", "patterns", "text"]) fx.tx F sc_break_text rfl rfl (b := pb_break_text) (fun cdv A outer s H B0 E sb ok tk =>
 (dss_one (ds_tryRef 4 ok sb fx.ref.choose_spec (fun W pn xe ok =>
 (dss_cons (ds_setK 3 ok (de_call ok (fok_pieces_in fx) (by decide) (da_cons (de_var 0) (da_cons (de_var 1) (da_cons (de_var 2) da_nil)))))
 (dss_one (ds_ret (de_call ok (fok_text_answer fx) (by decide) (da_cons (de_call ok (fok_lines_by fx) (by decide) (da_cons (de_var 3) (da_cons (de_ix ok (de_call ok (fok_best_lines fx) (by decide) (da_cons (de_var 0) (da_cons (de_var 3) da_nil))) de_int) da_nil))) da_nil)))))))))
end
end S02
namespace S02
open PySem PySem.Spec PyProof.Rows L2 PW PF PL
open PySem.W (Codec)
theorem sat (T : Tx) (H : Hp) (xs : List V) (a : Codec.denoteAll PySem.Challenge.rw_plainlayout_s02_break_text.args) (j : T.J H) (hwi : Codec.withinAll PySem.Challenge.rw_plainlayout_s02_break_text.args a = true) (hx : DwAll T.K H xs (Codec.encAll PySem.Challenge.rw_plainlayout_s02_break_text.args a)) :
    spF T pf_break_text 3 xs H (fun v H' => Dw T.K H' v (PySem.Challenge.rw_plainlayout_s02_break_text.ret.enc (Codec.app PySem.Challenge.rw_plainlayout_s02_break_text.args PySem.Challenge.rw_plainlayout_s02_break_text.f a))) fun _ _ _ => False := by
  have q : (Codec.inInt 0 4294967295 a.1 && ((Codec.inLen 0 600 a.2.1 && a.2.1.all (Codec.inInt 0 255)) && ((Codec.inLen 0 600 a.2.2.1 && a.2.2.1.all (Codec.inInt 0 255)) && true))) = true := hwi
  rw [Bool.and_true, Bool.and_eq_true, Bool.and_eq_true, Bool.and_eq_true, Bool.and_eq_true] at q
  obtain ⟨q0, ⟨q1, q2⟩, q3, q4⟩ := q
  have hw := PZ.pos_of q0
  cases hx with
  | cons h1 h2 =>
    cases h2 with
    | cons h3 h4 =>
      cases h4 with
      | cons h5 h6 =>
        cases h6
        refine spF_args (ds := [.int a.1, .arg (a.2.1.map D.int), .arg (a.2.2.1.map D.int)]) j ⟨rep_int h1, rep_ints h3, rep_ints h5, trivial⟩ rfl ?_
        refine ego_ints2 (r := PyKh455.break_text a.1 a.2.1 a.2.2.1) ?_
        have e := break_text_eq a.1.toNat (a.2.1.map Int.toNat) (a.2.2.1.map Int.toNat) (by rw [List.length_map]; exact PZ.len_of q1) (by rw [List.length_map]; exact PZ.len_of q3)
        rw [← PZ.nats q2, ← PZ.nats q4, Int.toNat_of_nonneg hw] at e
        exact e
end S02
namespace S02
open PySem PySem.Spec PyProof.Rows L2 PW PF He
def fa : List Fa := [.noat "Pattern" "levels",
  .noat "Pattern" "letters",
  .glo "Pattern",
  .mkr "Pattern",
  .cls "Pattern",
  .noat "Piece" "joint",
  .noat "Piece" "signs",
  .glo "Piece",
  .mkr "Piece",
  .cls "Piece",
  .glo "size_by",
  .glo "is_sign",
  .glo "sign_at",
  .glo "decoded",
  .glo "bytes_of",
  .glo "encoded",
  .glo "words_of",
  .glo "joined",
  .glo "is_digit",
  .glo "is_lower",
  .glo "is_upper",
  .meth "Pattern" "occurs_at",
  .glo "pattern_of",
  .glo "read_patterns",
  .glo "lowered",
  .glo "greatest_levels",
  .glo "positions_of",
  .glo "parts_of",
  .glo "pieces_of_part",
  .glo "pieces_of",
  .glo "line_of",
  .glo "line_cost",
  .glo "best_division",
  .glo "parts_from",
  .glo "best_lines",
  .glo "lines_by",
  .glo "ask",
  .glo "check_width",
  .glo "text_in",
  .glo "patterns_in",
  .glo "text_answer",
  .glo "pieces_in",
  .glo "break_text",
  .free "all",
  .free "enumerate",
  .free "len",
  .free "max",
  .free "range",
  .free "reversed",
  .free "zip",
  .int "AFTER_HYPHEN" (1),
  .int "AFTER_WORD" (0),
  .int "BAD_INTEGER" (-22),
  .int "BAD_PATTERNS" (-21),
  .int "BAD_TEXT" (-24),
  .int "DIVIDED" (50),
  .int "FIRST_SURROGATE" (55296),
  .int "GREATEST" (1114111),
  .int "GREATEST_WIDTH" (80),
  .int "HYPHEN" (45),
  .int "IN_WORD" (2),
  .int "LAST_SURROGATE" (57343),
  .glo "LEADS",
  .glo "LEAST",
  .int "LEAST_WIDTH" (10),
  .int "LINE_FEED" (10),
  .int "POINT" (46),
  .int "SIDE" (2),
  .int "SPACE" (32),
  .int "TOO_LONG" (10000),
  .glo "WHITE",
  .glo "Refused"]
def fn : List DefD := [⟨("Pattern", some "__init__"), "__init__", "Pattern.__init__", defArgs (inClass (top 23) 0), defBody (inClass (top 23) 0), defScope (inClass (top 23) 0), [], []⟩,
  ⟨("Piece", some "__init__"), "__init__", "Piece.__init__", defArgs (inClass (top 36) 0), defBody (inClass (top 36) 0), defScope (inClass (top 36) 0), [], []⟩,
  ⟨("size_by", none), "size_by", "size_by", defArgs (top 9), defBody (top 9), defScope (top 9), [], []⟩,
  ⟨("is_sign", none), "is_sign", "is_sign", defArgs (top 10), defBody (top 10), defScope (top 10), [], []⟩,
  ⟨("sign_at", none), "sign_at", "sign_at", defArgs (top 11), defBody (top 11), defScope (top 11), [], []⟩,
  ⟨("decoded", none), "decoded", "decoded", defArgs (top 12), defBody (top 12), defScope (top 12), [], []⟩,
  ⟨("bytes_of", none), "bytes_of", "bytes_of", defArgs (top 13), defBody (top 13), defScope (top 13), [], []⟩,
  ⟨("encoded", none), "encoded", "encoded", defArgs (top 14), defBody (top 14), defScope (top 14), [], []⟩,
  ⟨("words_of", none), "words_of", "words_of", defArgs (top 15), defBody (top 15), defScope (top 15), [], []⟩,
  ⟨("joined", none), "joined", "joined", defArgs (top 16), defBody (top 16), defScope (top 16), [], []⟩,
  ⟨("is_digit", none), "is_digit", "is_digit", defArgs (top 20), defBody (top 20), defScope (top 20), [], []⟩,
  ⟨("is_lower", none), "is_lower", "is_lower", defArgs (top 21), defBody (top 21), defScope (top 21), [], []⟩,
  ⟨("is_upper", none), "is_upper", "is_upper", defArgs (top 22), defBody (top 22), defScope (top 22), [], []⟩,
  ⟨("Pattern", some "occurs_at"), "occurs_at", "Pattern.occurs_at", defArgs (inClass (top 23) 1), defBody (inClass (top 23) 1), defScope (inClass (top 23) 1), [], []⟩,
  ⟨("pattern_of", none), "pattern_of", "pattern_of", defArgs (top 24), defBody (top 24), defScope (top 24), [], []⟩,
  ⟨("read_patterns", none), "read_patterns", "read_patterns", defArgs (top 25), defBody (top 25), defScope (top 25), [], []⟩,
  ⟨("lowered", none), "lowered", "lowered", defArgs (top 26), defBody (top 26), defScope (top 26), [], []⟩,
  ⟨("greatest_levels", none), "greatest_levels", "greatest_levels", defArgs (top 27), defBody (top 27), defScope (top 27), [], []⟩,
  ⟨("positions_of", none), "positions_of", "positions_of", defArgs (top 28), defBody (top 28), defScope (top 28), [], []⟩,
  ⟨("parts_of", none), "parts_of", "parts_of", defArgs (top 37), defBody (top 37), defScope (top 37), [], []⟩,
  ⟨("pieces_of_part", none), "pieces_of_part", "pieces_of_part", defArgs (top 38), defBody (top 38), defScope (top 38), [], []⟩,
  ⟨("pieces_of", none), "pieces_of", "pieces_of", defArgs (top 39), defBody (top 39), defScope (top 39), [], []⟩,
  ⟨("line_of", none), "line_of", "line_of", defArgs (top 40), defBody (top 40), defScope (top 40), [], []⟩,
  ⟨("line_cost", none), "line_cost", "line_cost", defArgs (top 41), defBody (top 41), defScope (top 41), [], []⟩,
  ⟨("best_division", none), "best_division", "best_division", defArgs (top 42), defBody (top 42), defScope (top 42), [], []⟩,
  ⟨("parts_from", none), "parts_from", "parts_from", defArgs (top 43), defBody (top 43), defScope (top 43), [], []⟩,
  ⟨("best_lines", none), "best_lines", "best_lines", defArgs (top 44), defBody (top 44), defScope (top 44), [], []⟩,
  ⟨("lines_by", none), "lines_by", "lines_by", defArgs (top 45), defBody (top 45), defScope (top 45), [], []⟩,
  ⟨("ask", none), "ask", "ask", defArgs (top 53), defBody (top 53), defScope (top 53), [], []⟩,
  ⟨("check_width", none), "check_width", "check_width", defArgs (top 54), defBody (top 54), defScope (top 54), [], []⟩,
  ⟨("text_in", none), "text_in", "text_in", defArgs (top 55), defBody (top 55), defScope (top 55), [], []⟩,
  ⟨("patterns_in", none), "patterns_in", "patterns_in", defArgs (top 56), defBody (top 56), defScope (top 56), [], []⟩,
  ⟨("text_answer", none), "text_answer", "text_answer", defArgs (top 57), defBody (top 57), defScope (top 57), [], []⟩,
  ⟨("pieces_in", none), "pieces_in", "pieces_in", defArgs (top 59), defBody (top 59), defScope (top 59), [], []⟩,
  ⟨("break_text", none), "break_text", "break_text", defArgs (top 60), defBody (top 60), defScope (top 60), [], []⟩,
  ⟨("Refused", some "__init__"), "__init__", "Refused.__init__", defArgs (inClass (top 52) 0), defBody (inClass (top 52) 0), defScope (inClass (top 52) 0), [], []⟩]
def fnAt (i : Nat) : DefD := fn.getD i ⟨("", none), "", "", defArgs (top 0), [], defScope (top 0), [], []⟩
def tf : List Defn := [("best_lines", none)]
def exl : List (PySem.W.Frag → Bool) := [fun K => tupB K "LEADS" (([0, 0, 192, 224, 240] : List Int).map Dv.int),
  fun K => tupB K "LEAST" (([0, 0, 128, 2048, 65536] : List Int).map Dv.int),
  fun K => tupB K "WHITE" (([9, 10, 13, 32] : List Int).map Dv.int),
  fun K => refB K]
def ex (K : PySem.W.Frag) : Bool := exl.all fun p => p K
abbrev hk : PySem.W.Hook := hookX 5 fa fn [] tf ex
def ob (s : PySem.W.SharedT) : AlX := obsX 5 fa fn [] tf ex (HandSHeadRun.getT s)
theorem ob_eq (s : PySem.W.SharedT) : ob s = hk.obs s.abs := obsX_eq (HandSHeadRun.getT_eq s)
def names0 : List PySem.Str := ["LINE_FEED", "SPACE", "WHITE", "LEADS", "LEAST", "GREATEST", "FIRST_SURROGATE", "LAST_SURROGATE", "size_by", "is_sign", "sign_at", "decoded", "bytes_of", "encoded", "words_of", "joined", "POINT", "SIDE", "is_digit", "is_lower", "is_upper", "Pattern", "pattern_of", "read_patterns", "lowered", "greatest_levels", "positions_of", "HYPHEN", "AFTER_WORD", "AFTER_HYPHEN"]
def names1 : List PySem.Str := ["IN_WORD", "TOO_LONG", "DIVIDED", "Piece", "parts_of", "pieces_of_part", "pieces_of", "line_of", "line_cost", "best_division", "parts_from", "best_lines", "lines_by", "BAD_PATTERNS", "BAD_INTEGER", "BAD_TEXT", "LEAST_WIDTH", "GREATEST_WIDTH", "Refused", "ask", "check_width", "text_in", "patterns_in", "text_answer", "pieces_in"]
def names : List PySem.Str := names0 ++ names1
theorem run (w : World) : HandSHeadRun.RunEqS PySem.Challenge.rw_plainlayout_s02_break_text (PySem.W.view PySem.Challenge.rw_plainlayout_s02_break_text.prog [60]) hk ob 2000 names w := by
  intro os
  kernel_rfl
def tt (K : PySem.W.Frag) : List NdefX.NTab := [((cT K ("best_lines", none)).2, fun _ _ => "best_lines.<locals>.cost_of")]
abbrev tx (K : PySem.W.Frag) (mg : Str → Option Value) : Tx := ⟨K, mg, fun c => if c = 0 then ga K "Pattern" else if c = 1 then ga K "Piece" else 0, fun c => if c = 0 then ["letters", "levels"] else if c = 1 then ["signs", "joint"] else [], fun _ => "", ga K "Refused", 0, NdefX.TabsN (tt K), fun _ _ _ _ => False⟩
theorem facts {K : PySem.W.Frag} {h base : Heap} {mg : Str → Option Value} (X : K.In h) (G : h.Ns mainGlobals mg) (c : SaysD fa fn K) (e : (exl.all fun p => p K) = true) (TB : ∀ p ∈ tf, LamX.TabB base mg (cT K p).1 (cT K p).2) : Fx (tx K mg) base := by
  let T := tx K mg
  have tx : TxOk T := ⟨fun _ _ j s => tabs_js j s⟩
  have hJ : ∀ H, T.J H ↔ NdefX.TabsN (tt K) H := fun _ => Iff.rfl
  have HM0 : ((cT K ("best_lines", none)).2, (fun _ _ => "best_lines.<locals>.cost_of" : Nat → Nat → Str)) ∈ tt K := List.mem_of_getElem? (i := 0) rfl
  have HU0 : ∀ p ∈ tt K, p.1 = (cT K ("best_lines", none)).2 → p.2 = (fun _ _ => "best_lines.<locals>.cost_of" : Nat → Nat → Str) := fun p hp _ => by
    rcases List.mem_cons.mp hp with rfl | z
    · rfl
    · cases z
  have K_Pattern : ClsOk T 0 := cls_of (x := "Pattern") (fs := ["letters", "levels"]) rfl rfl (by decide +kernel) (c.facts (f := .cls "Pattern") (List.mem_of_getElem? (i := 4) rfl)) (List.forall_mem_cons.mpr ⟨(c.facts (f := .noat "Pattern" "letters") (List.mem_of_getElem? (i := 1) rfl)), List.forall_mem_cons.mpr ⟨(c.facts (f := .noat "Pattern" "levels") (List.mem_of_getElem? (i := 0) rfl)), fun _ h => nomatch h⟩⟩)
  have K_Piece : ClsOk T 1 := cls_of (x := "Piece") (fs := ["signs", "joint"]) rfl rfl (by decide +kernel) (c.facts (f := .cls "Piece") (List.mem_of_getElem? (i := 9) rfl)) (List.forall_mem_cons.mpr ⟨(c.facts (f := .noat "Piece" "signs") (List.mem_of_getElem? (i := 6) rfl)), List.forall_mem_cons.mpr ⟨(c.facts (f := .noat "Piece" "joint") (List.mem_of_getElem? (i := 5) rfl)), fun _ h => nomatch h⟩⟩)
  exact {
    tx := tx
    i_Pattern := init_of X G K_Pattern rfl (c.facts (f := .glo "Pattern") (List.mem_of_getElem? (i := 2) rfl)) (c.facts (f := .mkr "Pattern") (List.mem_of_getElem? (i := 3) rfl)) (fun_of c 0 (d := fnAt 0) (st := (inClass (top 23) 0)) rfl)
    nm_Pattern := rfl
    i_Piece := init_of X G K_Piece rfl (c.facts (f := .glo "Piece") (List.mem_of_getElem? (i := 7) rfl)) (c.facts (f := .mkr "Piece") (List.mem_of_getElem? (i := 8) rfl)) (fun_of c 1 (d := fnAt 1) (st := (inClass (top 36) 0)) rfl)
    nm_Piece := rfl
    d_size_by := def_of X G (c.facts (f := .glo "size_by") (List.mem_of_getElem? (i := 10) rfl)) (fun_of c 2 (d := fnAt 2) (st := (top 9)) rfl)
    d_is_sign := def_of X G (c.facts (f := .glo "is_sign") (List.mem_of_getElem? (i := 11) rfl)) (fun_of c 3 (d := fnAt 3) (st := (top 10)) rfl)
    d_sign_at := def_of X G (c.facts (f := .glo "sign_at") (List.mem_of_getElem? (i := 12) rfl)) (fun_of c 4 (d := fnAt 4) (st := (top 11)) rfl)
    d_decoded := def_of X G (c.facts (f := .glo "decoded") (List.mem_of_getElem? (i := 13) rfl)) (fun_of c 5 (d := fnAt 5) (st := (top 12)) rfl)
    d_bytes_of := def_of X G (c.facts (f := .glo "bytes_of") (List.mem_of_getElem? (i := 14) rfl)) (fun_of c 6 (d := fnAt 6) (st := (top 13)) rfl)
    d_encoded := def_of X G (c.facts (f := .glo "encoded") (List.mem_of_getElem? (i := 15) rfl)) (fun_of c 7 (d := fnAt 7) (st := (top 14)) rfl)
    d_words_of := def_of X G (c.facts (f := .glo "words_of") (List.mem_of_getElem? (i := 16) rfl)) (fun_of c 8 (d := fnAt 8) (st := (top 15)) rfl)
    d_joined := def_of X G (c.facts (f := .glo "joined") (List.mem_of_getElem? (i := 17) rfl)) (fun_of c 9 (d := fnAt 9) (st := (top 16)) rfl)
    d_is_digit := def_of X G (c.facts (f := .glo "is_digit") (List.mem_of_getElem? (i := 18) rfl)) (fun_of c 10 (d := fnAt 10) (st := (top 20)) rfl)
    d_is_lower := def_of X G (c.facts (f := .glo "is_lower") (List.mem_of_getElem? (i := 19) rfl)) (fun_of c 11 (d := fnAt 11) (st := (top 21)) rfl)
    d_is_upper := def_of X G (c.facts (f := .glo "is_upper") (List.mem_of_getElem? (i := 20) rfl)) (fun_of c 12 (d := fnAt 12) (st := (top 22)) rfl)
    m_Pattern_occurs_at := meth_of rfl (c.facts (f := .meth "Pattern" "occurs_at") (List.mem_of_getElem? (i := 21) rfl)) (fun_of c 13 (d := fnAt 13) (st := (inClass (top 23) 1)) rfl)
    d_pattern_of := def_of X G (c.facts (f := .glo "pattern_of") (List.mem_of_getElem? (i := 22) rfl)) (fun_of c 14 (d := fnAt 14) (st := (top 24)) rfl)
    d_read_patterns := def_of X G (c.facts (f := .glo "read_patterns") (List.mem_of_getElem? (i := 23) rfl)) (fun_of c 15 (d := fnAt 15) (st := (top 25)) rfl)
    d_lowered := def_of X G (c.facts (f := .glo "lowered") (List.mem_of_getElem? (i := 24) rfl)) (fun_of c 16 (d := fnAt 16) (st := (top 26)) rfl)
    d_greatest_levels := def_of X G (c.facts (f := .glo "greatest_levels") (List.mem_of_getElem? (i := 25) rfl)) (fun_of c 17 (d := fnAt 17) (st := (top 27)) rfl)
    d_positions_of := def_of X G (c.facts (f := .glo "positions_of") (List.mem_of_getElem? (i := 26) rfl)) (fun_of c 18 (d := fnAt 18) (st := (top 28)) rfl)
    d_parts_of := def_of X G (c.facts (f := .glo "parts_of") (List.mem_of_getElem? (i := 27) rfl)) (fun_of c 19 (d := fnAt 19) (st := (top 37)) rfl)
    d_pieces_of_part := def_of X G (c.facts (f := .glo "pieces_of_part") (List.mem_of_getElem? (i := 28) rfl)) (fun_of c 20 (d := fnAt 20) (st := (top 38)) rfl)
    d_pieces_of := def_of X G (c.facts (f := .glo "pieces_of") (List.mem_of_getElem? (i := 29) rfl)) (fun_of c 21 (d := fnAt 21) (st := (top 39)) rfl)
    d_line_of := def_of X G (c.facts (f := .glo "line_of") (List.mem_of_getElem? (i := 30) rfl)) (fun_of c 22 (d := fnAt 22) (st := (top 40)) rfl)
    d_line_cost := def_of X G (c.facts (f := .glo "line_cost") (List.mem_of_getElem? (i := 31) rfl)) (fun_of c 23 (d := fnAt 23) (st := (top 41)) rfl)
    d_best_division := def_of X G (c.facts (f := .glo "best_division") (List.mem_of_getElem? (i := 32) rfl)) (fun_of c 24 (d := fnAt 24) (st := (top 42)) rfl)
    d_parts_from := def_of X G (c.facts (f := .glo "parts_from") (List.mem_of_getElem? (i := 33) rfl)) (fun_of c 25 (d := fnAt 25) (st := (top 43)) rfl)
    k_best_lines := mk_of hJ X G (c.facts (f := .glo "best_lines") (List.mem_of_getElem? (i := 34) rfl)) (fun_of c 26 (d := fnAt 26) (st := (top 44)) rfl) (TB _ (List.mem_of_getElem? (i := 0) rfl)) HM0 HU0
    d_lines_by := def_of X G (c.facts (f := .glo "lines_by") (List.mem_of_getElem? (i := 35) rfl)) (fun_of c 27 (d := fnAt 27) (st := (top 45)) rfl)
    d_ask := def_of X G (c.facts (f := .glo "ask") (List.mem_of_getElem? (i := 36) rfl)) (fun_of c 28 (d := fnAt 28) (st := (top 53)) rfl)
    d_check_width := def_of X G (c.facts (f := .glo "check_width") (List.mem_of_getElem? (i := 37) rfl)) (fun_of c 29 (d := fnAt 29) (st := (top 54)) rfl)
    d_text_in := def_of X G (c.facts (f := .glo "text_in") (List.mem_of_getElem? (i := 38) rfl)) (fun_of c 30 (d := fnAt 30) (st := (top 55)) rfl)
    d_patterns_in := def_of X G (c.facts (f := .glo "patterns_in") (List.mem_of_getElem? (i := 39) rfl)) (fun_of c 31 (d := fnAt 31) (st := (top 56)) rfl)
    d_text_answer := def_of X G (c.facts (f := .glo "text_answer") (List.mem_of_getElem? (i := 40) rfl)) (fun_of c 32 (d := fnAt 32) (st := (top 57)) rfl)
    d_pieces_in := def_of X G (c.facts (f := .glo "pieces_in") (List.mem_of_getElem? (i := 41) rfl)) (fun_of c 33 (d := fnAt 33) (st := (top 59)) rfl)
    d_break_text := def_of X G (c.facts (f := .glo "break_text") (List.mem_of_getElem? (i := 42) rfl)) (fun_of c 34 (d := fnAt 34) (st := (top 60)) rfl)
    n_all := free_ok X G (c.facts (f := .free "all") (List.mem_of_getElem? (i := 43) rfl))
    n_enumerate := free_ok X G (c.facts (f := .free "enumerate") (List.mem_of_getElem? (i := 44) rfl))
    n_len := free_ok X G (c.facts (f := .free "len") (List.mem_of_getElem? (i := 45) rfl))
    n_max := free_ok X G (c.facts (f := .free "max") (List.mem_of_getElem? (i := 46) rfl))
    n_range := free_ok X G (c.facts (f := .free "range") (List.mem_of_getElem? (i := 47) rfl))
    n_reversed := free_ok X G (c.facts (f := .free "reversed") (List.mem_of_getElem? (i := 48) rfl))
    n_zip := free_ok X G (c.facts (f := .free "zip") (List.mem_of_getElem? (i := 49) rfl))
    g_AFTER_HYPHEN := glo_intF X G (c.facts (f := .int "AFTER_HYPHEN" (1)) (List.mem_of_getElem? (i := 50) rfl))
    g_AFTER_WORD := glo_intF X G (c.facts (f := .int "AFTER_WORD" (0)) (List.mem_of_getElem? (i := 51) rfl))
    g_BAD_INTEGER := glo_intF X G (c.facts (f := .int "BAD_INTEGER" (-22)) (List.mem_of_getElem? (i := 52) rfl))
    g_BAD_PATTERNS := glo_intF X G (c.facts (f := .int "BAD_PATTERNS" (-21)) (List.mem_of_getElem? (i := 53) rfl))
    g_BAD_TEXT := glo_intF X G (c.facts (f := .int "BAD_TEXT" (-24)) (List.mem_of_getElem? (i := 54) rfl))
    g_DIVIDED := glo_intF X G (c.facts (f := .int "DIVIDED" (50)) (List.mem_of_getElem? (i := 55) rfl))
    g_FIRST_SURROGATE := glo_intF X G (c.facts (f := .int "FIRST_SURROGATE" (55296)) (List.mem_of_getElem? (i := 56) rfl))
    g_GREATEST := glo_intF X G (c.facts (f := .int "GREATEST" (1114111)) (List.mem_of_getElem? (i := 57) rfl))
    g_GREATEST_WIDTH := glo_intF X G (c.facts (f := .int "GREATEST_WIDTH" (80)) (List.mem_of_getElem? (i := 58) rfl))
    g_HYPHEN := glo_intF X G (c.facts (f := .int "HYPHEN" (45)) (List.mem_of_getElem? (i := 59) rfl))
    g_IN_WORD := glo_intF X G (c.facts (f := .int "IN_WORD" (2)) (List.mem_of_getElem? (i := 60) rfl))
    g_LAST_SURROGATE := glo_intF X G (c.facts (f := .int "LAST_SURROGATE" (57343)) (List.mem_of_getElem? (i := 61) rfl))
    g_LEADS := glo_tupF (ns := [0, 0, 192, 224, 240]) X G (c.facts (f := .glo "LEADS") (List.mem_of_getElem? (i := 62) rfl)) (allB e 0 rfl)
    g_LEAST := glo_tupF (ns := [0, 0, 128, 2048, 65536]) X G (c.facts (f := .glo "LEAST") (List.mem_of_getElem? (i := 63) rfl)) (allB e 1 rfl)
    g_LEAST_WIDTH := glo_intF X G (c.facts (f := .int "LEAST_WIDTH" (10)) (List.mem_of_getElem? (i := 64) rfl))
    g_LINE_FEED := glo_intF X G (c.facts (f := .int "LINE_FEED" (10)) (List.mem_of_getElem? (i := 65) rfl))
    g_POINT := glo_intF X G (c.facts (f := .int "POINT" (46)) (List.mem_of_getElem? (i := 66) rfl))
    g_SIDE := glo_intF X G (c.facts (f := .int "SIDE" (2)) (List.mem_of_getElem? (i := 67) rfl))
    g_SPACE := glo_intF X G (c.facts (f := .int "SPACE" (32)) (List.mem_of_getElem? (i := 68) rfl))
    g_TOO_LONG := glo_intF X G (c.facts (f := .int "TOO_LONG" (10000)) (List.mem_of_getElem? (i := 69) rfl))
    g_WHITE := glo_tupF (ns := [9, 10, 13, 32]) X G (c.facts (f := .glo "WHITE") (List.mem_of_getElem? (i := 70) rfl)) (allB e 2 rfl)
    ref := ⟨_, ref_of c 35 (d := fnAt 35) (p1 := ⟨224, 17, 224, 21⟩) (p2 := ⟨224, 23, 224, 27⟩) (q1 := ⟨225, 8, 225, 12⟩) (q2 := ⟨225, 8, 225, 17⟩) (q3 := ⟨225, 20, 225, 24⟩) (q4 := ⟨225, 8, 225, 24⟩) X G (c.facts (f := .glo "Refused") (List.mem_of_getElem? (i := 71) rfl)) (allB e 3 rfl) rfl⟩
  }
theorem tt_cs (K : PySem.W.Frag) : ∀ p ∈ tt K, p.1 ∈ (tf.map (cT K)).map (·.2) := by
  intro p hp
  simp [tt, tf] at hp ⊢
  first | exact hp ▸ rfl | (subst hp; simp) | (rcases hp with rfl | rfl <;> simp)
end S02
open PySem PySem.W PyProof.Rows PW in
set_option maxRecDepth 100000 in
set_option maxHeartbeats 8000000 in
theorem PySem.Challenge.cw_plainlayout_s02_break_text_holds : PySem.Challenge.rw_plainlayout_s02_break_text.Holds := by
  refine HandSHeadRun.head_spec (r := PySem.Challenge.rw_plainlayout_s02_break_text) (q := PySem.W.view PySem.Challenge.rw_plainlayout_s02_break_text.prog [60]) (H := S02.hk) (ob := S02.ob) (M := 2000) (loose := S02.names) (d := HandSHeadRun.topDef PySem.Challenge.rw_plainlayout_s02_break_text.prog 60) (kwd := []) S02.ob_eq
    (by kernel_rfl) (fun s => by kernel_rfl) S02.run (by kernel_rfl) (by kernel_rfl) (by kernel_rfl) PySem.W.os_shapes (by first | assumption | decide +kernel) (by decide +kernel) ⟨rfl, rfl, rfl, rfl, rfl, by decide +kernel⟩ ?hw ?hc
  case hw => exact ⟨[.int 10, .list [], .list []], by decide +kernel, by decide +kernel⟩
  case hc =>
    refine PW.walk_specTs (r := PySem.Challenge.rw_plainlayout_s02_break_text) (k := 7) (ps := ["width", "patterns", "text"]) (by decide +kernel) (by kernel_rfl) rfl ⟨by decide, by decide, by decide⟩ ?F
    intro w mg fa h Y G hmg0
    obtain ⟨K, X, S⟩ := Y
    have hmg : mg ("break_text" : PySem.Str) = some (.ref fa) := by
      have e : (HandSHeadRun.topDef PySem.Challenge.rw_plainlayout_s02_break_text.prog 60).name = ("break_text" : PySem.Str) := by kernel_rfl
      rw [← e]
      exact hmg0
    obtain ⟨fd, F⟩ := PW.fun_of S.t.d 34 (d := S02.fnAt 34) (x := "break_text") (q := "break_text") (st := S02.top 60) rfl
    have e := hmg.symm.trans (He.glo_ok X G (S.t.d.facts (f := .glo "break_text") (List.mem_of_getElem? (i := 42) rfl)))
    cases e
    refine ⟨K, S02.tf.map (He.cT K), fd, PW.spF (S02.tx K mg) PF.pf_break_text 3, X, PW.map_all S.empty, PW.map_all S.out, PW.map_all fun p hp => PySem.W.codeHd_of_K X (S.hd p hp), PW.fun_bindsTo (ps := ["width", "patterns", "text"]) F (fun _ _ _ _ _ _ us hl => match us, hl with | [_, _, _], _ => rfl), fun base KX GX TB => ?_, ?_⟩
    · exact S02.top_break_text (S02.facts (base := base) KX GX S.t.d S.more (PW.all_map TB)) F
    · intro H xs a hO hwi hask hx
      exact S02.sat (S02.tx K mg) _ xs a (PW.tabs_start (S02.tt_cs K)) hwi hx
