import PyProof.Rows.All
import PySem.Str
import Wide.All
import OpenK.AllK
import Wide.FinOn
import HandS.ForMost
import HandS.Exc
import HandS.ExcOwn
import HandS.TryOnly
import HandS.WordsExc
import HandS.IsInst
import HandS.ExcIs
import HandS.SetFor
import HandS.TupAny
import HandS.Zip
import HandS.More
import PyProof.SetRoads
import PyProof.Rows.SortShellAny
import PySem.Challenge.RW_cordbook_k17_shown
set_option Elab.async false
set_option linter.all false
set_option maxRecDepth 100000

/-! DCore: plain data of a Python fragment, its operations, expressions and statements as Lean functions. No model here. -/
namespace DL
open PySem (Str)

theorem nr {α : Sort u} {a b : α} (h : a = b) : a = b := h
/-- a flat value of a dict -/
inductive Fv where
  | int (i : Int) | bl (b : Bool)
  deriving DecidableEq, Repr

/-- plain data -/
inductive D where
  | non | bl (b : Bool) | int (i : Int) | str (x : Str)
  | lst (xs : List D) | tup (xs : List D) | dic (kvs : List (Int × Fv)) | scr (ns : List Int)
  /-- something that is known by its place alone -/
  | adr (n : Nat)
  deriving Repr

def Fv.d : Fv → D
  | .int i => .int i
  | .bl b => .bl b
def D.fv? : D → Option Fv
  | .int i => some (.int i)
  | .bl b => some (.bl b)
  | _ => none

/-- what an expression comes to: a value, an error of the class with that number, or nothing that is known -/
inductive R (α : Type) where
  | ok (a : α) | xc (c : Nat) | bad
  deriving Repr
def R.bind {α β : Type} (r : R α) (f : α → R β) : R β := match r with
  | .ok a => f a
  | .xc c => .xc c
  | .bad => .bad
@[simp] theorem R.bind_ok {α β : Type} (a : α) (f : α → R β) : (R.ok a).bind f = f a := nr rfl
@[simp] theorem R.bind_xc {α β : Type} (c : Nat) (f : α → R β) : (R.xc c : R α).bind f = .xc c := nr rfl
@[simp] theorem R.bind_bad {α β : Type} (f : α → R β) : (R.bad : R α).bind f = .bad := nr rfl

/-- a slot: empty, a value that is only read, a list or dict that only this slot holds -/
inductive Sl where
  | no | va (d : D) | ow (d : D)
  deriving Repr
def Sl.d : Sl → D
  | .no => .non
  | .va d => d
  | .ow d => d
def Sl.frz : Sl → Sl
  | .ow d => .va d
  | s => s
@[simp] theorem Sl.d_va (d : D) : (Sl.va d).d = d := nr rfl
@[simp] theorem Sl.d_ow (d : D) : (Sl.ow d).d = d := nr rfl
@[simp] theorem Sl.frz_va (d : D) : (Sl.va d).frz = .va d := nr rfl
@[simp] theorem Sl.frz_ow (d : D) : (Sl.ow d).frz = .va d := nr rfl
@[simp] theorem Sl.frz_no : Sl.no.frz = .no := nr rfl

abbrev Env := List Sl
abbrev FE := Env → R Sl
abbrev FT := Env → R Bool
abbrev FA := Env → R (List D)
abbrev FI := Env → R (List D)

def D.flat : D → Bool
  | .non => true
  | .bl _ => true
  | .int _ => true
  | .str _ => true
  | _ => false
/-- a result that no owned list can be seen through -/
def Sl.loose : Sl → Bool
  | .va (.tup ds) => ds.all D.flat
  | .va d => d.flat
  | .ow (.lst ds) => ds.all D.flat
  | _ => false

def LIM : Nat := 1000000

/-! ### expressions -/
def eVar (i : Nat) : FE := fun e => match e[i]? with
  | some (.va d) => .ok (.va d)
  | _ => .bad
def eC (d : D) : FE := fun _ => .ok (.va d)
def eOp1 (g : D → R Sl) (a : FE) : FE := fun e => (a e).bind fun x => g x.d
def eOp2 (g : D → D → R Sl) (a b : FE) : FE := fun e => (a e).bind fun x => (b e).bind fun y => g x.d y.d
def aNil : FA := fun _ => .ok []
def aCons (a : FE) (r : FA) : FA := fun e => (a e).bind fun x => (r e).bind fun xs => .ok (x.d :: xs)
def eTup (a : FA) : FE := fun e => (a e).bind fun ds => if ds.length ≤ LIM then .ok (.va (.tup ds)) else .bad
def eLst (a : FA) : FE := fun e => (a e).bind fun ds => if ds.length ≤ LIM then .ok (.ow (.lst ds)) else .bad
def eCB (g : List D → R Sl) (a : FA) : FE := fun e => (a e).bind g
def eIf (c : FT) (a b : FE) : FE := fun e => (c e).bind fun k => if k then a e else b e
def eAnd (a b : FE) : FE := fun e => (a e).bind fun x => match x.d with
  | .bl true => b e
  | .bl false => .ok (.va (.bl false))
  | _ => .bad
def eOr (a b : FE) : FE := fun e => (a e).bind fun x => match x.d with
  | .bl false => b e
  | .bl true => .ok (.va (.bl true))
  | _ => .bad
def eNot (a : FE) : FE := fun e => (a e).bind fun x => match x.d with
  | .bl k => .ok (.va (.bl (!k)))
  | _ => .bad
def eChain (g h : D → D → R Sl) (a b c : FE) : FE := fun e => (a e).bind fun x => (b e).bind fun y => (g x.d y.d).bind fun z => match z.d with
  | .bl true => (c e).bind fun w => h y.d w.d
  | .bl false => .ok (.va (.bl false))
  | _ => .bad
def eLend (a : FE) : FE := fun e => (a (e.map Sl.frz)).bind fun s => if s.loose then .ok s else .bad
def oNone : Env → R (Option Int) := fun _ => .ok none
def oSome (a : FE) : Env → R (Option Int) := fun e => (a e).bind fun x => match x.d with
  | .int i => .ok (some i)
  | _ => .bad
def eSl (g : D → Option Int → Option Int → R Sl) (a : FE) (lo hi : Env → R (Option Int)) : FE := fun e => (a e).bind fun x => (lo e).bind fun l => (hi e).bind fun h => g x.d l h

def eFz (a : FE) : FE := fun e => (a e).bind fun s => .ok (.va s.d)
def eDNew : FE := fun _ => .ok (.ow (.dic []))
def eD1 (k : Int) (v : Int) : FE := fun _ => .ok (.ow (.dic [(k, .int v)]))

/-! ### tests -/
def tVal (a : FE) : FT := fun e => (a e).bind fun x => match x.d with
  | .bl k => .ok k
  | _ => .bad
def tAnd (a b : FT) : FT := fun e => (a e).bind fun k => if k then b e else .ok false
def tOr (a b : FT) : FT := fun e => (a e).bind fun k => if k then .ok true else b e
def tNot (a : FT) : FT := fun e => (a e).bind fun k => .ok (!k)
def tYes : FT := fun _ => .ok true

/-! ### what is walked -/
def iSeq (a : FE) : FI := fun e => (a e).bind fun x => match x.d with
  | .lst ds => .ok ds
  | .tup ds => .ok ds
  | _ => .bad
def rng (lo : Int) (n : Nat) : List D := (List.range n).map fun i => .int (lo + (i : Nat))
def rangeD (x : D) : R (List D) := match x with
  | .int j => if -(2 ^ 62) ≤ j ∧ j < 2 ^ 62 then .ok (rng 0 j.toNat) else .bad
  | _ => .bad
def iRange1 (a : FE) : FI := fun e => (a e).bind fun x => rangeD x.d
def range2D (x y : D) : R (List D) := match x, y with
  | .int i, .int j => if (-(2 ^ 62) ≤ i ∧ i < 2 ^ 62) ∧ -(2 ^ 62) ≤ j ∧ j < 2 ^ 62 then .ok (rng i (j - i).toNat) else .bad
  | _, _ => .bad
def iRange2 (a b : FE) : FI := fun e => (a e).bind fun x => (b e).bind fun y => range2D x.d y.d
def iStr (a : FE) : FI := fun e => (a e).bind fun x => match x.d with
  | .str z => .ok (z.cps.toList.map fun c => .str ⟨#[c]⟩)
  | _ => .bad
/-- the keys of a new dict -/
def iKeys (a : FE) : FI := fun e => (a e).bind fun x => match x with
  | .ow (.dic kvs) => .ok (kvs.map fun p => .int p.1)
  | _ => .bad

def wipeE (e : Env) : List Nat → Env
  | [] => e
  | v :: vs => (wipeE e vs).set v .no
def lcLoop (j : Nat) (c : FT) (el : FE) (e : Env) : List D → R (List D)
  | [] => .ok []
  | x :: xs => match c (e.set j (.va x)) with
    | .ok true => (match el (e.set j (.va x)) with
      | .ok y => (lcLoop j c el e xs).bind fun ys => .ok (y.d :: ys)
      | _ => .bad)
    | .ok false => lcLoop j c el e xs
    | _ => .bad
/-- [el for j in it if c] -/
def eLc (it : FI) (j : Nat) (c : FT) (el : FE) (own : List Nat) : FE := fun e => (it e).bind fun ds => if ds.length ≤ LIM then (match lcLoop j c el (wipeE e own) ds with
  | .ok ys => .ok (.ow (.lst ys))
  | _ => .bad) else .bad

/-! ### statements -/
inductive Out where
  | nx (e : Env) | rt (s : Sl) | xc (c : Nat) (e : Env) | bad
abbrev FS := Env → Out
def sNext : FS := fun e => .nx e
def Out.bind (o : Out) (f : Env → Out) : Out := match o with
  | .nx e => f e
  | o => o
@[simp] theorem Out.bind_nx (e : Env) (f : Env → Out) : (Out.nx e).bind f = f e := nr rfl
@[simp] theorem Out.bind_rt (s : Sl) (f : Env → Out) : (Out.rt s).bind f = .rt s := nr rfl
@[simp] theorem Out.bind_xc (c : Nat) (e : Env) (f : Env → Out) : (Out.xc c e).bind f = .xc c e := nr rfl
@[simp] theorem Out.bind_bad (f : Env → Out) : Out.bad.bind f = .bad := nr rfl
def R.out {α : Type} (r : R α) (e : Env) (f : α → Out) : Out := match r with
  | .ok a => f a
  | .xc c => .xc c e
  | .bad => .bad
@[simp] theorem R.out_ok {α : Type} (a : α) (e : Env) (f : α → Out) : (R.ok a).out e f = f a := nr rfl
@[simp] theorem R.out_xc {α : Type} (c : Nat) (e : Env) (f : α → Out) : (R.xc c : R α).out e f = .xc c e := nr rfl
@[simp] theorem R.out_bad {α : Type} (e : Env) (f : α → Out) : (R.bad : R α).out e f = .bad := nr rfl
def sSeq (a b : FS) : FS := fun e => (a e).bind b
def sSet (i : Nat) (a : FE) : FS := fun e => (a e).out e fun s => .nx (e.set i s)
def sDrop (a : FE) : FS := fun e => (a e).out e fun _ => .nx e
def sRet (a : FE) : FS := fun e => (a e).out e fun s => .rt s
def sRetO (i : Nat) : FS := fun e => match e[i]? with
  | some (.ow d) => .rt (.ow d)
  | some (.va d) => .rt (.va d)
  | _ => .bad
def sIf (c : FT) (a b : FS) : FS := fun e => (c e).out e fun k => if k then a e else b e
def sRaise (c : Nat) : FS := fun e => .xc c e
/-- xs.append(a), xs the list that slot i holds -/
def sApp (i : Nat) (a : FE) : FS := fun e => match e[i]? with
  | some (.ow (.lst ds)) => (a e).out e fun s => if ds.length < LIM then .nx (e.set i (.ow (.lst (ds ++ [s.d])))) else .bad
  | _ => .bad
/-- xs[k] = a -/
def sPut (i : Nat) (k a : FE) : FS := fun e => match e[i]? with
  | some (.ow (.lst ds)) => (a e).out e fun s => (k e).out e fun x => (match x.d with
    | .int j => if 0 ≤ j ∧ j < ds.length then .nx (e.set i (.ow (.lst (ds.set j.toNat s.d)))) else .bad
    | _ => .bad)
  | _ => .bad
def putA (kvs : List (Int × Fv)) (k : Int) (v : Fv) : List (Int × Fv) :=
  if kvs.any (fun p => p.1 == k) then kvs.map (fun p => if p.1 == k then (p.1, v) else p) else kvs ++ [(k, v)]
def getA (kvs : List (Int × Fv)) (k : Int) : Option Fv := (kvs.find? fun p => p.1 == k).map (·.2)
/-- d[k] = a -/
def sDPut (i : Nat) (k a : FE) : FS := fun e => match e[i]? with
  | some (.ow (.dic kvs)) => (a e).out e fun s => (k e).out e fun x => (match x.d, s.d.fv? with
    | .int j, some v => if kvs.length < LIM then .nx (e.set i (.ow (.dic (putA kvs j v)))) else .bad
    | _, _ => .bad)
  | _ => .bad
def forD (j : Nat) (b : FS) : List D → Env → Out
  | [], e => .nx e
  | x :: xs, e => (b (e.set j (.va x))).bind (forD j b xs)
def sFor (it : FI) (j : Nat) (b : FS) : FS := fun e => (it e).out e fun ds => forD j b ds e
/-- over the keys of the dict that slot i holds -/
def sForK (i j : Nat) (b : FS) : FS := fun e => match e[i]? with
  | some (.ow (.dic kvs)) => forD j b (kvs.map fun p => .int p.1) (e.set i (.va (.dic kvs)))
  | _ => .bad
def whileD (c : FT) (b : FS) : Nat → Env → Out
  | 0, _ => .bad
  | n + 1, e => (c e).out e fun k => if k then (b e).bind (whileD c b n) else .nx e
def sWhile (n : Nat) (c : FT) (b : FS) : FS := fun e => whileD c b n e
/-- the slots named hold their lists no longer alone -/
def pubE (is : List Nat) (e : Env) : Env := is.foldl (fun e i => match e[i]? with
  | some s => e.set i s.frz
  | none => e) e
def sPub (is : List Nat) (a : FS) : FS := fun e => a (pubE is e)
def sTry (a : FS) (h : Nat → FS) : FS := fun e => match a e with
  | .xc c e' => h c e'
  | o => o

/-- a def: its parameters' values, then empty slots; what it hands back -/
def fnOf (N : Nat) (body : FS) (ds : List D) : R Sl := match body (ds.map Sl.va ++ List.replicate (N - ds.length) .no) with
  | .nx _ => .ok (.va .non)
  | .rt s => .ok s
  | .xc c _ => .xc c
  | .bad => .bad

/-- a call of a def with n parameters -/
def eCall (n : Nat) (f : List D → R Sl) (a : FA) : FE := fun e => (a e).bind fun ds => if ds.length = n then f ds else .bad
/-- try: the body, except CordError as x: the six marks; x's slot is ix, the marks' im -/
def sTold (ix im : Nat) (b : FS) : FS := fun e => if ix < e.length ∧ im < e.length then (match b e with
  | .xc c e' => if c < 5 then .nx ((e'.set ix .no).set im (.ow (.lst [.bl (c == 0), .bl (c == 1), .bl (c == 2), .bl (c == 3), .bl (c == 4), .bl true]))) else .bad
  | o => o) else .bad
/-! ### operations -/
def small (i : Int) : Bool := decide (-(2 ^ 64) < i ∧ i < 2 ^ 64)
def dAdd : D → D → R Sl
  | .int i, .int j => .ok (.va (.int (i + j)))
  | .lst a, .lst b => if a.length + b.length ≤ LIM then .ok (.ow (.lst (a ++ b))) else .bad
  | .tup a, .tup b => if a.length + b.length ≤ LIM then .ok (.va (.tup (a ++ b))) else .bad
  | .str a, .str b => if a.length + b.length ≤ LIM then .ok (.va (.str (a ++ b))) else .bad
  | _, _ => .bad
def dSub : D → D → R Sl
  | .int i, .int j => .ok (.va (.int (i - j)))
  | _, _ => .bad
def dMul : D → D → R Sl
  | .int i, .int j => if small i || small j then .ok (.va (.int (i * j))) else .bad
  | _, _ => .bad
def dFloor : D → D → R Sl
  | .int i, .int j => if 0 < j ∧ j < 1073741824 then .ok (.va (.int (i / j))) else .bad
  | _, _ => .bad
def dMod : D → D → R Sl
  | .int i, .int j => if 0 < j then .ok (.va (.int (i % j))) else .bad
  | _, _ => .bad
def dPow : D → D → R Sl
  | .int i, .int j => if (0 ≤ j ∧ j ≤ 1000000) ∧ i.natAbs < 2 ^ 64 then .ok (.va (.int (i ^ j.toNat))) else .bad
  | _, _ => .bad
def dNeg : D → R Sl
  | .int i => .ok (.va (.int (-i)))
  | _ => .bad
/-- plain texts, numbers and what is made of them, n levels deep -/
def D.lev : Nat → D → Bool
  | _, .non => true
  | _, .bl _ => true
  | _, .int _ => true
  | _, .str x => x.cps.toList.all (fun c => decide (32 ≤ c ∧ c < 127)) && decide (x.length ≤ 100)
  | n + 1, .lst ds => ds.all (D.lev n)
  | n + 1, .tup ds => ds.all (D.lev n)
  | _, _ => false
def allEq (f : D → D → Bool) : List D → List D → Bool
  | [], [] => true
  | x :: xs, y :: ys => f x y && allEq f xs ys
  | [], _ :: _ => false
  | _ :: _, [] => false
def beqL : Nat → D → D → Bool
  | _, .non, .non => true
  | _, .bl a, .bl b => a == b
  | _, .bl a, .int j => (if a then 1 else 0) == j
  | _, .int i, .bl b => i == (if b then 1 else 0)
  | _, .int i, .int j => i == j
  | _, .str x, .str y => x == y
  | n + 1, .lst a, .lst b => allEq (beqL n) a b
  | n + 1, .tup a, .tup b => allEq (beqL n) a b
  | _, _, _ => false
def cmpD (x y : D) : Option Bool := match x, y with
  | .int i, .int j => some (decide (i = j))
  | .bl a, .bl b => some (decide (a = b))
  | .str a, .str b => some (decide (a = b))
  | x, y => if x.lev 6 && y.lev 6 then some (beqL 6 x y) else none
def dEq (x y : D) : R Sl := match cmpD x y with
  | some b => .ok (.va (.bl b))
  | none => .bad
def dNe (x y : D) : R Sl := match cmpD x y with
  | some b => .ok (.va (.bl (!b)))
  | none => .bad
def dLt : D → D → R Sl
  | .int i, .int j => .ok (.va (.bl (decide (i < j))))
  | _, _ => .bad
def dLe : D → D → R Sl
  | .int i, .int j => .ok (.va (.bl (decide (i ≤ j))))
  | _, _ => .bad
def dGt : D → D → R Sl
  | .int i, .int j => .ok (.va (.bl (decide (j < i))))
  | _, _ => .bad
def dGe : D → D → R Sl
  | .int i, .int j => .ok (.va (.bl (decide (j ≤ i))))
  | _, _ => .bad
def D.isNon : D → Bool
  | .non => true
  | _ => false
def dIsN (x : D) : R Sl := .ok (.va (.bl x.isNon))
def dNotN (x : D) : R Sl := .ok (.va (.bl (!x.isNon)))
/-- the place of an index -/
def ixOf (n : Nat) (i : Int) : Option Nat := if 0 ≤ i then (if i < n then some i.toNat else none) else if -(n : Int) ≤ i then some (i + n).toNat else none
def atD {α : Type} (xs : List α) (i : Int) : Option α := (ixOf xs.length i).bind fun j => xs[j]?
def dIdx : D → D → R Sl
  | .lst ds, .int i => (match atD ds i with
    | some d => .ok (.va d)
    | none => .bad)
  | .tup ds, .int i => (match atD ds i with
    | some d => .ok (.va d)
    | none => .bad)
  | .scr ns, .int i => (match atD ns i with
    | some n => .ok (.va (.int n))
    | none => .bad)
  | .str z, .int i => if z.length ≤ LIM then (match atD z.cps.toList i with
    | some c => .ok (.va (.str ⟨#[c]⟩))
    | none => .bad) else .bad
  | _, _ => .bad
/-- an item of a list that the slot holds, or of a value -/
def eIxO (i : Nat) (a : FE) : FE := fun e => match e[i]? with
  | some (.ow (.lst ds)) => (a e).bind fun x => (match x.d with
    | .int k => (match atD ds k with
      | some d => .ok (.va d)
      | none => .bad)
    | _ => .bad)
  | some (.va d) => (a e).bind fun x => dIdx d x.d
  | _ => .bad
def dGetK : D → D → R Sl
  | .dic kvs, .int k => (match getA kvs k with
    | some v => .ok (.va v.d)
    | none => .bad)
  | _, _ => .bad
/-- d.get(k, x) -/
def dGet2 (kvs : List (Int × Fv)) : D → D → R Sl
  | .int k, .int x => .ok (.va ((getA kvs k).getD (.int x)).d)
  | _, _ => .bad
def eGet2 (a k x : FE) : FE := fun e => (a e).bind fun u => match u.d with
  | .dic kvs => (k e).bind fun v => (x e).bind fun w => dGet2 kvs v.d w.d
  | _ => .bad
def dNotInK : D → D → R Sl
  | .int k, .dic kvs => .ok (.va (.bl (!(getA kvs k).isSome)))
  | _, _ => .bad
def flatEq : D → D → Bool
  | .int i, .int j => i == j
  | .str x, .str y => x == y
  | _, _ => false
/-- not in: ints in a list or tuple of ints -/
def allInt (ds : List D) : Bool := ds.all fun d => match d with
  | .int _ => true
  | _ => false
def dNotIn : D → D → R Sl
  | .int i, .lst ds => if allInt ds then .ok (.va (.bl (!ds.any fun d => flatEq d (.int i)))) else .bad
  | .int i, .tup ds => if allInt ds then .ok (.va (.bl (!ds.any fun d => flatEq d (.int i)))) else .bad
  | _, _ => .bad
/-- a sign not in a text -/
def dNotInS : D → D → R Sl
  | .str x, .str z => if x.cps.size = 1 then .ok (.va (.bl (!decide (x.cps.getD 0 0 ∈ z.cps.toList)))) else .bad
  | _, _ => .bad
def sIxD (n d : Nat) : Option Int → Nat
  | none => d
  | some v => if v < 0 then (v + (n : Int)).toNat else min v.toNat n
def cutD {α : Type} (xs : List α) (lo hi : Option Int) : List α := (xs.drop (sIxD xs.length 0 lo)).take (sIxD xs.length xs.length hi - sIxD xs.length 0 lo)
def dSl : D → Option Int → Option Int → R Sl
  | .lst ds, lo, hi => .ok (.ow (.lst (cutD ds lo hi)))
  | .tup ds, lo, hi => .ok (.va (.tup (cutD ds lo hi)))
  | .str z, lo, hi => if z.length ≤ LIM then .ok (.va (.str ⟨(cutD z.cps.toList lo hi).toArray⟩)) else .bad
  | _, _, _ => .bad
/-! ### built-ins -/
def bLen : List D → R Sl
  | [.lst ds] => .ok (.va (.int ds.length))
  | [.tup ds] => .ok (.va (.int ds.length))
  | [.scr ns] => .ok (.va (.int ns.length))
  | [.str z] => if z.length ≤ LIM then .ok (.va (.int z.length)) else .bad
  | _ => .bad
def bLenD : List D → R Sl
  | [.dic kvs] => .ok (.va (.int kvs.length))
  | _ => .bad
def bList : List D → R Sl
  | [.lst ds] => .ok (.ow (.lst ds))
  | [.tup ds] => .ok (.ow (.lst ds))
  | _ => .bad
def bTuple : List D → R Sl
  | [.lst ds] => .ok (.va (.tup ds))
  | [.tup ds] => .ok (.va (.tup ds))
  | _ => .bad
def bMax2 : List D → R Sl
  | [.int i, .int j] => .ok (.va (.int (if j > i then j else i)))
  | _ => .bad
def bMin2 : List D → R Sl
  | [.int i, .int j] => .ok (.va (.int (if j < i then j else i)))
  | _ => .bad
def intsOf : List D → Option (List Int)
  | [] => some []
  | .int i :: r => (intsOf r).map (i :: ·)
  | _ :: _ => none
def bInt : List D → R Sl
  | [.int i] => .ok (.va (.int i))
  | [.bl k] => .ok (.va (.int (if k then 1 else 0)))
  | _ => .bad
def bSum : List D → R Sl
  | [.lst ds] => (match intsOf ds with
    | some ns => .ok (.va (.int ns.sum))
    | none => .bad)
  | _ => .bad
def maxL : List Int → Int
  | [] => 0
  | x :: xs => xs.foldl (fun a b => if a < b then b else a) x
def minL : List Int → Int
  | [] => 0
  | x :: xs => xs.foldl (fun a b => if b < a then b else a) x
def bMaxL : List D → R Sl
  | [.lst ds] => (match intsOf ds with
    | some (x :: xs) => .ok (.va (.int (maxL (x :: xs))))
    | _ => .bad)
  | _ => .bad
def bMinL : List D → R Sl
  | [.lst ds] => (match intsOf ds with
    | some (x :: xs) => .ok (.va (.int (minL (x :: xs))))
    | _ => .bad)
  | _ => .bad
def insI (x : Int) : List Int → List Int
  | [] => [x]
  | y :: ys => if x ≤ y then x :: y :: ys else y :: insI x ys
def sortI : List Int → List Int
  | [] => []
  | x :: xs => insI x (sortI xs)
/-- sorted(d) of a dict -/
def bSortedD : List D → R Sl
  | [.dic kvs] => if kvs.length < 64 then .ok (.ow (.lst ((sortI (kvs.map (·.1))).map .int))) else .bad
  | _ => .bad
/-- isinstance(x, T) of plain values -/
def isTy (T : String) : D → Option Bool
  | .non => some false
  | .bl _ => if T = "int" ∨ T = "bool" then some true else some false
  | .int _ => if T = "int" then some true else some false
  | .str _ => if T = "str" then some true else some false
  | .lst _ => if T = "list" then some true else some false
  | .tup _ => if T = "tuple" then some true else some false
  | _ => none
def bIsi (T : String) : List D → R Sl
  | [x] => (match isTy T x with
    | some b => .ok (.va (.bl b))
    | none => .bad)
  | _ => .bad
/-- xs.count(y), xs.index(y) of ints -/
def dCount (ds : List D) : D → R Sl
  | .int k => (match intsOf ds with
    | some ns => .ok (.va (.int (ns.count k : Nat)))
    | none => .bad)
  | _ => .bad
def dIndex (ds : List D) : D → R Sl
  | .int k => (match intsOf ds with
    | some ns => if k ∈ ns then .ok (.va (.int (ns.idxOf k : Nat))) else .bad
    | none => .bad)
  | _ => .bad
def eBm (g : List D → D → R Sl) (a b : FE) : FE := fun e => (a e).bind fun x => match x.d with
  | .lst ds => (b e).bind fun y => g ds y.d
  | _ => .bad
end DL
set_option maxRecDepth 100000
namespace DL
open PySem (Str)
/-- what the sequences of ints in a sequence come to -/
def intsD : D → Option (List Int)
  | .lst es => intsOf es
  | .tup es => intsOf es
  | _ => none
def rowsL : List D → Option (List (List Int))
  | [] => some []
  | d :: ds => (intsD d).bind fun r => (rowsL ds).map (r :: ·)
def rowsD : D → Option (List (List Int))
  | .lst ds => rowsL ds
  | .tup ds => rowsL ds
  | _ => none
/-- every item that is old is called new -/
def ren (old new x : Int) : Int := if x = old then new else x
/-- the k-th pair joined: the rows, the pairs, the rings -/
def joinStep (s : List (List Int) × List (List Int) × Int) (k : Nat) : List (List Int) × List (List Int) × Int :=
  (s.1.map fun r => r.map (ren ((s.2.1.getD k []).getD 1 0) ((s.2.1.getD k []).getD 0 0)),
   s.2.1.take (k + 1) ++ (s.2.1.drop (k + 1)).map fun r => r.map (ren ((s.2.1.getD k []).getD 1 0) ((s.2.1.getD k []).getD 0 0)),
   if (s.2.1.getD k []).getD 0 0 = (s.2.1.getD k []).getD 1 0 then s.2.2 + 1 else s.2.2)
def joinAll (rs ps : List (List Int)) (rings : Int) : List (List Int) × List (List Int) × Int := (List.range ps.length).foldl joinStep (rs, ps, rings)
def joinedF (num : List D → R Sl) : List D → R Sl
  | [a, .int rings, b] => (match rowsD a, rowsD b with
    | some rs, some ps => if (rs.length < 500 ∧ ps.length < 500) ∧ (∀ r ∈ rs, r.length < 1000) ∧ ∀ p ∈ ps, p.length = 2 then
        (num [.lst ((joinAll rs ps rings).1.map fun r => .lst (r.map .int))]).bind fun s => .ok (.va (.tup [s.d, .int (joinAll rs ps rings).2.2])) else .bad
    | _, _ => .bad)
  | _ => .bad
end DL
set_option maxRecDepth 100000
namespace DL
open PySem (Str)
def far4 (k : Int) : Int := (k + 2) % 4
def at4 (r : List Int) (k : Int) : Int := r.getD k.toNat 0
def put4 (r : List Int) (k v : Int) : List Int := r.set k.toNat v
def slidC (c g h : List Int) (p i j o : Int) : List Int := put4 (put4 (put4 (put4 c (far4 i) (at4 c i)) i (at4 g (far4 j))) (far4 p) (at4 c p)) p (at4 h (far4 o))
def slidG (c g h : List Int) (i j r q : Int) : List Int := put4 (put4 (put4 (put4 g j (at4 c (far4 i))) (far4 j) (at4 c i)) (far4 r) (at4 g r)) r (at4 h (far4 q))
def slidH (c g h : List Int) (p r q o : Int) : List Int := put4 (put4 (put4 (put4 h o (at4 c (far4 p))) (far4 o) (at4 c p)) q (at4 g (far4 r))) (far4 q) (at4 g r)
def slidF : List D → R Sl
  | [a, b, d, e] => (match intsD a, intsD b, intsD d, intsD e with
    | some c, some g, some h, some [p, i, j, r, q, o] => if (c.length = 4 ∧ g.length = 4 ∧ h.length = 4) ∧ ∀ x ∈ [p, i, j, r, q, o], 0 ≤ x ∧ x < 4 then
        .ok (.va (.lst [.tup ((slidC c g h p i j o).map .int), .tup ((slidG c g h i j r q).map .int), .tup ((slidH c g h p r q o).map .int)])) else .bad
    | _, _, _, _ => .bad)
  | _ => .bad
/-- the different ones among ints, by first standing -/
def diff1 (s : List Int) (x : Int) : List Int := if s.any (· == x) then s else s ++ [x]
def dLenSet : D → R Sl
  | .lst ds => (match intsOf ds with
    | some ns => if ns.length ≤ 1000 then .ok (.va (.int ((ns.foldl diff1 []).length : Nat))) else .bad
    | none => .bad)
  | _ => .bad
def sTry5 (a h : FS) : FS := fun e => match a e with
  | .xc c e' => if c < 5 then h e' else .bad
  | o => o
end DL
set_option maxRecDepth 100000
namespace DL
open PySem (Str)
/-! SF3: sums by power: dicts of whole numbers that a def fills for its caller -/
abbrev IK := List (Int × Int)
def toF (l : IK) : List (Int × Fv) := l.map fun p => (p.1, Fv.int p.2)
def ofF : List (Int × Fv) → Option IK
  | [] => some []
  | (k, .int i) :: r => (ofF r).map ((k, i) :: ·)
  | _ :: _ => none
def getZ (l : IK) (k : Int) : Int := ((l.find? fun p => p.1 == k).map (·.2)).getD 0
def putZ (l : IK) (k v : Int) : IK := if l.any (fun p => p.1 == k) then l.map (fun p => if p.1 == k then (p.1, v) else p) else l ++ [(k, v)]
def addZ (l : IK) (k z : Int) : IK := putZ l k (getZ l k + z)
def addTo (f o : IK) (sh sg : Int) : IK := o.foldl (fun f p => addZ f (p.1 + sh) (sg * getZ o p.1)) f
/-- the statement add_to(d, a, b, c), d in slot i -/
def sAddT (i : Nat) (fx fsh fsg : FE) : FS := fun e => match e[i]? with
  | some (.ow (.dic kvs)) => (fx e).out e fun s => match s with
    | .ow (.dic ovs) => (fsh e).out e fun a => (fsg e).out e fun b => (match ofF kvs, ofF ovs, a.d, b.d with
      | some l, some o, .int sh, .int sg => if (l.length + o.length < LIM) ∧ -(2 ^ 64) < sg ∧ sg < 2 ^ 64 then .nx (e.set i (.ow (.dic (toF (addTo l o sh sg))))) else .bad
      | _, _, _, _ => .bad)
    | _ => .bad
  | _ => .bad
/-- of rings alone -/
def ringsD : Nat → IK
  | 0 => [(0, 1)]
  | n + 1 => addTo (addTo [] (ringsD n) 2 (-1)) (ringsD n) (-2) (-1)
def ofRingsF : List D → R Sl
  | [.int n] => if (0 ≤ n ∧ n ≤ 1000) ∧ ((List.range (n.toNat + 1)).all fun i => decide ((ringsD i).length ≤ 2000)) = true then .ok (.ow (.dic (toF (ringsD n.toNat)))) else .bad
  | _ => .bad
/-- what a law's own adding does: a row of ints by ch -/
def lawAddL (ch : List D → R Sl) (l : IK) (pw rg : Int) : Option IK := match ch [.int rg] with
  | .ok (.va (.lst ds)) => (match intsOf ds with
    | some row => if l.length + row.length < LIM then some ((List.range row.length).foldl (fun f (e : Nat) => addZ f (pw + 2 * rg - 4 * (e : Int)) (row.getD e 0 * (1 - 2 * (rg % 2)))) l) else none
    | none => none)
  | _ => none
def sLawAdd (ch : List D → R Sl) (i : Nat) (fpw frg : FE) : FS := fun e => match e[i]? with
  | some (.ow (.dic kvs)) => (fpw e).out e fun a => (frg e).out e fun b => (match ofF kvs, a.d, b.d with
      | some l, .int pw, .int rg => (match lawAddL ch l pw rg with
        | some l' => .nx (e.set i (.ow (.dic (toF l'))))
        | none => .bad)
      | _, _, _ => .bad)
  | _ => .bad
/-- sorted(d) of a dict, up to 1000 keys -/
def bSortedA : List D → R Sl
  | [.dic kvs] => if kvs.length ≤ 1000 then .ok (.ow (.lst ((sortI (kvs.map (·.1))).map .int))) else .bad
  | _ => .bad
/-- the rings that pairs of lines leave -/
def rngL : List (List Int) → Nat
  | [] => 0
  | p :: ps => (if p.getD 0 0 = p.getD 1 0 then 1 else 0) + rngL (ps.map fun r => r.map (ren (p.getD 1 0) (p.getD 0 0)))
termination_by ps => ps.length
decreasing_by simp
def ringsF : List D → R Sl
  | [a] => (match rowsD a with
    | some ps => if ps.length < 500 ∧ ∀ p ∈ ps, p.length = 2 then .ok (.va (.int (rngL ps : Nat))) else .bad
    | none => .bad)
  | _ => .bad
end DL
set_option maxRecDepth 100000
namespace DL
open PySem (Str)
/-! SF4: texts: str, join, split, int -/
def bStrI : List D → R Sl
  | [.int i] => if i.natAbs.log2 < 1920 then .ok (.va (.str (Str.ofString (toString i)))) else .bad
  | _ => .bad
def strsOf : List D → Option (List Str)
  | [] => some []
  | .str s :: r => (strsOf r).map (s :: ·)
  | _ :: _ => none
/-- a method of a text with one argument -/
def eM1 (g : Str → D → R Sl) (a b : FE) : FE := fun e => (a e).bind fun x => match x.d with
  | .str z => (b e).bind fun y => g z y.d
  | _ => .bad
def dJoin (s : Str) : D → R Sl
  | .lst ds => (match strsOf ds with
    | some ys => if (ys.map (·.length)).sum + ys.length * s.length ≤ 16777216 then .ok (.va (.str (PySem.Txt.join s ys))) else .bad
    | none => .bad)
  | _ => .bad
def dSplit (a : Str) : D → R Sl
  | .str b => if (b.length == 0) = false ∧ a.length ≤ LIM then .ok (.ow (.lst ((PySem.Txt.split a b).map .str))) else .bad
  | _ => .bad
def bIntS : List D → R Sl
  | [.str a] => (match PySem.intText? a with
    | some n => if a.length ≤ 640 then .ok (.va (.int n)) else .bad
    | none => .bad)
  | _ => .bad
end DL
namespace DL
open PySem (Str)
def B_counted_1 : FS := (sDPut 1 (eVar 3) (eOp2 dAdd (eLend (eGet2 (eVar 1) (eVar 3) (eC (.int 0)))) (eC (.int 1))))
def B_counted_2 : FS := (sFor (iSeq (eVar 2)) 3 B_counted_1)
/-- 0 crossings, 1 found, 2 row, 3 name -/
def F_counted : FS := (sSeq (sSet 1 eDNew)
  (sSeq (sFor (iSeq (eVar 0)) 2 B_counted_2)
  (sRetO 1)))
def f_counted : List D → R Sl := fnOf 4 F_counted
def B_numbered_1 : FS := (sDPut 1 (eVar 2) (eLend (eCB bLenD (aCons (eVar 1) aNil))))
def B_numbered_2 : FS := (sPub [1] (sApp 3 (eCB bTuple (aCons (eLc (iSeq (eVar 4)) 2 tYes (eOp2 dGetK (eVar 1) (eVar 2)) [2]) aNil))))
/-- 0 crossings, 1 numbers, 2 name, 3 rows, 4 row -/
def F_numbered : FS := (sSeq (sSet 1 eDNew)
  (sSeq (sFor (iKeys (eCall 1 f_counted (aCons (eVar 0) aNil))) 2 B_numbered_1)
  (sSeq (sSet 3 (eLst aNil))
  (sSeq (sFor (iSeq (eVar 0)) 4 B_numbered_2)
  (sPub [3] (sRet (eCB bTuple (aCons (eVar 3) aNil))))))))
def f_numbered : List D → R Sl := fnOf 5 F_numbered
def B_drawn_1 : FS := (sPub [2] (sIf (tVal (eOp2 dNe (eOp2 dGetK (eVar 2) (eVar 3)) (eC (.int 2)))) (sRaise 1) sNext))
/-- 0 crossings, 1 rings, 2 times, 3 name -/
def F_drawn : FS := (sSeq (sIf (tVal (eOp2 dGt (eCB bLen (aCons (eVar 0) aNil)) (eC (.int 10)))) (sRaise 0) sNext)
  (sSeq (sSet 2 (eCall 1 f_counted (aCons (eVar 0) aNil)))
  (sSeq (sForK 2 3 B_drawn_1)
  (sRet (eTup (aCons (eCall 1 f_numbered (aCons (eVar 0) aNil)) (aCons (eVar 1) aNil)))))))
def f_drawn : List D → R Sl := fnOf 4 F_drawn
/-- 0 script, 1 k -/
def F_law_cell_at : FS := (sSeq (sIf (tVal (eOp2 dLt (eVar 1) (eCB bLen (aCons (eVar 0) aNil)))) (sRet (eOp2 dIdx (eVar 0) (eVar 1))) sNext)
  (sRet (eC (.int 0))))
def f_law_cell_at : List D → R Sl := fnOf 2 F_law_cell_at
/-- 0 script, 1 k -/
def F_law_pick : FS := (sSeq (sIf (tVal (eOp2 dLt (eVar 1) (eCB bLen (aCons (eVar 0) aNil)))) (sRet (eOp2 dIdx (eVar 0) (eVar 1))) sNext)
  (sRet (eOp2 dFloor (eOp2 dMod (eOp2 dMul (eOp2 dAdd (eOp2 dAdd (eCall 2 f_law_cell_at (aCons (eVar 0) (aCons (eC (.int 0)) aNil))) (eOp2 dMul (eC (.int 7)) (eVar 1))) (eC (.int 3))) (eC (.int 48271))) (eC (.int 2147483647))) (eC (.int 13)))))
def f_law_pick : List D → R Sl := fnOf 2 F_law_pick
def B_law_rows_1 : FS := (sSeq (sPut 4 (eOp2 dIdx (eOp2 dIdx (eVar 3) (eVar 5)) (eC (.int 0))) (eVar 5))
  (sPut 4 (eOp2 dIdx (eOp2 dIdx (eVar 3) (eVar 5)) (eC (.int 1))) (eVar 5)))
def B_law_rows_2 : FS := (sSeq (sSet 8 (eOp2 dAdd (eC (.int 1)) (eOp2 dMod (eCall 2 f_law_pick (aCons (eVar 0) (aCons (eOp2 dAdd (eVar 1) (eVar 7)) aNil))) (eOp2 dSub (eCB bLen (aCons (eVar 6) aNil)) (eC (.int 1))))))
  (sSeq (sPut 4 (eOp2 dIdx (eVar 6) (eC (.int 0))) (eVar 7))
  (sSeq (sPut 4 (eOp2 dIdx (eVar 6) (eVar 8)) (eVar 7))
  (sSeq (sSet 6 (eFz (eOp2 dAdd (eSl dSl (eVar 6) (oSome (eC (.int 1))) (oSome (eVar 8))) (eSl dSl (eVar 6) (oSome (eOp2 dAdd (eVar 8) (eC (.int 1)))) oNone))))
  (sSet 7 (eOp2 dAdd (eVar 7) (eC (.int 1))))))))
/-- 0 script, 1 start, 2 many, 3 fixed, 4 owner, 5 k, 6 left, 7 name, 8 at -/
def F_law_rows : FS := (sSeq (sSet 4 (eLc (iRange1 (eOp2 dMul (eC (.int 4)) (eVar 2))) 5 tYes (eOp1 dNeg (eC (.int 1))) [5]))
  (sSeq (sFor (iRange1 (eCB bLen (aCons (eVar 3) aNil))) 5 B_law_rows_1)
  (sSeq (sSet 6 (eFz (eLc (iRange1 (eOp2 dMul (eC (.int 4)) (eVar 2))) 5 (tVal (eOp2 dLt (eIxO 4 (eVar 5)) (eC (.int 0)))) (eVar 5) [5])))
  (sSeq (sSet 7 (eCB bLen (aCons (eVar 3) aNil)))
  (sSeq (sWhile 1000 (tVal (eOp2 dGt (eCB bLen (aCons (eVar 6) aNil)) (eC (.int 1)))) B_law_rows_2)
  (sPub [4] (sRet (eLc (iRange1 (eVar 2)) 5 tYes (eCB bTuple (aCons (eSl dSl (eVar 4) (oSome (eOp2 dMul (eC (.int 4)) (eVar 5))) (oSome (eOp2 dAdd (eOp2 dMul (eC (.int 4)) (eVar 5)) (eC (.int 4))))) aNil)) [5]))))))))
def f_law_rows : List D → R Sl := fnOf 9 F_law_rows
def B_law_numbered_1 : FS := (sIf (tVal (eLend (eOp2 dNotIn (eVar 3) (eVar 1)))) (sApp 1 (eVar 3)) sNext)
def B_law_numbered_2 : FS := (sFor (iSeq (eVar 2)) 3 B_law_numbered_1)
def B_law_numbered_3 : FS := (sPub [1] (sApp 4 (eCB bTuple (aCons (eLc (iSeq (eVar 2)) 3 tYes (eBm dIndex (eVar 1) (eVar 3)) [3]) aNil))))
/-- 0 rows, 1 names, 2 row, 3 name, 4 found -/
def F_law_numbered : FS := (sSeq (sSet 1 (eLst aNil))
  (sSeq (sFor (iSeq (eVar 0)) 2 B_law_numbered_2)
  (sSeq (sSet 4 (eLst aNil))
  (sSeq (sFor (iSeq (eVar 0)) 2 B_law_numbered_3)
  (sPub [4] (sRet (eCB bTuple (aCons (eVar 4) aNil))))))))
def f_law_numbered : List D → R Sl := fnOf 5 F_law_numbered
/-- 0 x -/
def F_law_whole : FS := (sRet (eAnd (eOp1 (fun x => bIsi "int" [x]) (eVar 0)) (eNot (eOp1 (fun x => bIsi "bool" [x]) (eVar 0)))))
def f_law_whole : List D → R Sl := fnOf 1 F_law_whole
def B_law_same_1 : FS := (sIf (tOr (tNot (tVal (eCall 1 f_law_whole (aCons (eOp2 dIdx (eVar 3) (eVar 4)) aNil)))) (tVal (eOp2 dNe (eOp2 dIdx (eVar 3) (eVar 4)) (eOp2 dIdx (eOp2 dIdx (eOp2 dIdx (eVar 1) (eC (.int 0))) (eVar 2)) (eVar 4))))) (sRet (eC (.bl false))) sNext)
def B_law_same_2 : FS := (sSeq (sSet 3 (eOp2 dIdx (eOp2 dIdx (eVar 0) (eC (.int 0))) (eVar 2)))
  (sSeq (sIf (tOr (tNot (tVal (eOp1 (fun x => bIsi "tuple" [x]) (eVar 3)))) (tVal (eOp2 dNe (eCB bLen (aCons (eVar 3) aNil)) (eC (.int 4))))) (sRet (eC (.bl false))) sNext)
  (sFor (iRange1 (eC (.int 4))) 4 B_law_same_1)))
/-- 0 found, 1 due, 2 k, 3 row, 4 e -/
def F_law_same : FS := (sSeq (sIf (tOr (tNot (tVal (eOp1 (fun x => bIsi "tuple" [x]) (eVar 0)))) (tOr (tVal (eOp2 dNe (eCB bLen (aCons (eVar 0) aNil)) (eC (.int 2)))) (tNot (tVal (eOp1 (fun x => bIsi "tuple" [x]) (eOp2 dIdx (eVar 0) (eC (.int 0)))))))) (sRet (eC (.bl false))) sNext)
  (sSeq (sIf (tOr (tNot (tVal (eCall 1 f_law_whole (aCons (eOp2 dIdx (eVar 0) (eC (.int 1))) aNil)))) (tOr (tVal (eOp2 dNe (eOp2 dIdx (eVar 0) (eC (.int 1))) (eOp2 dIdx (eVar 1) (eC (.int 1))))) (tVal (eOp2 dNe (eCB bLen (aCons (eOp2 dIdx (eVar 0) (eC (.int 0))) aNil)) (eCB bLen (aCons (eOp2 dIdx (eVar 1) (eC (.int 0))) aNil)))))) (sRet (eC (.bl false))) sNext)
  (sSeq (sFor (iRange1 (eCB bLen (aCons (eOp2 dIdx (eVar 1) (eC (.int 0))) aNil))) 2 B_law_same_2)
  (sRet (eC (.bl true))))))
def f_law_same : List D → R Sl := fnOf 5 F_law_same
/-- 0 marks, 1 which -/
def F_law_refused : FS := (sRet (eOp2 dEq (eVar 0) (eLst (aCons (eOp2 dEq (eVar 1) (eC (.int 0))) (aCons (eOp2 dEq (eVar 1) (eC (.int 1))) (aCons (eOp2 dEq (eVar 1) (eC (.int 2))) (aCons (eOp2 dEq (eVar 1) (eC (.int 3))) (aCons (eOp2 dEq (eVar 1) (eC (.int 4))) (aCons (eC (.bl true)) aNil)))))))))
def f_law_refused : List D → R Sl := fnOf 2 F_law_refused
def B_law_even_1 : FS := (sSet 1 (eFz (eOp2 dAdd (eVar 1) (eCB bList (aCons (eVar 2) aNil)))))
def B_law_even_2 : FS := (sIf (tVal (eOp2 dNe (eBm dCount (eVar 1) (eVar 3)) (eC (.int 2)))) (sRet (eC (.bl false))) sNext)
/-- 0 rows, 1 names, 2 row, 3 name -/
def F_law_even : FS := (sSeq (sSet 1 (eFz (eLst aNil)))
  (sSeq (sFor (iSeq (eVar 0)) 2 B_law_even_1)
  (sSeq (sFor (iSeq (eVar 1)) 3 B_law_even_2)
  (sRet (eC (.bl true))))))
def f_law_even : List D → R Sl := fnOf 4 F_law_even
def B_places_of_1 : FS := (sIf (tVal (eOp2 dEq (eOp2 dIdx (eOp2 dIdx (eVar 0) (eVar 3)) (eVar 4)) (eVar 1))) (sApp 2 (eTup (aCons (eVar 3) (aCons (eVar 4) aNil)))) sNext)
def B_places_of_2 : FS := (sFor (iRange1 (eC (.int 4))) 4 B_places_of_1)
/-- 0 crossings, 1 line, 2 found, 3 at, 4 end -/
def F_places_of : FS := (sSeq (sSet 2 (eLst aNil))
  (sSeq (sFor (iRange1 (eCB bLen (aCons (eVar 0) aNil))) 3 B_places_of_2)
  (sRetO 2)))
def f_places_of : List D → R Sl := fnOf 5 F_places_of
/-- 0 sheet, 1 line, 2 found -/
def F_ends : FS := (sSeq (sSet 2 (eFz (eCall 2 f_places_of (aCons (eOp2 dIdx (eVar 0) (eC (.int 0))) (aCons (eVar 1) aNil)))))
  (sSeq (sIf (tVal (eOp2 dNe (eCB bLen (aCons (eVar 2) aNil)) (eC (.int 2)))) (sRaise 2) sNext)
  (sRet (eTup (aCons (eOp2 dIdx (eVar 2) (eC (.int 0))) (aCons (eOp2 dIdx (eVar 2) (eC (.int 1))) aNil))))))
def f_ends : List D → R Sl := fnOf 3 F_ends
/-- 0 sheet, 1 at -/
def F_row_at : FS := (sSeq (sIf (tNot (tVal (eChain dLe dLt (eC (.int 0)) (eVar 1) (eCB bLen (aCons (eOp2 dIdx (eVar 0) (eC (.int 0))) aNil))))) (sRaise 2) sNext)
  (sRet (eOp2 dIdx (eOp2 dIdx (eVar 0) (eC (.int 0))) (eVar 1))))
def f_row_at : List D → R Sl := fnOf 2 F_row_at
/-- 0 crossings, 1 gone, 2 k -/
def F_without : FS := (sRet (eLc (iRange1 (eCB bLen (aCons (eVar 0) aNil))) 2 (tVal (eOp2 dNotIn (eVar 2) (eVar 1))) (eOp2 dIdx (eVar 0) (eVar 2)) [2]))
def f_without : List D → R Sl := fnOf 3 F_without
/-- 0 row, 1 old, 2 new, 3 name -/
def F_renamed : FS := (sRet (eCB bTuple (aCons (eLc (iSeq (eVar 0)) 3 tYes (eIf (tVal (eOp2 dEq (eVar 3) (eVar 1))) (eVar 2) (eVar 3)) [3]) aNil)))
def f_renamed : List D → R Sl := fnOf 4 F_renamed
def B_joined_1 : FS := (sSeq (sSet 5 (eOp2 dIdx (eVar 4) (eC (.int 0))))
  (sSeq (sSet 4 (eFz (eSl dSl (eVar 4) (oSome (eC (.int 1))) oNone)))
  (sIf (tVal (eOp2 dEq (eOp2 dIdx (eVar 5) (eC (.int 0))) (eOp2 dIdx (eVar 5) (eC (.int 1))))) (sSet 1 (eOp2 dAdd (eVar 1) (eC (.int 1)))) (sSeq (sSet 3 (eFz (eLc (iSeq (eVar 3)) 6 tYes (eCall 3 f_renamed (aCons (eVar 6) (aCons (eOp2 dIdx (eVar 5) (eC (.int 1))) (aCons (eOp2 dIdx (eVar 5) (eC (.int 0))) aNil)))) [6])))
  (sSet 4 (eFz (eLc (iSeq (eVar 4)) 7 tYes (eCall 3 f_renamed (aCons (eVar 7) (aCons (eOp2 dIdx (eVar 5) (eC (.int 1))) (aCons (eOp2 dIdx (eVar 5) (eC (.int 0))) aNil)))) [7])))))))
/-- 0 crossings, 1 rings, 2 pairs, 3 rows, 4 left, 5 pair, 6 row, 7 two -/
def F_joined : FS := (sSeq (sSet 3 (eFz (eCB bList (aCons (eVar 0) aNil))))
  (sSeq (sSet 4 (eFz (eCB bList (aCons (eVar 2) aNil))))
  (sSeq (sWhile 1000 (tVal (eOp2 dGt (eCB bLen (aCons (eVar 4) aNil)) (eC (.int 0)))) B_joined_1)
  (sRet (eTup (aCons (eCall 1 f_numbered (aCons (eVar 3) aNil)) (aCons (eVar 1) aNil)))))))
def f_joined : List D → R Sl := fnOf 8 F_joined
def f_law_joined : List D → R Sl := joinedF f_law_numbered
/-- 0 cell, 1 many -/
def F_law_far : FS := (sSeq (sIf (tVal (eOp2 dEq (eOp2 dMod (eVar 0) (eC (.int 2))) (eC (.int 1)))) (sRet (eOp2 dAdd (eVar 1) (eOp2 dMod (eOp2 dFloor (eVar 0) (eC (.int 2))) (eOp2 dPow (eC (.int 10)) (eC (.int 30)))))) sNext)
  (sRet (eOp2 dSub (eOp1 dNeg (eC (.int 1))) (eOp2 dMod (eOp2 dFloor (eVar 0) (eC (.int 2))) (eOp2 dPow (eC (.int 10)) (eC (.int 30)))))))
def f_law_far : List D → R Sl := fnOf 2 F_law_far
/-- 0 crossings, 1 place, 2 line, 3 rows, 4 row -/
def F_put_at : FS := (sSeq (sSet 3 (eCB bList (aCons (eVar 0) aNil)))
  (sSeq (sSet 4 (eCB bList (aCons (eIxO 3 (eOp2 dIdx (eVar 1) (eC (.int 0)))) aNil)))
  (sSeq (sPut 4 (eOp2 dIdx (eVar 1) (eC (.int 1))) (eVar 2))
  (sSeq (sPub [4] (sPut 3 (eOp2 dIdx (eVar 1) (eC (.int 0))) (eCB bTuple (aCons (eVar 4) aNil))))
  (sRetO 3)))))
def f_put_at : List D → R Sl := fnOf 5 F_put_at
/-- 0 way, 1 line, 2 new, 3 loop -/
def F_curl_row : FS := (sSeq (sIf (tVal (eOp2 dEq (eVar 0) (eC (.int 0)))) (sRet (eTup (aCons (eVar 3) (aCons (eVar 3) (aCons (eVar 1) (aCons (eVar 2) aNil)))))) sNext)
  (sSeq (sIf (tVal (eOp2 dEq (eVar 0) (eC (.int 1)))) (sRet (eTup (aCons (eVar 1) (aCons (eVar 3) (aCons (eVar 3) (aCons (eVar 2) aNil)))))) sNext)
  (sSeq (sIf (tVal (eOp2 dEq (eVar 0) (eC (.int 2)))) (sRet (eTup (aCons (eVar 3) (aCons (eVar 3) (aCons (eVar 2) (aCons (eVar 1) aNil)))))) sNext)
  (sRet (eTup (aCons (eVar 2) (aCons (eVar 3) (aCons (eVar 3) (aCons (eVar 1) aNil)))))))))
def f_curl_row : List D → R Sl := fnOf 4 F_curl_row
def B_law_second_1 : FS := (sIf (tVal (eOp2 dEq (eOp2 dIdx (eOp2 dIdx (eVar 0) (eVar 3)) (eVar 4)) (eVar 1))) (sSet 2 (eTup (aCons (eVar 3) (aCons (eVar 4) aNil)))) sNext)
def B_law_second_2 : FS := (sFor (iRange1 (eC (.int 4))) 4 B_law_second_1)
/-- 0 rows, 1 line, 2 found, 3 k, 4 e -/
def F_law_second : FS := (sSeq (sSet 2 (eTup (aCons (eC (.int 0)) (aCons (eC (.int 0)) aNil))))
  (sSeq (sFor (iRange1 (eCB bLen (aCons (eVar 0) aNil))) 3 B_law_second_2)
  (sRet (eVar 2))))
def f_law_second : List D → R Sl := fnOf 5 F_law_second
/-- 0 rows, 1 place, 2 line, 3 row -/
def F_law_put : FS := (sSeq (sPub [0] (sSet 0 (eCB bList (aCons (eVar 0) aNil))))
  (sSeq (sSet 3 (eCB bList (aCons (eIxO 0 (eOp2 dIdx (eVar 1) (eC (.int 0)))) aNil)))
  (sSeq (sPut 3 (eOp2 dIdx (eVar 1) (eC (.int 1))) (eVar 2))
  (sSeq (sPub [3] (sPut 0 (eOp2 dIdx (eVar 1) (eC (.int 0))) (eCB bTuple (aCons (eVar 3) aNil))))
  (sRetO 0)))))
def f_law_put : List D → R Sl := fnOf 4 F_law_put
/-- 0 way, 1 line, 2 new, 3 loop -/
def F_law_curl : FS := (sSeq (sIf (tVal (eOp2 dEq (eVar 0) (eC (.int 0)))) (sRet (eTup (aCons (eVar 3) (aCons (eVar 3) (aCons (eVar 1) (aCons (eVar 2) aNil)))))) sNext)
  (sSeq (sIf (tVal (eOp2 dEq (eVar 0) (eC (.int 1)))) (sRet (eTup (aCons (eVar 1) (aCons (eVar 3) (aCons (eVar 3) (aCons (eVar 2) aNil)))))) sNext)
  (sSeq (sIf (tVal (eOp2 dEq (eVar 0) (eC (.int 2)))) (sRet (eTup (aCons (eVar 3) (aCons (eVar 3) (aCons (eVar 2) (aCons (eVar 1) aNil)))))) sNext)
  (sRet (eTup (aCons (eVar 2) (aCons (eVar 3) (aCons (eVar 3) (aCons (eVar 1) aNil)))))))))
def f_law_curl : List D → R Sl := fnOf 4 F_law_curl
def B_curl_end_1 : FS := (sIf (tVal (eOp2 dEq (eOp2 dIdx (eVar 0) (eVar 1)) (eOp2 dIdx (eVar 0) (eOp2 dMod (eOp2 dAdd (eVar 1) (eC (.int 1))) (eC (.int 4)))))) (sRet (eVar 1)) sNext)
/-- 0 row, 1 k -/
def F_curl_end : FS := (sSeq (sFor (iRange1 (eC (.int 4))) 1 B_curl_end_1)
  (sRet (eC .non)))
def f_curl_end : List D → R Sl := fnOf 2 F_curl_end
/-- 0 sheet, 1 at, 2 row, 3 k, 4 pair -/
def F_uncurled : FS := (sSeq (sSet 2 (eFz (eCall 2 f_row_at (aCons (eVar 0) (aCons (eVar 1) aNil)))))
  (sSeq (sSet 3 (eFz (eCall 1 f_curl_end (aCons (eVar 2) aNil))))
  (sSeq (sIf (tVal (eOp1 dIsN (eVar 3))) (sRaise 3) sNext)
  (sSeq (sSet 4 (eTup (aCons (eOp2 dIdx (eVar 2) (eOp2 dMod (eOp2 dAdd (eVar 3) (eC (.int 2))) (eC (.int 4)))) (aCons (eOp2 dIdx (eVar 2) (eOp2 dMod (eOp2 dAdd (eVar 3) (eC (.int 3))) (eC (.int 4)))) aNil))))
  (sRet (eCall 3 f_joined (aCons (eCall 2 f_without (aCons (eOp2 dIdx (eVar 0) (eC (.int 0))) (aCons (eLst (aCons (eVar 1) aNil)) aNil))) (aCons (eOp2 dIdx (eVar 0) (eC (.int 1))) (aCons (eLst (aCons (eVar 4) aNil)) aNil)))))))))
def f_uncurled : List D → R Sl := fnOf 5 F_uncurled
def B_law_twin_1 : FS := (sIf (tVal (eOp2 dEq (eOp2 dIdx (eVar 0) (eVar 1)) (eOp2 dIdx (eVar 0) (eOp2 dMod (eOp2 dAdd (eVar 1) (eC (.int 1))) (eC (.int 4)))))) (sRet (eVar 1)) sNext)
/-- 0 row, 1 k -/
def F_law_twin : FS := (sSeq (sFor (iRange1 (eC (.int 4))) 1 B_law_twin_1)
  (sRet (eOp1 dNeg (eC (.int 1)))))
def f_law_twin : List D → R Sl := fnOf 2 F_law_twin
/-- 0 row -/
def F_turned : FS := (sRet (eTup (aCons (eOp2 dIdx (eVar 0) (eC (.int 2))) (aCons (eOp2 dIdx (eVar 0) (eC (.int 3))) (aCons (eOp2 dIdx (eVar 0) (eC (.int 0))) (aCons (eOp2 dIdx (eVar 0) (eC (.int 1))) aNil))))))
def f_turned : List D → R Sl := fnOf 1 F_turned
def B_apart_pairs_1 : FS := (sSeq (sIf (tAnd (tVal (eOp2 dEq (eOp2 dIdx (eVar 2) (eC (.int 2))) (eOp2 dIdx (eVar 3) (eC (.int 0))))) (tVal (eOp2 dEq (eOp2 dIdx (eVar 2) (eC (.int 1))) (eOp2 dIdx (eVar 3) (eC (.int 1)))))) (sRet (eLst (aCons (eTup (aCons (eOp2 dIdx (eVar 2) (eC (.int 0))) (aCons (eOp2 dIdx (eVar 3) (eC (.int 2))) aNil))) (aCons (eTup (aCons (eOp2 dIdx (eVar 2) (eC (.int 3))) (aCons (eOp2 dIdx (eVar 3) (eC (.int 3))) aNil))) aNil)))) sNext)
  (sIf (tAnd (tVal (eOp2 dEq (eOp2 dIdx (eVar 2) (eC (.int 2))) (eOp2 dIdx (eVar 3) (eC (.int 0))))) (tVal (eOp2 dEq (eOp2 dIdx (eVar 2) (eC (.int 3))) (eOp2 dIdx (eVar 3) (eC (.int 3)))))) (sRet (eLst (aCons (eTup (aCons (eOp2 dIdx (eVar 2) (eC (.int 0))) (aCons (eOp2 dIdx (eVar 3) (eC (.int 2))) aNil))) (aCons (eTup (aCons (eOp2 dIdx (eVar 2) (eC (.int 1))) (aCons (eOp2 dIdx (eVar 3) (eC (.int 1))) aNil))) aNil)))) sNext))
def B_apart_pairs_2 : FS := (sFor (iSeq (eLst (aCons (eVar 1) (aCons (eCall 1 f_turned (aCons (eVar 1) aNil)) aNil)))) 3 B_apart_pairs_1)
/-- 0 one, 1 other, 2 x, 3 y -/
def F_apart_pairs : FS := (sSeq (sFor (iSeq (eLst (aCons (eVar 0) (aCons (eCall 1 f_turned (aCons (eVar 0) aNil)) aNil)))) 2 B_apart_pairs_2)
  (sRet (eC .non)))
def f_apart_pairs : List D → R Sl := fnOf 4 F_apart_pairs
/-- 0 sheet, 1 one, 2 other, 3 x, 4 y, 5 pairs -/
def F_taken_apart : FS := (sSeq (sSet 3 (eFz (eCall 2 f_row_at (aCons (eVar 0) (aCons (eVar 1) aNil)))))
  (sSeq (sSet 4 (eFz (eCall 2 f_row_at (aCons (eVar 0) (aCons (eVar 2) aNil)))))
  (sSeq (sIf (tVal (eOp2 dEq (eVar 1) (eVar 2))) (sRaise 3) sNext)
  (sSeq (sSet 5 (eFz (eCall 2 f_apart_pairs (aCons (eVar 3) (aCons (eVar 4) aNil)))))
  (sSeq (sIf (tVal (eOp1 dIsN (eVar 5))) (sRaise 3) sNext)
  (sRet (eCall 3 f_joined (aCons (eCall 2 f_without (aCons (eOp2 dIdx (eVar 0) (eC (.int 0))) (aCons (eLst (aCons (eVar 1) (aCons (eVar 2) aNil))) aNil))) (aCons (eOp2 dIdx (eVar 0) (eC (.int 1))) (aCons (eVar 5) aNil))))))))))
def f_taken_apart : List D → R Sl := fnOf 6 F_taken_apart
def B_law_lens_1 : FS := (sIf (tAnd (tVal (eOp2 dEq (eOp2 dIdx (eVar 3) (eC (.int 2))) (eOp2 dIdx (eVar 4) (eC (.int 0))))) (tVal (eOp2 dEq (eOp2 dIdx (eVar 3) (eVar 5)) (eOp2 dIdx (eVar 4) (eVar 5))))) (sRet (eLst (aCons (eTup (aCons (eOp2 dIdx (eVar 3) (eC (.int 0))) (aCons (eOp2 dIdx (eVar 4) (eC (.int 2))) aNil))) (aCons (eTup (aCons (eOp2 dIdx (eVar 3) (eOp2 dSub (eC (.int 4)) (eVar 5))) (aCons (eOp2 dIdx (eVar 4) (eOp2 dSub (eC (.int 4)) (eVar 5))) aNil))) aNil)))) sNext)
def B_law_lens_2 : FS := (sSeq (sSet 3 (eVar 0))
  (sSeq (sSet 4 (eVar 1))
  (sSeq (sIf (tVal (eOp2 dGe (eVar 2) (eC (.int 2)))) (sSet 3 (eFz (eOp2 dAdd (eSl dSl (eVar 0) (oSome (eC (.int 2))) oNone) (eSl dSl (eVar 0) oNone (oSome (eC (.int 2))))))) sNext)
  (sSeq (sIf (tVal (eOp2 dEq (eOp2 dMod (eVar 2) (eC (.int 2))) (eC (.int 1)))) (sSet 4 (eFz (eOp2 dAdd (eSl dSl (eVar 1) (oSome (eC (.int 2))) oNone) (eSl dSl (eVar 1) oNone (oSome (eC (.int 2))))))) sNext)
  (sFor (iSeq (eLst (aCons (eC (.int 1)) (aCons (eC (.int 3)) aNil)))) 5 B_law_lens_1)))))
/-- 0 one, 1 other, 2 turn, 3 x, 4 y, 5 end -/
def F_law_lens : FS := (sSeq (sFor (iRange1 (eC (.int 4))) 2 B_law_lens_2)
  (sRet (eLst aNil)))
def f_law_lens : List D → R Sl := fnOf 6 F_law_lens
def B_row_of_1 : FS := (sPut 3 (eOp2 dIdx (eVar 4) (eC (.int 0))) (eOp2 dMod (eOp2 dAdd (eIxO 3 (eOp2 dIdx (eVar 4) (eC (.int 0)))) (eOp2 dIdx (eVar 4) (eC (.int 1)))) (eVar 2)))
/-- 0 many, 1 parts, 2 prime, 3 row, 4 part, 5 k -/
def F_row_of : FS := (sSeq (sSet 3 (eLc (iRange1 (eVar 0)) 5 tYes (eC (.int 0)) [5]))
  (sSeq (sFor (iSeq (eVar 1)) 4 B_row_of_1)
  (sRetO 3)))
def f_row_of : List D → R Sl := fnOf 6 F_row_of
def B_equations_1 : FS := (sSeq (sApp 3 (eCall 3 f_row_of (aCons (eVar 2) (aCons (eLst (aCons (eTup (aCons (eOp2 dIdx (eVar 4) (eC (.int 1))) (aCons (eC (.int 1)) aNil))) (aCons (eTup (aCons (eOp2 dIdx (eVar 4) (eC (.int 3))) (aCons (eOp1 dNeg (eC (.int 1))) aNil))) aNil))) (aCons (eVar 1) aNil)))))
  (sApp 3 (eCall 3 f_row_of (aCons (eVar 2) (aCons (eLst (aCons (eTup (aCons (eOp2 dIdx (eVar 4) (eC (.int 1))) (aCons (eC (.int 2)) aNil))) (aCons (eTup (aCons (eOp2 dIdx (eVar 4) (eC (.int 0))) (aCons (eOp1 dNeg (eC (.int 1))) aNil))) (aCons (eTup (aCons (eOp2 dIdx (eVar 4) (eC (.int 2))) (aCons (eOp1 dNeg (eC (.int 1))) aNil))) aNil)))) (aCons (eVar 1) aNil))))))
/-- 0 sheet, 1 prime, 2 many, 3 found, 4 four -/
def F_equations : FS := (sSeq (sSet 2 (eOp2 dMul (eC (.int 2)) (eCB bLen (aCons (eOp2 dIdx (eVar 0) (eC (.int 0))) aNil))))
  (sSeq (sSet 3 (eLst aNil))
  (sSeq (sFor (iSeq (eOp2 dIdx (eVar 0) (eC (.int 0)))) 4 B_equations_1)
  (sRetO 3))))
def f_equations : List D → R Sl := fnOf 5 F_equations
def B_lead_of_1 : FS := (sIf (tVal (eOp2 dNe (eOp2 dIdx (eOp2 dIdx (eVar 0) (eVar 3)) (eVar 2)) (eC (.int 0)))) (sRet (eVar 3)) sNext)
/-- 0 rows, 1 start, 2 at, 3 k -/
def F_lead_of : FS := (sSeq (sFor (iRange2 (eVar 1) (eCB bLen (aCons (eVar 0) aNil))) 3 B_lead_of_1)
  (sRet (eC .non)))
def f_lead_of : List D → R Sl := fnOf 4 F_lead_of
def B_over_one_1 : FS := (sIf (tVal (eOp2 dEq (eOp2 dMod (eOp2 dMul (eVar 0) (eVar 2)) (eVar 1)) (eC (.int 1)))) (sRet (eVar 2)) sNext)
/-- 0 number, 1 prime, 2 x -/
def F_over_one : FS := (sSeq (sFor (iRange2 (eC (.int 1)) (eVar 1)) 2 B_over_one_1)
  (sRet (eC (.int 0))))
def f_over_one : List D → R Sl := fnOf 3 F_over_one
/-- 0 row, 1 lead, 2 at, 3 prime, 4 times, 5 k -/
def F_cleared : FS := (sSeq (sSet 4 (eOp2 dIdx (eVar 0) (eVar 2)))
  (sRet (eLc (iRange1 (eCB bLen (aCons (eVar 0) aNil))) 5 tYes (eOp2 dMod (eOp2 dSub (eOp2 dIdx (eVar 0) (eVar 5)) (eOp2 dMul (eVar 4) (eOp2 dIdx (eVar 1) (eVar 5)))) (eVar 3)) [5])))
def f_cleared : List D → R Sl := fnOf 6 F_cleared
def B_rank_1 : FS := (sPut 0 (eVar 8) (eCall 4 f_cleared (aCons (eIxO 0 (eVar 8)) (aCons (eVar 7) (aCons (eVar 4) (aCons (eVar 2) aNil))))))
def B_rank_2 : FS := (sSeq (sSet 5 (eFz (eLend (eCall 3 f_lead_of (aCons (eVar 0) (aCons (eVar 3) (aCons (eVar 4) aNil)))))))
  (sIf (tVal (eOp1 dNotN (eVar 5))) (sSeq (sSet 6 (eFz (eCall 2 f_over_one (aCons (eOp2 dIdx (eIxO 0 (eVar 5)) (eVar 4)) (aCons (eVar 2) aNil)))))
  (sSeq (sSet 7 (eFz (eLc (iSeq (eIxO 0 (eVar 5))) 9 tYes (eOp2 dMod (eOp2 dMul (eVar 9) (eVar 6)) (eVar 2)) [9])))
  (sSeq (sPut 0 (eVar 5) (eIxO 0 (eVar 3)))
  (sSeq (sPut 0 (eVar 3) (eVar 7))
  (sSeq (sFor (iRange2 (eOp2 dAdd (eVar 3) (eC (.int 1))) (eLend (eCB bLen (aCons (eVar 0) aNil)))) 8 B_rank_1)
  (sSet 3 (eOp2 dAdd (eVar 3) (eC (.int 1))))))))) sNext))
/-- 0 rows, 1 many, 2 prime, 3 found, 4 at, 5 k, 6 times, 7 lead, 8 other, 9 x -/
def F_rank : FS := (sSeq (sSet 3 (eC (.int 0)))
  (sSeq (sPub [0] (sSet 0 (eCB bList (aCons (eVar 0) aNil))))
  (sSeq (sFor (iRange1 (eVar 1)) 4 B_rank_2)
  (sRet (eVar 3)))))
def f_rank : List D → R Sl := fnOf 10 F_rank
def B_colourings_1 : FS := (sSet 4 (eOp2 dMul (eVar 4) (eVar 1)))
/-- 0 sheet, 1 prime, 2 many, 3 free, 4 found, 5 k -/
def F_colourings : FS := (sSeq (sSet 2 (eOp2 dMul (eC (.int 2)) (eCB bLen (aCons (eOp2 dIdx (eVar 0) (eC (.int 0))) aNil))))
  (sSeq (sSet 3 (eOp2 dAdd (eOp2 dSub (eVar 2) (eCall 3 f_rank (aCons (eCall 2 f_equations (aCons (eVar 0) (aCons (eVar 1) aNil))) (aCons (eVar 2) (aCons (eVar 1) aNil))))) (eOp2 dIdx (eVar 0) (eC (.int 1)))))
  (sSeq (sSet 4 (eC (.int 1)))
  (sSeq (sFor (iRange1 (eVar 3)) 5 B_colourings_1)
  (sRet (eVar 4))))))
def f_colourings : List D → R Sl := fnOf 6 F_colourings
def B_law_paints_1 : FS := (sApp 4 (eOp2 dAdd (eVar 5) (eLst (aCons (eVar 6) aNil))))
def B_law_paints_2 : FS := (sFor (iRange1 (eVar 1)) 6 B_law_paints_1)
def B_law_paints_3 : FS := (sSeq (sSet 4 (eLst aNil))
  (sSeq (sFor (iSeq (eVar 2)) 5 B_law_paints_2)
  (sPub [4] (sSet 2 (eVar 4)))))
/-- 0 many, 1 prime, 2 found, 3 k, 4 more, 5 paint, 6 x -/
def F_law_paints : FS := (sSeq (sSet 2 (eFz (eLst (aCons (eLst aNil) aNil))))
  (sSeq (sFor (iRange1 (eVar 0)) 3 B_law_paints_3)
  (sRet (eVar 2))))
def f_law_paints : List D → R Sl := fnOf 7 F_law_paints
/-- 0 row, 1 paint, 2 prime -/
def F_law_fits : FS := (sSeq (sIf (tVal (eOp2 dNe (eOp2 dIdx (eVar 1) (eOp2 dIdx (eVar 0) (eC (.int 1)))) (eOp2 dIdx (eVar 1) (eOp2 dIdx (eVar 0) (eC (.int 3)))))) (sRet (eC (.bl false))) sNext)
  (sRet (eOp2 dEq (eOp2 dMod (eOp2 dSub (eOp2 dSub (eOp2 dMul (eC (.int 2)) (eOp2 dIdx (eVar 1) (eOp2 dIdx (eVar 0) (eC (.int 1))))) (eOp2 dIdx (eVar 1) (eOp2 dIdx (eVar 0) (eC (.int 0))))) (eOp2 dIdx (eVar 1) (eOp2 dIdx (eVar 0) (eC (.int 2))))) (eVar 2)) (eC (.int 0)))))
def f_law_fits : List D → R Sl := fnOf 3 F_law_fits
def B_law_count_1 : FS := (sIf (tNot (tVal (eCall 3 f_law_fits (aCons (eVar 5) (aCons (eVar 3) (aCons (eVar 1) aNil)))))) (sSet 4 (eC (.bl false))) sNext)
def B_law_count_2 : FS := (sSeq (sSet 4 (eC (.bl true)))
  (sSeq (sFor (iSeq (eVar 0)) 5 B_law_count_1)
  (sIf (tVal (eVar 4)) (sSet 2 (eOp2 dAdd (eVar 2) (eC (.int 1)))) sNext)))
/-- 0 rows, 1 prime, 2 found, 3 paint, 4 good, 5 row -/
def F_law_count : FS := (sSeq (sSet 2 (eC (.int 0)))
  (sSeq (sFor (iSeq (eCall 2 f_law_paints (aCons (eOp2 dMul (eC (.int 2)) (eCB bLen (aCons (eVar 0) aNil))) (aCons (eVar 1) aNil)))) 3 B_law_count_2)
  (sRet (eVar 2))))
def f_law_count : List D → R Sl := fnOf 6 F_law_count
def B_shown_1 : FS := (sSet 1 (eFz (eOp2 dAdd (eOp2 dAdd (eVar 1) (eC (.str " | "))) (eM1 dJoin (eC (.str " ")) (eLc (iSeq (eVar 2)) 3 tYes (eCB bStrI (aCons (eVar 3) aNil)) [3])))))
/-- 0 sheet, 1 found, 2 row, 3 line -/
def F_shown : FS := (sSeq (sSet 1 (eCB bStrI (aCons (eOp2 dIdx (eVar 0) (eC (.int 1))) aNil)))
  (sSeq (sFor (iSeq (eOp2 dIdx (eVar 0) (eC (.int 0)))) 2 B_shown_1)
  (sRet (eVar 1))))
def f_shown : List D → R Sl := fnOf 4 F_shown
def B_number_of_1 : FS := (sIf (tVal (eOp2 dNotInS (eVar 1) (eC (.str "0123456789")))) (sRaise 4) sNext)
/-- 0 figures, 1 sign -/
def F_number_of : FS := (sSeq (sFor (iStr (eVar 0)) 1 B_number_of_1)
  (sSeq (sIf (tOr (tVal (eOp2 dEq (eVar 0) (eC (.str "")))) (tOr (tVal (eOp2 dGt (eCB bLen (aCons (eVar 0) aNil)) (eC (.int 60)))) (tAnd (tVal (eOp2 dEq (eOp2 dIdx (eVar 0) (eC (.int 0))) (eC (.str "0")))) (tVal (eOp2 dGt (eCB bLen (aCons (eVar 0) aNil)) (eC (.int 1))))))) (sRaise 4) sNext)
  (sRet (eCB bIntS (aCons (eVar 0) aNil)))))
def f_number_of : List D → R Sl := fnOf 2 F_number_of
def B_read_1 : FS := (sSeq (sSet 4 (eFz (eM1 dSplit (eVar 3) (eC (.str " ")))))
  (sSeq (sIf (tVal (eOp2 dNe (eCB bLen (aCons (eVar 4) aNil)) (eC (.int 4)))) (sRaise 4) sNext)
  (sApp 2 (eCB bTuple (aCons (eLc (iSeq (eVar 4)) 5 tYes (eCall 1 f_number_of (aCons (eVar 5) aNil)) [5]) aNil)))))
/-- 0 text, 1 parts, 2 rows, 3 part, 4 names, 5 name -/
def F_read : FS := (sSeq (sSet 1 (eFz (eM1 dSplit (eVar 0) (eC (.str " | ")))))
  (sSeq (sSet 2 (eLst aNil))
  (sSeq (sFor (iSeq (eSl dSl (eVar 1) (oSome (eC (.int 1))) oNone)) 3 B_read_1)
  (sPub [2] (sRet (eCall 2 f_drawn (aCons (eVar 2) (aCons (eCall 1 f_number_of (aCons (eOp2 dIdx (eVar 1) (eC (.int 0))) aNil)) aNil))))))))
def f_read : List D → R Sl := fnOf 6 F_read
def B_law_k17_1 : FS := (sSet 4 (eFz (eOp2 dAdd (eOp2 dAdd (eVar 4) (eC (.str " "))) (eCB bStrI (aCons (eVar 6) aNil)))))
def B_law_k17_2 : FS := (sSeq (sSet 4 (eFz (eOp2 dAdd (eVar 4) (eC (.str " |")))))
  (sFor (iSeq (eVar 5)) 6 B_law_k17_1))
/-- 0 script, 1 many, 2 rows, 3 rings, 4 due, 5 row, 6 line, 7 found -/
def F_law_k17 : FS := (sSeq (sSet 1 (eOp2 dMod (eCall 2 f_law_cell_at (aCons (eVar 0) (aCons (eC (.int 0)) aNil))) (eC (.int 11))))
  (sSeq (sSet 2 (eFz (eCall 1 f_law_numbered (aCons (eCall 4 f_law_rows (aCons (eVar 0) (aCons (eC (.int 2)) (aCons (eVar 1) (aCons (eLst aNil) aNil))))) aNil))))
  (sSeq (sSet 3 (eOp2 dMod (eCall 2 f_law_cell_at (aCons (eVar 0) (aCons (eC (.int 1)) aNil))) (eC (.int 101))))
  (sSeq (sSet 4 (eCB bStrI (aCons (eVar 3) aNil)))
  (sSeq (sFor (iSeq (eVar 2)) 5 B_law_k17_2)
  (sSeq (sSet 7 (eFz (eCall 1 f_shown (aCons (eTup (aCons (eVar 2) (aCons (eVar 3) aNil))) aNil))))
  (sSeq (sIf (tOr (tNot (tVal (eOp1 (fun x => bIsi "str" [x]) (eVar 7)))) (tVal (eOp2 dNe (eVar 7) (eVar 4)))) (sRet (eC (.bl false))) sNext)
  (sRet (eCall 2 f_law_same (aCons (eCall 1 f_read (aCons (eVar 4) aNil)) (aCons (eTup (aCons (eVar 2) (aCons (eVar 3) aNil))) aNil)))))))))))
def f_law_k17 : List D → R Sl := fnOf 8 F_law_k17
end DL
set_option maxRecDepth 100000
/-! M0: how the functions of DCore are worked out -/
namespace DL
open PySem (Str)
/-! ### one step each -/
@[simp] theorem ev_var (i : Nat) (e : Env) : eVar i e = (match e[i]? with
  | some (.va d) => .ok (.va d)
  | _ => .bad) := rfl
@[simp] theorem ev_c (d : D) (e : Env) : eC d e = .ok (.va d) := nr rfl
@[simp] theorem ev_op1 (g : D → R Sl) (a : FE) (e : Env) : eOp1 g a e = (a e).bind fun x => g x.d := nr rfl
@[simp] theorem ev_op2 (g : D → D → R Sl) (a b : FE) (e : Env) : eOp2 g a b e = (a e).bind fun x => (b e).bind fun y => g x.d y.d := nr rfl
@[simp] theorem ev_nil (e : Env) : aNil e = .ok [] := nr rfl
@[simp] theorem ev_cons (a : FE) (r : FA) (e : Env) : aCons a r e = (a e).bind fun x => (r e).bind fun xs => .ok (x.d :: xs) := nr rfl
@[simp] theorem ev_tup (a : FA) (e : Env) : eTup a e = (a e).bind fun ds => if ds.length ≤ LIM then .ok (.va (.tup ds)) else .bad := nr rfl
@[simp] theorem ev_lst (a : FA) (e : Env) : eLst a e = (a e).bind fun ds => if ds.length ≤ LIM then .ok (.ow (.lst ds)) else .bad := nr rfl
@[simp] theorem ev_cb (g : List D → R Sl) (a : FA) (e : Env) : eCB g a e = (a e).bind g := nr rfl
@[simp] theorem ev_if (c : FT) (a b : FE) (e : Env) : eIf c a b e = (c e).bind fun k => if k then a e else b e := nr rfl
@[simp] theorem ev_and (a b : FE) (e : Env) : eAnd a b e = (a e).bind fun x => match x.d with
  | .bl true => b e
  | .bl false => .ok (.va (.bl false))
  | _ => .bad := rfl
@[simp] theorem ev_or (a b : FE) (e : Env) : eOr a b e = (a e).bind fun x => match x.d with
  | .bl false => b e
  | .bl true => .ok (.va (.bl true))
  | _ => .bad := rfl
@[simp] theorem ev_not (a : FE) (e : Env) : eNot a e = (a e).bind fun x => match x.d with
  | .bl k => .ok (.va (.bl (!k)))
  | _ => .bad := rfl
@[simp] theorem ev_chain (g h : D → D → R Sl) (a b c : FE) (e : Env) : eChain g h a b c e = (a e).bind fun x => (b e).bind fun y => (g x.d y.d).bind fun z => match z.d with
  | .bl true => (c e).bind fun w => h y.d w.d
  | .bl false => .ok (.va (.bl false))
  | _ => .bad := rfl
@[simp] theorem ev_lend (a : FE) (e : Env) : eLend a e = (a (e.map Sl.frz)).bind fun s => if s.loose then .ok s else .bad := nr rfl
@[simp] theorem ev_none (e : Env) : oNone e = .ok none := nr rfl
@[simp] theorem ev_some (a : FE) (e : Env) : oSome a e = (a e).bind fun x => match x.d with
  | .int i => .ok (some i)
  | _ => .bad := rfl
@[simp] theorem ev_sl (g : D → Option Int → Option Int → R Sl) (a : FE) (lo hi : Env → R (Option Int)) (e : Env) : eSl g a lo hi e = (a e).bind fun x => (lo e).bind fun l => (hi e).bind fun h => g x.d l h := nr rfl
@[simp] theorem ev_fz (a : FE) (e : Env) : eFz a e = (a e).bind fun s => .ok (.va s.d) := nr rfl
@[simp] theorem ev_dnew (e : Env) : eDNew e = .ok (.ow (.dic [])) := nr rfl
@[simp] theorem ev_ixO (i : Nat) (a : FE) (e : Env) : eIxO i a e = (match e[i]? with
  | some (.ow (.lst ds)) => (a e).bind fun x => (match x.d with
    | .int k => (match atD ds k with
      | some d => .ok (.va d)
      | none => .bad)
    | _ => .bad)
  | some (.va d) => (a e).bind fun x => dIdx d x.d
  | _ => .bad) := rfl
@[simp] theorem ev_call (n : Nat) (f : List D → R Sl) (a : FA) (e : Env) : eCall n f a e = (a e).bind fun ds => if ds.length = n then f ds else .bad := nr rfl
@[simp] theorem ev_get2 (a k x : FE) (e : Env) : eGet2 a k x e = (a e).bind fun u => match u.d with
  | .dic kvs => (k e).bind fun v => (x e).bind fun w => dGet2 kvs v.d w.d
  | _ => .bad := rfl
@[simp] theorem ev_bm (g : List D → D → R Sl) (a b : FE) (e : Env) : eBm g a b e = (a e).bind fun x => match x.d with
  | .lst ds => (b e).bind fun y => g ds y.d
  | _ => .bad := rfl
@[simp] theorem ev_lc (it : FI) (j : Nat) (c : FT) (el : FE) (own : List Nat) (e : Env) : eLc it j c el own e = (it e).bind fun ds => if ds.length ≤ LIM then (match lcLoop j c el (wipeE e own) ds with
  | .ok ys => .ok (.ow (.lst ys))
  | _ => .bad) else .bad := rfl
@[simp] theorem ev_tval (a : FE) (e : Env) : tVal a e = (a e).bind fun x => match x.d with
  | .bl k => .ok k
  | _ => .bad := rfl
@[simp] theorem ev_tand (a b : FT) (e : Env) : tAnd a b e = (a e).bind fun k => if k then b e else .ok false := nr rfl
@[simp] theorem ev_tor (a b : FT) (e : Env) : tOr a b e = (a e).bind fun k => if k then .ok true else b e := nr rfl
@[simp] theorem ev_tnot (a : FT) (e : Env) : tNot a e = (a e).bind fun k => .ok (!k) := nr rfl
@[simp] theorem ev_tyes (e : Env) : tYes e = .ok true := nr rfl
@[simp] theorem ev_iseq (a : FE) (e : Env) : iSeq a e = (a e).bind fun x => match x.d with
  | .lst ds => .ok ds
  | .tup ds => .ok ds
  | _ => .bad := rfl
@[simp] theorem ev_irange1 (a : FE) (e : Env) : iRange1 a e = (a e).bind fun x => rangeD x.d := nr rfl
@[simp] theorem ev_irange2 (a b : FE) (e : Env) : iRange2 a b e = (a e).bind fun x => (b e).bind fun y => range2D x.d y.d := nr rfl
theorem inR {j : Int} (h1 : -1000000 ≤ j) (h2 : j ≤ 1000000) : -(2 ^ 62) ≤ j ∧ j < 2 ^ 62 := by omega
theorem range_ok {j : Int} (h1 : -1000000 ≤ j) (h2 : j ≤ 1000000) : rangeD (.int j) = .ok (rng 0 j.toNat) := if_pos (inR h1 h2)
theorem range_nat {n : Nat} (h : n ≤ 1000000) : rangeD (.int (n : Int)) = .ok (rng 0 n) := by
  rw [range_ok (by omega) (by omega), Int.toNat_natCast]
@[simp] theorem range_4 : rangeD (.int 4) = .ok [.int 0, .int 1, .int 2, .int 3] := by
  rw [range_ok (by decide) (by decide)]
  rfl
@[simp] theorem range_2 : rangeD (.int 2) = .ok [.int 0, .int 1] := by
  rw [range_ok (by decide) (by decide)]
  rfl
@[simp] theorem range_3 : rangeD (.int 3) = .ok [.int 0, .int 1, .int 2] := by
  rw [range_ok (by decide) (by decide)]
  rfl
theorem range2_ok {i j : Int} (h1 : -1000000 ≤ i) (h2 : i ≤ 1000000) (h3 : -1000000 ≤ j) (h4 : j ≤ 1000000) : range2D (.int i) (.int j) = .ok (rng i (j - i).toNat) := if_pos ⟨inR h1 h2, inR h3 h4⟩
@[simp] theorem ev_ikeys (a : FE) (e : Env) : iKeys a e = (a e).bind fun x => match x with
  | .ow (.dic kvs) => .ok (kvs.map fun p => .int p.1)
  | _ => .bad := rfl
@[simp] theorem ev_next (e : Env) : sNext e = .nx e := nr rfl
@[simp] theorem ev_seq (a b : FS) (e : Env) : sSeq a b e = (a e).bind b := nr rfl
@[simp] theorem ev_set (i : Nat) (a : FE) (e : Env) : sSet i a e = (a e).out e fun s => .nx (e.set i s) := nr rfl
@[simp] theorem ev_drop (a : FE) (e : Env) : sDrop a e = (a e).out e fun _ => .nx e := nr rfl
@[simp] theorem ev_ret (a : FE) (e : Env) : sRet a e = (a e).out e fun s => .rt s := nr rfl
@[simp] theorem ev_retO (i : Nat) (e : Env) : sRetO i e = (match e[i]? with
  | some (.ow d) => .rt (.ow d)
  | some (.va d) => .rt (.va d)
  | _ => .bad) := rfl
@[simp] theorem ev_sif (c : FT) (a b : FS) (e : Env) : sIf c a b e = (c e).out e fun k => if k then a e else b e := nr rfl
@[simp] theorem ev_raise (c : Nat) (e : Env) : sRaise c e = .xc c e := nr rfl
@[simp] theorem ev_app (i : Nat) (a : FE) (e : Env) : sApp i a e = (match e[i]? with
  | some (.ow (.lst ds)) => (a e).out e fun s => if ds.length < LIM then .nx (e.set i (.ow (.lst (ds ++ [s.d])))) else .bad
  | _ => .bad) := rfl
@[simp] theorem ev_put (i : Nat) (k a : FE) (e : Env) : sPut i k a e = (match e[i]? with
  | some (.ow (.lst ds)) => (a e).out e fun s => (k e).out e fun x => (match x.d with
    | .int j => if 0 ≤ j ∧ j < ds.length then .nx (e.set i (.ow (.lst (ds.set j.toNat s.d)))) else .bad
    | _ => .bad)
  | _ => .bad) := rfl
@[simp] theorem ev_dput (i : Nat) (k a : FE) (e : Env) : sDPut i k a e = (match e[i]? with
  | some (.ow (.dic kvs)) => (a e).out e fun s => (k e).out e fun x => (match x.d, s.d.fv? with
    | .int j, some v => if kvs.length < LIM then .nx (e.set i (.ow (.dic (putA kvs j v)))) else .bad
    | _, _ => .bad)
  | _ => .bad) := rfl
@[simp] theorem ev_for (it : FI) (j : Nat) (b : FS) (e : Env) : sFor it j b e = (it e).out e fun ds => forD j b ds e := nr rfl
@[simp] theorem ev_forK (i j : Nat) (b : FS) (e : Env) : sForK i j b e = (match e[i]? with
  | some (.ow (.dic kvs)) => forD j b (kvs.map fun p => .int p.1) (e.set i (.va (.dic kvs)))
  | _ => .bad) := rfl
@[simp] theorem ev_while (n : Nat) (c : FT) (b : FS) (e : Env) : sWhile n c b e = whileD c b n e := nr rfl
@[simp] theorem ev_pub (is : List Nat) (a : FS) (e : Env) : sPub is a e = a (pubE is e) := nr rfl
@[simp] theorem pub_nil (e : Env) : pubE [] e = e := nr rfl
@[simp] theorem pub_cons (i : Nat) (is : List Nat) (e : Env) : pubE (i :: is) e = pubE is (match e[i]? with
  | some s => e.set i s.frz
  | none => e) := rfl
@[simp] theorem wipe_nil (e : Env) : wipeE e [] = e := nr rfl
@[simp] theorem wipe_cons (v : Nat) (vs : List Nat) (e : Env) : wipeE e (v :: vs) = (wipeE e vs).set v .no := nr rfl
def Out.res (o : Out) : R Sl := match o with
  | .nx _ => .ok (.va .non)
  | .rt s => .ok s
  | .xc c _ => .xc c
  | .bad => .bad
@[simp] theorem res_nx (e : Env) : (Out.nx e).res = .ok (.va .non) := nr rfl
@[simp] theorem res_rt (s : Sl) : (Out.rt s).res = .ok s := nr rfl
@[simp] theorem res_xc (c : Nat) (e : Env) : (Out.xc c e).res = .xc c := nr rfl
theorem fn_eq {N : Nat} {body : FS} {ds : List D} (env : Env) (h : ds.map Sl.va ++ List.replicate (N - ds.length) .no = env) : fnOf N body ds = (body env).res := by
  subst h
  unfold fnOf Out.res
  rfl
theorem fn_of {N : Nat} {body : FS} {ds : List D} : fnOf N body ds = (body (ds.map Sl.va ++ List.replicate (N - ds.length) .no)).res := fn_eq _ rfl
theorem lc_ok {it : FI} {j : Nat} {c : FT} {el : FE} {own : List Nat} {e : Env} {ds ys : List D} (h1 : it e = .ok ds) (h2 : ds.length ≤ 1000000) (h3 : lcLoop j c el (wipeE e own) ds = .ok ys) : eLc it j c el own e = .ok (.ow (.lst ys)) := by
  unfold eLc
  rw [h1, R.bind_ok, if_pos (show ds.length ≤ LIM from h2), h3]
/-! ### operations on written values -/
@[simp] theorem o_add (i j : Int) : dAdd (.int i) (.int j) = .ok (.va (.int (i + j))) := nr rfl
@[simp] theorem o_sub (i j : Int) : dSub (.int i) (.int j) = .ok (.va (.int (i - j))) := nr rfl
@[simp] theorem o_neg (i : Int) : dNeg (.int i) = .ok (.va (.int (-i))) := nr rfl
theorem o_mul {i j : Int} (h : (small i || small j) = true) : dMul (.int i) (.int j) = .ok (.va (.int (i * j))) := if_pos h
theorem small_of {i : Int} (h1 : -(2 ^ 64) < i) (h2 : i < 2 ^ 64) : small i = true := decide_eq_true ⟨h1, h2⟩
theorem o_mulL {i j : Int} (h1 : -(2 ^ 64) < i) (h2 : i < 2 ^ 64) : dMul (.int i) (.int j) = .ok (.va (.int (i * j))) := o_mul (by rw [small_of h1 h2]; rfl)
theorem o_mulR {i j : Int} (h1 : -(2 ^ 64) < j) (h2 : j < 2 ^ 64) : dMul (.int i) (.int j) = .ok (.va (.int (i * j))) := o_mul (by rw [small_of h1 h2, Bool.or_true])
theorem o_floor {i j : Int} (h : 0 < j ∧ j < 1073741824) : dFloor (.int i) (.int j) = .ok (.va (.int (i / j))) := if_pos h
theorem o_mod {i j : Int} (h : 0 < j) : dMod (.int i) (.int j) = .ok (.va (.int (i % j))) := if_pos h
theorem o_pow {i : Int} {n : Nat} (h1 : n ≤ 1000000) (h2 : i.natAbs < 2 ^ 64) : dPow (.int i) (.int (n : Int)) = .ok (.va (.int (i ^ n))) := by
  unfold dPow
  simp only
  rw [if_pos ⟨by omega, h2⟩, Int.toNat_natCast]
@[simp] theorem o_lt (i j : Int) : dLt (.int i) (.int j) = .ok (.va (.bl (decide (i < j)))) := nr rfl
@[simp] theorem o_le (i j : Int) : dLe (.int i) (.int j) = .ok (.va (.bl (decide (i ≤ j)))) := nr rfl
@[simp] theorem o_gt (i j : Int) : dGt (.int i) (.int j) = .ok (.va (.bl (decide (j < i)))) := nr rfl
@[simp] theorem o_ge (i j : Int) : dGe (.int i) (.int j) = .ok (.va (.bl (decide (j ≤ i)))) := nr rfl
@[simp] theorem o_eq (i j : Int) : dEq (.int i) (.int j) = .ok (.va (.bl (decide (i = j)))) := nr rfl
@[simp] theorem o_ne (i j : Int) : dNe (.int i) (.int j) = .ok (.va (.bl (!decide (i = j)))) := nr rfl
@[simp] theorem o_eqb (i j : Bool) : dEq (.bl i) (.bl j) = .ok (.va (.bl (decide (i = j)))) := nr rfl
@[simp] theorem o_isN (d : D) : dIsN d = .ok (.va (.bl d.isNon)) := nr rfl
@[simp] theorem o_notN (d : D) : dNotN d = .ok (.va (.bl (!d.isNon))) := nr rfl
@[simp] theorem isNon_non : D.non.isNon = true := nr rfl
@[simp] theorem isNon_int (i : Int) : (D.int i).isNon = false := nr rfl
@[simp] theorem isNon_tup (ds : List D) : (D.tup ds).isNon = false := nr rfl
@[simp] theorem isNon_lst (ds : List D) : (D.lst ds).isNon = false := nr rfl
@[simp] theorem o_idxL (ds : List D) (i : Int) : dIdx (.lst ds) (.int i) = (match atD ds i with
  | some d => .ok (.va d)
  | none => .bad) := rfl
@[simp] theorem o_idxT (ds : List D) (i : Int) : dIdx (.tup ds) (.int i) = (match atD ds i with
  | some d => .ok (.va d)
  | none => .bad) := rfl
@[simp] theorem o_lenL (ds : List D) : bLen [.lst ds] = .ok (.va (.int ds.length)) := nr rfl
@[simp] theorem o_lenT (ds : List D) : bLen [.tup ds] = .ok (.va (.int ds.length)) := nr rfl
@[simp] theorem o_lenS (ns : List Int) : bLen [.scr ns] = .ok (.va (.int ns.length)) := nr rfl
@[simp] theorem o_lenD (kvs : List (Int × Fv)) : bLenD [.dic kvs] = .ok (.va (.int kvs.length)) := nr rfl
@[simp] theorem o_listL (ds : List D) : bList [.lst ds] = .ok (.ow (.lst ds)) := nr rfl
@[simp] theorem o_listT (ds : List D) : bList [.tup ds] = .ok (.ow (.lst ds)) := nr rfl
@[simp] theorem o_tupleL (ds : List D) : bTuple [.lst ds] = .ok (.va (.tup ds)) := nr rfl
@[simp] theorem o_tupleT (ds : List D) : bTuple [.tup ds] = .ok (.va (.tup ds)) := nr rfl
@[simp] theorem o_int (i : Int) : bInt [.int i] = .ok (.va (.int i)) := nr rfl
@[simp] theorem o_intb (k : Bool) : bInt [.bl k] = .ok (.va (.int (if k then 1 else 0))) := nr rfl
@[simp] theorem o_max2 (i j : Int) : bMax2 [.int i, .int j] = .ok (.va (.int (if j > i then j else i))) := nr rfl
@[simp] theorem o_min2 (i j : Int) : bMin2 [.int i, .int j] = .ok (.va (.int (if j < i then j else i))) := nr rfl
@[simp] theorem o_slL (ds : List D) (lo hi : Option Int) : dSl (.lst ds) lo hi = .ok (.ow (.lst (cutD ds lo hi))) := nr rfl
@[simp] theorem o_slT (ds : List D) (lo hi : Option Int) : dSl (.tup ds) lo hi = .ok (.va (.tup (cutD ds lo hi))) := nr rfl
theorem o_addL {a b : List D} (h : a.length + b.length ≤ LIM) : dAdd (.lst a) (.lst b) = .ok (.ow (.lst (a ++ b))) := if_pos h
theorem o_addT {a b : List D} (h : a.length + b.length ≤ LIM) : dAdd (.tup a) (.tup b) = .ok (.va (.tup (a ++ b))) := if_pos h
/-! ### lists or tuples -/
def SeqD (d : D) (ds : List D) : Prop := d = .lst ds ∨ d = .tup ds
theorem iseq_ok {i : Nat} {e : Env} {d : D} {ds : List D} (h : e[i]? = some (.va d)) (s : SeqD d ds) : iSeq (eVar i) e = .ok ds := by
  rw [ev_iseq, ev_var, h]
  rcases s with rfl | rfl
  · rw [R.bind_ok]; rfl
  · rw [R.bind_ok]; rfl
theorem len_seq {d : D} {ds : List D} (s : SeqD d ds) : bLen [d] = .ok (.va (.int ds.length)) := by
  rcases s with rfl | rfl <;> rfl
theorem list_seq {d : D} {ds : List D} (s : SeqD d ds) : bList [d] = .ok (.ow (.lst ds)) := by
  rcases s with rfl | rfl <;> rfl
theorem idx_seq {d : D} {ds : List D} {i : Int} {x : D} (s : SeqD d ds) (h : atD ds i = some x) : dIdx d (.int i) = .ok (.va x) := by
  rcases s with rfl | rfl
  · rw [o_idxL, h]
  · rw [o_idxT, h]
/-! ### items -/
theorem atD_nat {α : Type} {xs : List α} {i : Nat} : atD xs (i : Int) = xs[i]? := by
  unfold atD ixOf
  rw [if_pos (Int.natCast_nonneg i)]
  by_cases h : (i : Int) < (xs.length : Int)
  · rw [if_pos h]
    simp
  · rw [if_neg h, List.getElem?_eq_none (by omega)]
    rfl
theorem atD_ofNat {α : Type} {xs : List α} {i : Nat} : atD xs (OfNat.ofNat i) = xs[i]? := atD_nat
@[simp] theorem atD_0 {α : Type} {xs : List α} : atD xs 0 = xs[0]? := atD_nat (i := 0)
@[simp] theorem atD_1 {α : Type} {xs : List α} : atD xs 1 = xs[1]? := atD_nat (i := 1)
@[simp] theorem atD_2 {α : Type} {xs : List α} : atD xs 2 = xs[2]? := atD_nat (i := 2)
@[simp] theorem atD_3 {α : Type} {xs : List α} : atD xs 3 = xs[3]? := atD_nat (i := 3)
@[simp] theorem atD_4 {α : Type} {xs : List α} : atD xs 4 = xs[4]? := atD_nat (i := 4)
@[simp] theorem atD_5 {α : Type} {xs : List α} : atD xs 5 = xs[5]? := atD_nat (i := 5)
theorem atD_of {α : Type} {xs : List α} {i : Int} (h0 : 0 ≤ i) (h : i < xs.length) : atD xs i = some (xs[i.toNat]'(by omega)) := by
  have e : i = (i.toNat : Int) := by omega
  conv => lhs; rw [e]
  rw [atD_nat, List.getElem?_eq_getElem]
theorem atD_ge {α : Type} {xs : List α} {i : Int} (h0 : 0 ≤ i) : atD xs i = xs[i.toNat]? := by
  have e : i = (i.toNat : Int) := by omega
  conv => lhs; rw [e]
  exact atD_nat
/-! ### ints, rows of ints -/
abbrev encI (xs : List Int) : List D := xs.map D.int
abbrev encR (r : List Int) : D := .tup (encI r)
abbrev encRs (rs : List (List Int)) : List D := rs.map encR
theorem rng_eq (n : Nat) : rng 0 n = ((List.range n).map fun i : Nat => D.int (i : Int)) := by
  unfold rng
  apply List.map_congr_left
  intro i _
  rw [Int.zero_add]
theorem rng_eq' (lo : Int) (n : Nat) : rng lo n = ((List.range n).map fun i : Nat => D.int (lo + (i : Int))) := nr rfl
/-! ### loops -/
theorem forD_inv {α S : Type} {j : Nat} {b : FS} {enc : α → D} (I : S → Env → Prop) (step : S → α → S) : ∀ (xs : List α) (s : S) (e : Env), I s e →
    (∀ s x e, x ∈ xs → I s e → ∃ e', b (e.set j (.va (enc x))) = .nx e' ∧ I (step s x) e') → ∃ e', forD j b (xs.map enc) e = .nx e' ∧ I (xs.foldl step s) e'
  | [], s, e, h, _ => ⟨e, rfl, h⟩
  | x :: xs, s, e, h, hb => by
    obtain ⟨e1, h1, i1⟩ := hb s x e List.mem_cons_self h
    obtain ⟨e2, h2, i2⟩ := forD_inv I step xs (step s x) e1 i1 fun s y e m => hb s y e (List.mem_cons_of_mem _ m)
    refine ⟨e2, ?_, i2⟩
    show (b (e.set j (.va (enc x)))).bind _ = _
    rw [h1]
    exact h2
/-- an invariant by the number of items walked -/
theorem forD_ix {α : Type} {j : Nat} {b : FS} {enc : α → D} (xs : List α) (I : Nat → Env → Prop) (e : Env) (h : I 0 e)
    (hb : ∀ (i : Nat) (x : α) (e : Env), xs[i]? = some x → I i e → ∃ e', b (e.set j (.va (enc x))) = .nx e' ∧ I (i + 1) e') : ∃ e', forD j b (xs.map enc) e = .nx e' ∧ I xs.length e' := by
  suffices H : ∀ (ys : List α) (k : Nat) (e : Env), xs.drop k = ys → k + ys.length = xs.length → I k e → ∃ e', forD j b (ys.map enc) e = .nx e' ∧ I xs.length e' by
    exact H xs 0 e (by simp) (by simp) h
  intro ys
  induction ys with
  | nil => intro k e _ hk i; exact ⟨e, rfl, by simpa [← hk] using i⟩
  | cons y ys ih =>
    intro k e hd hk i
    have hy : xs[k]? = some y := by
      have := congrArg (·[0]?) hd
      simpa using this
    obtain ⟨e1, h1, i1⟩ := hb k y e hy i
    have hd2 : xs.drop (k + 1) = ys := by
      have := congrArg List.tail hd
      simpa using this
    obtain ⟨e2, h2, i2⟩ := ih (k + 1) e1 hd2 (by simp at hk; omega) i1
    refine ⟨e2, ?_, i2⟩
    show (b (e.set j (.va (enc y)))).bind _ = _
    rw [h1]
    exact h2
/-- a fold, what has been walked at hand -/
theorem forD_fold {α S : Type} {j : Nat} {b : FS} {enc : α → D} (E : S → Env → Prop) (step : S → α → S) (xs : List α) (s0 : S) (e : Env) (h : E s0 e)
    (hb : ∀ (i : Nat) (x : α) (e : Env), xs[i]? = some x → E ((xs.take i).foldl step s0) e → ∃ e', b (e.set j (.va (enc x))) = .nx e' ∧ E (step ((xs.take i).foldl step s0) x) e') : ∃ e', forD j b (xs.map enc) e = .nx e' ∧ E (xs.foldl step s0) e' := by
  have := forD_ix (j := j) (b := b) (enc := enc) xs (fun i e => E ((xs.take i).foldl step s0) e) e (by simpa using h) fun i x e hx he => by
    obtain ⟨e', h1, h2⟩ := hb i x e hx he
    refine ⟨e', h1, ?_⟩
    obtain ⟨hl, hv⟩ := List.getElem?_eq_some_iff.mp hx
    rw [List.take_succ_eq_append_getElem hl, List.foldl_append, hv]
    exact h2
  simpa using this
/-- over a range -/
theorem forD_rng {j : Nat} {b : FS} (n : Nat) (I : Nat → Env → Prop) (e : Env) (h : I 0 e)
    (hb : ∀ (i : Nat) (e : Env), i < n → I i e → ∃ e', b (e.set j (.va (.int i))) = .nx e' ∧ I (i + 1) e') : ∃ e', forD j b (rng 0 n) e = .nx e' ∧ I n e' := by
  rw [rng_eq]
  have := forD_ix (j := j) (b := b) (enc := fun i : Nat => D.int (i : Int)) (List.range n) I e h fun i x e hx hi => by
    obtain ⟨hl, hv⟩ := List.getElem?_eq_some_iff.mp hx
    rw [List.getElem_range] at hv
    rw [List.length_range] at hl
    subst hv
    exact hb i e hl hi
  rwa [List.length_range] at this
/-- a walk that may hand back early: the first item at which it does -/
theorem forD_ret {α : Type} {j : Nat} {b : FS} {enc : α → D} (I : Env → Prop) (hit : α → Option Sl) : ∀ (xs : List α) (e : Env), I e →
    (∀ x e, x ∈ xs → I e → match hit x with
      | some s => b (e.set j (.va (enc x))) = .rt s
      | none => ∃ e', b (e.set j (.va (enc x))) = .nx e' ∧ I e') → (match xs.findSome? hit with
        | some s => forD j b (xs.map enc) e = .rt s
        | none => ∃ e', forD j b (xs.map enc) e = .nx e' ∧ I e')
  | [], e, h, _ => ⟨e, rfl, h⟩
  | x :: xs, e, h, hb => by
    have h0 := hb x e List.mem_cons_self h
    cases q : hit x with
    | some s =>
      rw [q] at h0
      rw [List.findSome?_cons, q]
      show (b (e.set j (.va (enc x)))).bind _ = _
      rw [h0]
      rfl
    | none =>
      rw [q] at h0
      obtain ⟨e1, h1, i1⟩ := h0
      have ih := forD_ret (j := j) (b := b) (enc := enc) I hit xs e1 i1 fun y e m => hb y e (List.mem_cons_of_mem _ m)
      rw [List.findSome?_cons, q]
      have er : forD j b ((x :: xs).map enc) e = forD j b (xs.map enc) e1 := by
        show (b (e.set j (.va (enc x)))).bind _ = _
        rw [h1]
        rfl
      simp only
      rw [er]
      exact ih
/-- a while loop by a measure -/
theorem whileD_inv {c : FT} {b : FS} (I : Nat → Env → Prop) (hc : ∀ m e, I (m + 1) e → c e = .ok true ∧ ∃ e', b e = .nx e' ∧ ∃ m', m' ≤ m ∧ I m' e') (h0 : ∀ e, I 0 e → c e = .ok false) : ∀ (n m : Nat) (e : Env), m < n → I m e → ∃ e', whileD c b n e = .nx e' ∧ I 0 e'
  | 0, m, e, h, _ => absurd h (Nat.not_lt_zero _)
  | n + 1, 0, e, _, h => by
    refine ⟨e, ?_, h⟩
    show (c e).out e _ = _
    rw [h0 e h]
    rfl
  | n + 1, m + 1, e, hm, h => by
    obtain ⟨h1, e1, h2, m', hm', h3⟩ := hc m e h
    obtain ⟨e2, h4, h5⟩ := whileD_inv I hc h0 n m' e1 (by omega) h3
    refine ⟨e2, ?_, h5⟩
    show (c e).out e _ = _
    rw [h1]
    show (b e).bind _ = _
    rw [h2]
    exact h4
/-- comprehensions -/
theorem lc_cons (j : Nat) (c : FT) (el : FE) (e : Env) (x : D) (xs : List D) : lcLoop j c el e (x :: xs) = (match c (e.set j (.va x)) with
    | .ok true => (match el (e.set j (.va x)) with
      | .ok y => (lcLoop j c el e xs).bind fun ys => .ok (y.d :: ys)
      | _ => .bad)
    | .ok false => lcLoop j c el e xs
    | _ => .bad) := nr rfl
theorem lc_map {α : Type} {j : Nat} {el : FE} {e : Env} {enc : α → D} {g : α → Sl} : ∀ (xs : List α), (∀ x ∈ xs, el (e.set j (.va (enc x))) = .ok (g x)) → lcLoop j tYes el e (xs.map enc) = .ok (xs.map fun x => (g x).d)
  | [], _ => rfl
  | x :: xs, h => by
    rw [List.map_cons, lc_cons, ev_tyes]
    simp only
    rw [h x List.mem_cons_self]
    simp only
    rw [lc_map xs fun y m => h y (List.mem_cons_of_mem _ m)]
    rfl
theorem lc_filter {α : Type} {j : Nat} {c : FT} {el : FE} {e : Env} {enc : α → D} {p : α → Bool} {g : α → Sl} : ∀ (xs : List α), (∀ x ∈ xs, c (e.set j (.va (enc x))) = .ok (p x)) → (∀ x ∈ xs, p x = true → el (e.set j (.va (enc x))) = .ok (g x)) →
    lcLoop j c el e (xs.map enc) = .ok ((xs.filter p).map fun x => (g x).d)
  | [], _, _ => rfl
  | x :: xs, h1, h2 => by
    have ih := lc_filter (j := j) (c := c) (el := el) (e := e) (enc := enc) (p := p) (g := g) xs (fun y m => h1 y (List.mem_cons_of_mem _ m)) fun y m => h2 y (List.mem_cons_of_mem _ m)
    rw [List.map_cons, lc_cons, h1 x List.mem_cons_self]
    cases q : p x with
    | true =>
      simp only
      rw [h2 x List.mem_cons_self q]
      simp only
      rw [ih, List.filter_cons_of_pos (by exact q)]
      rfl
    | false =>
      simp only
      rw [ih, List.filter_cons_of_neg (by simp [q])]
@[simp] theorem lim_val : LIM = 1000000 := nr rfl
end DL
set_option maxRecDepth 100000
namespace DL
open PySem (Str)
/-- the k-th cell of a script -/
def cell (ns : List Int) (k : Int) : Int := ns.getD k.toNat 0
theorem cell_at_ok {ns : List Int} {k : Int} (h0 : 0 ≤ k) : f_law_cell_at [.scr ns, .int k] = .ok (.va (.int (cell ns k))) := by
  unfold f_law_cell_at F_law_cell_at cell
  rw [fn_of]
  by_cases h : k < ns.length
  · have h2 : k.toNat < ns.length := by omega
    simp [h, dIdx, atD_ge h0, h2]
  · have h2 : ns.length ≤ k.toNat := by omega
    simp [h, h2]
def pick (ns : List Int) (k : Int) : Int := if k < ns.length then cell ns k else (cell ns 0 + 7 * k + 3) * 48271 % 2147483647 / 13
theorem pick_ok {ns : List Int} {k : Int} (h0 : 0 ≤ k) : f_law_pick [.scr ns, .int k] = .ok (.va (.int (pick ns k))) := by
  unfold f_law_pick F_law_pick pick
  rw [fn_of]
  by_cases h : k < ns.length
  · have h2 : k.toNat < ns.length := by omega
    simp [h, dIdx, atD_ge h0, h2, cell]
  · simp [h, cell_at_ok, o_mulL, o_mulR, o_mod, o_floor]
end DL
set_option maxRecDepth 100000
namespace DL
open PySem (Str)
/-- pairs of numbers -/
abbrev encP (p : Int × Int) : D := .tup [.int p.1, .int p.2]
/-- how often each number stands among the owners of N places when k lines are drawn -/
def Fill (own : List Int) (N k : Nat) : Prop := ∀ v : Int, own.count v = if v = -1 then N - 2 * k else if 0 ≤ v ∧ v < k then 2 else 0
theorem count_put2 {own : List Int} {a b : Nat} {n : Int} (ha : a < own.length) (hb : b < own.length) (hab : a ≠ b) (ea : own[a]? = some (-1)) (eb : own[b]? = some (-1)) (v : Int) :
    ((own.set a n).set b n).count v = (own.count v - (if v = -1 then 2 else 0)) + (if v = n then 2 else 0) ∨ n = -1 := by
  by_cases hn : n = -1
  · exact .inr hn
  left
  have hb' : b < (own.set a n).length := by rw [List.length_set]; exact hb
  have ea' : own[a] = -1 := by rw [List.getElem?_eq_getElem ha] at ea; exact Option.some.inj ea
  have eb' : own[b] = -1 := by rw [List.getElem?_eq_getElem hb] at eb; exact Option.some.inj eb
  have eb2 : (own.set a n)[b] = -1 := by rw [List.getElem_set_ne hab]; exact eb'
  rw [List.count_set hb', List.count_set ha, ea', eb2]
  by_cases h1 : v = -1
  · subst h1
    have h2 : ¬ (-1 = n) := fun e => hn e.symm
    simp [h2, hn]
    omega
  · have h2 : ¬ (-1 = v) := fun e => h1 e.symm
    by_cases h3 : v = n
    · subst h3; simp [h1, h2]
    · have h4 : ¬ (n = v) := fun e => h3 e.symm
      simp [h1, h2, h3, h4]
theorem fill_put {own : List Int} {N k a b : Nat} (F : Fill own N k) (hl : 2 * k + 2 ≤ N) (ha : a < own.length) (hb : b < own.length) (hab : a ≠ b) (ea : own[a]? = some (-1)) (eb : own[b]? = some (-1)) : Fill ((own.set a (k : Int)).set b (k : Int)) N (k + 1) := by
  intro v
  rcases count_put2 ha hb hab ea eb (n := (k : Int)) v with h | h
  · rw [h, F v]
    by_cases h1 : v = -1
    · subst h1
      have : ¬ ((-1 : Int) = (k : Int)) := by omega
      simp [this]
      omega
    · by_cases h2 : v = (k : Int)
      · subst h2
        have c2 : (0 : Int) ≤ (k : Int) ∧ (k : Int) < ((k + 1 : Nat) : Int) := by omega
        rw [if_neg h1, if_neg (by omega), if_neg h1, if_pos rfl, if_neg h1, if_pos c2]
      · rw [if_neg h1, if_neg h1, if_neg h2, if_neg h1]
        by_cases h3 : 0 ≤ v ∧ v < (k : Int)
        · rw [if_pos h3, if_pos (by omega)]
        · rw [if_neg h3, if_neg (by omega)]
  · omega
theorem fill_ge {own : List Int} {N k p : Nat} {v : Int} (F : Fill own N k) (h : own[p]? = some v) : v = -1 ∨ (0 ≤ v ∧ v < k) := by
  have m : v ∈ own := List.mem_of_getElem? h
  have c : 0 < own.count v := List.count_pos_iff.mpr m
  rw [F v] at c
  split at c
  · exact .inl (by assumption)
  · split at c
    · exact .inr (by assumption)
    · omega
theorem filter_range_count (p : Int → Bool) : ∀ (xs : List Int), ((List.range xs.length).filter fun i => p (xs.getD i 0)).length = xs.countP p
  | [] => rfl
  | x :: xs => by
    have ih := filter_range_count p xs
    rw [List.length_cons, List.range_succ_eq_map, List.filter_cons, List.countP_cons]
    have e : ((List.map Nat.succ (List.range xs.length)).filter fun i => p ((x :: xs).getD i 0)).length = ((List.range xs.length).filter fun i => p (xs.getD i 0)).length := by
      rw [List.filter_map, List.length_map]
      rfl
    have e0 : (x :: xs).getD 0 0 = x := rfl
    rw [e0]
    by_cases h : p x = true
    · rw [if_pos h, if_pos h, List.length_cons, e, ih]
    · rw [if_neg h, if_neg h, e, ih, Nat.add_zero]
/-! ### the frame of law_rows -/
def envR (ns : List Int) (start : Int) (m : Nat) (fx : List (Int × Int)) (own : List Int) (k l n a : Sl) : Env :=
  [.va (.scr ns), .va (.int start), .va (.int m), .va (.lst (fx.map encP)), .ow (.lst (encI own)), k, l, n, a]
theorem encI_set (xs : List Int) (i : Nat) (v : Int) : (encI xs).set i (.int v) = encI (xs.set i v) := List.map_set.symm
theorem rows1 {ns : List Int} {start : Int} {m : Nat} {fx : List (Int × Int)} {own : List Int} {i : Nat} {p : Int × Int} {k : Sl} (hi : fx[i]? = some p) (h1 : 0 ≤ p.1 ∧ p.1 < own.length) (h2 : 0 ≤ p.2 ∧ p.2 < own.length) :
    B_law_rows_1 ((envR ns start m fx own k .no .no .no).set 5 (.va (.int i))) = .nx (envR ns start m fx ((own.set p.1.toNat i).set p.2.toNat i) (.va (.int i)) .no .no .no) := by
  unfold B_law_rows_1 envR
  have e : (fx.map encP)[i]? = some (encP p) := by rw [List.getElem?_map, hi]; rfl
  simp [atD_nat, e, h1, h2]

abbrev encN (xs : List Nat) : List D := xs.map fun p : Nat => D.int (p : Int)
theorem cutD_map {α β : Type} (f : α → β) (xs : List α) (lo hi : Option Int) : cutD (xs.map f) lo hi = (cutD xs lo hi).map f := by
  unfold cutD
  rw [List.length_map, List.map_take, List.map_drop]
theorem cut_mid {α : Type} {xs : List α} {a b : Nat} (h : a ≤ b) (hb : b ≤ xs.length) : cutD xs (some (a : Int)) (some (b : Int)) = (xs.drop a).take (b - a) := by
  unfold cutD sIxD
  simp only [show ¬ ((a : Int) < 0) by omega, show ¬ ((b : Int) < 0) by omega, if_false, Int.toNat_natCast]
  rw [Nat.min_eq_left hb, Nat.min_eq_left (show a ≤ xs.length by omega)]
theorem cut_to {α : Type} {xs : List α} {a : Nat} (ha : a ≤ xs.length) : cutD xs (some (a : Int)) none = xs.drop a := by
  unfold cutD sIxD
  simp only [show ¬ ((a : Int) < 0) by omega, if_false, Int.toNat_natCast]
  rw [Nat.min_eq_left ha, List.take_of_length_le (by simp)]
theorem cut_from {α : Type} {xs : List α} {a : Nat} (ha : a ≤ xs.length) : cutD xs none (some (a : Int)) = xs.take a := by
  unfold cutD sIxD
  simp only [show ¬ ((a : Int) < 0) by omega, if_false, Int.toNat_natCast]
  rw [Nat.min_eq_left ha, List.drop_zero, Nat.sub_zero]
/-- where the next partner stands -/
def pAt (ns : List Int) (start : Int) (n len : Nat) : Nat := (1 + pick ns (start + n) % ((len : Int) - 1)).toNat
theorem pAt_ok {ns : List Int} {start : Int} {n len : Nat} (h : 2 ≤ len) : 1 ≤ pAt ns start n len ∧ pAt ns start n len < len ∧ 1 + pick ns (start + n) % ((len : Int) - 1) = (pAt ns start n len : Nat) := by
  unfold pAt
  have h1 : 0 ≤ pick ns (start + n) % ((len : Int) - 1) := Int.emod_nonneg _ (by omega)
  have h2 : pick ns (start + n) % ((len : Int) - 1) < (len : Int) - 1 := Int.emod_lt_of_pos _ (by omega)
  omega
theorem rows2 {ns : List Int} {start : Int} {m : Nat} {fx : List (Int × Int)} {own : List Int} {left : List Nat} {n : Nat} {k a : Sl} (hs : 0 ≤ start) (hl : 2 ≤ left.length) (hl2 : left.length ≤ 1000) (hb : ∀ p ∈ left, p < own.length) :
    B_law_rows_2 (envR ns start m fx own k (.va (.lst (encN left))) (.va (.int n)) a) = .nx (envR ns start m fx ((own.set (left.getD 0 0) n).set (left.getD (pAt ns start n left.length) 0) n) k
      (.va (.lst (encN ((left.drop 1).take (pAt ns start n left.length - 1) ++ left.drop (pAt ns start n left.length + 1))))) (.va (.int ((n + 1 : Nat) : Int))) (.va (.int (pAt ns start n left.length)))) := by
  obtain ⟨p1, p2, pe⟩ := pAt_ok (ns := ns) (start := start) (n := n) hl
  generalize pAt ns start n left.length = q at *
  have e0 : (encN left)[0]? = some (.int ((left.getD 0 0 : Nat) : Int)) := by
    rw [List.getElem?_map, List.getElem?_eq_getElem (by omega), List.getD_eq_getElem?_getD, List.getElem?_eq_getElem (by omega)]
    rfl
  have eq : (encN left)[q]? = some (.int ((left.getD q 0 : Nat) : Int)) := by
    rw [List.getElem?_map, List.getElem?_eq_getElem p2, List.getD_eq_getElem?_getD, List.getElem?_eq_getElem p2]
    rfl
  have b0 : left.getD 0 0 < own.length := hb _ (by rw [List.getD_eq_getElem?_getD, List.getElem?_eq_getElem (by omega)]; exact List.getElem_mem _)
  have bq : left.getD q 0 < own.length := hb _ (by rw [List.getD_eq_getElem?_getD, List.getElem?_eq_getElem p2]; exact List.getElem_mem _)
  have c1 : cutD (encN left) (some 1) (some (q : Int)) = encN ((left.drop 1).take (q - 1)) := by
    rw [cutD_map, show (some (1 : Int)) = some ((1 : Nat) : Int) from rfl, cut_mid p1 (by omega)]
  have c2 : cutD (encN left) (some ((q : Int) + 1)) none = encN (left.drop (q + 1)) := by
    rw [cutD_map, show (some ((q : Int) + 1)) = some ((q + 1 : Nat) : Int) from rfl, cut_to (by omega)]
  have h3 : 0 < (left.length : Int) - 1 := by omega
  unfold B_law_rows_2 envR
  have hpk := pick_ok (ns := ns) (k := start + n) (by omega)
  simp only [ev_seq, ev_set, ev_op2, ev_c, ev_call, ev_cons, ev_nil, ev_var, ev_cb, ev_put, ev_fz, ev_sl, ev_some, ev_none, R.bind_ok, R.out_ok, Out.bind_nx, List.getElem?_cons_succ, List.getElem?_cons_zero, Sl.d_va, Sl.d_ow, o_add, o_lenL, List.length_map, List.length_cons, List.length_nil, if_pos, hpk, o_sub, o_mod h3, pe, List.set_cons_succ, List.set_cons_zero, o_idxL, atD_0, e0, atD_nat, eq]
  have z : (0 : Int) ≤ (left.getD 0 0 : Nat) ∧ ((left.getD 0 0 : Nat) : Int) < (own.length : Int) := by omega
  have z2 : (0 : Int) ≤ (left.getD q 0 : Nat) ∧ ((left.getD q 0 : Nat) : Int) < (((encI own).set (left.getD 0 0) (.int n)).length : Int) := by rw [List.length_set, List.length_map]; omega
  have z2' : (0 : Int) ≤ (left.getD q 0 : Nat) ∧ ((left.getD q 0 : Nat) : Int) < ((encI (own.set (left.getD 0 0) n)).length : Int) := by rw [List.length_map, List.length_set]; omega
  simp only [z, and_self, if_true, Out.bind_nx, Int.toNat_natCast, R.out_ok, R.bind_ok, z2', o_slL, c1, c2, Sl.d_ow, encI_set, ev_seq, ev_set, ev_op2, ev_c, ev_var, ev_put, ev_fz, ev_sl, ev_some, ev_none, List.getElem?_cons_succ, List.getElem?_cons_zero, Sl.d_va, o_add, List.set_cons_succ, List.set_cons_zero, o_idxL, atD_nat, eq]
  have hle : (encN ((left.drop 1).take (q - 1))).length + (encN (left.drop (q + 1))).length ≤ LIM := by
    simp only [List.length_map, List.length_take, List.length_drop, lim_val]
    omega
  rw [o_addL hle]
  simp only [R.bind_ok, R.out_ok, Out.bind_nx, Sl.d_ow, List.set_cons_succ, List.set_cons_zero, ← List.map_append]
  rfl
end DL
set_option maxRecDepth 100000
namespace DL
open PySem (Str)
/-- what law_rows draws: m rows of four, each of the first 2 m numbers at two ends -/
structure Drawn (m : Nat) (rs : List (List Int)) : Prop where
  len : rs.length = m
  four : ∀ r ∈ rs, r.length = 4
  two : ∀ v : Int, rs.flatten.count v = if 0 ≤ v ∧ v < 2 * (m : Int) then 2 else 0
theorem nodup_inj {α : Type} {l : List α} (nd : l.Nodup) {i j : Nat} {hi : i < l.length} {hj : j < l.length} (e : l[i] = l[j]) : i = j := by
  have h := List.pairwise_iff_getElem.mp nd
  rcases Nat.lt_trichotomy i j with q | q | q
  · exact absurd e (h i j hi hj q)
  · exact q
  · exact absurd e.symm (h j i hj hi q)
theorem two_free {own : List Int} {a b : Nat} (ha : own[a]? = some (-1)) (hb : own[b]? = some (-1)) (hab : a ≠ b) : 2 ≤ own.count (-1) := by
  obtain ⟨la, ea⟩ := List.getElem?_eq_some_iff.mp ha
  obtain ⟨lb, eb⟩ := List.getElem?_eq_some_iff.mp hb
  have h := List.count_set (a := (0 : Int)) (b := -1) la
  rw [ea] at h
  have m : (-1 : Int) ∈ own.set a 0 := by
    refine List.mem_of_getElem? (i := b) ?_
    rw [List.getElem?_set_ne hab]
    exact hb
  have c : 0 < (own.set a 0).count (-1) := List.count_pos_iff.mpr m
  simp at h
  omega
theorem fill_pair {own : List Int} {N k a b : Nat} (F : Fill own N k) (hab : a ≠ b) (ea : own[a]? = some (-1)) (eb : own[b]? = some (-1)) : Fill ((own.set a (k : Int)).set b (k : Int)) N (k + 1) ∧ 2 * k + 2 ≤ N := by
  have h2 := two_free ea eb hab
  have h3 := F (-1)
  rw [if_pos rfl] at h3
  have hl : 2 * k + 2 ≤ N := by omega
  exact ⟨fill_put F hl (List.getElem?_eq_some_iff.mp ea).1 (List.getElem?_eq_some_iff.mp eb).1 hab ea eb, hl⟩
theorem chunks : ∀ (m : Nat) (xs : List Int), xs.length = 4 * m → ((List.range m).map fun k => (xs.drop (4 * k)).take 4).flatten = xs
  | 0, xs, h => by
    have e : xs = [] := List.length_eq_zero_iff.mp (by omega)
    subst e
    rfl
  | m + 1, xs, h => by
    rw [List.range_succ_eq_map, List.map_cons, List.map_map, List.flatten_cons]
    have ih := chunks m (xs.drop 4) (by rw [List.length_drop]; omega)
    have e : (List.map ((fun k => (xs.drop (4 * k)).take 4) ∘ Nat.succ) (List.range m)) = (List.range m).map fun k => ((xs.drop 4).drop (4 * k)).take 4 := by
      apply List.map_congr_left
      intro k _
      show (xs.drop (4 * (k + 1))).take 4 = _
      rw [List.drop_drop, show 4 + 4 * k = 4 * (k + 1) by omega]
    rw [e, ih]
    show (xs.drop 0).take 4 ++ xs.drop 4 = xs
    rw [List.drop_zero, List.take_append_drop]
theorem law_rows_ok {ns : List Int} {start : Int} {m : Nat} {fx : List (Int × Int)} (hs : 0 ≤ start) (hm : m ≤ 100) (hr : ∀ p ∈ fx, (0 ≤ p.1 ∧ p.1 < 4 * (m : Int)) ∧ 0 ≤ p.2 ∧ p.2 < 4 * (m : Int)) (hnd : (fx.flatMap fun p => [p.1, p.2]).Nodup) :
    ∃ rs : List (List Int), f_law_rows [.scr ns, .int start, .int m, .lst (fx.map encP)] = .ok (.ow (.lst (encRs rs))) ∧ Drawn m rs := by
  unfold f_law_rows F_law_rows
  rw [fn_eq [.va (.scr ns), .va (.int start), .va (.int m), .va (.lst (fx.map encP)), .no, .no, .no, .no, .no] rfl]
  -- owner = [-1, ..]
  have s1 : (sSet 4 (eLc (iRange1 (eOp2 dMul (eC (.int 4)) (eVar 2))) 5 tYes (eOp1 dNeg (eC (.int 1))) [5])) [.va (.scr ns), .va (.int start), .va (.int m), .va (.lst (fx.map encP)), .no, .no, .no, .no, .no] =
      .nx (envR ns start m fx (List.replicate (4 * m) (-1)) .no .no .no .no) := by
    have hmul : dMul (.int 4) (.int m) = .ok (.va (.int ((4 * m : Nat) : Int))) := o_mulL (by decide) (by decide)
    have hc := lc_map (j := 5) (el := eOp1 dNeg (eC (.int 1))) (e := [.va (.scr ns), .va (.int start), .va (.int m), .va (.lst (fx.map encP)), .no, .no, .no, .no, .no]) (enc := fun i : Nat => D.int (i : Int)) (g := fun _ => Sl.va (.int (-1))) (List.range (4 * m)) (fun _ _ => rfl)
    rw [← rng_eq] at hc
    have hlen : (rng 0 (4 * m)).length ≤ 1000000 := by rw [rng_eq, List.length_map, List.length_range]; omega
    have hb := range_nat (n := 4 * m) (by omega)
    have hit : iRange1 (eOp2 dMul (eC (.int 4)) (eVar 2)) [.va (.scr ns), .va (.int start), .va (.int m), .va (.lst (fx.map encP)), .no, .no, .no, .no, .no] = .ok (rng 0 (4 * m)) := by
      simp only [ev_irange1, ev_op2, ev_c, ev_var, List.getElem?_cons_succ, List.getElem?_cons_zero, R.bind_ok, Sl.d_va, hmul, hb]
    rw [ev_set, lc_ok hit hlen hc, R.out_ok]
    simp only [Sl.d_va, List.set_cons_succ, List.set_cons_zero]
    unfold envR
    have : ((List.range (4 * m)).map fun x : Nat => D.int (-1)) = encI (List.replicate (4 * m) (-1)) := by
      rw [show encI (List.replicate (4 * m) (-1)) = List.replicate (4 * m) (D.int (-1)) from List.map_replicate]
      refine List.eq_replicate_iff.mpr ⟨by simp, fun b hb => ?_⟩
      obtain ⟨_, _, e⟩ := List.mem_map.mp hb
      exact e.symm
    rw [this]
  rw [ev_seq, s1, Out.bind_nx, ev_seq]
  -- the fixed pairs
  have L1 := forD_ix (j := 5) (b := B_law_rows_1) (enc := fun i : Nat => D.int (i : Int)) (List.range fx.length)
    (fun i e => ∃ own k, e = envR ns start m fx own k .no .no .no ∧ own.length = 4 * m ∧ Fill own (4 * m) i ∧ ∀ p : Nat, p < 4 * m → (p : Int) ∉ (fx.take i).flatMap (fun p => [p.1, p.2]) → own[p]? = some (-1))
    (envR ns start m fx (List.replicate (4 * m) (-1)) .no .no .no .no)
    ⟨_, _, rfl, List.length_replicate, fun v => by
      rw [List.count_replicate]
      by_cases h : v = -1
      · subst h; simp
      · have h2 : ¬ (-1 = v) := fun e => h e.symm
        rw [if_neg (show ¬ ((-1 : Int) == v) = true by simpa using h2), if_neg h, if_neg (by omega)], fun p hp _ => by rw [List.getElem?_replicate, if_pos hp]⟩
    (fun i x e hx ⟨own, k, he, hl, F, hfree⟩ => by
      obtain ⟨hil, hv⟩ := List.getElem?_eq_some_iff.mp hx
      rw [List.getElem_range] at hv
      rw [List.length_range] at hil
      subst hv
      subst he
      have hi : fx[i]? = some fx[i] := List.getElem?_eq_getElem hil
      obtain ⟨r1, r2⟩ := hr fx[i] (List.getElem_mem hil)
      have hsplit : fx.flatMap (fun p => [p.1, p.2]) = (fx.take i).flatMap (fun p => [p.1, p.2]) ++ ([fx[i].1, fx[i].2] ++ (fx.drop (i + 1)).flatMap (fun p => [p.1, p.2])) := by
        conv => lhs; rw [← List.take_append_drop i fx, List.drop_eq_getElem_cons hil]
        rw [List.flatMap_append, List.flatMap_cons]
      rw [hsplit] at hnd
      have hd := (List.nodup_append.mp hnd).2.2
      have hd2 := (List.nodup_append.mp (List.nodup_append.mp hnd).2.1).1
      have n1 : fx[i].1 ∉ (fx.take i).flatMap (fun p => [p.1, p.2]) := fun h => hd _ h _ (by simp) rfl
      have n2 : fx[i].2 ∉ (fx.take i).flatMap (fun p => [p.1, p.2]) := fun h => hd _ h _ (by simp) rfl
      have n3 : fx[i].1 ≠ fx[i].2 := by
        intro h
        rw [h] at hd2
        simp at hd2
      have e1 := hfree fx[i].1.toNat (by omega) (by rw [Int.toNat_of_nonneg r1.1]; exact n1)
      have e2 := hfree fx[i].2.toNat (by omega) (by rw [Int.toNat_of_nonneg r2.1]; exact n2)
      have hne : fx[i].1.toNat ≠ fx[i].2.toNat := by omega
      obtain ⟨F2, hl2⟩ := fill_pair F hne e1 e2
      refine ⟨_, rows1 hi ⟨r1.1, by rw [hl]; omega⟩ ⟨r2.1, by rw [hl]; omega⟩, _, _, rfl, by simpa using hl, F2, fun p hp hn => ?_⟩
      rw [List.take_succ_eq_append_getElem hil, List.flatMap_append] at hn
      simp only [List.flatMap_cons, List.flatMap_nil, List.append_nil, List.mem_append, List.mem_cons, List.not_mem_nil, or_false, not_or] at hn
      rw [List.getElem?_set_ne (by omega), List.getElem?_set_ne (by omega)]
      exact hfree p hp hn.1)
  rw [← rng_eq, List.length_range] at L1
  obtain ⟨e1, h1, own, k1, he1, hl, F, hfree⟩ := L1
  have hfxm : 2 * fx.length ≤ 4 * m ∨ fx.length = 0 := by
    by_cases h0 : fx.length = 0
    · exact .inr h0
    left
    have c := F ((fx.length - 1 : Nat) : Int)
    rw [if_neg (by omega), if_pos (by omega)] at c
    have c2 := F (-1)
    rw [if_pos rfl] at c2
    -- every number below fx.length stands twice, so there is room for them
    have hall : ∀ n : Nat, n ≤ fx.length → 2 * n ≤ own.countP (fun v => decide (0 ≤ v ∧ v < (n : Int))) := by
      intro n
      induction n with
      | zero => intro _; omega
      | succ n ih =>
        intro hn
        have i := ih (by omega)
        have cn := F (n : Int)
        rw [if_neg (by omega), if_pos (by omega)] at cn
        have es : own.countP (fun v => decide (0 ≤ v ∧ v < ((n + 1 : Nat) : Int))) = own.countP (fun v => decide (0 ≤ v ∧ v < (n : Int))) + own.count (n : Int) := by
          have : ∀ xs : List Int, xs.countP (fun v => decide (0 ≤ v ∧ v < ((n + 1 : Nat) : Int))) = xs.countP (fun v => decide (0 ≤ v ∧ v < (n : Int))) + xs.count (n : Int) := by
            intro xs
            induction xs with
            | nil => rfl
            | cons x xs ih =>
              rw [List.countP_cons, List.countP_cons, List.count_cons, ih]
              by_cases a1 : 0 ≤ x ∧ x < (n : Int)
              · have a2 : 0 ≤ x ∧ x < ((n + 1 : Nat) : Int) := by omega
                have a3 : ¬ (x = (n : Int)) := by omega
                rw [if_pos (decide_eq_true a2), if_pos (decide_eq_true a1), if_neg (by rw [beq_iff_eq]; exact a3)]
                omega
              · by_cases a4 : x = (n : Int)
                · have a2 : 0 ≤ x ∧ x < ((n + 1 : Nat) : Int) := by omega
                  rw [if_pos (decide_eq_true a2), if_neg (by rw [decide_eq_true_eq]; exact a1), if_pos (by rw [beq_iff_eq]; exact a4)]
                  omega
                · have a2 : ¬ (0 ≤ x ∧ x < ((n + 1 : Nat) : Int)) := by omega
                  rw [if_neg (by rw [decide_eq_true_eq]; exact a2), if_neg (by rw [decide_eq_true_eq]; exact a1), if_neg (by rw [beq_iff_eq]; exact a4)]
                  omega
          exact this own
        omega
    have := hall fx.length (Nat.le_refl _)
    have := List.countP_le_length (p := fun v => decide (0 ≤ v ∧ v < (fx.length : Int))) (l := own)
    omega
  have hfl : 2 * fx.length ≤ 4 * m := by omega
  have hblen := range_nat (n := fx.length) (by omega)
  have s2 : (sFor (iRange1 (eCB bLen (aCons (eVar 3) aNil))) 5 B_law_rows_1) (envR ns start m fx (List.replicate (4 * m) (-1)) .no .no .no .no) = .nx (envR ns start m fx own k1 .no .no .no) := by
    rw [ev_for]
    have e0 : iRange1 (eCB bLen (aCons (eVar 3) aNil)) (envR ns start m fx (List.replicate (4 * m) (-1)) .no .no .no .no) = .ok (rng 0 fx.length) := by
      unfold envR
      simp only [ev_irange1, ev_cb, ev_cons, ev_nil, ev_var, List.getElem?_cons_succ, List.getElem?_cons_zero, R.bind_ok, Sl.d_va, o_lenL, List.length_map, hblen, and_self, if_true, Int.toNat_natCast]
    rw [e0, R.out_ok, h1, he1]
  rw [s2, Out.bind_nx, ev_seq]
  -- left = [k for k in range(4 * many) if owner[k] < 0]
  obtain ⟨left, hleft⟩ : ∃ left : List Nat, left = (List.range (4 * m)).filter fun i => decide (own.getD i 0 < 0) := ⟨_, rfl⟩
  have s3 : (sSet 6 (eFz (eLc (iRange1 (eOp2 dMul (eC (.int 4)) (eVar 2))) 5 (tVal (eOp2 dLt (eIxO 4 (eVar 5)) (eC (.int 0)))) (eVar 5) [5]))) (envR ns start m fx own k1 .no .no .no) =
      .nx (envR ns start m fx own k1 (.va (.lst (encN left))) .no .no) := by
    have hmul : dMul (.int 4) (.int m) = .ok (.va (.int ((4 * m : Nat) : Int))) := o_mulL (by decide) (by decide)
    have hc := lc_filter (j := 5) (c := tVal (eOp2 dLt (eIxO 4 (eVar 5)) (eC (.int 0)))) (el := eVar 5) (e := envR ns start m fx own .no .no .no .no) (enc := fun i : Nat => D.int (i : Int)) (p := fun i => decide (own.getD i 0 < 0)) (g := fun i => Sl.va (.int (i : Int))) (List.range (4 * m))
      (fun i hi => by
        have hi2 : i < own.length := by rw [hl]; exact List.mem_range.mp hi
        unfold envR
        have e : (encI own)[i]? = some (.int (own.getD i 0)) := by
          rw [List.getElem?_map, List.getElem?_eq_getElem hi2, List.getD_eq_getElem?_getD, List.getElem?_eq_getElem hi2]
          rfl
        simp only [ev_tval, ev_op2, ev_ixO, ev_var, ev_c, List.set_cons_succ, List.set_cons_zero, List.getElem?_cons_succ, List.getElem?_cons_zero, R.bind_ok, Sl.d_va, atD_nat, e, o_lt])
      (fun i hi _ => rfl)
    rw [← rng_eq] at hc
    have hlen : (rng 0 (4 * m)).length ≤ LIM := by rw [rng_eq, List.length_map, List.length_range, lim_val]; omega
    have hb := range_nat (n := 4 * m) (by omega)
    have hw : wipeE (envR ns start m fx own k1 .no .no .no) [5] = envR ns start m fx own .no .no .no .no := rfl
    have hv : ∀ a, envR ns start m fx own k1 a .no .no = [.va (.scr ns), .va (.int start), .va (.int m), .va (.lst (fx.map encP)), .ow (.lst (encI own)), k1, a, .no, .no] := fun _ => rfl
    rw [ev_set, ev_fz, ev_lc, hw]
    rw [hv .no]
    simp only [ev_irange1, ev_op2, ev_c, ev_var, List.getElem?_cons_succ, List.getElem?_cons_zero, R.bind_ok, Sl.d_va, hmul, hb, and_self, if_true, Int.toNat_natCast, hlen, hc, R.out_ok, Sl.d_ow, List.set_cons_succ, List.set_cons_zero, ← hleft]
    rfl
  rw [s3, Out.bind_nx, ev_seq]
  have s4 : (sSet 7 (eCB bLen (aCons (eVar 3) aNil))) (envR ns start m fx own k1 (.va (.lst (encN left))) .no .no) = .nx (envR ns start m fx own k1 (.va (.lst (encN left))) (.va (.int (fx.length : Nat))) .no) := by
    unfold envR
    simp only [ev_set, ev_cb, ev_cons, ev_nil, ev_var, List.getElem?_cons_succ, List.getElem?_cons_zero, R.bind_ok, R.out_ok, Sl.d_va, o_lenL, List.length_map, List.set_cons_succ, List.set_cons_zero]
  rw [s4, Out.bind_nx, ev_seq, ev_while]
  -- the loop
  have hneg : ∀ p : Nat, p ∈ left → own[p]? = some (-1) := fun p hp => by
    rw [hleft] at hp
    obtain ⟨hp1, hp2⟩ := List.mem_filter.mp hp
    have hp3 : p < own.length := by rw [hl]; exact List.mem_range.mp hp1
    have e : own[p]? = some own[p] := List.getElem?_eq_getElem hp3
    have hp4 : own.getD p 0 < 0 := of_decide_eq_true hp2
    rw [List.getD_eq_getElem?_getD, e] at hp4
    have hp5 : own[p] < 0 := hp4
    rcases fill_ge F e with h | h
    · rw [e, h]
    · omega
  have hll : left.length = 4 * m - 2 * fx.length := by
    have c := F (-1)
    rw [if_pos rfl] at c
    rw [hleft, ← hl, filter_range_count (fun v => decide (v < 0))]
    rw [← hl] at c
    rw [← c]
    apply List.countP_congr
    intro v hv
    obtain ⟨p, hp, hv2⟩ := List.mem_iff_getElem.mp hv
    have e : own[p]? = some v := by rw [List.getElem?_eq_getElem hp, hv2]
    rcases fill_ge F e with h | h
    · subst h; simp
    · have : ¬ (v = -1) := by omega
      simp [this]; omega
  have W := whileD_inv (c := tVal (eOp2 dGt (eCB bLen (aCons (eVar 6) aNil)) (eC (.int 1)))) (b := B_law_rows_2)
    (fun mm e => ∃ own left n k a, e = envR ns start m fx own k (.va (.lst (encN left))) (.va (.int (n : Nat))) a ∧ own.length = 4 * m ∧ Fill own (4 * m) n ∧ left.Nodup ∧ (∀ p ∈ left, own[p]? = some (-1)) ∧ left.length = 4 * m - 2 * n ∧ 2 * n ≤ 4 * m ∧ left.length = 2 * mm)
    (fun mm e ⟨own, left, n, k, a, he, hl, F, nd, hneg, hll, hn, hmm⟩ => by
      subst he
      have hl2 : 2 ≤ left.length := by omega
      have hb : ∀ p ∈ left, p < own.length := fun p hp => (List.getElem?_eq_some_iff.mp (hneg p hp)).1
      refine ⟨?_, _, rows2 hs hl2 (by omega) hb, mm, Nat.le_refl _, ?_⟩
      · unfold envR
        simp only [ev_tval, ev_op2, ev_cb, ev_cons, ev_nil, ev_var, ev_c, List.getElem?_cons_succ, List.getElem?_cons_zero, R.bind_ok, Sl.d_va, o_lenL, List.length_map, o_gt]
        have : (1 : Int) < (left.length : Int) := by omega
        simp [this]
      · obtain ⟨p1, p2, _⟩ := pAt_ok (ns := ns) (start := start) (n := n) hl2
        generalize pAt ns start n left.length = q at *
        have g0 : left.getD 0 0 = left[0]'(by omega) := by rw [List.getD_eq_getElem?_getD, List.getElem?_eq_getElem (by omega)]; rfl
        have gq : left.getD q 0 = left[q] := by rw [List.getD_eq_getElem?_getD, List.getElem?_eq_getElem p2]; rfl
        rw [g0, gq]
        have hne : left[0]'(by omega) ≠ left[q] := fun e => by
          have := nodup_inj nd e
          omega
        obtain ⟨F2, hl3⟩ := fill_pair F hne (hneg _ (List.getElem_mem _)) (hneg _ (List.getElem_mem _))
        have hsub : ((left.drop 1).take (q - 1) ++ left.drop (q + 1)).Sublist left := by
          have e : left = left.take 1 ++ ((left.drop 1).take (q - 1) ++ (left.drop q)) := by
            have z : (left.drop 1).drop (q - 1) = left.drop q := by rw [List.drop_drop, show 1 + (q - 1) = q by omega]
            rw [← z, List.take_append_drop, List.take_append_drop]
          conv => rhs; rw [e]
          refine List.Sublist.trans ?_ (List.sublist_append_right _ _)
          refine List.Sublist.append (List.Sublist.refl _) ?_
          rw [show q + 1 = 1 + q by omega, Nat.add_comm 1 q, ← List.drop_drop]
          exact List.drop_sublist _ _
        have nd2 := nd.sublist hsub
        refine ⟨_, _, n + 1, _, _, rfl, by simpa using hl, F2, nd2, fun p hp => ?_, ?_, by omega, ?_⟩
        · have hp2 := hsub.subset hp
          have a0 : left[0]'(by omega) ≠ p := fun e => by
            rcases List.mem_append.mp hp with h | h
            · obtain ⟨i, hi, e2⟩ := List.mem_iff_getElem.mp h
              rw [List.getElem_take, List.getElem_drop] at e2
              have := nodup_inj nd (e.trans e2.symm)
              omega
            · obtain ⟨i, hi, e2⟩ := List.mem_iff_getElem.mp h
              rw [List.getElem_drop] at e2
              have := nodup_inj nd (e.trans e2.symm)
              omega
          have aq : left[q] ≠ p := fun e => by
            rcases List.mem_append.mp hp with h | h
            · obtain ⟨i, hi, e2⟩ := List.mem_iff_getElem.mp h
              rw [List.length_take] at hi
              rw [List.getElem_take, List.getElem_drop] at e2
              have := nodup_inj nd (e.trans e2.symm)
              omega
            · obtain ⟨i, hi, e2⟩ := List.mem_iff_getElem.mp h
              rw [List.getElem_drop] at e2
              have := nodup_inj nd (e.trans e2.symm)
              omega
          rw [List.getElem?_set_ne aq, List.getElem?_set_ne a0]
          exact hneg p hp2
        · simp only [List.length_append, List.length_take, List.length_drop]
          omega
        · simp only [List.length_append, List.length_take, List.length_drop]
          omega)
    (fun e ⟨own, left, n, k, a, he, hl, F, nd, hneg, hll, hn, hmm⟩ => by
      subst he
      unfold envR
      simp only [ev_tval, ev_op2, ev_cb, ev_cons, ev_nil, ev_var, ev_c, List.getElem?_cons_succ, List.getElem?_cons_zero, R.bind_ok, Sl.d_va, o_lenL, List.length_map, o_gt]
      have : ¬ (1 : Int) < (left.length : Int) := by omega
      simp [this])
    1000 (left.length / 2) (envR ns start m fx own k1 (.va (.lst (encN left))) (.va (.int (fx.length : Nat))) .no) (by omega)
    ⟨own, left, fx.length, k1, .no, rfl, hl, F, by rw [hleft]; exact List.nodup_range.filter _, hneg, hll, hfl, by omega⟩
  obtain ⟨e2, h2, own2, left2, n2, k2, a2, he2, hl2, F2, nd2, hneg2, hll2, hn2, hmm2⟩ := W
  rw [h2, Out.bind_nx, he2]
  have hn3 : n2 = 2 * m := by omega
  refine ⟨(List.range m).map fun k => (own2.drop (4 * k)).take 4, ?_, ?_⟩
  · -- the rows
    have hc := lc_map (j := 5) (el := eCB bTuple (aCons (eSl dSl (eVar 4) (oSome (eOp2 dMul (eC (.int 4)) (eVar 5))) (oSome (eOp2 dAdd (eOp2 dMul (eC (.int 4)) (eVar 5)) (eC (.int 4))))) aNil))
      (e := [.va (.scr ns), .va (.int start), .va (.int m), .va (.lst (fx.map encP)), .va (.lst (encI own2)), .no, .va (.lst (encN left2)), .va (.int (n2 : Nat)), a2]) (enc := fun i : Nat => D.int (i : Int)) (g := fun i => Sl.va (encR ((own2.drop (4 * i)).take 4))) (List.range m)
      (fun i hi => by
        have hi2 := List.mem_range.mp hi
        have hmul : dMul (.int 4) (.int i) = .ok (.va (.int ((4 * i : Nat) : Int))) := o_mulL (by decide) (by decide)
        have hcut : cutD (encI own2) (some ((4 * i : Nat) : Int)) (some (((4 * i : Nat) : Int) + 4)) = encI ((own2.drop (4 * i)).take 4) := by
          rw [cutD_map, show (some (((4 * i : Nat) : Int) + 4)) = some ((4 * i + 4 : Nat) : Int) from rfl, cut_mid (by omega) (by omega), show 4 * i + 4 - 4 * i = 4 by omega]
        simp only [ev_cb, ev_cons, ev_nil, ev_sl, ev_some, ev_op2, ev_var, ev_c, List.set_cons_succ, List.set_cons_zero, List.getElem?_cons_succ, List.getElem?_cons_zero, R.bind_ok, Sl.d_va, hmul, o_add, o_slL, hcut, Sl.d_ow, o_tupleL])
    rw [← rng_eq] at hc
    have hlen : (rng 0 m).length ≤ LIM := by rw [rng_eq, List.length_map, List.length_range, lim_val]; omega
    have hb := range_nat (n := m) (by omega)
    have hp : pubE [4] (envR ns start m fx own2 k2 (.va (.lst (encN left2))) (.va (.int (n2 : Nat))) a2) = [.va (.scr ns), .va (.int start), .va (.int m), .va (.lst (fx.map encP)), .va (.lst (encI own2)), k2, .va (.lst (encN left2)), .va (.int (n2 : Nat)), a2] := rfl
    rw [ev_pub, hp]
    simp only [ev_ret, ev_lc, ev_irange1, ev_var, List.getElem?_cons_succ, List.getElem?_cons_zero, R.bind_ok, Sl.d_va, hb, and_self, if_true, Int.toNat_natCast, hlen, wipe_cons, wipe_nil, List.set_cons_succ, List.set_cons_zero, hc, R.out_ok, res_rt]
    rw [show encRs ((List.range m).map fun k => (own2.drop (4 * k)).take 4) = (List.range m).map fun x => encR ((own2.drop (4 * x)).take 4) from List.map_map]
  · refine ⟨by simp, fun r hr => ?_, fun v => ?_⟩
    · obtain ⟨k, hk, rfl⟩ := List.mem_map.mp hr
      have := List.mem_range.mp hk
      rw [List.length_take, List.length_drop]
      omega
    · rw [chunks m own2 hl2, F2 v]
      by_cases h : v = -1
      · subst h
        rw [if_pos rfl, if_neg (by omega)]
        omega
      · rw [if_neg h]
        by_cases h3 : 0 ≤ v ∧ v < (n2 : Int)
        · rw [if_pos h3, if_pos (by omega)]
        · rw [if_neg h3, if_neg (by omega)]
end DL
set_option maxRecDepth 100000
namespace DL
open PySem (Str)
/-! ### names in the order of first standing -/
def fstep (ns : List Int) (x : Int) : List Int := if x ∈ ns then ns else ns ++ [x]
def names (xs : List Int) : List Int := xs.foldl fstep []
def idx (ns : List Int) (x : Int) : Int := ((ns.idxOf x : Nat) : Int)
/-- rows numbered by first standing -/
def numb (rs : List (List Int)) : List (List Int) := rs.map fun r => r.map (idx (names rs.flatten))
theorem fold_len : ∀ (xs ns : List Int), (xs.foldl fstep ns).length ≤ ns.length + xs.length
  | [], ns => by simp
  | x :: xs, ns => by
    have h := fold_len xs (fstep ns x)
    have h2 : (fstep ns x).length ≤ ns.length + 1 := by
      unfold fstep
      split
      · omega
      · simp
    rw [List.foldl_cons, List.length_cons]
    omega
theorem fold_nodup : ∀ (xs ns : List Int), ns.Nodup → (xs.foldl fstep ns).Nodup
  | [], ns, h => h
  | x :: xs, ns, h => by
    rw [List.foldl_cons]
    refine fold_nodup xs _ ?_
    unfold fstep
    split
    · exact h
    · rename_i hx
      exact List.nodup_append.mpr ⟨h, by simp, fun a ha b hb e => by
        rw [List.mem_singleton] at hb
        subst hb; subst e
        exact hx ha⟩
theorem mem_fstep {ns : List Int} {x y : Int} : y ∈ fstep ns x ↔ y ∈ ns ∨ y = x := by
  unfold fstep
  split
  · rename_i h
    exact ⟨.inl, fun q => q.elim id fun e => e ▸ h⟩
  · rw [List.mem_append, List.mem_singleton]
theorem fold_mem : ∀ (xs ns : List Int) (y : Int), y ∈ xs.foldl fstep ns ↔ y ∈ ns ∨ y ∈ xs
  | [], ns, y => by simp
  | x :: xs, ns, y => by
    rw [List.foldl_cons, fold_mem xs, mem_fstep, List.mem_cons]
    constructor
    · rintro ((h | h) | h)
      · exact .inl h
      · exact .inr (.inl h)
      · exact .inr (.inr h)
    · rintro (h | h | h)
      · exact .inl (.inl h)
      · exact .inl (.inr h)
      · exact .inr h
theorem names_nodup (xs : List Int) : (names xs).Nodup := fold_nodup xs [] List.nodup_nil
theorem names_mem {xs : List Int} {y : Int} : y ∈ names xs ↔ y ∈ xs := by
  unfold names
  rw [fold_mem]
  simp
theorem names_len (xs : List Int) : (names xs).length ≤ xs.length := by
  have := fold_len xs []
  simpa [names] using this
theorem names_rows (rs : List (List Int)) : rs.foldl (fun s r => r.foldl fstep s) [] = names rs.flatten := by
  unfold names
  rw [List.foldl_flatten]
theorem allInt_enc (ns : List Int) : allInt (encI ns) = true := by
  unfold allInt
  rw [List.all_map]
  exact List.all_eq_true.mpr fun _ _ => rfl
theorem intsOf_enc : ∀ ns : List Int, intsOf (encI ns) = some ns
  | [] => rfl
  | n :: ns => by
    show (intsOf (encI ns)).map (n :: ·) = _
    rw [intsOf_enc ns]
    rfl
theorem notIn_enc (x : Int) (ns : List Int) : dNotIn (.int x) (.lst (encI ns)) = .ok (.va (.bl (!decide (x ∈ ns)))) := by
  show (if allInt (encI ns) = true then R.ok (Sl.va (D.bl (!(encI ns).any fun d => flatEq d (.int x)))) else .bad) = _
  rw [if_pos (allInt_enc ns), List.any_map]
  congr 3
  congr 1
  induction ns with
  | nil => rfl
  | cons n ns ih =>
    rw [List.any_cons, ih]
    show ((n == x) || decide (x ∈ ns)) = _
    by_cases h : n = x
    · subst h; simp
    · have h2 : ¬ (x = n) := fun e => h e.symm
      simp [h, h2]
theorem index_enc {x : Int} {ns : List Int} (h : x ∈ ns) : dIndex (encI ns) (.int x) = .ok (.va (.int (idx ns x))) := by
  unfold dIndex
  rw [intsOf_enc]
  show (if x ∈ ns then _ else _) = _
  rw [if_pos h]
  rfl
theorem sublen {rs : List (List Int)} {i : Nat} {r : List Int} (h : rs[i]? = some r) : (rs.take i).flatten.length + r.length ≤ rs.flatten.length := by
  obtain ⟨hl, hv⟩ := List.getElem?_eq_some_iff.mp h
  have e : rs = rs.take i ++ r :: rs.drop (i + 1) := by
    conv => lhs; rw [← List.take_append_drop i rs, List.drop_eq_getElem_cons hl, hv]
  conv => rhs; rw [e]
  rw [List.flatten_append, List.flatten_cons, List.length_append, List.length_append]
  omega
theorem numbered_loops {d : D} {rowD : List Int → D} {rs : List (List Int)} (hrow : ∀ r, SeqD (rowD r) (encI r)) (hsz : rs.flatten.length ≤ 100000) (hsz2 : rs.length ≤ 100000) :
    ∃ a b : Sl, forD 2 B_law_numbered_2 (rs.map rowD) [.va d, .ow (.lst []), .no, .no, .no] = .nx [.va d, .ow (.lst (encI (names rs.flatten))), a, b, .no] := by
  have L := forD_fold (j := 2) (b := B_law_numbered_2) (enc := rowD) (fun (s : List Int) e => ∃ a b, e = [.va d, .ow (.lst (encI s)), a, b, .no]) (fun s r => r.foldl fstep s) rs [] [.va d, .ow (.lst []), .no, .no, .no] ⟨_, _, rfl⟩
    (fun i r e hr ⟨a, b, he⟩ => by
      subst he
      have hlen := sublen hr
      have hs : ((rs.take i).foldl (fun s r => r.foldl fstep s) []).length ≤ (rs.take i).flatten.length := by
        rw [names_rows]
        exact names_len _
      generalize (rs.take i).foldl (fun s r => r.foldl fstep s) [] = s at *
      have L1 := forD_fold (j := 3) (b := B_law_numbered_1) (enc := D.int) (fun (s : List Int) e => ∃ b, e = [.va d, .ow (.lst (encI s)), .va (rowD r), b, .no]) fstep r s [.va d, .ow (.lst (encI s)), .va (rowD r), b, .no] ⟨_, rfl⟩
        (fun k x e hx ⟨b, he⟩ => by
          subst he
          obtain ⟨hk, _⟩ := List.getElem?_eq_some_iff.mp hx
          have hl2 := fold_len (r.take k) s
          rw [List.length_take] at hl2
          generalize (r.take k).foldl fstep s = t at *
          have hlim : (encI t).length < LIM := by rw [List.length_map, lim_val]; omega
          unfold B_law_numbered_1
          simp only [ev_sif, ev_tval, ev_lend, ev_op2, ev_var, List.set_cons_succ, List.set_cons_zero, List.map_cons, List.map_nil, Sl.frz_va, Sl.frz_ow, Sl.frz_no, List.getElem?_cons_succ, List.getElem?_cons_zero, R.bind_ok, Sl.d_va, notIn_enc]
          have hlo : (Sl.va (D.bl (!decide (x ∈ t)))).loose = true := rfl
          simp only [hlo, if_true, R.bind_ok, Sl.d_va, R.out_ok]
          unfold fstep
          by_cases hx2 : x ∈ t
          · simp only [hx2, decide_true, Bool.not_true, Bool.false_eq_true, if_false, ev_next, if_true]
            exact ⟨_, rfl, _, rfl⟩
          · simp only [hx2, decide_false, Bool.not_false, if_true, ev_app, List.getElem?_cons_succ, List.getElem?_cons_zero, ev_var, R.out_ok, hlim, List.set_cons_succ, List.set_cons_zero, Sl.d_va, if_false]
            exact ⟨_, rfl, _, by rw [show encI (t ++ [x]) = encI t ++ [D.int x] from List.map_append]⟩)
      obtain ⟨e1, h1, b1, he1⟩ := L1
      refine ⟨e1, ?_, .va (rowD r), b1, he1⟩
      unfold B_law_numbered_2
      rw [ev_for, iseq_ok (d := rowD r) (ds := encI r) rfl (hrow r), R.out_ok]
      exact h1)
  obtain ⟨e, h, a, b, he⟩ := L
  rw [he, names_rows] at h
  exact ⟨a, b, h⟩
theorem numbered_rows {d : D} {rowD : List Int → D} {rs : List (List Int)} {ns : List Int} {a b : Sl} (hrow : ∀ r, SeqD (rowD r) (encI r)) (hsz : rs.flatten.length ≤ 100000) (hsz2 : rs.length ≤ 100000) (hin : ∀ r ∈ rs, ∀ x ∈ r, x ∈ ns) :
    ∃ e : Env, forD 2 B_law_numbered_3 (rs.map rowD) [.va d, .ow (.lst (encI ns)), a, b, .ow (.lst [])] = .nx e ∧ e[4]? = some (.ow (.lst (encRs (rs.map fun r => r.map (idx ns))))) ∧ ∃ x y, e = [.va d, x, y, b, .ow (.lst (encRs (rs.map fun r => r.map (idx ns))))] := by
  have L := forD_fold (j := 2) (b := B_law_numbered_3) (enc := rowD) (fun (s : List (List Int)) e => ∃ x y, (x = .ow (.lst (encI ns)) ∨ x = .va (.lst (encI ns))) ∧ e = [.va d, x, y, b, .ow (.lst (encRs s))]) (fun s r => s ++ [r.map (idx ns)]) rs [] [.va d, .ow (.lst (encI ns)), a, b, .ow (.lst [])] ⟨_, _, .inl rfl, rfl⟩
    (fun i r e hr ⟨x, y, hx, he⟩ => by
      subst he
      obtain ⟨hi, hv⟩ := List.getElem?_eq_some_iff.mp hr
      have hs : ∀ (l : List (List Int)) (s0 : List (List Int)), (l.foldl (fun s r => s ++ [r.map (idx ns)]) s0).length = s0.length + l.length := by
        intro l
        induction l with
        | nil => intro s0; rfl
        | cons a l ih => intro s0; rw [List.foldl_cons, ih]; simp only [List.length_append, List.length_cons, List.length_nil]; omega
      have hs2 := hs (rs.take i) []
      generalize (rs.take i).foldl (fun s r => s ++ [r.map (idx ns)]) [] = s at *
      have hlim : (encRs s).length < LIM := by
        rw [List.length_map, hs2, List.length_take, lim_val]
        simp
        omega
      have hr2 : r ∈ rs := List.mem_of_getElem? hr
      have hfl : r.length ≤ 100000 := by
        have := sublen hr
        omega
      have hpub : pubE [1] ([Sl.va d, x, y, b, .ow (.lst (encRs s))].set 2 (.va (rowD r))) = [.va d, .va (.lst (encI ns)), .va (rowD r), b, .ow (.lst (encRs s))] := by
        rcases hx with rfl | rfl <;> rfl
      have hc := lc_map (j := 3) (el := eBm dIndex (eVar 1) (eVar 3)) (e := [.va d, .va (.lst (encI ns)), .va (rowD r), .no, .ow (.lst (encRs s))]) (enc := D.int) (g := fun x => Sl.va (.int (idx ns x))) r
        (fun x hx => by
          simp only [ev_bm, ev_var, List.set_cons_succ, List.set_cons_zero, List.getElem?_cons_succ, List.getElem?_cons_zero, R.bind_ok, Sl.d_va, index_enc (hin r hr2 x hx)])
      have hlc : eLc (iSeq (eVar 2)) 3 tYes (eBm dIndex (eVar 1) (eVar 3)) [3] [.va d, .va (.lst (encI ns)), .va (rowD r), b, .ow (.lst (encRs s))] = .ok (.ow (.lst (encI (r.map (idx ns))))) := by
        have := lc_ok (it := iSeq (eVar 2)) (j := 3) (c := tYes) (el := eBm dIndex (eVar 1) (eVar 3)) (own := [3]) (e := [.va d, .va (.lst (encI ns)), .va (rowD r), b, .ow (.lst (encRs s))]) (iseq_ok (d := rowD r) rfl (hrow r)) (by rw [List.length_map]; omega) hc
        rw [this, show encI (r.map (idx ns)) = r.map (fun x => D.int (idx ns x)) from List.map_map]
        rfl
      unfold B_law_numbered_3
      rw [ev_pub, hpub]
      simp only [ev_app, List.getElem?_cons_succ, List.getElem?_cons_zero, ev_cb, ev_cons, ev_nil, hlc, R.bind_ok, Sl.d_ow, o_tupleL, R.out_ok, hlim, if_true, Sl.d_va, List.set_cons_succ, List.set_cons_zero]
      exact ⟨_, rfl, _, _, .inr rfl, by rw [show encRs (s ++ [r.map (idx ns)]) = encRs s ++ [encR (r.map (idx ns))] from List.map_append]⟩)
  obtain ⟨e, h, x, y, _, he⟩ := L
  have hf : ∀ (l s0 : List (List Int)), l.foldl (fun s r => s ++ [r.map (idx ns)]) s0 = s0 ++ l.map fun r => r.map (idx ns) := by
    intro l
    induction l with
    | nil => intro s0; simp
    | cons a l ih => intro s0; rw [List.foldl_cons, ih, List.map_cons, List.append_assoc]; rfl
  rw [hf, List.nil_append] at he
  exact ⟨e, h, by rw [he]; rfl, x, y, he⟩
theorem law_numbered_ok {d : D} {rowD : List Int → D} {rs : List (List Int)} (hd : SeqD d (rs.map rowD)) (hrow : ∀ r, SeqD (rowD r) (encI r)) (hsz : rs.flatten.length ≤ 100000) (hsz2 : rs.length ≤ 100000) :
    f_law_numbered [d] = .ok (.va (.tup (encRs (numb rs)))) := by
  unfold f_law_numbered F_law_numbered
  rw [fn_eq [.va d, .no, .no, .no, .no] rfl]
  obtain ⟨a, b, h1⟩ := numbered_loops (d := d) hrow hsz hsz2
  obtain ⟨e, h2, _, x, y, he⟩ := numbered_rows (d := d) (a := a) (b := b) (ns := names rs.flatten) hrow hsz hsz2 (fun r hr x hx => names_mem.mpr (List.mem_flatten.mpr ⟨r, hr, hx⟩))
  have l0 : ([] : List D).length ≤ LIM := by rw [lim_val]; simp
  have hsl : ∀ w : Sl, w = .ow (.lst []) → [Sl.va d, .ow (.lst []), .no, .no, .no].set 4 w = [Sl.va d, .ow (.lst []), .no, .no, w] := fun _ _ => rfl
  rw [ev_seq]
  have t1 : sSet 1 (eLst aNil) [.va d, .no, .no, .no, .no] = .nx [.va d, .ow (.lst []), .no, .no, .no] := by
    simp only [ev_set, ev_lst, ev_nil, R.bind_ok, l0, if_true, R.out_ok, List.set_cons_succ, List.set_cons_zero]
  rw [t1, Out.bind_nx, ev_seq, ev_for, iseq_ok (d := d) rfl hd, R.out_ok, h1, Out.bind_nx, ev_seq]
  have t2 : sSet 4 (eLst aNil) [.va d, .ow (.lst (encI (names rs.flatten))), a, b, .no] = .nx [.va d, .ow (.lst (encI (names rs.flatten))), a, b, .ow (.lst [])] := by
    simp only [ev_set, ev_lst, ev_nil, R.bind_ok, l0, if_true, R.out_ok, List.set_cons_succ, List.set_cons_zero]
  rw [t2, Out.bind_nx, ev_seq, ev_for, iseq_ok (d := d) rfl hd, R.out_ok, h2, Out.bind_nx, he]
  simp only [ev_pub, pub_cons, pub_nil, List.getElem?_cons_succ, List.getElem?_cons_zero, List.set_cons_succ, List.set_cons_zero, Sl.frz_ow, ev_ret, ev_cb, ev_cons, ev_nil, ev_var, R.bind_ok, Sl.d_va, o_tupleL, R.out_ok, res_rt]
  rfl
end DL
set_option maxRecDepth 100000
namespace DL
open PySem (Str)
/-! ### small defs of the laws -/
theorem isi_int (i : Int) : bIsi "int" [.int i] = .ok (.va (.bl true)) := by simp [bIsi, isTy]
theorem isi_int_bool (i : Int) : bIsi "bool" [.int i] = .ok (.va (.bl false)) := by simp [bIsi, isTy]
theorem isi_tup (ds : List D) : bIsi "tuple" [.tup ds] = .ok (.va (.bl true)) := by simp [bIsi, isTy]
theorem isi_lst (ds : List D) : bIsi "list" [.lst ds] = .ok (.va (.bl true)) := by simp [bIsi, isTy]
@[simp] theorem whole_ok (i : Int) : f_law_whole [.int i] = .ok (.va (.bl true)) := by
  unfold f_law_whole F_law_whole
  rw [fn_of]
  simp [isi_int, isi_int_bool]
def marksD (c : Nat) : List D := [.bl (c == 0), .bl (c == 1), .bl (c == 2), .bl (c == 3), .bl (c == 4), .bl true]
theorem refused_ok (c : Nat) (h : c < 5) : f_law_refused [.lst (marksD c), .int (c : Int)] = .ok (.va (.bl true)) := by
  match c, h with
  | 0, _ => rfl
  | 1, _ => rfl
  | 2, _ => rfl
  | 3, _ => rfl
  | 4, _ => rfl
theorem nomarks : dNe (.lst []) (.lst []) = .ok (.va (.bl false)) := rfl
theorem nomarksE : dEq (.lst []) (.lst []) = .ok (.va (.bl true)) := rfl
/-! ### equality with oneself -/
theorem allEq_self {f : D → D → Bool} : ∀ {ds : List D}, (∀ d ∈ ds, f d d = true) → allEq f ds ds = true
  | [], _ => rfl
  | d :: ds, h => by
    show (f d d && allEq f ds ds) = true
    rw [h d List.mem_cons_self, allEq_self fun x m => h x (List.mem_cons_of_mem _ m)]
    rfl
theorem beqL_self : ∀ (n : Nat) (d : D), d.lev n = true → beqL n d d = true
  | n, .non, _ => by cases n <;> rfl
  | n, .bl b, _ => by cases n <;> simp [beqL]
  | n, .int i, _ => by cases n <;> simp [beqL]
  | n, .str x, _ => by cases n <;> simp [beqL]
  | n + 1, .lst ds, h => by
    have h : ds.all (D.lev n) = true := h
    show allEq (beqL n) ds ds = true
    exact allEq_self fun d m => beqL_self n d (List.all_eq_true.mp h d m)
  | n + 1, .tup ds, h => by
    have h : ds.all (D.lev n) = true := h
    show allEq (beqL n) ds ds = true
    exact allEq_self fun d m => beqL_self n d (List.all_eq_true.mp h d m)
  | 0, .lst _, h => by cases h
  | 0, .tup _, h => by cases h
  | n, .dic _, h => by cases n <;> cases h
  | n, .scr _, h => by cases n <;> cases h
  | n, .adr _, h => by cases n <;> cases h
theorem cmpD_self {d : D} (h : d.lev 6 = true) : cmpD d d = some true := by
  cases d with
  | int i => exact congrArg some (decide_eq_true rfl)
  | bl b => exact congrArg some (decide_eq_true rfl)
  | str x => exact congrArg some (decide_eq_true rfl)
  | non => rfl
  | lst ds => show (if (D.lev 6 (.lst ds) && D.lev 6 (.lst ds)) = true then _ else _) = _; rw [h, Bool.and_self, if_pos rfl, beqL_self 6 _ h]
  | tup ds => show (if (D.lev 6 (.tup ds) && D.lev 6 (.tup ds)) = true then _ else _) = _; rw [h, Bool.and_self, if_pos rfl, beqL_self 6 _ h]
  | dic _ => cases h
  | scr _ => cases h
  | adr _ => cases h
theorem dEq_self {d : D} (h : d.lev 6 = true) : dEq d d = .ok (.va (.bl true)) := by
  unfold dEq
  rw [cmpD_self h]
theorem dNe_self {d : D} (h : d.lev 6 = true) : dNe d d = .ok (.va (.bl false)) := by
  unfold dNe
  rw [cmpD_self h]
  rfl
theorem lev_ints (n : Nat) (xs : List Int) : (encI xs).all (D.lev n) = true := by
  rw [List.all_map]
  exact List.all_eq_true.mpr fun x _ => by cases n <;> rfl
theorem lev_row (n : Nat) (r : List Int) : (encR r).lev (n + 1) = true := lev_ints n r
/-! ### try -/
theorem told_nx {ix im : Nat} {b : FS} {e e2 : Env} (h : ix < e.length ∧ im < e.length) (hb : b e = .nx e2) : sTold ix im b e = .nx e2 := by
  unfold sTold
  rw [if_pos h, hb]
theorem told_xc {ix im c : Nat} {b : FS} {e e2 : Env} (h : ix < e.length ∧ im < e.length) (hb : b e = .xc c e2) (hc : c < 5) : sTold ix im b e = .nx ((e2.set ix .no).set im (.ow (.lst (marksD c)))) := by
  unfold sTold
  rw [if_pos h, hb]
  show (if c < 5 then _ else _) = _
  rw [if_pos hc]
  rfl
/-! ### places -/
/-- what stands at a place -/
def ent (rs : List (List Int)) (p : Nat × Nat) : Int := (rs.getD p.1 []).getD p.2 0
def places (n : Nat) : List (Nat × Nat) := (List.range n).flatMap fun k => (List.range 4).map fun e => (k, e)
def plc (rs : List (List Int)) (line : Int) : List (Nat × Nat) := (places rs.length).filter fun p => decide (ent rs p = line)
abbrev encNP (p : Nat × Nat) : D := .tup [.int (p.1 : Int), .int (p.2 : Int)]
theorem getD_eq {α : Type} {xs : List α} {i : Nat} {d : α} (h : i < xs.length) : xs.getD i d = xs[i] := by
  rw [List.getD_eq_getElem?_getD, List.getElem?_eq_getElem h]
  rfl
theorem row_range {r : List Int} (h : r.length = 4) : (List.range 4).map (fun e => r.getD e 0) = r := by
  match r, h with
  | [a, b, c, d], _ => rfl
theorem range_getD {α : Type} (d : α) (xs : List α) : (List.range xs.length).map (fun k => xs.getD k d) = xs := by
  apply List.ext_getElem
  · simp
  · intro i h1 h2
    rw [List.getElem_map, List.getElem_range, getD_eq h2]
theorem flatMap_same {α β : Type} {f g : α → List β} : ∀ {l : List α}, (∀ x ∈ l, f x = g x) → l.flatMap f = l.flatMap g
  | [], _ => rfl
  | x :: l, h => by rw [List.flatMap_cons, List.flatMap_cons, h x List.mem_cons_self, flatMap_same fun y m => h y (List.mem_cons_of_mem _ m)]
theorem places_ent {rs : List (List Int)} (h4 : ∀ r ∈ rs, r.length = 4) : (places rs.length).map (ent rs) = rs.flatten := by
  unfold places
  rw [List.map_flatMap]
  have e : ∀ k ∈ List.range rs.length, ((List.range 4).map fun e => (k, e)).map (ent rs) = rs.getD k [] := fun k hk => by
    have hk2 := List.mem_range.mp hk
    rw [List.map_map]
    have := row_range (r := rs.getD k []) (by rw [getD_eq hk2]; exact h4 _ (List.getElem_mem _))
    exact this
  rw [flatMap_same e, List.flatMap_def, range_getD]
theorem plc_len {rs : List (List Int)} (h4 : ∀ r ∈ rs, r.length = 4) (line : Int) : (plc rs line).length = rs.flatten.count line := by
  rw [← places_ent h4, List.count_eq_countP, List.countP_map, List.countP_eq_length_filter]
  rfl
theorem plc_eq (rs : List (List Int)) (line : Int) : ((List.range rs.length).flatMap fun k => ((List.range 4).filter fun e => decide (ent rs (k, e) = line)).map fun e => (k, e)) = plc rs line := by
  unfold plc places
  rw [List.filter_flatMap]
  apply flatMap_same
  intro k hk
  rw [List.filter_map]
  rfl
theorem foldl_filter {α β : Type} (p : α → Bool) (f : α → β) : ∀ (l : List α) (s : List β), l.foldl (fun s x => if p x = true then s ++ [f x] else s) s = s ++ (l.filter p).map f
  | [], s => by simp
  | x :: l, s => by
    rw [List.foldl_cons, foldl_filter p f l]
    by_cases h : p x = true
    · rw [if_pos h, List.filter_cons_of_pos h, List.map_cons, List.append_assoc]
      rfl
    · rw [if_neg h, List.filter_cons_of_neg h]
theorem foldl_append {α β : Type} (f : α → List β) : ∀ (l : List α) (s : List β), l.foldl (fun s x => s ++ f x) s = s ++ l.flatMap f
  | [], s => by simp
  | x :: l, s => by rw [List.foldl_cons, foldl_append f l, List.flatMap_cons, List.append_assoc]
theorem ent_idx {rs : List (List Int)} (h4 : ∀ r ∈ rs, r.length = 4) {k e : Nat} (hk : k < rs.length) (he : e < 4) : dIdx (.tup (encRs rs)) (.int (k : Int)) = .ok (.va (encR (rs.getD k []))) ∧ dIdx (encR (rs.getD k [])) (.int (e : Int)) = .ok (.va (.int (ent rs (k, e)))) := by
  have hl : (rs.getD k []).length = 4 := by rw [getD_eq hk]; exact h4 _ (List.getElem_mem _)
  constructor
  · refine idx_seq (.inr rfl) ?_
    rw [atD_nat, List.getElem?_map, List.getElem?_eq_getElem hk, getD_eq hk]
    rfl
  · refine idx_seq (.inr rfl) ?_
    rw [atD_nat, List.getElem?_map, List.getElem?_eq_getElem (by omega)]
    unfold ent
    rw [getD_eq (xs := rs.getD k []) (by omega)]
    rfl
theorem places_of_ok {rs : List (List Int)} {line : Int} (h4 : ∀ r ∈ rs, r.length = 4) (hl : rs.length ≤ 1000) : f_places_of [.tup (encRs rs), .int line] = .ok (.ow (.lst ((plc rs line).map encNP))) := by
  unfold f_places_of F_places_of
  rw [fn_eq [.va (.tup (encRs rs)), .va (.int line), .no, .no, .no] rfl]
  have l0 : ([] : List D).length ≤ LIM := by rw [lim_val]; simp
  have t1 : sSet 2 (eLst aNil) [.va (.tup (encRs rs)), .va (.int line), .no, .no, .no] = .nx [.va (.tup (encRs rs)), .va (.int line), .ow (.lst []), .no, .no] := by
    simp only [ev_set, ev_lst, ev_nil, R.bind_ok, l0, if_true, R.out_ok, List.set_cons_succ, List.set_cons_zero]
  have L := forD_fold (j := 3) (b := B_places_of_2) (enc := fun k : Nat => D.int (k : Int)) (fun (s : List (Nat × Nat)) e => ∃ a b, e = [.va (.tup (encRs rs)), .va (.int line), .ow (.lst (s.map encNP)), a, b])
    (fun s k => s ++ ((List.range 4).filter fun e => decide (ent rs (k, e) = line)).map fun e => (k, e)) (List.range rs.length) [] [.va (.tup (encRs rs)), .va (.int line), .ow (.lst []), .no, .no] ⟨_, _, rfl⟩
    (fun i k e hk ⟨a, b, he⟩ => by
      subst he
      obtain ⟨hi, hv⟩ := List.getElem?_eq_some_iff.mp hk
      rw [List.getElem_range] at hv
      rw [List.length_range] at hi
      subst hv
      have hs : ((List.range rs.length).take i |>.foldl (fun s k => s ++ ((List.range 4).filter fun e => decide (ent rs (k, e) = line)).map fun e => (k, e)) ([] : List (Nat × Nat))).length ≤ 4 * i := by
        rw [foldl_append, List.nil_append, List.length_flatMap]
        have : ∀ l : List Nat, (l.map fun k => (((List.range 4).filter fun e => decide (ent rs (k, e) = line)).map fun e => (k, e)).length).sum ≤ 4 * l.length := by
          intro l
          induction l with
          | nil => simp
          | cons a l ih =>
            rw [List.map_cons, List.sum_cons, List.length_cons]
            have h1 : (((List.range 4).filter fun e => decide (ent rs (a, e) = line)).map fun e => (a, e)).length ≤ 4 := by
              rw [List.length_map]
              exact Nat.le_trans (List.length_filter_le _ _) (by simp)
            omega
        have h2 := this ((List.range rs.length).take i)
        rw [List.length_take, List.length_range] at h2
        omega
      generalize ((List.range rs.length).take i).foldl (fun s k => s ++ ((List.range 4).filter fun e => decide (ent rs (k, e) = line)).map fun e => (k, e)) ([] : List (Nat × Nat)) = s at *
      have L1 := forD_fold (j := 4) (b := B_places_of_1) (enc := fun k : Nat => D.int (k : Int)) (fun (s : List (Nat × Nat)) e => ∃ b, e = [.va (.tup (encRs rs)), .va (.int line), .ow (.lst (s.map encNP)), .va (.int i), b])
        (fun s e => if decide (ent rs (i, e) = line) = true then s ++ [(i, e)] else s) (List.range 4) s [.va (.tup (encRs rs)), .va (.int line), .ow (.lst (s.map encNP)), .va (.int i), b] ⟨_, rfl⟩
        (fun j x e hx ⟨b, he⟩ => by
          subst he
          obtain ⟨hj, hv⟩ := List.getElem?_eq_some_iff.mp hx
          rw [List.getElem_range] at hv
          rw [List.length_range] at hj
          subst hv
          have hl2 : (((List.range 4).take j).foldl (fun s e => if decide (ent rs (i, e) = line) = true then s ++ [(i, e)] else s) s).length ≤ s.length + 4 := by
            rw [foldl_filter, List.length_append, List.length_map]
            have := List.length_filter_le (fun e => decide (ent rs (i, e) = line)) ((List.range 4).take j)
            rw [List.length_take, List.length_range] at this
            omega
          generalize ((List.range 4).take j).foldl (fun s e => if decide (ent rs (i, e) = line) = true then s ++ [(i, e)] else s) s = t at *
          obtain ⟨x1, x2⟩ := ent_idx h4 hi hj
          have hlim : (t.map encNP).length < LIM := by rw [List.length_map, lim_val]; omega
          have l2 : [D.int (i : Int), .int (j : Int)].length ≤ LIM := by rw [lim_val]; simp
          unfold B_places_of_1
          simp only [ev_sif, ev_tval, ev_op2, ev_var, List.set_cons_succ, List.set_cons_zero, List.getElem?_cons_succ, List.getElem?_cons_zero, R.bind_ok, Sl.d_va, x1, x2, o_eq, R.out_ok]
          by_cases hq : ent rs (i, j) = line
          · simp only [hq, decide_true, if_true, ev_app, List.getElem?_cons_succ, List.getElem?_cons_zero, ev_tup, ev_cons, ev_nil, ev_var, R.bind_ok, Sl.d_va, l2, R.out_ok, hlim, List.set_cons_succ, List.set_cons_zero]
            exact ⟨_, rfl, _, by rw [List.map_append]; rfl⟩
          · simp only [hq, decide_false, Bool.false_eq_true, if_false, ev_next]
            exact ⟨_, rfl, _, rfl⟩)
      obtain ⟨e1, h1, b1, he1⟩ := L1
      rw [foldl_filter] at he1
      refine ⟨e1, ?_, .va (.int i), b1, he1⟩
      unfold B_places_of_2
      simp only [ev_for, ev_irange1, ev_c, R.bind_ok, Sl.d_va, range_4, R.out_ok, List.set_cons_succ, List.set_cons_zero]
      exact h1)
  obtain ⟨e, h, a, b, he⟩ := L
  rw [← rng_eq] at h
  have hb := range_nat (n := rs.length) (by omega)
  rw [ev_seq, t1, Out.bind_nx, ev_seq]
  simp only [ev_for, ev_irange1, ev_cb, ev_cons, ev_nil, ev_var, List.getElem?_cons_succ, List.getElem?_cons_zero, R.bind_ok, Sl.d_va, o_lenT, List.length_map, hb, R.out_ok, h, Out.bind_nx, he, ev_retO, res_rt]
  rw [foldl_append, List.nil_append, plc_eq]
end DL
set_option maxRecDepth 100000
namespace DL
open PySem (Str)
/-! ### numbered sheets -/
theorem idx_inj {ns : List Int} {x : Int} (nd : ns.Nodup) (hx : x ∈ ns) {v : Nat} (hv : v < ns.length) : idx ns x = (v : Int) ↔ x = ns[v] := by
  unfold idx
  constructor
  · intro h
    have h2 : ns.idxOf x = v := by omega
    have hl := List.idxOf_lt_length_of_mem hx
    have e : ns[ns.idxOf x] = x := List.getElem_idxOf hl
    subst h2
    exact e.symm
  · intro h
    have hl := List.idxOf_lt_length_of_mem hx
    have e : ns[ns.idxOf x] = x := List.getElem_idxOf hl
    have := nodup_inj nd (e.trans h)
    omega
theorem idx_range {ns : List Int} {x : Int} (hx : x ∈ ns) : 0 ≤ idx ns x ∧ idx ns x < ns.length := by
  have hl := List.idxOf_lt_length_of_mem hx
  unfold idx
  omega
theorem count_idx {ns : List Int} (nd : ns.Nodup) : ∀ {xs : List Int}, (∀ x ∈ xs, x ∈ ns) → ∀ v : Int, (xs.map (idx ns)).count v = if h : 0 ≤ v ∧ v < ns.length then xs.count (ns[v.toNat]'(by omega)) else 0
  | [], _, v => by simp
  | x :: xs, hin, v => by
    have ih := count_idx nd (xs := xs) (fun y m => hin y (List.mem_cons_of_mem _ m)) v
    have hx := hin x List.mem_cons_self
    have hr := idx_range hx
    rw [List.map_cons, List.count_cons, ih]
    by_cases h : 0 ≤ v ∧ v < ns.length
    · rw [dif_pos h, dif_pos h, List.count_cons]
      have e := idx_inj nd hx (v := v.toNat) (by omega)
      rw [Int.toNat_of_nonneg h.1] at e
      congr 1
      by_cases q : idx ns x = v
      · rw [if_pos (by rw [beq_iff_eq]; exact q), if_pos (by rw [beq_iff_eq]; exact e.mp q)]
      · rw [if_neg (by rw [beq_iff_eq]; exact q), if_neg (by rw [beq_iff_eq]; exact fun z => q (e.mpr z))]
    · rw [dif_neg h, dif_neg h, if_neg (by rw [beq_iff_eq]; omega)]
theorem numb_flat (rs : List (List Int)) : (numb rs).flatten = rs.flatten.map (idx (names rs.flatten)) := by
  unfold numb
  rw [List.map_flatten]
theorem drawn_names {m : Nat} {rs : List (List Int)} (h : Drawn m rs) : (names rs.flatten).length = 2 * m := by
  have hp : (names rs.flatten).Perm ((List.range (2 * m)).map fun i : Nat => (i : Int)) := by
    rw [List.perm_iff_count]
    intro y
    rw [(names_nodup _).count]
    have nd2 : ((List.range (2 * m)).map fun i : Nat => (i : Int)).Nodup := by
      rw [List.nodup_iff_pairwise_ne, List.pairwise_map]
      exact (List.nodup_range (n := 2 * m)).imp fun {a b} h => by omega
    rw [nd2.count]
    have e : (y ∈ names rs.flatten) ↔ y ∈ ((List.range (2 * m)).map fun i : Nat => (i : Int)) := by
      rw [names_mem, ← List.count_pos_iff, h.two y, List.mem_map]
      constructor
      · intro q
        by_cases c : 0 ≤ y ∧ y < 2 * (m : Int)
        · exact ⟨y.toNat, List.mem_range.mpr (by omega), by omega⟩
        · rw [if_neg c] at q
          omega
      · rintro ⟨i, hi, rfl⟩
        have := List.mem_range.mp hi
        rw [if_pos (by omega)]
        omega
    by_cases q : y ∈ names rs.flatten
    · rw [if_pos q, if_pos (e.mp q)]
    · rw [if_neg q, if_neg fun z => q (e.mpr z)]
  rw [hp.length_eq, List.length_map, List.length_range]
theorem numb_drawn {m : Nat} {rs : List (List Int)} (h : Drawn m rs) : Drawn m (numb rs) := by
  refine ⟨?_, fun r hr => ?_, fun v => ?_⟩
  · unfold numb
    rw [List.length_map, h.len]
  · unfold numb at hr
    obtain ⟨r0, h0, rfl⟩ := List.mem_map.mp hr
    rw [List.length_map, h.four r0 h0]
  · rw [numb_flat, count_idx (names_nodup _) fun x hx => names_mem.mpr hx]
    have hl := drawn_names h
    by_cases c : 0 ≤ v ∧ v < 2 * (m : Int)
    · rw [dif_pos (by omega), if_pos c, h.two]
      have hm : (names rs.flatten)[v.toNat]'(by omega) ∈ rs.flatten := names_mem.mp (List.getElem_mem _)
      have := List.count_pos_iff.mpr hm
      rw [h.two] at this
      by_cases q : 0 ≤ (names rs.flatten)[v.toNat]'(by omega) ∧ (names rs.flatten)[v.toNat]'(by omega) < 2 * (m : Int)
      · rw [if_pos q]
      · rw [if_neg q] at this
        omega
    · rw [dif_neg (by omega), if_neg c]
theorem flat4 : ∀ {rs : List (List Int)}, (∀ r ∈ rs, r.length = 4) → rs.flatten.length = 4 * rs.length
  | [], _ => rfl
  | r :: rs, h => by
    rw [List.flatten_cons, List.length_append, h r List.mem_cons_self, flat4 fun x m => h x (List.mem_cons_of_mem _ m), List.length_cons]
    omega
theorem seq_row (r : List Int) : SeqD (encR r) (encI r) := .inr rfl
/-- the law's drawn sheet: what law_numbered(law_rows(..)) comes to -/
theorem sheet_ok {ns : List Int} {start : Int} {m : Nat} {fx : List (Int × Int)} (hs : 0 ≤ start) (hm : m ≤ 100) (hr : ∀ p ∈ fx, (0 ≤ p.1 ∧ p.1 < 4 * (m : Int)) ∧ 0 ≤ p.2 ∧ p.2 < 4 * (m : Int)) (hnd : (fx.flatMap fun p => [p.1, p.2]).Nodup) :
    ∃ rs rs0 : List (List Int), f_law_rows [.scr ns, .int start, .int m, .lst (fx.map encP)] = .ok (.ow (.lst (encRs rs0))) ∧ f_law_numbered [.lst (encRs rs0)] = .ok (.va (.tup (encRs rs))) ∧ Drawn m rs ∧ Drawn m rs0 ∧ rs = numb rs0 := by
  obtain ⟨rs0, h1, d⟩ := law_rows_ok (ns := ns) hs hm hr hnd
  have hf := flat4 d.four
  have h2 := law_numbered_ok (d := .lst (encRs rs0)) (rowD := encR) (rs := rs0) (.inl rfl) seq_row (by rw [hf, d.len]; omega) (by rw [d.len]; omega)
  exact ⟨numb rs0, rs0, h1, h2, numb_drawn d, d, rfl⟩
/-! ### ends -/
theorem ends_ok {m : Nat} {rs : List (List Int)} {rings line : Int} (h : Drawn m rs) (hm : m ≤ 100) (hl : 0 ≤ line ∧ line < 2 * (m : Int)) :
    ∃ p q, plc rs line = [p, q] ∧ f_ends [.tup [.tup (encRs rs), .int rings], .int line] = .ok (.va (.tup [encNP p, encNP q])) := by
  have hc := plc_len h.four line
  rw [h.two line, if_pos hl] at hc
  match e : plc rs line, hc with
  | [p, q], _ =>
    refine ⟨p, q, rfl, ?_⟩
    have hp := places_of_ok (line := line) h.four (by rw [h.len]; omega)
    rw [e] at hp
    unfold f_ends F_ends
    rw [fn_of]
    simp [hp]
theorem ends_no {m : Nat} {rs : List (List Int)} {rings line : Int} (h : Drawn m rs) (hm : m ≤ 100) (hl : ¬ (0 ≤ line ∧ line < 2 * (m : Int))) :
    f_ends [.tup [.tup (encRs rs), .int rings], .int line] = .xc 2 := by
  have hc := plc_len h.four line
  rw [h.two line, if_neg hl] at hc
  have hp := places_of_ok (line := line) h.four (by rw [h.len]; omega)
  rw [List.length_eq_zero_iff.mp hc] at hp
  unfold f_ends F_ends
  rw [fn_of]
  simp [hp]
end DL
set_option maxRecDepth 100000
namespace DL
open PySem (Str)
/-! ### counted, numbered -/
def cnt (xs : List Int) : List (Int × Fv) := (names xs).map fun x => (x, Fv.int (xs.count x : Nat))
def nbr (xs : List Int) : List (Int × Fv) := xs.zipIdx.map fun p => (p.1, Fv.int (p.2 : Nat))
theorem names_snoc (xs : List Int) (x : Int) : names (xs ++ [x]) = fstep (names xs) x := by
  unfold names
  rw [List.foldl_append]
  rfl
theorem find_key {β : Type} (f : Int → β) (k : Int) : ∀ ns : List Int, ((ns.map fun x => (x, f x)).find? fun p => p.1 == k).map (·.2) = if k ∈ ns then some (f k) else none
  | [] => rfl
  | n :: ns => by
    rw [List.map_cons, List.find?_cons]
    by_cases h : n = k
    · subst h
      simp
    · have h2 : ¬ (k = n) := fun e => h e.symm
      have h3 : (n == k) = false := by simpa using h
      rw [h3]
      simp only
      rw [find_key f k ns]
      simp [h2]
theorem getA_cnt (xs : List Int) (k : Int) : getA (cnt xs) k = if k ∈ xs then some (.int (xs.count k : Nat)) else none := by
  unfold getA cnt
  rw [find_key (fun x => Fv.int (xs.count x : Nat)) k]
  by_cases h : k ∈ xs
  · rw [if_pos (names_mem.mpr h), if_pos h]
  · rw [if_neg fun z => h (names_mem.mp z), if_neg h]
theorem any_key {β : Type} (f : Int → β) (k : Int) (ns : List Int) : ((ns.map fun x => (x, f x)).any fun p => p.1 == k) = decide (k ∈ ns) := by
  rw [List.any_map, Bool.eq_iff_iff, List.any_eq_true, decide_eq_true_eq]
  constructor
  · rintro ⟨x, hx, e⟩
    have e : x = k := by simpa using e
    exact e ▸ hx
  · intro h
    exact ⟨k, h, by simp⟩
theorem cnt_step (xs : List Int) (x : Int) : putA (cnt xs) x (.int (((xs.count x : Nat) : Int) + 1)) = cnt (xs ++ [x]) := by
  unfold putA
  have ea : (cnt xs).any (fun p => p.1 == x) = decide (x ∈ names xs) := any_key _ x _
  rw [ea]
  unfold cnt
  rw [names_snoc]
  unfold fstep
  by_cases h : x ∈ names xs
  · rw [if_pos (decide_eq_true h), if_pos h, List.map_map]
    apply List.map_congr_left
    intro y hy
    show (if (y == x) = true then (y, Fv.int (((xs.count x : Nat) : Int) + 1)) else (y, Fv.int ((xs.count y : Nat) : Int))) = _
    rw [List.count_append, List.count_singleton]
    by_cases q : y = x
    · subst q
      rw [if_pos (by simp)]
      simp
    · have q2 : ¬ (x = y) := fun e => q e.symm
      rw [if_neg (by simpa using q)]
      have : (x == y) = false := by simpa using q2
      rw [this]
      simp
  · rw [if_neg (by simpa using h), if_neg h, List.map_append]
    have hx : xs.count x = 0 := List.count_eq_zero.mpr fun z => h (names_mem.mpr z)
    congr 1
    · apply List.map_congr_left
      intro y hy
      have q2 : ¬ (x = y) := fun e => h (e ▸ hy)
      rw [List.count_append, List.count_singleton]
      have : (x == y) = false := by simpa using q2
      rw [this]
      simp
    · show [(x, _)] = [(x, _)]
      rw [List.count_append, hx]
      simp
theorem cnt_len (xs : List Int) : (cnt xs).length ≤ xs.length := by
  unfold cnt
  rw [List.length_map]
  exact names_len xs
theorem snoc_fold : ∀ (l s : List Int), l.foldl (fun s x => s ++ [x]) s = s ++ l
  | [], s => by simp
  | x :: l, s => by rw [List.foldl_cons, snoc_fold l, List.append_assoc]; rfl
theorem cat_fold : ∀ (l : List (List Int)) (s : List Int), l.foldl (fun s r => s ++ r) s = s ++ l.flatten
  | [], s => by simp
  | x :: l, s => by rw [List.foldl_cons, cat_fold l, List.flatten_cons, List.append_assoc]
theorem counted_ok {d : D} {rowD : List Int → D} {rs : List (List Int)} (hd : SeqD d (rs.map rowD)) (hrow : ∀ r, SeqD (rowD r) (encI r)) (hsz : rs.flatten.length ≤ 100000) :
    f_counted [d] = .ok (.ow (.dic (cnt rs.flatten))) := by
  unfold f_counted F_counted
  rw [fn_eq [.va d, .no, .no, .no] rfl]
  have L := forD_fold (j := 2) (b := B_counted_2) (enc := rowD) (fun (s : List Int) e => ∃ a b, e = [.va d, .ow (.dic (cnt s)), a, b]) (fun s r => s ++ r) rs [] [.va d, .ow (.dic []), .no, .no] ⟨_, _, rfl⟩
    (fun i r e hr ⟨a, b, he⟩ => by
      subst he
      have hlen := sublen hr
      rw [cat_fold, List.nil_append]
      generalize (rs.take i).flatten = s at *
      have L1 := forD_fold (j := 3) (b := B_counted_1) (enc := D.int) (fun (s : List Int) e => ∃ b, e = [.va d, .ow (.dic (cnt s)), .va (rowD r), b]) (fun s x => s ++ [x]) r s [.va d, .ow (.dic (cnt s)), .va (rowD r), b] ⟨_, rfl⟩
        (fun k x e hx ⟨b, he⟩ => by
          subst he
          obtain ⟨hk, _⟩ := List.getElem?_eq_some_iff.mp hx
          rw [snoc_fold]
          have hl2 : (s ++ r.take k).length ≤ 100000 := by rw [List.length_append, List.length_take]; omega
          generalize s ++ r.take k = t at *
          have hlim : (cnt t).length < 1000000 := by have := cnt_len t; omega
          have hg : dGet2 (cnt t) (.int x) (.int 0) = .ok (.va (.int (t.count x : Nat))) := by
            unfold dGet2
            simp only
            rw [getA_cnt]
            by_cases q : x ∈ t
            · rw [if_pos q]; rfl
            · rw [if_neg q, List.count_eq_zero.mpr q]; rfl
          have hlo : (Sl.va (D.int (t.count x : Nat))).loose = true := rfl
          have hfv : (D.int (((t.count x : Nat) : Int) + 1)).fv? = some (.int (((t.count x : Nat) : Int) + 1)) := rfl
          unfold B_counted_1
          simp only [ev_seq, ev_set, ev_op1, ev_op2, ev_call, ev_cons, ev_nil, ev_c, ev_var, ev_tup, ev_lst, ev_cb, ev_fz, ev_lend, ev_and, ev_or, ev_not, ev_chain, ev_if, ev_bm, ev_get2, ev_ixO, ev_sl, ev_some, ev_none, ev_tval, ev_tand, ev_tor, ev_tnot, ev_irange1, ev_irange2, ev_sif, ev_next, ev_ret, ev_retO, ev_raise, ev_app, ev_put, ev_dput, ev_for, ev_while, ev_pub, pub_cons, pub_nil, ev_drop, ev_dnew, res_nx, res_rt, res_xc, R.bind_ok, R.bind_xc, R.out_ok, R.out_xc, Out.bind_nx, Out.bind_rt, Out.bind_xc, Sl.d_va, Sl.d_ow, Sl.frz_va, Sl.frz_ow, Sl.frz_no, List.getElem?_cons_succ, List.getElem?_cons_zero, List.set_cons_succ, List.set_cons_zero, List.length_cons, List.length_nil, List.map_cons, List.map_nil, lim_val, Nat.zero_le, Nat.reduceAdd, Nat.reduceLeDiff, Nat.reduceEqDiff, reduceIte, Nat.zero_add, if_true, if_false, Bool.false_eq_true, Bool.not_true, Bool.not_false, decide_true, decide_false, o_add, o_sub, o_neg, o_lt, o_le, o_gt, o_ge, o_eq, o_ne, o_isN, o_notN, isNon_non, isNon_int, isNon_tup, isNon_lst, o_idxL, o_idxT, o_lenL, o_lenT, o_lenS, o_listL, o_listT, o_tupleL, o_tupleT, o_int, o_intb, o_max2, o_min2, o_slL, o_slT, atD_0, atD_1, atD_2, atD_3, atD_4, atD_5, range_4, range_3, range_2, hg, hlo, hfv, hlim, cnt_step]
          exact ⟨_, rfl, _, rfl⟩)
      obtain ⟨e1, h1, b1, he1⟩ := L1
      rw [snoc_fold] at he1
      refine ⟨e1, ?_, .va (rowD r), b1, he1⟩
      unfold B_counted_2
      rw [ev_for, iseq_ok (d := rowD r) (ds := encI r) rfl (hrow r), R.out_ok]
      exact h1)
  obtain ⟨e, h, a, b, he⟩ := L
  rw [cat_fold, List.nil_append] at he
  have hit : iSeq (eVar 0) [.va d, .ow (.dic []), .no, .no] = .ok (rs.map rowD) := iseq_ok (d := d) rfl hd
  rw [ev_seq]
  have t1 : sSet 1 eDNew [.va d, .no, .no, .no] = .nx [.va d, .ow (.dic []), .no, .no] := by simp only [ev_seq, ev_set, ev_op1, ev_op2, ev_call, ev_cons, ev_nil, ev_c, ev_var, ev_tup, ev_lst, ev_cb, ev_fz, ev_lend, ev_and, ev_or, ev_not, ev_chain, ev_if, ev_bm, ev_get2, ev_ixO, ev_sl, ev_some, ev_none, ev_tval, ev_tand, ev_tor, ev_tnot, ev_irange1, ev_irange2, ev_sif, ev_next, ev_ret, ev_retO, ev_raise, ev_app, ev_put, ev_dput, ev_for, ev_while, ev_pub, pub_cons, pub_nil, ev_drop, ev_dnew, res_nx, res_rt, res_xc, R.bind_ok, R.bind_xc, R.out_ok, R.out_xc, Out.bind_nx, Out.bind_rt, Out.bind_xc, Sl.d_va, Sl.d_ow, Sl.frz_va, Sl.frz_ow, Sl.frz_no, List.getElem?_cons_succ, List.getElem?_cons_zero, List.set_cons_succ, List.set_cons_zero, List.length_cons, List.length_nil, List.map_cons, List.map_nil, lim_val, Nat.zero_le, Nat.reduceAdd, Nat.reduceLeDiff, Nat.reduceEqDiff, reduceIte, Nat.zero_add, if_true, if_false, Bool.false_eq_true, Bool.not_true, Bool.not_false, decide_true, decide_false, o_add, o_sub, o_neg, o_lt, o_le, o_gt, o_ge, o_eq, o_ne, o_isN, o_notN, isNon_non, isNon_int, isNon_tup, isNon_lst, o_idxL, o_idxT, o_lenL, o_lenT, o_lenS, o_listL, o_listT, o_tupleL, o_tupleT, o_int, o_intb, o_max2, o_min2, o_slL, o_slT, atD_0, atD_1, atD_2, atD_3, atD_4, atD_5, range_4, range_3, range_2]
  rw [t1, Out.bind_nx, ev_seq, ev_for, hit, R.out_ok, h, Out.bind_nx, he]
  simp only [ev_seq, ev_set, ev_op1, ev_op2, ev_call, ev_cons, ev_nil, ev_c, ev_var, ev_tup, ev_lst, ev_cb, ev_fz, ev_lend, ev_and, ev_or, ev_not, ev_chain, ev_if, ev_bm, ev_get2, ev_ixO, ev_sl, ev_some, ev_none, ev_tval, ev_tand, ev_tor, ev_tnot, ev_irange1, ev_irange2, ev_sif, ev_next, ev_ret, ev_retO, ev_raise, ev_app, ev_put, ev_dput, ev_for, ev_while, ev_pub, pub_cons, pub_nil, ev_drop, ev_dnew, res_nx, res_rt, res_xc, R.bind_ok, R.bind_xc, R.out_ok, R.out_xc, Out.bind_nx, Out.bind_rt, Out.bind_xc, Sl.d_va, Sl.d_ow, Sl.frz_va, Sl.frz_ow, Sl.frz_no, List.getElem?_cons_succ, List.getElem?_cons_zero, List.set_cons_succ, List.set_cons_zero, List.length_cons, List.length_nil, List.map_cons, List.map_nil, lim_val, Nat.zero_le, Nat.reduceAdd, Nat.reduceLeDiff, Nat.reduceEqDiff, reduceIte, Nat.zero_add, if_true, if_false, Bool.false_eq_true, Bool.not_true, Bool.not_false, decide_true, decide_false, o_add, o_sub, o_neg, o_lt, o_le, o_gt, o_ge, o_eq, o_ne, o_isN, o_notN, isNon_non, isNon_int, isNon_tup, isNon_lst, o_idxL, o_idxT, o_lenL, o_lenT, o_lenS, o_listL, o_listT, o_tupleL, o_tupleT, o_int, o_intb, o_max2, o_min2, o_slL, o_slT, atD_0, atD_1, atD_2, atD_3, atD_4, atD_5, range_4, range_3, range_2]
theorem nbr_keys (xs : List Int) (k : Int) : (nbr xs).any (fun p => p.1 == k) = decide (k ∈ xs) := by
  unfold nbr
  rw [List.any_map, Bool.eq_iff_iff, List.any_eq_true, decide_eq_true_eq]
  constructor
  · rintro ⟨⟨x, i⟩, hx, e⟩
    have e : x = k := by simpa using e
    have := List.mem_zipIdx hx
    subst e
    have h2 := this.2.2
    rw [h2]
    exact List.getElem_mem _
  · intro h
    obtain ⟨i, hi, e⟩ := List.mem_iff_getElem.mp h
    refine ⟨(k, i), ?_, by simp⟩
    rw [List.mem_zipIdx_iff_getElem?]
    rw [← e]
    simp [hi]
theorem nbr_snoc (xs : List Int) (x : Int) (h : x ∉ xs) : putA (nbr xs) x (.int (xs.length : Nat)) = nbr (xs ++ [x]) := by
  unfold putA
  rw [nbr_keys, if_neg (by simpa using h)]
  unfold nbr
  rw [List.zipIdx_append, List.map_append]
  simp
theorem getA_nbr : ∀ (xs : List Int) (k : Int) (n : Nat), k ∈ xs → ((xs.zipIdx n).map fun p => (p.1, Fv.int (p.2 : Nat))).find? (fun p => p.1 == k) = some (k, .int ((xs.idxOf k + n : Nat) : Int))
  | x :: xs, k, n, h => by
    rw [List.zipIdx_cons, List.map_cons, List.find?_cons]
    by_cases q : x = k
    · subst q
      simp
    · have q2 : ¬ (k = x) := fun e => q e.symm
      have q3 : (x == k) = false := by simpa using q
      rw [q3]
      simp only
      have hk : k ∈ xs := by
        rcases List.mem_cons.mp h with z | z
        · exact absurd z q2
        · exact z
      rw [getA_nbr xs k (n + 1) hk, List.idxOf_cons, q3]
      simp
      omega
theorem numbered_ok {d : D} {rowD : List Int → D} {rs : List (List Int)} (hd : SeqD d (rs.map rowD)) (hrow : ∀ r, SeqD (rowD r) (encI r)) (hsz : rs.flatten.length ≤ 100000) (hsz2 : rs.length ≤ 100000) :
    f_numbered [d] = .ok (.va (.tup (encRs (numb rs)))) := by
  unfold f_numbered F_numbered
  rw [fn_eq [.va d, .no, .no, .no, .no] rfl]
  have hc := counted_ok hd hrow hsz
  have hkeys : (cnt rs.flatten).map (fun p => D.int p.1) = (names rs.flatten).map D.int := by
    unfold cnt
    rw [List.map_map]
    rfl
  have hnl : (names rs.flatten).length ≤ 100000 := Nat.le_trans (names_len _) hsz
  -- numbers
  have L := forD_fold (j := 2) (b := B_numbered_1) (enc := D.int) (fun (s : List Int) e => ∃ a, e = [.va d, .ow (.dic (nbr s)), a, .no, .no]) (fun s x => s ++ [x]) (names rs.flatten) [] [.va d, .ow (.dic []), .no, .no, .no] ⟨_, rfl⟩
    (fun i x e hx ⟨a, he⟩ => by
      subst he
      obtain ⟨hi, hv⟩ := List.getElem?_eq_some_iff.mp hx
      rw [snoc_fold, List.nil_append]
      have hnin : x ∉ (names rs.flatten).take i := fun hm => by
        obtain ⟨j, hj, e⟩ := List.mem_iff_getElem.mp hm
        rw [List.length_take] at hj
        rw [List.getElem_take] at e
        have := nodup_inj (names_nodup _) (e.trans hv.symm)
        omega
      have hl : ((names rs.flatten).take i).length ≤ 100000 := by rw [List.length_take]; omega
      generalize (names rs.flatten).take i = t at *
      have hnb : (nbr t).length = t.length := by unfold nbr; rw [List.length_map, List.length_zipIdx]
      have hlim : (nbr t).length < 1000000 := by omega
      have hlen : bLenD [.dic (nbr t)] = .ok (.va (.int (t.length : Nat))) := by rw [o_lenD, hnb]
      have hlo : (Sl.va (D.int (t.length : Nat))).loose = true := rfl
      have hfv : (D.int (t.length : Nat)).fv? = some (.int (t.length : Nat)) := rfl
      unfold B_numbered_1
      simp only [ev_seq, ev_set, ev_op1, ev_op2, ev_call, ev_cons, ev_nil, ev_c, ev_var, ev_tup, ev_lst, ev_cb, ev_fz, ev_lend, ev_and, ev_or, ev_not, ev_chain, ev_if, ev_bm, ev_get2, ev_ixO, ev_sl, ev_some, ev_none, ev_tval, ev_tand, ev_tor, ev_tnot, ev_irange1, ev_irange2, ev_sif, ev_next, ev_ret, ev_retO, ev_raise, ev_app, ev_put, ev_dput, ev_for, ev_while, ev_pub, pub_cons, pub_nil, ev_drop, ev_dnew, res_nx, res_rt, res_xc, R.bind_ok, R.bind_xc, R.out_ok, R.out_xc, Out.bind_nx, Out.bind_rt, Out.bind_xc, Sl.d_va, Sl.d_ow, Sl.frz_va, Sl.frz_ow, Sl.frz_no, List.getElem?_cons_succ, List.getElem?_cons_zero, List.set_cons_succ, List.set_cons_zero, List.length_cons, List.length_nil, List.map_cons, List.map_nil, lim_val, Nat.zero_le, Nat.reduceAdd, Nat.reduceLeDiff, Nat.reduceEqDiff, reduceIte, Nat.zero_add, if_true, if_false, Bool.false_eq_true, Bool.not_true, Bool.not_false, decide_true, decide_false, o_add, o_sub, o_neg, o_lt, o_le, o_gt, o_ge, o_eq, o_ne, o_isN, o_notN, isNon_non, isNon_int, isNon_tup, isNon_lst, o_idxL, o_idxT, o_lenL, o_lenT, o_lenS, o_listL, o_listT, o_tupleL, o_tupleT, o_int, o_intb, o_max2, o_min2, o_slL, o_slT, atD_0, atD_1, atD_2, atD_3, atD_4, atD_5, range_4, range_3, range_2, hlen, hlo, hfv, hlim, nbr_snoc t x hnin]
      exact ⟨_, rfl, _, rfl⟩)
  obtain ⟨e, h, a, he⟩ := L
  rw [snoc_fold, List.nil_append] at he
  have hget : ∀ x ∈ rs.flatten, dGetK (.dic (nbr (names rs.flatten))) (.int x) = .ok (.va (.int (idx (names rs.flatten) x))) := fun x hx => by
    have := getA_nbr (names rs.flatten) x 0 (names_mem.mpr hx)
    unfold dGetK getA nbr
    simp only
    rw [this]
    rfl
  -- the rows
  generalize hns : names rs.flatten = ns at *
  have L2 := forD_fold (j := 4) (b := B_numbered_2) (enc := rowD) (fun (s : List (List Int)) e => ∃ x y z, (x = .ow (.dic (nbr ns)) ∨ x = .va (.dic (nbr ns))) ∧ e = [.va d, x, y, .ow (.lst (encRs s)), z]) (fun s r => s ++ [r.map (idx ns)]) rs [] [.va d, .ow (.dic (nbr ns)), a, .ow (.lst []), .no] ⟨_, _, _, .inl rfl, rfl⟩
    (fun i r e hr ⟨x, y, z, hx, he⟩ => by
      subst he
      obtain ⟨hi, hv⟩ := List.getElem?_eq_some_iff.mp hr
      have hs : ∀ (l : List (List Int)) (s0 : List (List Int)), (l.foldl (fun s r => s ++ [r.map (idx ns)]) s0).length = s0.length + l.length := by
        intro l
        induction l with
        | nil => intro s0; rfl
        | cons a l ih => intro s0; rw [List.foldl_cons, ih]; simp only [List.length_append, List.length_cons, List.length_nil]; omega
      have hs2 := hs (rs.take i) []
      generalize (rs.take i).foldl (fun s r => s ++ [r.map (idx ns)]) [] = s at *
      have hlim : (encRs s).length < 1000000 := by
        rw [List.length_map, hs2, List.length_take]
        simp
        omega
      have hr2 : r ∈ rs := List.mem_of_getElem? hr
      have hfl : r.length ≤ 100000 := by
        have := sublen hr
        omega
      have hpub : pubE [1] ([Sl.va d, x, y, .ow (.lst (encRs s)), z].set 4 (.va (rowD r))) = [.va d, .va (.dic (nbr ns)), y, .ow (.lst (encRs s)), .va (rowD r)] := by
        rcases hx with rfl | rfl <;> rfl
      have hc := lc_map (j := 2) (el := eOp2 dGetK (eVar 1) (eVar 2)) (e := [.va d, .va (.dic (nbr ns)), .no, .ow (.lst (encRs s)), .va (rowD r)]) (enc := D.int) (g := fun x => Sl.va (.int (idx ns x))) r
        (fun x hx => by
          have := hget x (List.mem_flatten.mpr ⟨r, hr2, hx⟩)
          simp only [ev_seq, ev_set, ev_op1, ev_op2, ev_call, ev_cons, ev_nil, ev_c, ev_var, ev_tup, ev_lst, ev_cb, ev_fz, ev_lend, ev_and, ev_or, ev_not, ev_chain, ev_if, ev_bm, ev_get2, ev_ixO, ev_sl, ev_some, ev_none, ev_tval, ev_tand, ev_tor, ev_tnot, ev_irange1, ev_irange2, ev_sif, ev_next, ev_ret, ev_retO, ev_raise, ev_app, ev_put, ev_dput, ev_for, ev_while, ev_pub, pub_cons, pub_nil, ev_drop, ev_dnew, res_nx, res_rt, res_xc, R.bind_ok, R.bind_xc, R.out_ok, R.out_xc, Out.bind_nx, Out.bind_rt, Out.bind_xc, Sl.d_va, Sl.d_ow, Sl.frz_va, Sl.frz_ow, Sl.frz_no, List.getElem?_cons_succ, List.getElem?_cons_zero, List.set_cons_succ, List.set_cons_zero, List.length_cons, List.length_nil, List.map_cons, List.map_nil, lim_val, Nat.zero_le, Nat.reduceAdd, Nat.reduceLeDiff, Nat.reduceEqDiff, reduceIte, Nat.zero_add, if_true, if_false, Bool.false_eq_true, Bool.not_true, Bool.not_false, decide_true, decide_false, o_add, o_sub, o_neg, o_lt, o_le, o_gt, o_ge, o_eq, o_ne, o_isN, o_notN, isNon_non, isNon_int, isNon_tup, isNon_lst, o_idxL, o_idxT, o_lenL, o_lenT, o_lenS, o_listL, o_listT, o_tupleL, o_tupleT, o_int, o_intb, o_max2, o_min2, o_slL, o_slT, atD_0, atD_1, atD_2, atD_3, atD_4, atD_5, range_4, range_3, range_2, this])
      have hlc : eLc (iSeq (eVar 4)) 2 tYes (eOp2 dGetK (eVar 1) (eVar 2)) [2] [.va d, .va (.dic (nbr ns)), y, .ow (.lst (encRs s)), .va (rowD r)] = .ok (.ow (.lst (encI (r.map (idx ns))))) := by
        have := lc_ok (it := iSeq (eVar 4)) (j := 2) (c := tYes) (el := eOp2 dGetK (eVar 1) (eVar 2)) (own := [2]) (e := [.va d, .va (.dic (nbr ns)), y, .ow (.lst (encRs s)), .va (rowD r)]) (iseq_ok (d := rowD r) rfl (hrow r)) (by rw [List.length_map]; omega) hc
        rw [this, show encI (r.map (idx ns)) = r.map (fun x => D.int (idx ns x)) from List.map_map]
        rfl
      unfold B_numbered_2
      rw [ev_pub, hpub]
      simp only [ev_seq, ev_set, ev_op1, ev_op2, ev_call, ev_cons, ev_nil, ev_c, ev_var, ev_tup, ev_lst, ev_cb, ev_fz, ev_lend, ev_and, ev_or, ev_not, ev_chain, ev_if, ev_bm, ev_get2, ev_ixO, ev_sl, ev_some, ev_none, ev_tval, ev_tand, ev_tor, ev_tnot, ev_irange1, ev_irange2, ev_sif, ev_next, ev_ret, ev_retO, ev_raise, ev_app, ev_put, ev_dput, ev_for, ev_while, ev_pub, pub_cons, pub_nil, ev_drop, ev_dnew, res_nx, res_rt, res_xc, R.bind_ok, R.bind_xc, R.out_ok, R.out_xc, Out.bind_nx, Out.bind_rt, Out.bind_xc, Sl.d_va, Sl.d_ow, Sl.frz_va, Sl.frz_ow, Sl.frz_no, List.getElem?_cons_succ, List.getElem?_cons_zero, List.set_cons_succ, List.set_cons_zero, List.length_cons, List.length_nil, List.map_cons, List.map_nil, lim_val, Nat.zero_le, Nat.reduceAdd, Nat.reduceLeDiff, Nat.reduceEqDiff, reduceIte, Nat.zero_add, if_true, if_false, Bool.false_eq_true, Bool.not_true, Bool.not_false, decide_true, decide_false, o_add, o_sub, o_neg, o_lt, o_le, o_gt, o_ge, o_eq, o_ne, o_isN, o_notN, isNon_non, isNon_int, isNon_tup, isNon_lst, o_idxL, o_idxT, o_lenL, o_lenT, o_lenS, o_listL, o_listT, o_tupleL, o_tupleT, o_int, o_intb, o_max2, o_min2, o_slL, o_slT, atD_0, atD_1, atD_2, atD_3, atD_4, atD_5, range_4, range_3, range_2, hlc, hlim]
      exact ⟨_, rfl, _, _, _, .inr rfl, by rw [show encRs (s ++ [r.map (idx ns)]) = encRs s ++ [encR (r.map (idx ns))] from List.map_append]⟩)
  obtain ⟨e2, h2, x2, y2, z2, _, he2⟩ := L2
  have hf : ∀ (l s0 : List (List Int)), l.foldl (fun s r => s ++ [r.map (idx ns)]) s0 = s0 ++ l.map fun r => r.map (idx ns) := by
    intro l
    induction l with
    | nil => intro s0; simp
    | cons a l ih => intro s0; rw [List.foldl_cons, ih, List.map_cons, List.append_assoc]; rfl
  rw [hf, List.nil_append] at he2
  have hit : iSeq (eVar 0) [.va d, .ow (.dic (nbr ns)), a, .ow (.lst []), .no] = .ok (rs.map rowD) := iseq_ok (d := d) rfl hd
  simp only [ev_seq, ev_set, ev_op1, ev_op2, ev_call, ev_cons, ev_nil, ev_c, ev_var, ev_tup, ev_lst, ev_cb, ev_fz, ev_lend, ev_and, ev_or, ev_not, ev_chain, ev_if, ev_bm, ev_get2, ev_ixO, ev_sl, ev_some, ev_none, ev_tval, ev_tand, ev_tor, ev_tnot, ev_irange1, ev_irange2, ev_sif, ev_next, ev_ret, ev_retO, ev_raise, ev_app, ev_put, ev_dput, ev_for, ev_while, ev_pub, pub_cons, pub_nil, ev_drop, ev_dnew, res_nx, res_rt, res_xc, R.bind_ok, R.bind_xc, R.out_ok, R.out_xc, Out.bind_nx, Out.bind_rt, Out.bind_xc, Sl.d_va, Sl.d_ow, Sl.frz_va, Sl.frz_ow, Sl.frz_no, List.getElem?_cons_succ, List.getElem?_cons_zero, List.set_cons_succ, List.set_cons_zero, List.length_cons, List.length_nil, List.map_cons, List.map_nil, lim_val, Nat.zero_le, Nat.reduceAdd, Nat.reduceLeDiff, Nat.reduceEqDiff, reduceIte, Nat.zero_add, if_true, if_false, Bool.false_eq_true, Bool.not_true, Bool.not_false, decide_true, decide_false, o_add, o_sub, o_neg, o_lt, o_le, o_gt, o_ge, o_eq, o_ne, o_isN, o_notN, isNon_non, isNon_int, isNon_tup, isNon_lst, o_idxL, o_idxT, o_lenL, o_lenT, o_lenS, o_listL, o_listT, o_tupleL, o_tupleT, o_int, o_intb, o_max2, o_min2, o_slL, o_slT, atD_0, atD_1, atD_2, atD_3, atD_4, atD_5, range_4, range_3, range_2, ev_ikeys, hc, hkeys, h, he, hit, h2, he2]
  unfold numb
  rw [hns]
end DL
set_option maxRecDepth 100000
namespace DL
open PySem (Str)
/-! ### comprehensions and appends at once -/
theorem lcm {α : Type} {it : FI} {j : Nat} {el : FE} {own : List Nat} {e : Env} {enc : α → D} (g : α → D) (xs : List α) (hit : it e = .ok (xs.map enc)) (hl : xs.length ≤ 1000000) (h : ∀ x ∈ xs, el ((wipeE e own).set j (.va (enc x))) = .ok (.va (g x))) :
    eLc it j tYes el own e = .ok (.ow (.lst (xs.map g))) := by
  have := lc_map (j := j) (el := el) (e := wipeE e own) (enc := enc) (g := fun x => Sl.va (g x)) xs h
  exact lc_ok hit (by rw [List.length_map]; exact hl) this
theorem lcf {α : Type} {it : FI} {j : Nat} {c : FT} {el : FE} {own : List Nat} {e : Env} {enc : α → D} (p : α → Bool) (g : α → D) (xs : List α) (hit : it e = .ok (xs.map enc)) (hl : xs.length ≤ 1000000) (hc : ∀ x ∈ xs, c ((wipeE e own).set j (.va (enc x))) = .ok (p x))
    (h : ∀ x ∈ xs, p x = true → el ((wipeE e own).set j (.va (enc x))) = .ok (.va (g x))) : eLc it j c el own e = .ok (.ow (.lst ((xs.filter p).map g))) := by
  have := lc_filter (j := j) (c := c) (el := el) (e := wipeE e own) (enc := enc) (p := p) (g := fun x => Sl.va (g x)) xs hc h
  exact lc_ok hit (by rw [List.length_map]; exact hl) this
theorem forD_app {α : Type} {j i : Nat} {el : FE} {enc : α → D} (g : α → D) (E : List D → Sl → Env) (h1 : ∀ s y x, (E s y).set j x = E s x) (h2 : ∀ s x, (E s x)[i]? = some (.ow (.lst s))) (h3 : ∀ s x t, (E s x).set i (.ow (.lst t)) = E t x) :
    ∀ (xs : List α) (s0 : List D) (y : Sl), (∀ x ∈ xs, ∀ s, el (E s (.va (enc x))) = .ok (.va (g x))) → s0.length + xs.length ≤ 1000000 → ∃ y', forD j (sApp i el) (xs.map enc) (E s0 y) = .nx (E (s0 ++ xs.map g) y')
  | [], s0, y, _, _ => ⟨y, by rw [List.map_nil, List.map_nil, List.append_nil]; rfl⟩
  | x :: xs, s0, y, hel, hl => by
    rw [List.length_cons] at hl
    obtain ⟨y', h⟩ := forD_app (j := j) (i := i) (el := el) (enc := enc) g E h1 h2 h3 xs (s0 ++ [g x]) (.va (enc x)) (fun z m => hel z (List.mem_cons_of_mem _ m)) (by rw [List.length_append]; simp; omega)
    refine ⟨y', ?_⟩
    have hstep : sApp i el ((E s0 y).set j (.va (enc x))) = .nx (E (s0 ++ [g x]) (.va (enc x))) := by
      rw [h1, ev_app, h2]
      simp only
      rw [hel x List.mem_cons_self, R.out_ok, Sl.d_va, if_pos (by rw [lim_val]; omega), h3]
    show (sApp i el ((E s0 y).set j (.va (enc x)))).bind _ = _
    rw [hstep, Out.bind_nx, h, List.append_assoc]
    rfl
/-! ### law_same -/
abbrev encS (rs : List (List Int)) (rings : Int) : D := .tup [.tup (encRs rs), .int rings]
theorem four_of {r : List Int} (h : r.length = 4) : ∃ a b c d, r = [a, b, c, d] := by
  match r, h with
  | [a, b, c, d], _ => exact ⟨a, b, c, d, rfl⟩
theorem row_at_k {rs : List (List Int)} {k : Nat} (hk : k < rs.length) : atD (encRs rs) (k : Int) = some (encR rs[k]) := by
  rw [atD_nat, List.getElem?_map, List.getElem?_eq_getElem hk]
  rfl
theorem same_ok {rs : List (List Int)} {rings : Int} (h4 : ∀ r ∈ rs, r.length = 4) (hl : rs.length ≤ 1000) : f_law_same [encS rs rings, encS rs rings] = .ok (.va (.bl true)) := by
  unfold f_law_same F_law_same
  rw [fn_eq [.va (encS rs rings), .va (encS rs rings), .no, .no, .no] rfl]
  have L := forD_ix (j := 2) (b := B_law_same_2) (enc := fun k : Nat => D.int (k : Int)) (List.range rs.length) (fun _ e => ∃ a b c, e = [.va (encS rs rings), .va (encS rs rings), a, b, c]) [.va (encS rs rings), .va (encS rs rings), .no, .no, .no] ⟨_, _, _, rfl⟩
    (fun i k e hk ⟨a, b, c, he⟩ => by
      subst he
      obtain ⟨hi, hv⟩ := List.getElem?_eq_some_iff.mp hk
      rw [List.getElem_range] at hv
      rw [List.length_range] at hi
      subst hv
      have hr := row_at_k hi
      obtain ⟨x, y, z, w, e4⟩ := four_of (h4 _ (List.getElem_mem hi))
      rw [e4] at hr
      have l0 : ([] : List Sl).length = 0 := rfl
      unfold B_law_same_2 B_law_same_1
      have n4 : dNe (.int (((0 + 1 + 1 + 1 + 1 : Nat)) : Int)) (.int 4) = .ok (.va (.bl false)) := rfl
      have n4' : dNe (.int ((4 : Nat) : Int)) (.int 4) = .ok (.va (.bl false)) := rfl
      simp only [ev_seq, ev_set, ev_op1, ev_op2, ev_call, ev_cons, ev_nil, ev_c, ev_var, ev_tup, ev_lst, ev_cb, ev_fz, ev_lend, ev_and, ev_or, ev_not, ev_chain, ev_if, ev_bm, ev_get2, ev_ixO, ev_sl, ev_some, ev_none, ev_tval, ev_tand, ev_tor, ev_tnot, ev_irange1, ev_irange2, ev_sif, ev_next, ev_ret, ev_retO, ev_raise, ev_app, ev_put, ev_dput, ev_for, ev_while, ev_pub, pub_cons, pub_nil, ev_drop, ev_dnew, res_nx, res_rt, res_xc, R.bind_ok, R.bind_xc, R.out_ok, R.out_xc, Out.bind_nx, Out.bind_rt, Out.bind_xc, Sl.d_va, Sl.d_ow, Sl.frz_va, Sl.frz_ow, Sl.frz_no, List.getElem?_cons_succ, List.getElem?_cons_zero, List.set_cons_succ, List.set_cons_zero, List.length_cons, List.length_nil, List.map_cons, List.map_nil, lim_val, Nat.zero_le, Nat.reduceAdd, Nat.reduceLeDiff, Nat.reduceEqDiff, reduceIte, Nat.zero_add, if_true, if_false, Bool.false_eq_true, Bool.not_true, Bool.not_false, decide_true, decide_false, o_add, o_sub, o_neg, o_lt, o_le, o_gt, o_ge, o_eq, o_ne, o_isN, o_notN, isNon_non, isNon_int, isNon_tup, isNon_lst, o_idxL, o_idxT, o_lenL, o_lenT, o_lenS, o_listL, o_listT, o_tupleL, o_tupleT, o_int, o_intb, o_max2, o_min2, o_slL, o_slT, atD_0, atD_1, atD_2, atD_3, atD_4, atD_5, range_4, range_3, range_2, hr, isi_tup, forD, whole_ok, n4, n4', Int.reduceEq, Int.cast_ofNat_Int]
      exact ⟨_, rfl, _, _, _, rfl⟩)
  obtain ⟨e, h, a, b, c, he⟩ := L
  rw [← rng_eq] at h
  have hrg := range_nat (n := rs.length) (by omega)
  have n2 : dNe (.int (((0 + 1 + 1 : Nat)) : Int)) (.int 2) = .ok (.va (.bl false)) := rfl
  have n2' : dNe (.int ((2 : Nat) : Int)) (.int 2) = .ok (.va (.bl false)) := rfl
  simp only [ev_seq, ev_set, ev_op1, ev_op2, ev_call, ev_cons, ev_nil, ev_c, ev_var, ev_tup, ev_lst, ev_cb, ev_fz, ev_lend, ev_and, ev_or, ev_not, ev_chain, ev_if, ev_bm, ev_get2, ev_ixO, ev_sl, ev_some, ev_none, ev_tval, ev_tand, ev_tor, ev_tnot, ev_irange1, ev_irange2, ev_sif, ev_next, ev_ret, ev_retO, ev_raise, ev_app, ev_put, ev_dput, ev_for, ev_while, ev_pub, pub_cons, pub_nil, ev_drop, ev_dnew, res_nx, res_rt, res_xc, R.bind_ok, R.bind_xc, R.out_ok, R.out_xc, Out.bind_nx, Out.bind_rt, Out.bind_xc, Sl.d_va, Sl.d_ow, Sl.frz_va, Sl.frz_ow, Sl.frz_no, List.getElem?_cons_succ, List.getElem?_cons_zero, List.set_cons_succ, List.set_cons_zero, List.length_cons, List.length_nil, List.map_cons, List.map_nil, lim_val, Nat.zero_le, Nat.reduceAdd, Nat.reduceLeDiff, Nat.reduceEqDiff, reduceIte, Nat.zero_add, if_true, if_false, Bool.false_eq_true, Bool.not_true, Bool.not_false, decide_true, decide_false, o_add, o_sub, o_neg, o_lt, o_le, o_gt, o_ge, o_eq, o_ne, o_isN, o_notN, isNon_non, isNon_int, isNon_tup, isNon_lst, o_idxL, o_idxT, o_lenL, o_lenT, o_lenS, o_listL, o_listT, o_tupleL, o_tupleT, o_int, o_intb, o_max2, o_min2, o_slL, o_slT, atD_0, atD_1, atD_2, atD_3, atD_4, atD_5, range_4, range_3, range_2, isi_tup, whole_ok, List.length_map, hrg, h, he, n2, n2', Int.reduceEq, Int.cast_ofNat_Int]
end DL
set_option maxRecDepth 100000
namespace DL
open PySem (Str)
theorem numb_four {rs : List (List Int)} (h : ∀ r ∈ rs, r.length = 4) : ∀ r ∈ numb rs, r.length = 4 := fun r hr => by
  unfold numb at hr
  obtain ⟨r0, h0, rfl⟩ := List.mem_map.mp hr
  rw [List.length_map]
  exact h r0 h0
theorem numb_length (rs : List (List Int)) : (numb rs).length = rs.length := by
  unfold numb
  rw [List.length_map]
theorem flat_le4 {rs : List (List Int)} (h4 : ∀ r ∈ rs, r.length = 4) (hl : rs.length ≤ 1000) : rs.flatten.length ≤ 100000 := by
  rw [flat4 h4]
  omega
/-- both numberings of a list of rows -/
theorem numbered_l {rs : List (List Int)} (h4 : ∀ r ∈ rs, r.length = 4) (hl : rs.length ≤ 1000) : f_numbered [.lst (encRs rs)] = .ok (.va (.tup (encRs (numb rs)))) := numbered_ok (rowD := encR) (.inl rfl) seq_row (flat_le4 h4 hl) (by omega)
theorem law_numbered_l {rs : List (List Int)} (h4 : ∀ r ∈ rs, r.length = 4) (hl : rs.length ≤ 1000) : f_law_numbered [.lst (encRs rs)] = .ok (.va (.tup (encRs (numb rs)))) := law_numbered_ok (rowD := encR) (.inl rfl) seq_row (flat_le4 h4 hl) (by omega)
theorem same_numb {rs : List (List Int)} {rings : Int} (h4 : ∀ r ∈ rs, r.length = 4) (hl : rs.length ≤ 1000) : f_law_same [encS (numb rs) rings, encS (numb rs) rings] = .ok (.va (.bl true)) := same_ok (numb_four h4) (by rw [numb_length]; exact hl)
/-! ### a line put at a place -/
def putAt (rs : List (List Int)) (p : Nat × Nat) (v : Int) : List (List Int) := rs.set p.1 ((rs.getD p.1 []).set p.2 v)
theorem putAt_len (rs : List (List Int)) (p : Nat × Nat) (v : Int) : (putAt rs p v).length = rs.length := by
  unfold putAt
  rw [List.length_set]
theorem putAt_four {rs : List (List Int)} {p : Nat × Nat} {v : Int} (h4 : ∀ r ∈ rs, r.length = 4) (hp : p.1 < rs.length) : ∀ r ∈ putAt rs p v, r.length = 4 := fun r hr => by
  unfold putAt at hr
  rcases List.mem_or_eq_of_mem_set hr with m | m
  · exact h4 r m
  · subst m
    rw [List.length_set, getD_eq hp]
    exact h4 _ (List.getElem_mem _)
theorem putAt_row {rs : List (List Int)} {p : Nat × Nat} (h4 : ∀ r ∈ rs, r.length = 4) (hp : p.1 < rs.length) : (rs.getD p.1 []).length = 4 ∧ atD (encRs rs) (p.1 : Int) = some (encR (rs.getD p.1 [])) := by
  constructor
  · rw [getD_eq hp]
    exact h4 _ (List.getElem_mem _)
  · rw [row_at_k hp, getD_eq hp]
theorem put_set {rs : List (List Int)} {p : Nat × Nat} {v : Int} : (encRs rs).set p.1 (encR ((rs.getD p.1 []).set p.2 v)) = encRs (putAt rs p v) := by
  unfold putAt
  exact List.map_set.symm
theorem put_at_ok {d : D} {rs : List (List Int)} {p : Nat × Nat} {v : Int} (hd : SeqD d (encRs rs)) (h4 : ∀ r ∈ rs, r.length = 4) (hp : p.1 < rs.length) (hp2 : p.2 < 4) : f_put_at [d, encNP p, .int v] = .ok (.ow (.lst (encRs (putAt rs p v)))) := by
  unfold f_put_at F_put_at
  rw [fn_eq [.va d, .va (encNP p), .va (.int v), .no, .no] rfl]
  obtain ⟨hl, hr⟩ := putAt_row h4 hp
  have c1 : (0 : Int) ≤ (p.2 : Int) ∧ (p.2 : Int) < ((encI (rs.getD p.1 [])).length : Int) := by rw [List.length_map, hl]; omega
  have c2 : (0 : Int) ≤ (p.1 : Int) ∧ (p.1 : Int) < ((encRs rs).length : Int) := by rw [List.length_map]; omega
  have hq : D.tup (encI ((rs.getD p.1 []).set p.2 v)) = encR ((rs.getD p.1 []).set p.2 v) := rfl
  simp only [ev_seq, ev_set, ev_op1, ev_op2, ev_call, ev_cons, ev_nil, ev_c, ev_var, ev_tup, ev_lst, ev_cb, ev_fz, ev_lend, ev_and, ev_or, ev_not, ev_chain, ev_if, ev_bm, ev_get2, ev_ixO, ev_sl, ev_some, ev_none, ev_tval, ev_tand, ev_tor, ev_tnot, ev_irange1, ev_irange2, ev_sif, ev_next, ev_ret, ev_retO, ev_raise, ev_app, ev_put, ev_dput, ev_for, ev_while, ev_pub, pub_cons, pub_nil, ev_drop, ev_dnew, res_nx, res_rt, res_xc, R.bind_ok, R.bind_xc, R.out_ok, R.out_xc, Out.bind_nx, Out.bind_rt, Out.bind_xc, Sl.d_va, Sl.d_ow, Sl.frz_va, Sl.frz_ow, Sl.frz_no, List.getElem?_cons_succ, List.getElem?_cons_zero, List.set_cons_succ, List.set_cons_zero, List.length_cons, List.length_nil, List.map_cons, List.map_nil, lim_val, Nat.zero_le, Nat.reduceAdd, Nat.reduceLeDiff, Nat.reduceEqDiff, reduceIte, Nat.zero_add, if_true, if_false, Bool.false_eq_true, Bool.not_true, Bool.not_false, decide_true, decide_false, o_add, o_sub, o_neg, o_lt, o_le, o_gt, o_ge, o_eq, o_ne, o_isN, o_notN, isNon_non, isNon_int, isNon_tup, isNon_lst, o_idxL, o_idxT, o_lenL, o_lenT, o_lenS, o_listL, o_listT, o_tupleL, o_tupleT, o_int, o_intb, o_max2, o_min2, o_slL, o_slT, atD_0, atD_1, atD_2, atD_3, atD_4, atD_5, range_4, range_3, range_2, list_seq hd, hr, c1, c2, Int.toNat_natCast, and_self, encI_set, hq, put_set]
theorem law_put_ok {d : D} {rs : List (List Int)} {p : Nat × Nat} {v : Int} (hd : SeqD d (encRs rs)) (h4 : ∀ r ∈ rs, r.length = 4) (hp : p.1 < rs.length) (hp2 : p.2 < 4) : f_law_put [d, encNP p, .int v] = .ok (.ow (.lst (encRs (putAt rs p v)))) := by
  unfold f_law_put F_law_put
  rw [fn_eq [.va d, .va (encNP p), .va (.int v), .no] rfl]
  obtain ⟨hl, hr⟩ := putAt_row h4 hp
  have c1 : (0 : Int) ≤ (p.2 : Int) ∧ (p.2 : Int) < ((encI (rs.getD p.1 [])).length : Int) := by rw [List.length_map, hl]; omega
  have c2 : (0 : Int) ≤ (p.1 : Int) ∧ (p.1 : Int) < ((encRs rs).length : Int) := by rw [List.length_map]; omega
  have hq : D.tup (encI ((rs.getD p.1 []).set p.2 v)) = encR ((rs.getD p.1 []).set p.2 v) := rfl
  simp only [ev_seq, ev_set, ev_op1, ev_op2, ev_call, ev_cons, ev_nil, ev_c, ev_var, ev_tup, ev_lst, ev_cb, ev_fz, ev_lend, ev_and, ev_or, ev_not, ev_chain, ev_if, ev_bm, ev_get2, ev_ixO, ev_sl, ev_some, ev_none, ev_tval, ev_tand, ev_tor, ev_tnot, ev_irange1, ev_irange2, ev_sif, ev_next, ev_ret, ev_retO, ev_raise, ev_app, ev_put, ev_dput, ev_for, ev_while, ev_pub, pub_cons, pub_nil, ev_drop, ev_dnew, res_nx, res_rt, res_xc, R.bind_ok, R.bind_xc, R.out_ok, R.out_xc, Out.bind_nx, Out.bind_rt, Out.bind_xc, Sl.d_va, Sl.d_ow, Sl.frz_va, Sl.frz_ow, Sl.frz_no, List.getElem?_cons_succ, List.getElem?_cons_zero, List.set_cons_succ, List.set_cons_zero, List.length_cons, List.length_nil, List.map_cons, List.map_nil, lim_val, Nat.zero_le, Nat.reduceAdd, Nat.reduceLeDiff, Nat.reduceEqDiff, reduceIte, Nat.zero_add, if_true, if_false, Bool.false_eq_true, Bool.not_true, Bool.not_false, decide_true, decide_false, o_add, o_sub, o_neg, o_lt, o_le, o_gt, o_ge, o_eq, o_ne, o_isN, o_notN, isNon_non, isNon_int, isNon_tup, isNon_lst, o_idxL, o_idxT, o_lenL, o_lenT, o_lenS, o_listL, o_listT, o_tupleL, o_tupleT, o_int, o_intb, o_max2, o_min2, o_slL, o_slT, atD_0, atD_1, atD_2, atD_3, atD_4, atD_5, range_4, range_3, range_2, list_seq hd, hr, c1, c2, Int.toNat_natCast, and_self, encI_set, hq, put_set]
/-! ### the last place of a line -/
def lastPl (rs : List (List Int)) (line : Int) : Nat × Nat := ((plc rs line).getLast?).getD (0, 0)
theorem foldl_lastp {α : Type} (p : α → Bool) : ∀ (l : List α) (s : α), l.foldl (fun s x => if p x = true then x else s) s = ((l.filter p).getLast?).getD s
  | [], s => rfl
  | x :: l, s => by
    rw [List.foldl_cons, foldl_lastp p l]
    by_cases h : p x = true
    · rw [if_pos h, List.filter_cons_of_pos h]
      cases e : l.filter p with
      | nil => rfl
      | cons y ys => rw [List.getLast?_cons_cons]; cases q : (y :: ys).getLast? with
        | none => rw [List.getLast?_eq_none_iff] at q; cases q
        | some z => rfl
    · rw [if_neg h, List.filter_cons_of_neg h]
theorem foldl_flat {α β : Type} (f : α → List β) (g : β → β → β) : ∀ (l : List α) (s : β), (l.flatMap f).foldl g s = l.foldl (fun s x => (f x).foldl g s) s
  | [], s => rfl
  | x :: l, s => by rw [List.flatMap_cons, List.foldl_append, foldl_flat f g l, List.foldl_cons]
theorem second_ok {rs : List (List Int)} {line : Int} (h4 : ∀ r ∈ rs, r.length = 4) (hl : rs.length ≤ 1000) : f_law_second [.tup (encRs rs), .int line] = .ok (.va (encNP (lastPl rs line))) := by
  unfold f_law_second F_law_second
  rw [fn_eq [.va (.tup (encRs rs)), .va (.int line), .no, .no, .no] rfl]
  have L := forD_fold (j := 3) (b := B_law_second_2) (enc := fun k : Nat => D.int (k : Int)) (fun (s : Nat × Nat) e => ∃ a b, e = [.va (.tup (encRs rs)), .va (.int line), .va (encNP s), a, b])
    (fun s k => (((List.range 4).map fun e => (k, e)).foldl (fun s p => if decide (ent rs p = line) = true then p else s) s)) (List.range rs.length) (0, 0) [.va (.tup (encRs rs)), .va (.int line), .va (encNP (0, 0)), .no, .no] ⟨_, _, rfl⟩
    (fun i k e hk ⟨a, b, he⟩ => by
      subst he
      obtain ⟨hi, hv⟩ := List.getElem?_eq_some_iff.mp hk
      rw [List.getElem_range] at hv
      rw [List.length_range] at hi
      subst hv
      generalize ((List.range rs.length).take i).foldl (fun s k => (((List.range 4).map fun e => (k, e)).foldl (fun s p => if decide (ent rs p = line) = true then p else s) s)) (0, 0) = s at *
      have L1 := forD_fold (j := 4) (b := B_law_second_1) (enc := fun k : Nat => D.int (k : Int)) (fun (s : Nat × Nat) e => ∃ b, e = [.va (.tup (encRs rs)), .va (.int line), .va (encNP s), .va (.int i), b])
        (fun s e => if decide (ent rs (i, e) = line) = true then (i, e) else s) (List.range 4) s [.va (.tup (encRs rs)), .va (.int line), .va (encNP s), .va (.int i), b] ⟨_, rfl⟩
        (fun j x e hx ⟨b, he⟩ => by
          subst he
          obtain ⟨hj, hv⟩ := List.getElem?_eq_some_iff.mp hx
          rw [List.getElem_range] at hv
          rw [List.length_range] at hj
          subst hv
          generalize ((List.range 4).take j).foldl (fun s e => if decide (ent rs (i, e) = line) = true then (i, e) else s) s = t at *
          obtain ⟨x1, x2⟩ := ent_idx h4 hi hj
          rw [o_idxT] at x1
          unfold B_law_second_1
          simp only [ev_sif, ev_tval, ev_op2, ev_var, List.set_cons_succ, List.set_cons_zero, List.getElem?_cons_succ, List.getElem?_cons_zero, R.bind_ok, Sl.d_va, o_idxT, x1, x2, o_eq, R.out_ok]
          by_cases hq : ent rs (i, j) = line
          · simp only [ev_seq, ev_set, ev_op1, ev_op2, ev_call, ev_cons, ev_nil, ev_c, ev_var, ev_tup, ev_lst, ev_cb, ev_fz, ev_lend, ev_and, ev_or, ev_not, ev_chain, ev_if, ev_bm, ev_get2, ev_ixO, ev_sl, ev_some, ev_none, ev_tval, ev_tand, ev_tor, ev_tnot, ev_irange1, ev_irange2, ev_sif, ev_next, ev_ret, ev_retO, ev_raise, ev_app, ev_put, ev_dput, ev_for, ev_while, ev_pub, pub_cons, pub_nil, ev_drop, ev_dnew, res_nx, res_rt, res_xc, R.bind_ok, R.bind_xc, R.out_ok, R.out_xc, Out.bind_nx, Out.bind_rt, Out.bind_xc, Sl.d_va, Sl.d_ow, Sl.frz_va, Sl.frz_ow, Sl.frz_no, List.getElem?_cons_succ, List.getElem?_cons_zero, List.set_cons_succ, List.set_cons_zero, List.length_cons, List.length_nil, List.map_cons, List.map_nil, lim_val, Nat.zero_le, Nat.reduceAdd, Nat.reduceLeDiff, Nat.reduceEqDiff, reduceIte, Nat.zero_add, if_true, if_false, Bool.false_eq_true, Bool.not_true, Bool.not_false, decide_true, decide_false, o_add, o_sub, o_neg, o_lt, o_le, o_gt, o_ge, o_eq, o_ne, o_isN, o_notN, isNon_non, isNon_int, isNon_tup, isNon_lst, o_idxL, o_idxT, o_lenL, o_lenT, o_lenS, o_listL, o_listT, o_tupleL, o_tupleT, o_int, o_intb, o_max2, o_min2, o_slL, o_slT, atD_0, atD_1, atD_2, atD_3, atD_4, atD_5, range_4, range_3, range_2, hq]
            exact ⟨_, rfl, _, rfl⟩
          · simp only [ev_seq, ev_set, ev_op1, ev_op2, ev_call, ev_cons, ev_nil, ev_c, ev_var, ev_tup, ev_lst, ev_cb, ev_fz, ev_lend, ev_and, ev_or, ev_not, ev_chain, ev_if, ev_bm, ev_get2, ev_ixO, ev_sl, ev_some, ev_none, ev_tval, ev_tand, ev_tor, ev_tnot, ev_irange1, ev_irange2, ev_sif, ev_next, ev_ret, ev_retO, ev_raise, ev_app, ev_put, ev_dput, ev_for, ev_while, ev_pub, pub_cons, pub_nil, ev_drop, ev_dnew, res_nx, res_rt, res_xc, R.bind_ok, R.bind_xc, R.out_ok, R.out_xc, Out.bind_nx, Out.bind_rt, Out.bind_xc, Sl.d_va, Sl.d_ow, Sl.frz_va, Sl.frz_ow, Sl.frz_no, List.getElem?_cons_succ, List.getElem?_cons_zero, List.set_cons_succ, List.set_cons_zero, List.length_cons, List.length_nil, List.map_cons, List.map_nil, lim_val, Nat.zero_le, Nat.reduceAdd, Nat.reduceLeDiff, Nat.reduceEqDiff, reduceIte, Nat.zero_add, if_true, if_false, Bool.false_eq_true, Bool.not_true, Bool.not_false, decide_true, decide_false, o_add, o_sub, o_neg, o_lt, o_le, o_gt, o_ge, o_eq, o_ne, o_isN, o_notN, isNon_non, isNon_int, isNon_tup, isNon_lst, o_idxL, o_idxT, o_lenL, o_lenT, o_lenS, o_listL, o_listT, o_tupleL, o_tupleT, o_int, o_intb, o_max2, o_min2, o_slL, o_slT, atD_0, atD_1, atD_2, atD_3, atD_4, atD_5, range_4, range_3, range_2, hq]
            exact ⟨_, rfl, _, rfl⟩)
      obtain ⟨e1, h1, b1, he1⟩ := L1
      refine ⟨e1, ?_, .va (.int i), b1, ?_⟩
      · unfold B_law_second_2
        simp only [ev_seq, ev_set, ev_op1, ev_op2, ev_call, ev_cons, ev_nil, ev_c, ev_var, ev_tup, ev_lst, ev_cb, ev_fz, ev_lend, ev_and, ev_or, ev_not, ev_chain, ev_if, ev_bm, ev_get2, ev_ixO, ev_sl, ev_some, ev_none, ev_tval, ev_tand, ev_tor, ev_tnot, ev_irange1, ev_irange2, ev_sif, ev_next, ev_ret, ev_retO, ev_raise, ev_app, ev_put, ev_dput, ev_for, ev_while, ev_pub, pub_cons, pub_nil, ev_drop, ev_dnew, res_nx, res_rt, res_xc, R.bind_ok, R.bind_xc, R.out_ok, R.out_xc, Out.bind_nx, Out.bind_rt, Out.bind_xc, Sl.d_va, Sl.d_ow, Sl.frz_va, Sl.frz_ow, Sl.frz_no, List.getElem?_cons_succ, List.getElem?_cons_zero, List.set_cons_succ, List.set_cons_zero, List.length_cons, List.length_nil, List.map_cons, List.map_nil, lim_val, Nat.zero_le, Nat.reduceAdd, Nat.reduceLeDiff, Nat.reduceEqDiff, reduceIte, Nat.zero_add, if_true, if_false, Bool.false_eq_true, Bool.not_true, Bool.not_false, decide_true, decide_false, o_add, o_sub, o_neg, o_lt, o_le, o_gt, o_ge, o_eq, o_ne, o_isN, o_notN, isNon_non, isNon_int, isNon_tup, isNon_lst, o_idxL, o_idxT, o_lenL, o_lenT, o_lenS, o_listL, o_listT, o_tupleL, o_tupleT, o_int, o_intb, o_max2, o_min2, o_slL, o_slT, atD_0, atD_1, atD_2, atD_3, atD_4, atD_5, range_4, range_3, range_2]
        exact h1
      · rw [he1, List.foldl_map])
  obtain ⟨e, h, a, b, he⟩ := L
  rw [← rng_eq] at h
  have hb := range_nat (n := rs.length) (by omega)
  have t1 : sSet 2 (eTup (aCons (eC (.int 0)) (aCons (eC (.int 0)) aNil))) [.va (.tup (encRs rs)), .va (.int line), .no, .no, .no] = .nx [.va (.tup (encRs rs)), .va (.int line), .va (encNP (0, 0)), .no, .no] := by
    simp only [ev_seq, ev_set, ev_op1, ev_op2, ev_call, ev_cons, ev_nil, ev_c, ev_var, ev_tup, ev_lst, ev_cb, ev_fz, ev_lend, ev_and, ev_or, ev_not, ev_chain, ev_if, ev_bm, ev_get2, ev_ixO, ev_sl, ev_some, ev_none, ev_tval, ev_tand, ev_tor, ev_tnot, ev_irange1, ev_irange2, ev_sif, ev_next, ev_ret, ev_retO, ev_raise, ev_app, ev_put, ev_dput, ev_for, ev_while, ev_pub, pub_cons, pub_nil, ev_drop, ev_dnew, res_nx, res_rt, res_xc, R.bind_ok, R.bind_xc, R.out_ok, R.out_xc, Out.bind_nx, Out.bind_rt, Out.bind_xc, Sl.d_va, Sl.d_ow, Sl.frz_va, Sl.frz_ow, Sl.frz_no, List.getElem?_cons_succ, List.getElem?_cons_zero, List.set_cons_succ, List.set_cons_zero, List.length_cons, List.length_nil, List.map_cons, List.map_nil, lim_val, Nat.zero_le, Nat.reduceAdd, Nat.reduceLeDiff, Nat.reduceEqDiff, reduceIte, Nat.zero_add, if_true, if_false, Bool.false_eq_true, Bool.not_true, Bool.not_false, decide_true, decide_false, o_add, o_sub, o_neg, o_lt, o_le, o_gt, o_ge, o_eq, o_ne, o_isN, o_notN, isNon_non, isNon_int, isNon_tup, isNon_lst, o_idxL, o_idxT, o_lenL, o_lenT, o_lenS, o_listL, o_listT, o_tupleL, o_tupleT, o_int, o_intb, o_max2, o_min2, o_slL, o_slT, atD_0, atD_1, atD_2, atD_3, atD_4, atD_5, range_4, range_3, range_2]
    rfl
  rw [ev_seq, t1, Out.bind_nx]
  simp only [ev_seq, ev_set, ev_op1, ev_op2, ev_call, ev_cons, ev_nil, ev_c, ev_var, ev_tup, ev_lst, ev_cb, ev_fz, ev_lend, ev_and, ev_or, ev_not, ev_chain, ev_if, ev_bm, ev_get2, ev_ixO, ev_sl, ev_some, ev_none, ev_tval, ev_tand, ev_tor, ev_tnot, ev_irange1, ev_irange2, ev_sif, ev_next, ev_ret, ev_retO, ev_raise, ev_app, ev_put, ev_dput, ev_for, ev_while, ev_pub, pub_cons, pub_nil, ev_drop, ev_dnew, res_nx, res_rt, res_xc, R.bind_ok, R.bind_xc, R.out_ok, R.out_xc, Out.bind_nx, Out.bind_rt, Out.bind_xc, Sl.d_va, Sl.d_ow, Sl.frz_va, Sl.frz_ow, Sl.frz_no, List.getElem?_cons_succ, List.getElem?_cons_zero, List.set_cons_succ, List.set_cons_zero, List.length_cons, List.length_nil, List.map_cons, List.map_nil, lim_val, Nat.zero_le, Nat.reduceAdd, Nat.reduceLeDiff, Nat.reduceEqDiff, reduceIte, Nat.zero_add, if_true, if_false, Bool.false_eq_true, Bool.not_true, Bool.not_false, decide_true, decide_false, o_add, o_sub, o_neg, o_lt, o_le, o_gt, o_ge, o_eq, o_ne, o_isN, o_notN, isNon_non, isNon_int, isNon_tup, isNon_lst, o_idxL, o_idxT, o_lenL, o_lenT, o_lenS, o_listL, o_listT, o_tupleL, o_tupleT, o_int, o_intb, o_max2, o_min2, o_slL, o_slT, atD_0, atD_1, atD_2, atD_3, atD_4, atD_5, range_4, range_3, range_2, List.length_map, hb, h, he]
  rw [← foldl_flat (fun k => (List.range 4).map fun e => (k, e)) (fun s p => if decide (ent rs p = line) = true then p else s), foldl_lastp]
  rfl
theorem plc_in {rs : List (List Int)} {line : Int} {p : Nat × Nat} (h : p ∈ plc rs line) : p.1 < rs.length ∧ p.2 < 4 ∧ ent rs p = line := by
  unfold plc places at h
  obtain ⟨h1, h2⟩ := List.mem_filter.mp h
  obtain ⟨k, hk, h3⟩ := List.mem_flatMap.mp h1
  obtain ⟨e, he, rfl⟩ := List.mem_map.mp h3
  exact ⟨List.mem_range.mp hk, List.mem_range.mp he, of_decide_eq_true h2⟩
/-- of a line of a drawn sheet: its two places, the second by both ways -/
theorem ends2 {m : Nat} {rs : List (List Int)} {rings line : Int} (h : Drawn m rs) (hm : m ≤ 100) (hl : 0 ≤ line ∧ line < 2 * (m : Int)) :
    ∃ p, f_ends [encS rs rings, .int line] = .ok (.va (.tup [encNP p, encNP (lastPl rs line)])) ∧ plc rs line = [p, lastPl rs line] ∧ (lastPl rs line).1 < rs.length ∧ (lastPl rs line).2 < 4 := by
  obtain ⟨p, q, h1, h2⟩ := ends_ok (rings := rings) h hm hl
  have e : lastPl rs line = q := by unfold lastPl; rw [h1]; rfl
  have hq := plc_in (rs := rs) (line := line) (p := q) (by rw [h1]; simp)
  exact ⟨p, by rw [e]; exact h2, by rw [e]; exact h1, by rw [e]; exact hq.1, by rw [e]; exact hq.2.1⟩
/-! ### curls -/
def curlR (way line new loop : Int) : List Int := if way = 0 then [loop, loop, line, new] else if way = 1 then [line, loop, loop, new] else if way = 2 then [loop, loop, new, line] else [new, loop, loop, line]
theorem curlR_len (w a b c : Int) : (curlR w a b c).length = 4 := by
  unfold curlR
  split
  · rfl
  · split
    · rfl
    · split <;> rfl
theorem curl_row_ok (w a b c : Int) : f_curl_row [.int w, .int a, .int b, .int c] = .ok (.va (encR (curlR w a b c))) := by
  unfold f_curl_row F_curl_row curlR
  rw [fn_eq [.va (.int w), .va (.int a), .va (.int b), .va (.int c)] rfl]
  by_cases h0 : w = 0
  · simp only [ev_seq, ev_set, ev_op1, ev_op2, ev_call, ev_cons, ev_nil, ev_c, ev_var, ev_tup, ev_lst, ev_cb, ev_fz, ev_lend, ev_and, ev_or, ev_not, ev_chain, ev_if, ev_bm, ev_get2, ev_ixO, ev_sl, ev_some, ev_none, ev_tval, ev_tand, ev_tor, ev_tnot, ev_irange1, ev_irange2, ev_sif, ev_next, ev_ret, ev_retO, ev_raise, ev_app, ev_put, ev_dput, ev_for, ev_while, ev_pub, pub_cons, pub_nil, ev_drop, ev_dnew, res_nx, res_rt, res_xc, R.bind_ok, R.bind_xc, R.out_ok, R.out_xc, Out.bind_nx, Out.bind_rt, Out.bind_xc, Sl.d_va, Sl.d_ow, Sl.frz_va, Sl.frz_ow, Sl.frz_no, List.getElem?_cons_succ, List.getElem?_cons_zero, List.set_cons_succ, List.set_cons_zero, List.length_cons, List.length_nil, List.map_cons, List.map_nil, lim_val, Nat.zero_le, Nat.reduceAdd, Nat.reduceLeDiff, Nat.reduceEqDiff, reduceIte, Nat.zero_add, if_true, if_false, Bool.false_eq_true, Bool.not_true, Bool.not_false, decide_true, decide_false, o_add, o_sub, o_neg, o_lt, o_le, o_gt, o_ge, o_eq, o_ne, o_isN, o_notN, isNon_non, isNon_int, isNon_tup, isNon_lst, o_idxL, o_idxT, o_lenL, o_lenT, o_lenS, o_listL, o_listT, o_tupleL, o_tupleT, o_int, o_intb, o_max2, o_min2, o_slL, o_slT, atD_0, atD_1, atD_2, atD_3, atD_4, atD_5, range_4, range_3, range_2, h0]; rfl
  · by_cases h1 : w = 1
    · simp only [ev_seq, ev_set, ev_op1, ev_op2, ev_call, ev_cons, ev_nil, ev_c, ev_var, ev_tup, ev_lst, ev_cb, ev_fz, ev_lend, ev_and, ev_or, ev_not, ev_chain, ev_if, ev_bm, ev_get2, ev_ixO, ev_sl, ev_some, ev_none, ev_tval, ev_tand, ev_tor, ev_tnot, ev_irange1, ev_irange2, ev_sif, ev_next, ev_ret, ev_retO, ev_raise, ev_app, ev_put, ev_dput, ev_for, ev_while, ev_pub, pub_cons, pub_nil, ev_drop, ev_dnew, res_nx, res_rt, res_xc, R.bind_ok, R.bind_xc, R.out_ok, R.out_xc, Out.bind_nx, Out.bind_rt, Out.bind_xc, Sl.d_va, Sl.d_ow, Sl.frz_va, Sl.frz_ow, Sl.frz_no, List.getElem?_cons_succ, List.getElem?_cons_zero, List.set_cons_succ, List.set_cons_zero, List.length_cons, List.length_nil, List.map_cons, List.map_nil, lim_val, Nat.zero_le, Nat.reduceAdd, Nat.reduceLeDiff, Nat.reduceEqDiff, reduceIte, Nat.zero_add, if_true, if_false, Bool.false_eq_true, Bool.not_true, Bool.not_false, decide_true, decide_false, o_add, o_sub, o_neg, o_lt, o_le, o_gt, o_ge, o_eq, o_ne, o_isN, o_notN, isNon_non, isNon_int, isNon_tup, isNon_lst, o_idxL, o_idxT, o_lenL, o_lenT, o_lenS, o_listL, o_listT, o_tupleL, o_tupleT, o_int, o_intb, o_max2, o_min2, o_slL, o_slT, atD_0, atD_1, atD_2, atD_3, atD_4, atD_5, range_4, range_3, range_2, h0, h1]; rfl
    · by_cases h2 : w = 2
      · simp only [ev_seq, ev_set, ev_op1, ev_op2, ev_call, ev_cons, ev_nil, ev_c, ev_var, ev_tup, ev_lst, ev_cb, ev_fz, ev_lend, ev_and, ev_or, ev_not, ev_chain, ev_if, ev_bm, ev_get2, ev_ixO, ev_sl, ev_some, ev_none, ev_tval, ev_tand, ev_tor, ev_tnot, ev_irange1, ev_irange2, ev_sif, ev_next, ev_ret, ev_retO, ev_raise, ev_app, ev_put, ev_dput, ev_for, ev_while, ev_pub, pub_cons, pub_nil, ev_drop, ev_dnew, res_nx, res_rt, res_xc, R.bind_ok, R.bind_xc, R.out_ok, R.out_xc, Out.bind_nx, Out.bind_rt, Out.bind_xc, Sl.d_va, Sl.d_ow, Sl.frz_va, Sl.frz_ow, Sl.frz_no, List.getElem?_cons_succ, List.getElem?_cons_zero, List.set_cons_succ, List.set_cons_zero, List.length_cons, List.length_nil, List.map_cons, List.map_nil, lim_val, Nat.zero_le, Nat.reduceAdd, Nat.reduceLeDiff, Nat.reduceEqDiff, reduceIte, Nat.zero_add, if_true, if_false, Bool.false_eq_true, Bool.not_true, Bool.not_false, decide_true, decide_false, o_add, o_sub, o_neg, o_lt, o_le, o_gt, o_ge, o_eq, o_ne, o_isN, o_notN, isNon_non, isNon_int, isNon_tup, isNon_lst, o_idxL, o_idxT, o_lenL, o_lenT, o_lenS, o_listL, o_listT, o_tupleL, o_tupleT, o_int, o_intb, o_max2, o_min2, o_slL, o_slT, atD_0, atD_1, atD_2, atD_3, atD_4, atD_5, range_4, range_3, range_2, h0, h1, h2]; rfl
      · simp only [ev_seq, ev_set, ev_op1, ev_op2, ev_call, ev_cons, ev_nil, ev_c, ev_var, ev_tup, ev_lst, ev_cb, ev_fz, ev_lend, ev_and, ev_or, ev_not, ev_chain, ev_if, ev_bm, ev_get2, ev_ixO, ev_sl, ev_some, ev_none, ev_tval, ev_tand, ev_tor, ev_tnot, ev_irange1, ev_irange2, ev_sif, ev_next, ev_ret, ev_retO, ev_raise, ev_app, ev_put, ev_dput, ev_for, ev_while, ev_pub, pub_cons, pub_nil, ev_drop, ev_dnew, res_nx, res_rt, res_xc, R.bind_ok, R.bind_xc, R.out_ok, R.out_xc, Out.bind_nx, Out.bind_rt, Out.bind_xc, Sl.d_va, Sl.d_ow, Sl.frz_va, Sl.frz_ow, Sl.frz_no, List.getElem?_cons_succ, List.getElem?_cons_zero, List.set_cons_succ, List.set_cons_zero, List.length_cons, List.length_nil, List.map_cons, List.map_nil, lim_val, Nat.zero_le, Nat.reduceAdd, Nat.reduceLeDiff, Nat.reduceEqDiff, reduceIte, Nat.zero_add, if_true, if_false, Bool.false_eq_true, Bool.not_true, Bool.not_false, decide_true, decide_false, o_add, o_sub, o_neg, o_lt, o_le, o_gt, o_ge, o_eq, o_ne, o_isN, o_notN, isNon_non, isNon_int, isNon_tup, isNon_lst, o_idxL, o_idxT, o_lenL, o_lenT, o_lenS, o_listL, o_listT, o_tupleL, o_tupleT, o_int, o_intb, o_max2, o_min2, o_slL, o_slT, atD_0, atD_1, atD_2, atD_3, atD_4, atD_5, range_4, range_3, range_2, h0, h1, h2]; rfl
theorem law_curl_ok (w a b c : Int) : f_law_curl [.int w, .int a, .int b, .int c] = .ok (.va (encR (curlR w a b c))) := by
  unfold f_law_curl F_law_curl curlR
  rw [fn_eq [.va (.int w), .va (.int a), .va (.int b), .va (.int c)] rfl]
  by_cases h0 : w = 0
  · simp only [ev_seq, ev_set, ev_op1, ev_op2, ev_call, ev_cons, ev_nil, ev_c, ev_var, ev_tup, ev_lst, ev_cb, ev_fz, ev_lend, ev_and, ev_or, ev_not, ev_chain, ev_if, ev_bm, ev_get2, ev_ixO, ev_sl, ev_some, ev_none, ev_tval, ev_tand, ev_tor, ev_tnot, ev_irange1, ev_irange2, ev_sif, ev_next, ev_ret, ev_retO, ev_raise, ev_app, ev_put, ev_dput, ev_for, ev_while, ev_pub, pub_cons, pub_nil, ev_drop, ev_dnew, res_nx, res_rt, res_xc, R.bind_ok, R.bind_xc, R.out_ok, R.out_xc, Out.bind_nx, Out.bind_rt, Out.bind_xc, Sl.d_va, Sl.d_ow, Sl.frz_va, Sl.frz_ow, Sl.frz_no, List.getElem?_cons_succ, List.getElem?_cons_zero, List.set_cons_succ, List.set_cons_zero, List.length_cons, List.length_nil, List.map_cons, List.map_nil, lim_val, Nat.zero_le, Nat.reduceAdd, Nat.reduceLeDiff, Nat.reduceEqDiff, reduceIte, Nat.zero_add, if_true, if_false, Bool.false_eq_true, Bool.not_true, Bool.not_false, decide_true, decide_false, o_add, o_sub, o_neg, o_lt, o_le, o_gt, o_ge, o_eq, o_ne, o_isN, o_notN, isNon_non, isNon_int, isNon_tup, isNon_lst, o_idxL, o_idxT, o_lenL, o_lenT, o_lenS, o_listL, o_listT, o_tupleL, o_tupleT, o_int, o_intb, o_max2, o_min2, o_slL, o_slT, atD_0, atD_1, atD_2, atD_3, atD_4, atD_5, range_4, range_3, range_2, h0]; rfl
  · by_cases h1 : w = 1
    · simp only [ev_seq, ev_set, ev_op1, ev_op2, ev_call, ev_cons, ev_nil, ev_c, ev_var, ev_tup, ev_lst, ev_cb, ev_fz, ev_lend, ev_and, ev_or, ev_not, ev_chain, ev_if, ev_bm, ev_get2, ev_ixO, ev_sl, ev_some, ev_none, ev_tval, ev_tand, ev_tor, ev_tnot, ev_irange1, ev_irange2, ev_sif, ev_next, ev_ret, ev_retO, ev_raise, ev_app, ev_put, ev_dput, ev_for, ev_while, ev_pub, pub_cons, pub_nil, ev_drop, ev_dnew, res_nx, res_rt, res_xc, R.bind_ok, R.bind_xc, R.out_ok, R.out_xc, Out.bind_nx, Out.bind_rt, Out.bind_xc, Sl.d_va, Sl.d_ow, Sl.frz_va, Sl.frz_ow, Sl.frz_no, List.getElem?_cons_succ, List.getElem?_cons_zero, List.set_cons_succ, List.set_cons_zero, List.length_cons, List.length_nil, List.map_cons, List.map_nil, lim_val, Nat.zero_le, Nat.reduceAdd, Nat.reduceLeDiff, Nat.reduceEqDiff, reduceIte, Nat.zero_add, if_true, if_false, Bool.false_eq_true, Bool.not_true, Bool.not_false, decide_true, decide_false, o_add, o_sub, o_neg, o_lt, o_le, o_gt, o_ge, o_eq, o_ne, o_isN, o_notN, isNon_non, isNon_int, isNon_tup, isNon_lst, o_idxL, o_idxT, o_lenL, o_lenT, o_lenS, o_listL, o_listT, o_tupleL, o_tupleT, o_int, o_intb, o_max2, o_min2, o_slL, o_slT, atD_0, atD_1, atD_2, atD_3, atD_4, atD_5, range_4, range_3, range_2, h0, h1]; rfl
    · by_cases h2 : w = 2
      · simp only [ev_seq, ev_set, ev_op1, ev_op2, ev_call, ev_cons, ev_nil, ev_c, ev_var, ev_tup, ev_lst, ev_cb, ev_fz, ev_lend, ev_and, ev_or, ev_not, ev_chain, ev_if, ev_bm, ev_get2, ev_ixO, ev_sl, ev_some, ev_none, ev_tval, ev_tand, ev_tor, ev_tnot, ev_irange1, ev_irange2, ev_sif, ev_next, ev_ret, ev_retO, ev_raise, ev_app, ev_put, ev_dput, ev_for, ev_while, ev_pub, pub_cons, pub_nil, ev_drop, ev_dnew, res_nx, res_rt, res_xc, R.bind_ok, R.bind_xc, R.out_ok, R.out_xc, Out.bind_nx, Out.bind_rt, Out.bind_xc, Sl.d_va, Sl.d_ow, Sl.frz_va, Sl.frz_ow, Sl.frz_no, List.getElem?_cons_succ, List.getElem?_cons_zero, List.set_cons_succ, List.set_cons_zero, List.length_cons, List.length_nil, List.map_cons, List.map_nil, lim_val, Nat.zero_le, Nat.reduceAdd, Nat.reduceLeDiff, Nat.reduceEqDiff, reduceIte, Nat.zero_add, if_true, if_false, Bool.false_eq_true, Bool.not_true, Bool.not_false, decide_true, decide_false, o_add, o_sub, o_neg, o_lt, o_le, o_gt, o_ge, o_eq, o_ne, o_isN, o_notN, isNon_non, isNon_int, isNon_tup, isNon_lst, o_idxL, o_idxT, o_lenL, o_lenT, o_lenS, o_listL, o_listT, o_tupleL, o_tupleT, o_int, o_intb, o_max2, o_min2, o_slL, o_slT, atD_0, atD_1, atD_2, atD_3, atD_4, atD_5, range_4, range_3, range_2, h0, h1, h2]; rfl
      · simp only [ev_seq, ev_set, ev_op1, ev_op2, ev_call, ev_cons, ev_nil, ev_c, ev_var, ev_tup, ev_lst, ev_cb, ev_fz, ev_lend, ev_and, ev_or, ev_not, ev_chain, ev_if, ev_bm, ev_get2, ev_ixO, ev_sl, ev_some, ev_none, ev_tval, ev_tand, ev_tor, ev_tnot, ev_irange1, ev_irange2, ev_sif, ev_next, ev_ret, ev_retO, ev_raise, ev_app, ev_put, ev_dput, ev_for, ev_while, ev_pub, pub_cons, pub_nil, ev_drop, ev_dnew, res_nx, res_rt, res_xc, R.bind_ok, R.bind_xc, R.out_ok, R.out_xc, Out.bind_nx, Out.bind_rt, Out.bind_xc, Sl.d_va, Sl.d_ow, Sl.frz_va, Sl.frz_ow, Sl.frz_no, List.getElem?_cons_succ, List.getElem?_cons_zero, List.set_cons_succ, List.set_cons_zero, List.length_cons, List.length_nil, List.map_cons, List.map_nil, lim_val, Nat.zero_le, Nat.reduceAdd, Nat.reduceLeDiff, Nat.reduceEqDiff, reduceIte, Nat.zero_add, if_true, if_false, Bool.false_eq_true, Bool.not_true, Bool.not_false, decide_true, decide_false, o_add, o_sub, o_neg, o_lt, o_le, o_gt, o_ge, o_eq, o_ne, o_isN, o_notN, isNon_non, isNon_int, isNon_tup, isNon_lst, o_idxL, o_idxT, o_lenL, o_lenT, o_lenS, o_listL, o_listT, o_tupleL, o_tupleT, o_int, o_intb, o_max2, o_min2, o_slL, o_slT, atD_0, atD_1, atD_2, atD_3, atD_4, atD_5, range_4, range_3, range_2, h0, h1, h2]; rfl
theorem o_pow10 : dPow (.int 10) (.int 30) = .ok (.va (.int (10 ^ 30))) := o_pow (n := 30) (by decide) (by decide)
theorem far_ok (c many : Int) (hm : 0 ≤ many) : ∃ v, f_law_far [.int c, .int many] = .ok (.va (.int v)) ∧ (v < 0 ∨ many ≤ v) := by
  have hnn : 0 ≤ c / 2 % 10 ^ 30 := Int.emod_nonneg _ (by decide)
  have h2 : dMod (.int c) (.int 2) = .ok (.va (.int (c % 2))) := o_mod (by decide)
  have h3 : dFloor (.int c) (.int 2) = .ok (.va (.int (c / 2))) := o_floor (by decide)
  have h4 : dMod (.int (c / 2)) (.int (10 ^ 30)) = .ok (.va (.int (c / 2 % 10 ^ 30))) := o_mod (by decide)
  generalize c / 2 % 10 ^ 30 = z at *
  unfold f_law_far F_law_far
  rw [fn_eq [.va (.int c), .va (.int many)] rfl]
  by_cases h : c % 2 = 1
  · refine ⟨many + z, ?_, .inr (by omega)⟩
    simp only [ev_seq, ev_set, ev_op1, ev_op2, ev_call, ev_cons, ev_nil, ev_c, ev_var, ev_tup, ev_lst, ev_cb, ev_fz, ev_lend, ev_and, ev_or, ev_not, ev_chain, ev_if, ev_bm, ev_get2, ev_ixO, ev_sl, ev_some, ev_none, ev_tval, ev_tand, ev_tor, ev_tnot, ev_irange1, ev_irange2, ev_sif, ev_next, ev_ret, ev_retO, ev_raise, ev_app, ev_put, ev_dput, ev_for, ev_while, ev_pub, pub_cons, pub_nil, ev_drop, ev_dnew, res_nx, res_rt, res_xc, R.bind_ok, R.bind_xc, R.out_ok, R.out_xc, Out.bind_nx, Out.bind_rt, Out.bind_xc, Sl.d_va, Sl.d_ow, Sl.frz_va, Sl.frz_ow, Sl.frz_no, List.getElem?_cons_succ, List.getElem?_cons_zero, List.set_cons_succ, List.set_cons_zero, List.length_cons, List.length_nil, List.map_cons, List.map_nil, lim_val, Nat.zero_le, Nat.reduceAdd, Nat.reduceLeDiff, Nat.reduceEqDiff, reduceIte, Nat.zero_add, if_true, if_false, Bool.false_eq_true, Bool.not_true, Bool.not_false, decide_true, decide_false, o_add, o_sub, o_neg, o_lt, o_le, o_gt, o_ge, o_eq, o_ne, o_isN, o_notN, isNon_non, isNon_int, isNon_tup, isNon_lst, o_idxL, o_idxT, o_lenL, o_lenT, o_lenS, o_listL, o_listT, o_tupleL, o_tupleT, o_int, o_intb, o_max2, o_min2, o_slL, o_slT, atD_0, atD_1, atD_2, atD_3, atD_4, atD_5, range_4, range_3, range_2, h2, h, h3, o_pow10, h4]
  · refine ⟨-1 - z, ?_, .inl (by omega)⟩
    simp only [ev_seq, ev_set, ev_op1, ev_op2, ev_call, ev_cons, ev_nil, ev_c, ev_var, ev_tup, ev_lst, ev_cb, ev_fz, ev_lend, ev_and, ev_or, ev_not, ev_chain, ev_if, ev_bm, ev_get2, ev_ixO, ev_sl, ev_some, ev_none, ev_tval, ev_tand, ev_tor, ev_tnot, ev_irange1, ev_irange2, ev_sif, ev_next, ev_ret, ev_retO, ev_raise, ev_app, ev_put, ev_dput, ev_for, ev_while, ev_pub, pub_cons, pub_nil, ev_drop, ev_dnew, res_nx, res_rt, res_xc, R.bind_ok, R.bind_xc, R.out_ok, R.out_xc, Out.bind_nx, Out.bind_rt, Out.bind_xc, Sl.d_va, Sl.d_ow, Sl.frz_va, Sl.frz_ow, Sl.frz_no, List.getElem?_cons_succ, List.getElem?_cons_zero, List.set_cons_succ, List.set_cons_zero, List.length_cons, List.length_nil, List.map_cons, List.map_nil, lim_val, Nat.zero_le, Nat.reduceAdd, Nat.reduceLeDiff, Nat.reduceEqDiff, reduceIte, Nat.zero_add, if_true, if_false, Bool.false_eq_true, Bool.not_true, Bool.not_false, decide_true, decide_false, o_add, o_sub, o_neg, o_lt, o_le, o_gt, o_ge, o_eq, o_ne, o_isN, o_notN, isNon_non, isNon_int, isNon_tup, isNon_lst, o_idxL, o_idxT, o_lenL, o_lenT, o_lenS, o_listL, o_listT, o_tupleL, o_tupleT, o_int, o_intb, o_max2, o_min2, o_slL, o_slT, atD_0, atD_1, atD_2, atD_3, atD_4, atD_5, range_4, range_3, range_2, h2, h, h3, o_pow10, h4]
end DL
set_option maxRecDepth 100000
/-! M24: even, drawn -/
namespace DL
open PySem (Str)
theorem lev_rows (rs : List (List Int)) : (D.lst (encRs rs)).lev 6 = true := by
  show (encRs rs).all (D.lev 5) = true
  rw [List.all_map]
  exact List.all_eq_true.mpr fun r _ => lev_row 4 r
/-! ### even -/
theorem count_enc (ns : List Int) (k : Int) : dCount (encI ns) (.int k) = .ok (.va (.int (ns.count k : Nat))) := by
  unfold dCount
  rw [intsOf_enc]
theorem even_ok {d : D} {rs : List (List Int)} (hd : SeqD d (encRs rs)) (h4 : ∀ r ∈ rs, r.length = 4) (hl : rs.length ≤ 1000) : f_law_even [d] = .ok (.va (.bl (rs.flatten.all fun x => decide (rs.flatten.count x = 2)))) := by
  unfold f_law_even F_law_even
  rw [fn_eq [.va d, .no, .no, .no] rfl]
  have L := forD_fold (j := 2) (b := B_law_even_1) (enc := encR) (fun (s : List Int) e => ∃ a, e = [.va d, .va (.lst (encI s)), a, .no]) (fun s r => s ++ r) rs [] [.va d, .va (.lst []), .no, .no] ⟨_, rfl⟩
    (fun i r e hr ⟨a, he⟩ => by
      subst he
      have hlen := sublen hr
      rw [cat_fold, List.nil_append]
      have hf := flat_le4 h4 hl
      generalize (rs.take i).flatten = s at *
      have had : dAdd (.lst (encI s)) (.lst (encI r)) = .ok (.ow (.lst (encI (s ++ r)))) := by
        rw [o_addL (by rw [List.length_map, List.length_map, lim_val]; omega), show encI (s ++ r) = encI s ++ encI r from List.map_append]
      unfold B_law_even_1
      simp only [ev_seq, ev_set, ev_op1, ev_op2, ev_call, ev_cons, ev_nil, ev_c, ev_var, ev_tup, ev_lst, ev_cb, ev_fz, ev_lend, ev_and, ev_or, ev_not, ev_chain, ev_if, ev_bm, ev_get2, ev_ixO, ev_sl, ev_some, ev_none, ev_tval, ev_tand, ev_tor, ev_tnot, ev_irange1, ev_irange2, ev_sif, ev_next, ev_ret, ev_retO, ev_raise, ev_app, ev_put, ev_dput, ev_for, ev_while, ev_pub, pub_cons, pub_nil, ev_drop, ev_dnew, res_nx, res_rt, res_xc, R.bind_ok, R.bind_xc, R.out_ok, R.out_xc, Out.bind_nx, Out.bind_rt, Out.bind_xc, Sl.d_va, Sl.d_ow, Sl.frz_va, Sl.frz_ow, Sl.frz_no, List.getElem?_cons_succ, List.getElem?_cons_zero, List.set_cons_succ, List.set_cons_zero, List.length_cons, List.length_nil, List.map_cons, List.map_nil, lim_val, Nat.zero_le, Nat.reduceAdd, Nat.reduceLeDiff, Nat.reduceEqDiff, reduceIte, Nat.zero_add, if_true, if_false, Bool.false_eq_true, Bool.not_true, Bool.not_false, decide_true, decide_false, o_add, o_sub, o_neg, o_lt, o_le, o_gt, o_ge, o_eq, o_ne, o_isN, o_notN, isNon_non, isNon_int, isNon_tup, isNon_lst, o_idxL, o_idxT, o_lenL, o_lenT, o_lenS, o_listL, o_listT, o_tupleL, o_tupleT, o_int, o_intb, o_max2, o_min2, o_slL, o_slT, atD_0, atD_1, atD_2, atD_3, atD_4, atD_5, range_4, range_3, range_2, had]
      exact ⟨_, rfl, _, rfl⟩)
  obtain ⟨e, h, a, he⟩ := L
  rw [cat_fold, List.nil_append] at he
  generalize hF : rs.flatten = F at *
  have L2 := forD_ret (j := 3) (b := B_law_even_2) (enc := D.int) (fun e => ∃ b, e = [.va d, .va (.lst (encI F)), a, b]) (fun x => if F.count x = 2 then none else some (Sl.va (.bl false))) F [.va d, .va (.lst (encI F)), a, .no] ⟨_, rfl⟩
    (fun x e hx ⟨b, he⟩ => by
      subst he
      unfold B_law_even_2
      have hq : (((F.count x : Nat) : Int) = 2) ↔ F.count x = 2 := by omega
      by_cases c : F.count x = 2
      · have c' := hq.mpr c
        simp only [ev_seq, ev_set, ev_op1, ev_op2, ev_call, ev_cons, ev_nil, ev_c, ev_var, ev_tup, ev_lst, ev_cb, ev_fz, ev_lend, ev_and, ev_or, ev_not, ev_chain, ev_if, ev_bm, ev_get2, ev_ixO, ev_sl, ev_some, ev_none, ev_tval, ev_tand, ev_tor, ev_tnot, ev_irange1, ev_irange2, ev_sif, ev_next, ev_ret, ev_retO, ev_raise, ev_app, ev_put, ev_dput, ev_for, ev_while, ev_pub, pub_cons, pub_nil, ev_drop, ev_dnew, res_nx, res_rt, res_xc, R.bind_ok, R.bind_xc, R.out_ok, R.out_xc, Out.bind_nx, Out.bind_rt, Out.bind_xc, Sl.d_va, Sl.d_ow, Sl.frz_va, Sl.frz_ow, Sl.frz_no, List.getElem?_cons_succ, List.getElem?_cons_zero, List.set_cons_succ, List.set_cons_zero, List.length_cons, List.length_nil, List.map_cons, List.map_nil, lim_val, Nat.zero_le, Nat.reduceAdd, Nat.reduceLeDiff, Nat.reduceEqDiff, reduceIte, Nat.zero_add, if_true, if_false, Bool.false_eq_true, Bool.not_true, Bool.not_false, decide_true, decide_false, o_add, o_sub, o_neg, o_lt, o_le, o_gt, o_ge, o_eq, o_ne, o_isN, o_notN, isNon_non, isNon_int, isNon_tup, isNon_lst, o_idxL, o_idxT, o_lenL, o_lenT, o_lenS, o_listL, o_listT, o_tupleL, o_tupleT, o_int, o_intb, o_max2, o_min2, o_slL, o_slT, atD_0, atD_1, atD_2, atD_3, atD_4, atD_5, range_4, range_3, range_2, count_enc, c, Int.cast_ofNat_Int]
        exact ⟨_, rfl, _, rfl⟩
      · have c' : ¬ (((F.count x : Nat) : Int) = 2) := fun z => c (hq.mp z)
        simp only [ev_seq, ev_set, ev_op1, ev_op2, ev_call, ev_cons, ev_nil, ev_c, ev_var, ev_tup, ev_lst, ev_cb, ev_fz, ev_lend, ev_and, ev_or, ev_not, ev_chain, ev_if, ev_bm, ev_get2, ev_ixO, ev_sl, ev_some, ev_none, ev_tval, ev_tand, ev_tor, ev_tnot, ev_irange1, ev_irange2, ev_sif, ev_next, ev_ret, ev_retO, ev_raise, ev_app, ev_put, ev_dput, ev_for, ev_while, ev_pub, pub_cons, pub_nil, ev_drop, ev_dnew, res_nx, res_rt, res_xc, R.bind_ok, R.bind_xc, R.out_ok, R.out_xc, Out.bind_nx, Out.bind_rt, Out.bind_xc, Sl.d_va, Sl.d_ow, Sl.frz_va, Sl.frz_ow, Sl.frz_no, List.getElem?_cons_succ, List.getElem?_cons_zero, List.set_cons_succ, List.set_cons_zero, List.length_cons, List.length_nil, List.map_cons, List.map_nil, lim_val, Nat.zero_le, Nat.reduceAdd, Nat.reduceLeDiff, Nat.reduceEqDiff, reduceIte, Nat.zero_add, if_true, if_false, Bool.false_eq_true, Bool.not_true, Bool.not_false, decide_true, decide_false, o_add, o_sub, o_neg, o_lt, o_le, o_gt, o_ge, o_eq, o_ne, o_isN, o_notN, isNon_non, isNon_int, isNon_tup, isNon_lst, o_idxL, o_idxT, o_lenL, o_lenT, o_lenS, o_listL, o_listT, o_tupleL, o_tupleT, o_int, o_intb, o_max2, o_min2, o_slL, o_slT, atD_0, atD_1, atD_2, atD_3, atD_4, atD_5, range_4, range_3, range_2, count_enc, c, c'])
  have hit : iSeq (eVar 0) [.va d, .va (.lst []), .no, .no] = .ok (encRs rs) := iseq_ok (d := d) rfl hd
  by_cases c : ∀ x ∈ F, F.count x = 2
  · have ha : (F.all fun x => decide (F.count x = 2)) = true := List.all_eq_true.mpr fun x hx => decide_eq_true (c x hx)
    have hn : F.findSome? (fun x => if F.count x = 2 then none else some (Sl.va (.bl false))) = none := List.findSome?_eq_none_iff.mpr fun x hx => if_pos (c x hx)
    rw [hn] at L2
    obtain ⟨e2, h2, b, he2⟩ := L2
    simp only [ev_seq, ev_set, ev_op1, ev_op2, ev_call, ev_cons, ev_nil, ev_c, ev_var, ev_tup, ev_lst, ev_cb, ev_fz, ev_lend, ev_and, ev_or, ev_not, ev_chain, ev_if, ev_bm, ev_get2, ev_ixO, ev_sl, ev_some, ev_none, ev_tval, ev_tand, ev_tor, ev_tnot, ev_irange1, ev_irange2, ev_sif, ev_next, ev_ret, ev_retO, ev_raise, ev_app, ev_put, ev_dput, ev_for, ev_while, ev_pub, pub_cons, pub_nil, ev_drop, ev_dnew, res_nx, res_rt, res_xc, R.bind_ok, R.bind_xc, R.out_ok, R.out_xc, Out.bind_nx, Out.bind_rt, Out.bind_xc, Sl.d_va, Sl.d_ow, Sl.frz_va, Sl.frz_ow, Sl.frz_no, List.getElem?_cons_succ, List.getElem?_cons_zero, List.set_cons_succ, List.set_cons_zero, List.length_cons, List.length_nil, List.map_cons, List.map_nil, lim_val, Nat.zero_le, Nat.reduceAdd, Nat.reduceLeDiff, Nat.reduceEqDiff, reduceIte, Nat.zero_add, if_true, if_false, Bool.false_eq_true, Bool.not_true, Bool.not_false, decide_true, decide_false, o_add, o_sub, o_neg, o_lt, o_le, o_gt, o_ge, o_eq, o_ne, o_isN, o_notN, isNon_non, isNon_int, isNon_tup, isNon_lst, o_idxL, o_idxT, o_lenL, o_lenT, o_lenS, o_listL, o_listT, o_tupleL, o_tupleT, o_int, o_intb, o_max2, o_min2, o_slL, o_slT, atD_0, atD_1, atD_2, atD_3, atD_4, atD_5, range_4, range_3, range_2, hit, h, he, ev_iseq, h2, he2, ha]
  · have ha : (F.all fun x => decide (F.count x = 2)) = false := by
      rw [List.all_eq_false]
      obtain ⟨x, hx⟩ := Classical.not_forall.mp c
      obtain ⟨hx1, hx2⟩ := Classical.not_imp.mp hx
      exact ⟨x, hx1, by simpa using hx2⟩
    cases q : F.findSome? (fun x => if F.count x = 2 then none else some (Sl.va (.bl false))) with
    | none =>
      exact absurd (fun x hx => by
        have := List.findSome?_eq_none_iff.mp q x hx
        by_cases z : F.count x = 2
        · exact z
        · rw [if_neg z] at this; cases this) c
    | some s =>
      rw [q] at L2
      obtain ⟨x, hx, hs⟩ := List.exists_of_findSome?_eq_some q
      have es : s = Sl.va (.bl false) := by
        split at hs
        · cases hs
        · exact (Option.some.inj hs).symm
      subst es
      simp only at L2
      simp only [ev_seq, ev_set, ev_op1, ev_op2, ev_call, ev_cons, ev_nil, ev_c, ev_var, ev_tup, ev_lst, ev_cb, ev_fz, ev_lend, ev_and, ev_or, ev_not, ev_chain, ev_if, ev_bm, ev_get2, ev_ixO, ev_sl, ev_some, ev_none, ev_tval, ev_tand, ev_tor, ev_tnot, ev_irange1, ev_irange2, ev_sif, ev_next, ev_ret, ev_retO, ev_raise, ev_app, ev_put, ev_dput, ev_for, ev_while, ev_pub, pub_cons, pub_nil, ev_drop, ev_dnew, res_nx, res_rt, res_xc, R.bind_ok, R.bind_xc, R.out_ok, R.out_xc, Out.bind_nx, Out.bind_rt, Out.bind_xc, Sl.d_va, Sl.d_ow, Sl.frz_va, Sl.frz_ow, Sl.frz_no, List.getElem?_cons_succ, List.getElem?_cons_zero, List.set_cons_succ, List.set_cons_zero, List.length_cons, List.length_nil, List.map_cons, List.map_nil, lim_val, Nat.zero_le, Nat.reduceAdd, Nat.reduceLeDiff, Nat.reduceEqDiff, reduceIte, Nat.zero_add, if_true, if_false, Bool.false_eq_true, Bool.not_true, Bool.not_false, decide_true, decide_false, o_add, o_sub, o_neg, o_lt, o_le, o_gt, o_ge, o_eq, o_ne, o_isN, o_notN, isNon_non, isNon_int, isNon_tup, isNon_lst, o_idxL, o_idxT, o_lenL, o_lenT, o_lenS, o_listL, o_listT, o_tupleL, o_tupleT, o_int, o_intb, o_max2, o_min2, o_slL, o_slT, atD_0, atD_1, atD_2, atD_3, atD_4, atD_5, range_4, range_3, range_2, hit, h, he, ev_iseq, L2, ha]
/-! ### drawn -/
theorem drawn_ok {d : D} {rs : List (List Int)} {rings : Int} (hd : SeqD d (encRs rs)) (h4 : ∀ r ∈ rs, r.length = 4) (hl : rs.length ≤ 10) (he : (rs.flatten.all fun x => decide (rs.flatten.count x = 2)) = true) : f_drawn [d, .int rings] = .ok (.va (encS (numb rs) rings)) := by
  unfold f_drawn F_drawn
  rw [fn_eq [.va d, .va (.int rings), .no, .no] rfl]
  have hc := counted_ok (rowD := encR) hd seq_row (flat_le4 h4 (by omega))
  have hn := numbered_ok (rowD := encR) hd seq_row (flat_le4 h4 (by omega)) (by omega)
  have hlen := len_seq hd
  rw [List.length_map] at hlen
  have c10 : ¬ (10 < (rs.length : Int)) := by omega
  have hk : (cnt rs.flatten).map (fun p => D.int p.1) = (names rs.flatten).map D.int := by
    unfold cnt
    rw [List.map_map]
    rfl
  have L := forD_inv (j := 3) (b := B_drawn_1) (enc := D.int) (fun (_ : Unit) e => ∃ b, e = [.va d, .va (.int rings), .va (.dic (cnt rs.flatten)), b]) (fun _ _ => ()) (names rs.flatten) () [.va d, .va (.int rings), .va (.dic (cnt rs.flatten)), .no] ⟨_, rfl⟩
    (fun _ x e hx ⟨b, he2⟩ => by
      subst he2
      have hx2 := names_mem.mp hx
      have hcx : rs.flatten.count x = 2 := of_decide_eq_true (List.all_eq_true.mp he x hx2)
      have hg : dGetK (.dic (cnt rs.flatten)) (.int x) = .ok (.va (.int 2)) := by
        unfold dGetK
        simp only
        rw [getA_cnt, if_pos hx2, hcx]
        rfl
      unfold B_drawn_1
      simp only [ev_seq, ev_set, ev_op1, ev_op2, ev_call, ev_cons, ev_nil, ev_c, ev_var, ev_tup, ev_lst, ev_cb, ev_fz, ev_lend, ev_and, ev_or, ev_not, ev_chain, ev_if, ev_bm, ev_get2, ev_ixO, ev_sl, ev_some, ev_none, ev_tval, ev_tand, ev_tor, ev_tnot, ev_irange1, ev_irange2, ev_sif, ev_next, ev_ret, ev_retO, ev_raise, ev_app, ev_put, ev_dput, ev_for, ev_while, ev_pub, pub_cons, pub_nil, ev_drop, ev_dnew, res_nx, res_rt, res_xc, R.bind_ok, R.bind_xc, R.out_ok, R.out_xc, Out.bind_nx, Out.bind_rt, Out.bind_xc, Sl.d_va, Sl.d_ow, Sl.frz_va, Sl.frz_ow, Sl.frz_no, List.getElem?_cons_succ, List.getElem?_cons_zero, List.set_cons_succ, List.set_cons_zero, List.length_cons, List.length_nil, List.map_cons, List.map_nil, lim_val, Nat.zero_le, Nat.reduceAdd, Nat.reduceLeDiff, Nat.reduceEqDiff, reduceIte, Nat.zero_add, if_true, if_false, Bool.false_eq_true, Bool.not_true, Bool.not_false, decide_true, decide_false, o_add, o_sub, o_neg, o_lt, o_le, o_gt, o_ge, o_eq, o_ne, o_isN, o_notN, isNon_non, isNon_int, isNon_tup, isNon_lst, o_idxL, o_idxT, o_lenL, o_lenT, o_lenS, o_listL, o_listT, o_tupleL, o_tupleT, o_int, o_intb, o_max2, o_min2, o_slL, o_slT, atD_0, atD_1, atD_2, atD_3, atD_4, atD_5, range_4, range_3, range_2, hg]
      exact ⟨_, rfl, _, rfl⟩)
  obtain ⟨e, h, b, he2⟩ := L
  simp only [ev_seq, ev_set, ev_op1, ev_op2, ev_call, ev_cons, ev_nil, ev_c, ev_var, ev_tup, ev_lst, ev_cb, ev_fz, ev_lend, ev_and, ev_or, ev_not, ev_chain, ev_if, ev_bm, ev_get2, ev_ixO, ev_sl, ev_some, ev_none, ev_tval, ev_tand, ev_tor, ev_tnot, ev_irange1, ev_irange2, ev_sif, ev_next, ev_ret, ev_retO, ev_raise, ev_app, ev_put, ev_dput, ev_for, ev_while, ev_pub, pub_cons, pub_nil, ev_drop, ev_dnew, res_nx, res_rt, res_xc, R.bind_ok, R.bind_xc, R.out_ok, R.out_xc, Out.bind_nx, Out.bind_rt, Out.bind_xc, Sl.d_va, Sl.d_ow, Sl.frz_va, Sl.frz_ow, Sl.frz_no, List.getElem?_cons_succ, List.getElem?_cons_zero, List.set_cons_succ, List.set_cons_zero, List.length_cons, List.length_nil, List.map_cons, List.map_nil, lim_val, Nat.zero_le, Nat.reduceAdd, Nat.reduceLeDiff, Nat.reduceEqDiff, reduceIte, Nat.zero_add, if_true, if_false, Bool.false_eq_true, Bool.not_true, Bool.not_false, decide_true, decide_false, o_add, o_sub, o_neg, o_lt, o_le, o_gt, o_ge, o_eq, o_ne, o_isN, o_notN, isNon_non, isNon_int, isNon_tup, isNon_lst, o_idxL, o_idxT, o_lenL, o_lenT, o_lenS, o_listL, o_listT, o_tupleL, o_tupleT, o_int, o_intb, o_max2, o_min2, o_slL, o_slT, atD_0, atD_1, atD_2, atD_3, atD_4, atD_5, range_4, range_3, range_2, hlen, c10, hc, ev_forK, hk, h, he2, hn]
theorem drawn_crowded {d : D} {rs : List (List Int)} {rings : Int} (hd : SeqD d (encRs rs)) (hl : 10 < rs.length) : f_drawn [d, .int rings] = .xc 0 := by
  unfold f_drawn F_drawn
  rw [fn_eq [.va d, .va (.int rings), .no, .no] rfl]
  have hlen := len_seq hd
  rw [List.length_map] at hlen
  have c10 : 10 < (rs.length : Int) := by omega
  simp only [ev_seq, ev_set, ev_op1, ev_op2, ev_call, ev_cons, ev_nil, ev_c, ev_var, ev_tup, ev_lst, ev_cb, ev_fz, ev_lend, ev_and, ev_or, ev_not, ev_chain, ev_if, ev_bm, ev_get2, ev_ixO, ev_sl, ev_some, ev_none, ev_tval, ev_tand, ev_tor, ev_tnot, ev_irange1, ev_irange2, ev_sif, ev_next, ev_ret, ev_retO, ev_raise, ev_app, ev_put, ev_dput, ev_for, ev_while, ev_pub, pub_cons, pub_nil, ev_drop, ev_dnew, res_nx, res_rt, res_xc, R.bind_ok, R.bind_xc, R.out_ok, R.out_xc, Out.bind_nx, Out.bind_rt, Out.bind_xc, Sl.d_va, Sl.d_ow, Sl.frz_va, Sl.frz_ow, Sl.frz_no, List.getElem?_cons_succ, List.getElem?_cons_zero, List.set_cons_succ, List.set_cons_zero, List.length_cons, List.length_nil, List.map_cons, List.map_nil, lim_val, Nat.zero_le, Nat.reduceAdd, Nat.reduceLeDiff, Nat.reduceEqDiff, reduceIte, Nat.zero_add, if_true, if_false, Bool.false_eq_true, Bool.not_true, Bool.not_false, decide_true, decide_false, o_add, o_sub, o_neg, o_lt, o_le, o_gt, o_ge, o_eq, o_ne, o_isN, o_notN, isNon_non, isNon_int, isNon_tup, isNon_lst, o_idxL, o_idxT, o_lenL, o_lenT, o_lenS, o_listL, o_listT, o_tupleL, o_tupleT, o_int, o_intb, o_max2, o_min2, o_slL, o_slT, atD_0, atD_1, atD_2, atD_3, atD_4, atD_5, range_4, range_3, range_2, hlen, c10]
/-- a walk that raises at the first item that it does not like -/
theorem forD_xc {α : Type} {j c : Nat} {b : FS} {enc : α → D} (I : Env → Prop) (bad : α → Bool) : ∀ (xs : List α) (e : Env), I e →
    (∀ x e, x ∈ xs → I e → if bad x = true then ∃ e', b (e.set j (.va (enc x))) = .xc c e' else ∃ e', b (e.set j (.va (enc x))) = .nx e' ∧ I e') → (∃ x ∈ xs, bad x = true) → ∃ e', forD j b (xs.map enc) e = .xc c e'
  | [], e, h, _, hx => by obtain ⟨x, hx, _⟩ := hx; cases hx
  | x :: xs, e, h, hb, hx => by
    have h0 := hb x e List.mem_cons_self h
    by_cases q : bad x = true
    · rw [if_pos q] at h0
      obtain ⟨e1, h1⟩ := h0
      refine ⟨e1, ?_⟩
      show (b (e.set j (.va (enc x)))).bind _ = _
      rw [h1]
      rfl
    · rw [if_neg q] at h0
      obtain ⟨e1, h1, i1⟩ := h0
      obtain ⟨e2, h2⟩ := forD_xc (j := j) (c := c) (b := b) (enc := enc) I bad xs e1 i1 (fun y e m => hb y e (List.mem_cons_of_mem _ m)) (by
        obtain ⟨y, hy, hy2⟩ := hx
        rcases List.mem_cons.mp hy with z | z
        · subst z; exact absurd hy2 q
        · exact ⟨y, z, hy2⟩)
      refine ⟨e2, ?_⟩
      show (b (e.set j (.va (enc x)))).bind _ = _
      rw [h1]
      exact h2
theorem drawn_odd {d : D} {rs : List (List Int)} {rings : Int} (hd : SeqD d (encRs rs)) (h4 : ∀ r ∈ rs, r.length = 4) (hl : rs.length ≤ 10) (he : (rs.flatten.all fun x => decide (rs.flatten.count x = 2)) = false) : f_drawn [d, .int rings] = .xc 1 := by
  unfold f_drawn F_drawn
  rw [fn_eq [.va d, .va (.int rings), .no, .no] rfl]
  have hc := counted_ok (rowD := encR) hd seq_row (flat_le4 h4 (by omega))
  have hlen := len_seq hd
  rw [List.length_map] at hlen
  have c10 : ¬ (10 < (rs.length : Int)) := by omega
  have hk : (cnt rs.flatten).map (fun p => D.int p.1) = (names rs.flatten).map D.int := by
    unfold cnt
    rw [List.map_map]
    rfl
  have L := forD_xc (j := 3) (c := 1) (b := B_drawn_1) (enc := D.int) (fun e => ∃ b, e = [.va d, .va (.int rings), .va (.dic (cnt rs.flatten)), b]) (fun x => !decide (rs.flatten.count x = 2)) (names rs.flatten) [.va d, .va (.int rings), .va (.dic (cnt rs.flatten)), .no] ⟨_, rfl⟩
    (fun x e hx ⟨b, he2⟩ => by
      subst he2
      have hx2 := names_mem.mp hx
      have hg : dGetK (.dic (cnt rs.flatten)) (.int x) = .ok (.va (.int (rs.flatten.count x : Nat))) := by
        unfold dGetK
        simp only
        rw [getA_cnt, if_pos hx2]
        rfl
      have hq : (((rs.flatten.count x : Nat) : Int) = 2) ↔ rs.flatten.count x = 2 := by omega
      unfold B_drawn_1
      by_cases c : rs.flatten.count x = 2
      · rw [if_neg (by simp [c])]
        rw [c] at hg
        simp only [ev_seq, ev_set, ev_op1, ev_op2, ev_call, ev_cons, ev_nil, ev_c, ev_var, ev_tup, ev_lst, ev_cb, ev_fz, ev_lend, ev_and, ev_or, ev_not, ev_chain, ev_if, ev_bm, ev_get2, ev_ixO, ev_sl, ev_some, ev_none, ev_tval, ev_tand, ev_tor, ev_tnot, ev_irange1, ev_irange2, ev_sif, ev_next, ev_ret, ev_retO, ev_raise, ev_app, ev_put, ev_dput, ev_for, ev_while, ev_pub, pub_cons, pub_nil, ev_drop, ev_dnew, res_nx, res_rt, res_xc, R.bind_ok, R.bind_xc, R.out_ok, R.out_xc, Out.bind_nx, Out.bind_rt, Out.bind_xc, Sl.d_va, Sl.d_ow, Sl.frz_va, Sl.frz_ow, Sl.frz_no, List.getElem?_cons_succ, List.getElem?_cons_zero, List.set_cons_succ, List.set_cons_zero, List.length_cons, List.length_nil, List.map_cons, List.map_nil, lim_val, Nat.zero_le, Nat.reduceAdd, Nat.reduceLeDiff, Nat.reduceEqDiff, reduceIte, Nat.zero_add, if_true, if_false, Bool.false_eq_true, Bool.not_true, Bool.not_false, decide_true, decide_false, o_add, o_sub, o_neg, o_lt, o_le, o_gt, o_ge, o_eq, o_ne, o_isN, o_notN, isNon_non, isNon_int, isNon_tup, isNon_lst, o_idxL, o_idxT, o_lenL, o_lenT, o_lenS, o_listL, o_listT, o_tupleL, o_tupleT, o_int, o_intb, o_max2, o_min2, o_slL, o_slT, atD_0, atD_1, atD_2, atD_3, atD_4, atD_5, range_4, range_3, range_2, hg, Int.cast_ofNat_Int]
        exact ⟨_, rfl, _, rfl⟩
      · have c' : ¬ (((rs.flatten.count x : Nat) : Int) = 2) := fun z => c (hq.mp z)
        rw [if_pos (by simp [c])]
        simp only [ev_seq, ev_set, ev_op1, ev_op2, ev_call, ev_cons, ev_nil, ev_c, ev_var, ev_tup, ev_lst, ev_cb, ev_fz, ev_lend, ev_and, ev_or, ev_not, ev_chain, ev_if, ev_bm, ev_get2, ev_ixO, ev_sl, ev_some, ev_none, ev_tval, ev_tand, ev_tor, ev_tnot, ev_irange1, ev_irange2, ev_sif, ev_next, ev_ret, ev_retO, ev_raise, ev_app, ev_put, ev_dput, ev_for, ev_while, ev_pub, pub_cons, pub_nil, ev_drop, ev_dnew, res_nx, res_rt, res_xc, R.bind_ok, R.bind_xc, R.out_ok, R.out_xc, Out.bind_nx, Out.bind_rt, Out.bind_xc, Sl.d_va, Sl.d_ow, Sl.frz_va, Sl.frz_ow, Sl.frz_no, List.getElem?_cons_succ, List.getElem?_cons_zero, List.set_cons_succ, List.set_cons_zero, List.length_cons, List.length_nil, List.map_cons, List.map_nil, lim_val, Nat.zero_le, Nat.reduceAdd, Nat.reduceLeDiff, Nat.reduceEqDiff, reduceIte, Nat.zero_add, if_true, if_false, Bool.false_eq_true, Bool.not_true, Bool.not_false, decide_true, decide_false, o_add, o_sub, o_neg, o_lt, o_le, o_gt, o_ge, o_eq, o_ne, o_isN, o_notN, isNon_non, isNon_int, isNon_tup, isNon_lst, o_idxL, o_idxT, o_lenL, o_lenT, o_lenS, o_listL, o_listT, o_tupleL, o_tupleT, o_int, o_intb, o_max2, o_min2, o_slL, o_slT, atD_0, atD_1, atD_2, atD_3, atD_4, atD_5, range_4, range_3, range_2, hg, c']
        exact ⟨_, rfl⟩)
    (by
      rw [List.all_eq_false] at he
      obtain ⟨x, hx, hx2⟩ := he
      exact ⟨x, names_mem.mpr hx, by simpa using hx2⟩)
  obtain ⟨e, h⟩ := L
  simp only [ev_seq, ev_set, ev_op1, ev_op2, ev_call, ev_cons, ev_nil, ev_c, ev_var, ev_tup, ev_lst, ev_cb, ev_fz, ev_lend, ev_and, ev_or, ev_not, ev_chain, ev_if, ev_bm, ev_get2, ev_ixO, ev_sl, ev_some, ev_none, ev_tval, ev_tand, ev_tor, ev_tnot, ev_irange1, ev_irange2, ev_sif, ev_next, ev_ret, ev_retO, ev_raise, ev_app, ev_put, ev_dput, ev_for, ev_while, ev_pub, pub_cons, pub_nil, ev_drop, ev_dnew, res_nx, res_rt, res_xc, R.bind_ok, R.bind_xc, R.out_ok, R.out_xc, Out.bind_nx, Out.bind_rt, Out.bind_xc, Sl.d_va, Sl.d_ow, Sl.frz_va, Sl.frz_ow, Sl.frz_no, List.getElem?_cons_succ, List.getElem?_cons_zero, List.set_cons_succ, List.set_cons_zero, List.length_cons, List.length_nil, List.map_cons, List.map_nil, lim_val, Nat.zero_le, Nat.reduceAdd, Nat.reduceLeDiff, Nat.reduceEqDiff, reduceIte, Nat.zero_add, if_true, if_false, Bool.false_eq_true, Bool.not_true, Bool.not_false, decide_true, decide_false, o_add, o_sub, o_neg, o_lt, o_le, o_gt, o_ge, o_eq, o_ne, o_isN, o_notN, isNon_non, isNon_int, isNon_tup, isNon_lst, o_idxL, o_idxT, o_lenL, o_lenT, o_lenS, o_listL, o_listT, o_tupleL, o_tupleT, o_int, o_intb, o_max2, o_min2, o_slL, o_slT, atD_0, atD_1, atD_2, atD_3, atD_4, atD_5, range_4, range_3, range_2, hlen, c10, hc, ev_forK, hk, h]
end DL
set_option maxRecDepth 100000
/-! M25: a number's text -/
namespace DL
open PySem (Str)
open TL (tl numL)
/-- the text of a number -/
def txN (n : Nat) : Str := Str.ofString (toString ((n : Nat) : Int))
theorem tl_txN (n : Nat) : tl (txN n) = numL n := TL.tl_num n
theorem figs : (Str.ofString "0123456789").cps.toList = [48, 49, 50, 51, 52, 53, 54, 55, 56, 57] := by decide +kernel
theorem notIn_fig (c : Nat) : dNotInS (.str ⟨#[c]⟩) (.str (Str.ofString "0123456789")) = .ok (.va (.bl (!decide (48 ≤ c ∧ c ≤ 57)))) := by
  show (if (⟨#[c]⟩ : Str).cps.size = 1 then (.ok (.va (.bl (!decide (c ∈ (Str.ofString "0123456789").cps.toList)))) : R Sl) else .bad) = _
  rw [if_pos (show (⟨#[c]⟩ : Str).cps.size = 1 from rfl), figs]
  congr 4
  simp only [List.mem_cons, List.not_mem_nil, or_false]
  congr 1
  exact propext ⟨fun h => by omega, fun h => by omega⟩
/-- a number as the notes write it -/
structure NumOk (t : Str) : Prop where
  dig : ∀ c ∈ tl t, 48 ≤ c ∧ c ≤ 57
  ne : tl t ≠ []
  le : (tl t).length ≤ 60
  hd : ¬ ((tl t).head? = some 48 ∧ 1 < (tl t).length)
def valN (t : Str) : Nat := PySem.NumText.digitsVal (tl t)
theorem str_eq (a b : Str) : dEq (.str a) (.str b) = .ok (.va (.bl (decide (a = b)))) := nr rfl
theorem str_ne (a b : Str) : dNe (.str a) (.str b) = .ok (.va (.bl (!decide (a = b)))) := nr rfl
theorem str_len {a : Str} (h : a.length ≤ 1000000) : bLen [.str a] = .ok (.va (.int (a.length : Nat))) := by
  show (if a.length ≤ LIM then _ else _) = _
  rw [if_pos (by rw [lim_val]; exact h)]
theorem str_add {a b : Str} (h : a.length + b.length ≤ 1000000) : dAdd (.str a) (.str b) = .ok (.va (.str (a ++ b))) := by
  show (if a.length + b.length ≤ LIM then _ else _) = _
  rw [if_pos (by rw [lim_val]; exact h)]
theorem str_idx0 {a : Str} (h : a.length ≤ 1000000) {c : Nat} {r : List Nat} (e : tl a = c :: r) : dIdx (.str a) (.int 0) = .ok (.va (.str ⟨#[c]⟩)) := by
  show (if a.length ≤ LIM then (match atD a.cps.toList 0 with
    | some c => (R.ok (.va (.str ⟨#[c]⟩)) : R Sl)
    | none => R.bad) else R.bad) = _
  rw [if_pos (by rw [lim_val]; exact h), show a.cps.toList = c :: r from e]
  have : atD (c :: r) 0 = some c := by
    unfold atD ixOf
    rw [if_pos (Int.le_refl 0), if_pos (by rw [List.length_cons]; omega)]
    rfl
  rw [this]
theorem empty_iff (t : Str) : t = Str.ofString "" ↔ tl t = [] := by
  constructor
  · intro h
    rw [h]
    exact TL.tl_ofString ""
  · intro h
    exact TL.ext_tl (by rw [h]; exact (TL.tl_ofString "").symm)
theorem zero_iff (c : Nat) : (⟨#[c]⟩ : Str) = Str.ofString "0" ↔ c = 48 := by
  have e : Str.ofString "0" = ⟨#[48]⟩ := by decide +kernel
  rw [e]
  constructor
  · intro h
    injection h with h
    have := congrArg Array.toList h
    simpa using this
  · rintro rfl
    rfl
theorem intS_ok {t : Str} (h : ∀ c ∈ tl t, 48 ≤ c ∧ c ≤ 57) (ne : tl t ≠ []) (le : (tl t).length ≤ 60) : bIntS [.str t] = .ok (.va (.int (valN t : Nat))) := by
  have hl : t.length = (tl t).length := TL.len_tl t
  have e := PySem.intText_digits (x := t) h ne (by omega)
  show (match PySem.intText? t with
    | some n => if t.length ≤ 640 then (R.ok (.va (.int n)) : R Sl) else R.bad
    | none => R.bad) = _
  rw [e]
  show (if t.length ≤ 640 then _ else _) = _
  rw [if_pos (by omega)]
  rfl
theorem number_walk {t : Str} (h : ∀ c ∈ tl t, 48 ≤ c ∧ c ≤ 57) : ∃ b, forD 1 B_number_of_1 ((tl t).map fun c => D.str ⟨#[c]⟩) [.va (.str t), .no] = .nx [.va (.str t), b] := by
  obtain ⟨e, h1, b, he⟩ := forD_ix (j := 1) (b := B_number_of_1) (enc := fun c : Nat => D.str ⟨#[c]⟩) (tl t) (fun _ e => ∃ b, e = [.va (.str t), b]) [.va (.str t), .no] ⟨_, rfl⟩ (fun i c e hi ⟨b, he⟩ => by
    subst he
    obtain ⟨hi2, hv⟩ := List.getElem?_eq_some_iff.mp hi
    have hc := h c (hv ▸ List.getElem_mem hi2)
    refine ⟨[.va (.str t), .va (.str ⟨#[c]⟩)], ?_, _, rfl⟩
    unfold B_number_of_1
    have hd : decide (48 ≤ c ∧ c ≤ 57) = true := decide_eq_true hc
    simp only [ev_seq, ev_set, ev_op1, ev_op2, ev_call, ev_cons, ev_nil, ev_c, ev_var, ev_tup, ev_lst, ev_cb, ev_fz, ev_lend, ev_and, ev_or, ev_not, ev_chain, ev_if, ev_bm, ev_get2, ev_ixO, ev_sl, ev_some, ev_none, ev_tval, ev_tand, ev_tor, ev_tnot, ev_irange1, ev_irange2, ev_sif, ev_next, ev_ret, ev_retO, ev_raise, ev_app, ev_put, ev_dput, ev_for, ev_while, ev_pub, pub_cons, pub_nil, ev_drop, ev_dnew, res_nx, res_rt, res_xc, R.bind_ok, R.bind_xc, R.out_ok, R.out_xc, Out.bind_nx, Out.bind_rt, Out.bind_xc, Sl.d_va, Sl.d_ow, Sl.frz_va, Sl.frz_ow, Sl.frz_no, List.getElem?_cons_succ, List.getElem?_cons_zero, List.set_cons_succ, List.set_cons_zero, List.length_cons, List.length_nil, List.map_cons, List.map_nil, lim_val, Nat.zero_le, Nat.reduceAdd, Nat.reduceLeDiff, Nat.reduceEqDiff, reduceIte, Nat.zero_add, if_true, if_false, Bool.false_eq_true, Bool.not_true, Bool.not_false, decide_true, decide_false, o_add, o_sub, o_neg, o_lt, o_le, o_gt, o_ge, o_eq, o_ne, o_isN, o_notN, isNon_non, isNon_int, isNon_tup, isNon_lst, o_idxL, o_idxT, o_lenL, o_lenT, o_lenS, o_listL, o_listT, o_tupleL, o_tupleT, o_int, o_intb, o_max2, o_min2, o_slL, o_slT, atD_0, atD_1, atD_2, atD_3, atD_4, atD_5, range_4, range_3, range_2, notIn_fig, hd])
  exact ⟨b, by rw [h1, he]⟩
theorem istr_ok {e : Env} {i : Nat} {t : Str} (h : e[i]? = some (.va (.str t))) : iStr (eVar i) e = .ok ((tl t).map fun c => D.str ⟨#[c]⟩) := by
  unfold iStr eVar
  rw [h]
  rfl
/-- the conditions on the whole -/
theorem number_test {t : Str} {b : Sl} (hl : t.length ≤ 1000000) : (tOr (tVal (eOp2 dEq (eVar 0) (eC (.str "")))) (tOr (tVal (eOp2 dGt (eCB bLen (aCons (eVar 0) aNil)) (eC (.int 60)))) (tAnd (tVal (eOp2 dEq (eOp2 dIdx (eVar 0) (eC (.int 0))) (eC (.str "0")))) (tVal (eOp2 dGt (eCB bLen (aCons (eVar 0) aNil)) (eC (.int 1)))))))
    [.va (.str t), b] = .ok (!decide (tl t ≠ [] ∧ (tl t).length ≤ 60 ∧ ¬ ((tl t).head? = some 48 ∧ 1 < (tl t).length))) := by
  have hlen : t.length = (tl t).length := TL.len_tl t
  have len := str_len hl
  cases q : tl t with
  | nil =>
    have e := (empty_iff t).mpr q
    have e2 : decide (t = Str.ofString "") = true := decide_eq_true e
    simp only [ev_seq, ev_set, ev_op1, ev_op2, ev_call, ev_cons, ev_nil, ev_c, ev_var, ev_tup, ev_lst, ev_cb, ev_fz, ev_lend, ev_and, ev_or, ev_not, ev_chain, ev_if, ev_bm, ev_get2, ev_ixO, ev_sl, ev_some, ev_none, ev_tval, ev_tand, ev_tor, ev_tnot, ev_irange1, ev_irange2, ev_sif, ev_next, ev_ret, ev_retO, ev_raise, ev_app, ev_put, ev_dput, ev_for, ev_while, ev_pub, pub_cons, pub_nil, ev_drop, ev_dnew, res_nx, res_rt, res_xc, R.bind_ok, R.bind_xc, R.out_ok, R.out_xc, Out.bind_nx, Out.bind_rt, Out.bind_xc, Sl.d_va, Sl.d_ow, Sl.frz_va, Sl.frz_ow, Sl.frz_no, List.getElem?_cons_succ, List.getElem?_cons_zero, List.set_cons_succ, List.set_cons_zero, List.length_cons, List.length_nil, List.map_cons, List.map_nil, lim_val, Nat.zero_le, Nat.reduceAdd, Nat.reduceLeDiff, Nat.reduceEqDiff, reduceIte, Nat.zero_add, if_true, if_false, Bool.false_eq_true, Bool.not_true, Bool.not_false, decide_true, decide_false, o_add, o_sub, o_neg, o_lt, o_le, o_gt, o_ge, o_eq, o_ne, o_isN, o_notN, isNon_non, isNon_int, isNon_tup, isNon_lst, o_idxL, o_idxT, o_lenL, o_lenT, o_lenS, o_listL, o_listT, o_tupleL, o_tupleT, o_int, o_intb, o_max2, o_min2, o_slL, o_slT, atD_0, atD_1, atD_2, atD_3, atD_4, atD_5, range_4, range_3, range_2, str_eq, e2]
    simp
  | cons c r =>
    have e : ¬ t = Str.ofString "" := fun z => by rw [(empty_iff t).mp z] at q; cases q
    have e2 : decide (t = Str.ofString "") = false := decide_eq_false e
    have ix := str_idx0 hl q
    rw [q] at hlen
    by_cases c60 : 60 < (t.length : Int)
    · have d60 : decide (60 < (t.length : Int)) = true := decide_eq_true c60
      have : ¬ ((c :: r).length ≤ 60) := by omega
      simp only [ev_seq, ev_set, ev_op1, ev_op2, ev_call, ev_cons, ev_nil, ev_c, ev_var, ev_tup, ev_lst, ev_cb, ev_fz, ev_lend, ev_and, ev_or, ev_not, ev_chain, ev_if, ev_bm, ev_get2, ev_ixO, ev_sl, ev_some, ev_none, ev_tval, ev_tand, ev_tor, ev_tnot, ev_irange1, ev_irange2, ev_sif, ev_next, ev_ret, ev_retO, ev_raise, ev_app, ev_put, ev_dput, ev_for, ev_while, ev_pub, pub_cons, pub_nil, ev_drop, ev_dnew, res_nx, res_rt, res_xc, R.bind_ok, R.bind_xc, R.out_ok, R.out_xc, Out.bind_nx, Out.bind_rt, Out.bind_xc, Sl.d_va, Sl.d_ow, Sl.frz_va, Sl.frz_ow, Sl.frz_no, List.getElem?_cons_succ, List.getElem?_cons_zero, List.set_cons_succ, List.set_cons_zero, List.length_cons, List.length_nil, List.map_cons, List.map_nil, lim_val, Nat.zero_le, Nat.reduceAdd, Nat.reduceLeDiff, Nat.reduceEqDiff, reduceIte, Nat.zero_add, if_true, if_false, Bool.false_eq_true, Bool.not_true, Bool.not_false, decide_true, decide_false, o_add, o_sub, o_neg, o_lt, o_le, o_gt, o_ge, o_eq, o_ne, o_isN, o_notN, isNon_non, isNon_int, isNon_tup, isNon_lst, o_idxL, o_idxT, o_lenL, o_lenT, o_lenS, o_listL, o_listT, o_tupleL, o_tupleT, o_int, o_intb, o_max2, o_min2, o_slL, o_slT, atD_0, atD_1, atD_2, atD_3, atD_4, atD_5, range_4, range_3, range_2, str_eq, e2, len, d60]
      rw [List.length_cons] at this
      simp
      omega
    · have d60 : decide (60 < (t.length : Int)) = false := decide_eq_false c60
      by_cases z : c = 48
      · have ez : decide ((⟨#[c]⟩ : Str) = Str.ofString "0") = true := decide_eq_true ((zero_iff c).mpr z)
        have e1 : decide (1 < (t.length : Int)) = decide (1 < (c :: r).length) := by
          rw [← hlen]
          congr 1
          exact propext ⟨fun h => by omega, fun h => by omega⟩
        simp only [ev_seq, ev_set, ev_op1, ev_op2, ev_call, ev_cons, ev_nil, ev_c, ev_var, ev_tup, ev_lst, ev_cb, ev_fz, ev_lend, ev_and, ev_or, ev_not, ev_chain, ev_if, ev_bm, ev_get2, ev_ixO, ev_sl, ev_some, ev_none, ev_tval, ev_tand, ev_tor, ev_tnot, ev_irange1, ev_irange2, ev_sif, ev_next, ev_ret, ev_retO, ev_raise, ev_app, ev_put, ev_dput, ev_for, ev_while, ev_pub, pub_cons, pub_nil, ev_drop, ev_dnew, res_nx, res_rt, res_xc, R.bind_ok, R.bind_xc, R.out_ok, R.out_xc, Out.bind_nx, Out.bind_rt, Out.bind_xc, Sl.d_va, Sl.d_ow, Sl.frz_va, Sl.frz_ow, Sl.frz_no, List.getElem?_cons_succ, List.getElem?_cons_zero, List.set_cons_succ, List.set_cons_zero, List.length_cons, List.length_nil, List.map_cons, List.map_nil, lim_val, Nat.zero_le, Nat.reduceAdd, Nat.reduceLeDiff, Nat.reduceEqDiff, reduceIte, Nat.zero_add, if_true, if_false, Bool.false_eq_true, Bool.not_true, Bool.not_false, decide_true, decide_false, o_add, o_sub, o_neg, o_lt, o_le, o_gt, o_ge, o_eq, o_ne, o_isN, o_notN, isNon_non, isNon_int, isNon_tup, isNon_lst, o_idxL, o_idxT, o_lenL, o_lenT, o_lenS, o_listL, o_listT, o_tupleL, o_tupleT, o_int, o_intb, o_max2, o_min2, o_slL, o_slT, atD_0, atD_1, atD_2, atD_3, atD_4, atD_5, range_4, range_3, range_2, str_eq, e2, len, d60, ix, ez, e1]
        have h60 : r.length ≤ 59 := by rw [List.length_cons] at hlen; omega
        have n60 : ¬ 59 < r.length := by omega
        have er : decide (0 < r.length) = !decide (r = []) := by cases r <;> simp
        simp [z, h60, er]
      · have ez : decide ((⟨#[c]⟩ : Str) = Str.ofString "0") = false := decide_eq_false fun y => z ((zero_iff c).mp y)
        simp only [ev_seq, ev_set, ev_op1, ev_op2, ev_call, ev_cons, ev_nil, ev_c, ev_var, ev_tup, ev_lst, ev_cb, ev_fz, ev_lend, ev_and, ev_or, ev_not, ev_chain, ev_if, ev_bm, ev_get2, ev_ixO, ev_sl, ev_some, ev_none, ev_tval, ev_tand, ev_tor, ev_tnot, ev_irange1, ev_irange2, ev_sif, ev_next, ev_ret, ev_retO, ev_raise, ev_app, ev_put, ev_dput, ev_for, ev_while, ev_pub, pub_cons, pub_nil, ev_drop, ev_dnew, res_nx, res_rt, res_xc, R.bind_ok, R.bind_xc, R.out_ok, R.out_xc, Out.bind_nx, Out.bind_rt, Out.bind_xc, Sl.d_va, Sl.d_ow, Sl.frz_va, Sl.frz_ow, Sl.frz_no, List.getElem?_cons_succ, List.getElem?_cons_zero, List.set_cons_succ, List.set_cons_zero, List.length_cons, List.length_nil, List.map_cons, List.map_nil, lim_val, Nat.zero_le, Nat.reduceAdd, Nat.reduceLeDiff, Nat.reduceEqDiff, reduceIte, Nat.zero_add, if_true, if_false, Bool.false_eq_true, Bool.not_true, Bool.not_false, decide_true, decide_false, o_add, o_sub, o_neg, o_lt, o_le, o_gt, o_ge, o_eq, o_ne, o_isN, o_notN, isNon_non, isNon_int, isNon_tup, isNon_lst, o_idxL, o_idxT, o_lenL, o_lenT, o_lenS, o_listL, o_listT, o_tupleL, o_tupleT, o_int, o_intb, o_max2, o_min2, o_slL, o_slT, atD_0, atD_1, atD_2, atD_3, atD_4, atD_5, range_4, range_3, range_2, str_eq, e2, len, d60, ix, ez]
        have h60 : r.length ≤ 59 := by rw [List.length_cons] at hlen; omega
        simp [z, h60]
theorem number_of_ok {t : Str} (h : NumOk t) : f_number_of [.str t] = .ok (.va (.int (valN t : Nat))) := by
  unfold f_number_of F_number_of
  rw [fn_eq [.va (.str t), .no] rfl]
  have hlen : t.length = (tl t).length := TL.len_tl t
  have := h.le
  obtain ⟨b, hw⟩ := number_walk h.dig
  have ht := number_test (t := t) (b := b) (by omega)
  have dd : (!decide (tl t ≠ [] ∧ (tl t).length ≤ 60 ∧ ¬ ((tl t).head? = some 48 ∧ 1 < (tl t).length))) = false := by
    rw [decide_eq_true ⟨h.ne, h.le, h.hd⟩]
    rfl
  rw [dd] at ht
  have hi := intS_ok h.dig h.ne h.le
  rw [ev_seq, ev_for, istr_ok rfl, R.out_ok, hw, Out.bind_nx, ev_seq, ev_sif, ht]
  simp only [ev_seq, ev_set, ev_op1, ev_op2, ev_call, ev_cons, ev_nil, ev_c, ev_var, ev_tup, ev_lst, ev_cb, ev_fz, ev_lend, ev_and, ev_or, ev_not, ev_chain, ev_if, ev_bm, ev_get2, ev_ixO, ev_sl, ev_some, ev_none, ev_tval, ev_tand, ev_tor, ev_tnot, ev_irange1, ev_irange2, ev_sif, ev_next, ev_ret, ev_retO, ev_raise, ev_app, ev_put, ev_dput, ev_for, ev_while, ev_pub, pub_cons, pub_nil, ev_drop, ev_dnew, res_nx, res_rt, res_xc, R.bind_ok, R.bind_xc, R.out_ok, R.out_xc, Out.bind_nx, Out.bind_rt, Out.bind_xc, Sl.d_va, Sl.d_ow, Sl.frz_va, Sl.frz_ow, Sl.frz_no, List.getElem?_cons_succ, List.getElem?_cons_zero, List.set_cons_succ, List.set_cons_zero, List.length_cons, List.length_nil, List.map_cons, List.map_nil, lim_val, Nat.zero_le, Nat.reduceAdd, Nat.reduceLeDiff, Nat.reduceEqDiff, reduceIte, Nat.zero_add, if_true, if_false, Bool.false_eq_true, Bool.not_true, Bool.not_false, decide_true, decide_false, o_add, o_sub, o_neg, o_lt, o_le, o_gt, o_ge, o_eq, o_ne, o_isN, o_notN, isNon_non, isNon_int, isNon_tup, isNon_lst, o_idxL, o_idxT, o_lenL, o_lenT, o_lenS, o_listL, o_listT, o_tupleL, o_tupleT, o_int, o_intb, o_max2, o_min2, o_slL, o_slT, atD_0, atD_1, atD_2, atD_3, atD_4, atD_5, range_4, range_3, range_2, hi]
end DL
set_option maxRecDepth 100000
/-! MA1: sums over all ways of giving numbers to lines; elimination -/
namespace DL
open PySem (Str)
def sumR : Nat → (Nat → Nat) → Nat
  | 0, _ => 0
  | n + 1, f => sumR n f + f n
theorem sumR_congr {f g : Nat → Nat} : ∀ {n : Nat}, (∀ x, x < n → f x = g x) → sumR n f = sumR n g
  | 0, _ => rfl
  | n + 1, h => by rw [sumR, sumR, sumR_congr fun x hx => h x (by omega), h n (by omega)]
theorem sumR_add (f g : Nat → Nat) : ∀ n : Nat, sumR n (fun x => f x + g x) = sumR n f + sumR n g
  | 0 => rfl
  | n + 1 => by rw [sumR, sumR, sumR, sumR_add f g n]; omega
theorem sumR_zero : ∀ n : Nat, sumR n (fun _ => 0) = 0
  | 0 => rfl
  | n + 1 => by rw [sumR, sumR_zero n]
theorem sumR_const (k : Nat) : ∀ n : Nat, sumR n (fun _ => k) = n * k
  | 0 => by rw [sumR, Nat.zero_mul]
  | n + 1 => by rw [sumR, sumR_const k n, Nat.succ_mul]
theorem sumR_mul (k : Nat) (f : Nat → Nat) : ∀ n : Nat, sumR n (fun x => f x * k) = sumR n f * k
  | 0 => by rw [sumR, sumR, Nat.zero_mul]
  | n + 1 => by rw [sumR, sumR, sumR_mul k f n, Nat.add_mul]
theorem sumR_swap (f : Nat → Nat → Nat) (m : Nat) : ∀ n : Nat, sumR n (fun x => sumR m (fun y => f x y)) = sumR m (fun y => sumR n (fun x => f x y))
  | 0 => by
    rw [sumR]
    exact (sumR_zero m).symm
  | n + 1 => by
    rw [sumR, sumR_swap f m n, ← sumR_add]
    rfl
theorem sumR_one {n x0 : Nat} (k : Nat) (h : x0 < n) : sumR n (fun x => if x = x0 then k else 0) = k := by
  induction n with
  | zero => omega
  | succ n ih =>
    rw [sumR]
    by_cases e : x0 = n
    · subst e
      rw [if_pos rfl, sumR_congr (g := fun _ => 0) fun x hx => if_neg (by omega), sumR_zero, Nat.zero_add]
    · rw [ih (by omega), if_neg (fun z => e z.symm), Nat.add_zero]
/-! ### all numbers for some lines -/
def up1 (c : Int → Int) (a x : Int) : Int → Int := fun b => if b = a then x else c b
theorem up1_self (c : Int → Int) (a x : Int) : up1 c a x a = x := if_pos rfl
theorem up1_ne {c : Int → Int} {a x b : Int} (h : ¬ b = a) : up1 c a x b = c b := if_neg h
theorem up1_comm (c : Int → Int) {a b : Int} (x y : Int) (h : a ≠ b) : up1 (up1 c a x) b y = up1 (up1 c b y) a x := by
  funext d
  unfold up1
  by_cases h1 : d = b
  · rw [if_pos h1, if_neg (fun e => h (e.symm.trans h1)), if_pos h1]
  · rw [if_neg h1, if_neg h1]
theorem up1_up1 (c : Int → Int) (a x y : Int) : up1 (up1 c a x) a y = up1 c a y := by
  funext d
  unfold up1
  by_cases h1 : d = a
  · rw [if_pos h1, if_pos h1]
  · rw [if_neg h1, if_neg h1, if_neg h1]
def NF (p : Nat) : List Int → (Int → Int) → ((Int → Int) → Nat) → Nat
  | [], c, F => F c
  | a :: ns, c, F => sumR p fun x => NF p ns (up1 c a x) F
theorem NF_congr {p : Nat} {F G : (Int → Int) → Nat} : ∀ (ns : List Int) (c : Int → Int), (∀ d : Int → Int, (∀ a ∈ ns, 0 ≤ d a ∧ d a < p) → (∀ b, b ∉ ns → d b = c b) → F d = G d) → NF p ns c F = NF p ns c G
  | [], c, h => h c (by simp) (fun _ _ => rfl)
  | a :: ns, c, h => by
    rw [NF, NF]
    refine sumR_congr fun x hx => NF_congr ns _ fun d h1 h2 => h d ?_ ?_
    · intro b hb
      rcases List.mem_cons.mp hb with rfl | m
      · by_cases q : b ∈ ns
        · exact h1 b q
        · rw [h2 b q, up1_self]
          omega
      · exact h1 b m
    · intro b hb
      rw [List.mem_cons, not_or] at hb
      rw [h2 b hb.2, up1_ne hb.1]
theorem NF_up {p : Nat} {F : (Int → Int) → Nat} {a x : Int} : ∀ (ns : List Int) (c : Int → Int), a ∉ ns → NF p ns (up1 c a x) F = NF p ns c (fun d => F (up1 d a x))
  | [], c, _ => rfl
  | b :: ns, c, h => by
    rw [List.mem_cons, not_or] at h
    rw [NF, NF]
    refine sumR_congr fun y _ => ?_
    rw [up1_comm c x y h.1]
    exact NF_up ns _ h.2
theorem NF_sum {p k : Nat} {F : Nat → (Int → Int) → Nat} : ∀ (ns : List Int) (c : Int → Int), NF p ns c (fun d => sumR k fun x => F x d) = sumR k fun x => NF p ns c (F x)
  | [], c => rfl
  | b :: ns, c => by
    rw [NF, sumR_congr (fun y _ => NF_sum ns (up1 c b y)), sumR_swap]
    rfl
theorem NF_mul {p k : Nat} {F : (Int → Int) → Nat} : ∀ (ns : List Int) (c : Int → Int), NF p ns c (fun d => F d * k) = NF p ns c F * k
  | [], c => rfl
  | b :: ns, c => by
    rw [NF, NF, ← sumR_mul]
    exact sumR_congr fun y _ => NF_mul ns _
theorem NF_app {p : Nat} {F : (Int → Int) → Nat} (ms : List Int) : ∀ (ns : List Int) (c : Int → Int), NF p (ns ++ ms) c F = NF p ns c (fun d => NF p ms d F)
  | [], c => rfl
  | b :: ns, c => by
    rw [List.cons_append, NF, NF]
    exact sumR_congr fun y _ => NF_app ms ns _
/-- the last line's number, told first -/
theorem NF_cons {p : Nat} {F : (Int → Int) → Nat} {a : Int} {ns : List Int} {c : Int → Int} (h : a ∉ ns) : NF p (a :: ns) c F = NF p ns c (fun d => sumR p fun x => F (up1 d a x)) := by
  rw [NF, NF_sum]
  exact sumR_congr fun x _ => NF_up ns c h
theorem NF_perm {p : Nat} {F : (Int → Int) → Nat} {ns ms : List Int} (h : ns.Perm ms) : ns.Nodup → ∀ c : Int → Int, NF p ns c F = NF p ms c F := by
  induction h with
  | nil => exact fun _ _ => rfl
  | cons x _ ih => intro nd c; rw [NF, NF]; exact sumR_congr fun y _ => ih (List.nodup_cons.mp nd).2 _
  | swap x y l =>
    intro nd c
    rw [NF, NF]
    simp only [NF]
    rw [sumR_swap]
    refine sumR_congr fun a _ => sumR_congr fun b _ => ?_
    rw [up1_comm]
    intro e
    subst e
    simp at nd
  | trans h1 _ ih1 ih2 => intro nd c; rw [ih1 nd c, ih2 (h1.nodup_iff.mp nd) c]
/-! ### equations -/
def dotF : List Int → Int → (Int → Int) → Int
  | [], _, _ => 0
  | a :: r, j, c => a * c j + dotF r (j + 1) c
theorem dotF_up {c : Int → Int} {a x : Int} : ∀ (r : List Int) (j : Int), a < j → dotF r j (up1 c a x) = dotF r j c
  | [], _, _ => rfl
  | b :: r, j, h => by
    rw [dotF, dotF, dotF_up r (j + 1) (by omega), up1_ne (by omega)]
def satF (p : Nat) (T : List (List Int)) (j : Int) (c : Int → Int) : Prop := ∀ r ∈ T, (p : Int) ∣ dotF r j c
open Classical in
noncomputable def ind (P : Prop) : Nat := if P then 1 else 0
theorem ind_pos {P : Prop} (h : P) : ind P = 1 := by unfold ind; exact if_pos h
theorem ind_neg {P : Prop} (h : ¬ P) : ind P = 0 := by unfold ind; exact if_neg h
theorem ind_congr {P Q : Prop} (h : P ↔ Q) : ind P = ind Q := by
  by_cases q : Q
  · rw [ind_pos q, ind_pos (h.mpr q)]
  · rw [ind_neg q, ind_neg (fun z => q (h.mp z))]
theorem ind_and (P Q : Prop) : ind (P ∧ Q) = ind P * ind Q := by
  by_cases q : Q
  · by_cases h : P
    · rw [ind_pos ⟨h, q⟩, ind_pos h, ind_pos q]
    · rw [ind_neg (fun z => h z.1), ind_neg h, Nat.zero_mul]
  · rw [ind_neg (fun z => q z.2), ind_neg q, Nat.mul_zero]
def lin : Int → Nat → List Int
  | _, 0 => []
  | j, k + 1 => j :: lin (j + 1) k
theorem mem_lin {x : Int} : ∀ {k : Nat} {j : Int}, x ∈ lin j k ↔ j ≤ x ∧ x < j + k
  | 0, j => ⟨fun h => (by cases h), fun h => (by omega)⟩
  | k + 1, j => by rw [lin, List.mem_cons, mem_lin]; omega
theorem lin_nodup : ∀ (k : Nat) (j : Int), (lin j k).Nodup
  | 0, j => List.nodup_nil
  | k + 1, j => by
    rw [lin, List.nodup_cons]
    exact ⟨fun h => by have := mem_lin.mp h; omega, lin_nodup k _⟩
theorem dot_scale {p : Nat} {t : Int} {c : Int → Int} : ∀ (r : List Int) (j : Int), ∃ q, dotF (r.map fun x => x * t % p) j c = t * dotF r j c + p * q
  | [], _ => ⟨0, by simp [dotF]⟩
  | a :: r, j => by
    obtain ⟨q, hq⟩ := dot_scale (p := p) (t := t) (c := c) r (j + 1)
    refine ⟨q - (a * t / p) * c j, ?_⟩
    rw [List.map_cons, dotF, dotF, hq]
    have e : a * t % (p : Int) = a * t - p * (a * t / p) := by rw [Int.emod_def]
    rw [e]
    generalize a * t / (p : Int) = z
    generalize dotF r (j + 1) c = w
    generalize c j = y
    generalize (p : Int) = P
    rw [Int.mul_add, Int.mul_sub, Int.sub_mul, ← Int.mul_assoc t a y, Int.mul_comm t a, Int.mul_assoc P z y]
    omega
theorem dot_clear {p : Nat} {t : Int} {c : Int → Int} : ∀ (r l : List Int) (j : Int), r.length = l.length → ∃ q, dotF (List.zipWith (fun x y => (x - t * y) % p) r l) j c = dotF r j c - t * dotF l j c + p * q
  | [], [], _, _ => ⟨0, by simp [dotF]⟩
  | a :: r, b :: l, j, h => by
    obtain ⟨q, hq⟩ := dot_clear (p := p) (t := t) (c := c) r l (j + 1) (by simpa using h)
    refine ⟨q - ((a - t * b) / p) * c j, ?_⟩
    rw [List.zipWith_cons_cons, dotF, dotF, dotF, hq]
    have e : (a - t * b) % (p : Int) = (a - t * b) - p * ((a - t * b) / p) := by rw [Int.emod_def]
    rw [e]
    generalize (a - t * b) / (p : Int) = z
    generalize dotF r (j + 1) c = w
    generalize dotF l (j + 1) c = w2
    generalize c j = y
    generalize (p : Int) = P
    rw [Int.mul_add, Int.mul_sub, Int.sub_mul, Int.sub_mul, ← Int.mul_assoc t b y, Int.mul_assoc P z y]
    omega
  | [], _ :: _, _, h => by cases h
  | _ :: _, [], _, h => by cases h
/-- no row counts the line -/
theorem step_none {p : Nat} {T : List (List Int)} {j : Int} {k : Nat} {c : Int → Int} (h : ∀ r ∈ T, r.getD 0 0 = 0) : NF p (lin j (k + 1)) c (fun d => ind (satF p T j d)) = sumR p fun x => NF p (lin (j + 1) k) (up1 c j x) (fun d => ind (satF p (T.map (·.drop 1)) (j + 1) d)) := by
  rw [lin, NF]
  refine sumR_congr fun x _ => NF_congr _ _ fun d _ _ => ind_congr ?_
  unfold satF
  have e : ∀ r ∈ T, dotF r j d = dotF (r.drop 1) (j + 1) d := fun r hr => by
    have := h r hr
    cases r with
    | nil => rfl
    | cons a r =>
      have ha : a = 0 := this
      rw [dotF, ha, Int.zero_mul, Int.zero_add]
      rfl
  constructor
  · intro hs r hr
    obtain ⟨r0, h0, rfl⟩ := List.mem_map.mp hr
    rw [← e r0 h0]
    exact hs r0 h0
  · intro hs r hr
    rw [e r hr]
    exact hs _ (List.mem_map.mpr ⟨r, hr, rfl⟩)
/-- a lead that counts the line once; the others do not count it -/
theorem step_lead {p : Nat} (hp : 0 < p) {T B : List (List Int)} {l : List Int} {j : Int} {k : Nat} {c : Int → Int} (hB : ∀ r ∈ B, r.getD 0 0 = 0) (hT : ∀ d : Int → Int, satF p T j d ↔ ((p : Int) ∣ dotF (1 :: l) j d ∧ satF p B j d)) :
    NF p (lin j (k + 1)) c (fun d => ind (satF p T j d)) = NF p (lin (j + 1) k) c (fun d => ind (satF p (B.map (·.drop 1)) (j + 1) d)) := by
  rw [lin, NF_cons (fun h => by have := mem_lin.mp h; omega)]
  refine NF_congr _ _ fun d _ _ => ?_
  have eB : ∀ x : Int, satF p B j (up1 d j x) ↔ satF p (B.map (·.drop 1)) (j + 1) d := fun x => by
    unfold satF
    have e : ∀ r ∈ B, dotF r j (up1 d j x) = dotF (r.drop 1) (j + 1) d := fun r hr => by
      have := hB r hr
      cases r with
      | nil => rfl
      | cons a r =>
        have ha : a = 0 := this
        rw [dotF, ha, Int.zero_mul, Int.zero_add, dotF_up r (j + 1) (by omega)]
        rfl
    constructor
    · intro hs r hr
      obtain ⟨r0, h0, rfl⟩ := List.mem_map.mp hr
      rw [← e r0 h0]
      exact hs r0 h0
    · intro hs r hr
      rw [e r hr]
      exact hs _ (List.mem_map.mpr ⟨r, hr, rfl⟩)
  have el : ∀ x : Nat, ((p : Int) ∣ dotF (1 :: l) j (up1 d j x)) ↔ (p : Int) ∣ (x : Int) + dotF l (j + 1) d := fun x => by
    rw [dotF, up1_self, dotF_up l (j + 1) (by omega), Int.one_mul]
  rw [sumR_congr (g := fun x => if x = ((-(dotF l (j + 1) d)) % (p : Int)).toNat then ind (satF p (B.map (·.drop 1)) (j + 1) d) else 0) fun x hx => ?_]
  · refine sumR_one _ ?_
    have h1 := Int.emod_nonneg (-(dotF l (j + 1) d)) (show (p : Int) ≠ 0 by omega)
    have h2 := Int.emod_lt_of_pos (-(dotF l (j + 1) d)) (show (0 : Int) < p by omega)
    omega
  · have h1 := Int.emod_nonneg (-(dotF l (j + 1) d)) (show (p : Int) ≠ 0 by omega)
    have h2 := Int.emod_lt_of_pos (-(dotF l (j + 1) d)) (show (0 : Int) < p by omega)
    rw [ind_congr ((hT _).trans (and_congr (el x) (eB x))), ind_and]
    generalize dotF l (j + 1) d = w at *
    by_cases e : x = ((-w) % (p : Int)).toNat
    · rw [if_pos e, ind_pos, Nat.one_mul]
      have e2 : (x : Int) = (-w) % (p : Int) := by omega
      rw [e2]
      have e3 : (-w) % (p : Int) + w = -(p * ((-w) / p)) := by rw [Int.emod_def]; omega
      rw [e3]
      exact Int.dvd_neg.mpr (Int.dvd_mul_right ..)
    · rw [if_neg e, ind_neg, Nat.zero_mul]
      rintro ⟨q, hq⟩
      apply e
      have e2 : -w = (x : Int) + p * (-q) := by rw [Int.mul_neg]; omega
      rw [e2, Int.add_mul_emod_self_left, Int.emod_eq_of_lt (by omega) (by omega)]
      omega
end DL
set_option maxRecDepth 100000
/-! MA2: the elimination that the program does, and how many ways it leaves -/
namespace DL
open PySem (Str)
def leadI (L : List (List Int)) (f at_ : Nat) : Option Nat := (List.range (L.length - f)).findSome? fun i => if (L.getD (f + i) []).getD at_ 0 ≠ 0 then some (f + i) else none
def overI (a : Int) (p : Nat) : Int := ((List.range (p - 1)).findSome? fun (i : Nat) => if a * (1 + (i : Int)) % (p : Int) = 1 then some (1 + (i : Int)) else none).getD 0
def clr (row lead : List Int) (at_ p : Nat) : List Int := List.zipWith (fun x y => (x - row.getD at_ 0 * y) % (p : Int)) row lead
def lead1 (L : List (List Int)) (k at_ p : Nat) : List Int := (L.getD k []).map fun x => x * overI ((L.getD k []).getD at_ 0) p % (p : Int)
def swp (L : List (List Int)) (k f at_ p : Nat) : List (List Int) := (L.set k (L.getD f [])).set f (lead1 L k at_ p)
def gstep (p : Nat) (s : List (List Int) × Nat) (at_ : Nat) : List (List Int) × Nat := match leadI s.1 s.2 at_ with
  | none => s
  | some k => ((swp s.1 k s.2 at_ p).take (s.2 + 1) ++ ((swp s.1 k s.2 at_ p).drop (s.2 + 1)).map (fun r => clr r (lead1 s.1 k at_ p) at_ p), s.2 + 1)
def Prm (p : Nat) : Prop := p = 2 ∨ p = 3 ∨ p = 5 ∨ p = 7 ∨ p = 11 ∨ p = 13
theorem over_ok {p : Nat} (hp : Prm p) {a : Int} (h0 : 0 ≤ a) (h1 : a < p) (hn : a ≠ 0) : a * overI a p % (p : Int) = 1 := by
  have key : ∀ p ∈ [2, 3, 5, 7, 11, 13], ∀ x ∈ List.range p, x ≠ 0 → (x : Int) * overI (x : Int) p % (p : Int) = 1 := by decide
  have hm : p ∈ [2, 3, 5, 7, 11, 13] := by
    rcases hp with h | h | h | h | h | h <;> rw [h] <;> decide
  have := key p hm a.toNat (List.mem_range.mpr (by omega)) (by omega)
  rwa [Int.toNat_of_nonneg h0] at this
theorem prm_pos {p : Nat} (hp : Prm p) : 2 ≤ p ∧ p ≤ 13 := by
  rcases hp with h | h | h | h | h | h <;> omega
/-- rows of so many numbers, each of nought or more and below the prime -/
def Rws (p n : Nat) (L : List (List Int)) : Prop := ∀ r ∈ L, r.length = n ∧ ∀ x ∈ r, 0 ≤ x ∧ x < (p : Int)
def Tl (L : List (List Int)) (f at_ : Nat) : List (List Int) := (L.drop f).map (·.drop at_)
theorem drop_cons {r : List Int} {at_ : Nat} (h : at_ < r.length) : r.drop at_ = r.getD at_ 0 :: r.drop (at_ + 1) := by
  rw [List.drop_eq_getElem_cons h, getD_eq h]
theorem mod_rng {p : Nat} (hp : 0 < p) (x : Int) : 0 ≤ x % (p : Int) ∧ x % (p : Int) < p := ⟨Int.emod_nonneg _ (by omega), Int.emod_lt_of_pos _ (by omega)⟩
theorem mem_zip {f : Int → Int → Int} {P : Int → Prop} (h : ∀ x y, P (f x y)) : ∀ {a b : List Int} {z : Int}, z ∈ List.zipWith f a b → P z
  | [], _, _, hz => by cases hz
  | _ :: _, [], _, hz => by cases hz
  | a :: as, b :: bs, z, hz => by
    rw [List.zipWith_cons_cons] at hz
    rcases List.mem_cons.mp hz with rfl | m
    · exact h a b
    · exact mem_zip h m
theorem clr_rw {p n : Nat} (hp : 0 < p) {row lead : List Int} {at_ : Nat} (h1 : row.length = n) (h2 : lead.length = n) : (clr row lead at_ p).length = n ∧ ∀ x ∈ clr row lead at_ p, 0 ≤ x ∧ x < (p : Int) := by
  unfold clr
  refine ⟨by rw [List.length_zipWith, h1, h2, Nat.min_self], fun x hx => ?_⟩
  exact mem_zip (P := fun x => 0 ≤ x ∧ x < (p : Int)) (fun x y => mod_rng hp _) hx
/-- a row put into another's place, that one taken out -/
theorem swap_mem {P : List Int → Prop} {a : List Int} {l : List (List Int)} {i : Nat} (hi : i < l.length) : (∀ r ∈ a :: l, P r) ↔ P l[i] ∧ ∀ r ∈ l.set i a, P r := by
  constructor
  · intro h
    refine ⟨h _ (List.mem_cons_of_mem _ (List.getElem_mem hi)), fun r hr => ?_⟩
    rcases List.mem_or_eq_of_mem_set hr with m | m
    · exact h r (List.mem_cons_of_mem _ m)
    · exact m ▸ h a List.mem_cons_self
  · rintro ⟨h1, h2⟩ r hr
    rcases List.mem_cons.mp hr with rfl | m
    · exact h2 r (List.mem_iff_getElem.mpr ⟨i, by rw [List.length_set]; exact hi, by rw [List.getElem_set_self]⟩)
    · obtain ⟨j, hj, rfl⟩ := List.mem_iff_getElem.mp m
      by_cases e : i = j
      · subst e
        exact h1
      · exact h2 _ (List.mem_iff_getElem.mpr ⟨j, by rw [List.length_set]; exact hj, by rw [List.getElem_set_ne e]⟩)
theorem swp_mem {P : List Int → Prop} {L : List (List Int)} {k f at_ p : Nat} (hf : f ≤ k) (hk : k < L.length) : (∀ r ∈ L.drop f, P r) ↔ P (L.getD k []) ∧ ∀ r ∈ (swp L k f at_ p).drop (f + 1), P r := by
  have hfl : f < L.length := by omega
  have e1 : L.drop f = L.getD f [] :: L.drop (f + 1) := by rw [List.drop_eq_getElem_cons hfl, getD_eq hfl]
  unfold swp
  rw [List.drop_set_of_lt (by omega)]
  by_cases e : f = k
  · subst e
    rw [List.drop_set_of_lt (by omega), e1]
    constructor
    · intro h
      exact ⟨h _ List.mem_cons_self, fun r hr => h r (List.mem_cons_of_mem _ hr)⟩
    · rintro ⟨h1, h2⟩ r hr
      rcases List.mem_cons.mp hr with rfl | m
      · exact h1
      · exact h2 r m
  · rw [List.drop_set, if_neg (by omega), e1, swap_mem (i := k - (f + 1)) (by rw [List.length_drop]; omega), List.getElem_drop, getD_eq hk]
    have e2 : f + 1 + (k - (f + 1)) = k := by omega
    simp only [e2]
theorem leadI_some {L : List (List Int)} {f at_ k : Nat} (h : leadI L f at_ = some k) : f ≤ k ∧ k < L.length ∧ (L.getD k []).getD at_ 0 ≠ 0 := by
  unfold leadI at h
  obtain ⟨i, hi, hv⟩ := List.exists_of_findSome?_eq_some h
  have := List.mem_range.mp hi
  by_cases c : (L.getD (f + i) []).getD at_ 0 ≠ 0
  · rw [if_pos c] at hv
    have e : f + i = k := Option.some.inj hv
    subst e
    exact ⟨by omega, by omega, c⟩
  · rw [if_neg c] at hv
    cases hv
theorem leadI_none {L : List (List Int)} {f at_ : Nat} (h : leadI L f at_ = none) : ∀ r ∈ L.drop f, r.getD at_ 0 = 0 := by
  intro r hr
  obtain ⟨i, hi, rfl⟩ := List.mem_iff_getElem.mp hr
  rw [List.length_drop] at hi
  rw [List.getElem_drop]
  unfold leadI at h
  have := List.findSome?_eq_none_iff.mp h i (List.mem_range.mpr hi)
  rw [getD_eq (show f + i < L.length by omega)] at this
  by_cases c : (L[f + i]).getD at_ 0 = 0
  · exact c
  · rw [if_pos c] at this
    cases this
theorem gstep_rws {p n at_ : Nat} (hp : 0 < p) {s : List (List Int) × Nat} (h : Rws p n s.1) : Rws p n (gstep p s at_).1 ∧ (gstep p s at_).1.length = s.1.length := by
  unfold gstep
  cases q : leadI s.1 s.2 at_ with
  | none => exact ⟨h, rfl⟩
  | some k =>
    obtain ⟨h1, h2, _⟩ := leadI_some q
    have hk := h _ (List.getElem_mem h2)
    have hl : (lead1 s.1 k at_ p).length = n ∧ ∀ x ∈ lead1 s.1 k at_ p, 0 ≤ x ∧ x < (p : Int) := by
      unfold lead1
      rw [getD_eq h2]
      refine ⟨by rw [List.length_map]; exact hk.1, fun x hx => ?_⟩
      obtain ⟨y, _, rfl⟩ := List.mem_map.mp hx
      exact mod_rng hp _
    have hsw : Rws p n (swp s.1 k s.2 at_ p) := fun r hr => by
      unfold swp at hr
      rcases List.mem_or_eq_of_mem_set hr with m | m
      · rcases List.mem_or_eq_of_mem_set m with m2 | m2
        · exact h r m2
        · rw [m2, getD_eq (show s.2 < s.1.length by omega)]
          exact h _ (List.getElem_mem _)
      · rw [m]
        exact hl
    have hlen : (swp s.1 k s.2 at_ p).length = s.1.length := by unfold swp; rw [List.length_set, List.length_set]
    refine ⟨fun r hr => ?_, ?_⟩
    · simp only at hr
      rcases List.mem_append.mp hr with m | m
      · exact hsw r (List.mem_of_mem_take m)
      · obtain ⟨r0, h0, rfl⟩ := List.mem_map.mp m
        exact clr_rw hp (hsw r0 (List.mem_of_mem_drop h0)).1 hl.1
    · simp only [List.length_append, List.length_take, List.length_map, List.length_drop, hlen]
      omega
theorem sat_map {p : Nat} {A : List (List Int)} {at_ : Nat} {j : Int} {d : Int → Int} : satF p (A.map (·.drop at_)) j d ↔ ∀ r ∈ A, (p : Int) ∣ dotF (r.drop at_) j d := by
  unfold satF
  constructor
  · intro h r hr
    exact h _ (List.mem_map.mpr ⟨r, hr, rfl⟩)
  · intro h r hr
    obtain ⟨r0, h0, rfl⟩ := List.mem_map.mp hr
    exact h r0 h0
/-- one step, and what it leaves -/
theorem gstep_count {p n at_ k0 : Nat} (hp : Prm p) {s : List (List Int) × Nat} (h : Rws p n s.1) (hn : at_ + (k0 + 1) = n) (c : Int → Int) :
    ((gstep p s at_).2 = s.2 ∧ (gstep p s at_).1 = s.1 ∧ NF p (lin (at_ : Int) (k0 + 1)) c (fun d => ind (satF p (Tl s.1 s.2 at_) at_ d)) = sumR p fun x => NF p (lin ((at_ : Int) + 1) k0) (up1 c at_ x) (fun d => ind (satF p (Tl s.1 s.2 (at_ + 1)) ((at_ : Int) + 1) d))) ∨
    ((gstep p s at_).2 = s.2 + 1 ∧ NF p (lin (at_ : Int) (k0 + 1)) c (fun d => ind (satF p (Tl s.1 s.2 at_) at_ d)) = NF p (lin ((at_ : Int) + 1) k0) c (fun d => ind (satF p (Tl (gstep p s at_).1 (gstep p s at_).2 (at_ + 1)) ((at_ : Int) + 1) d))) := by
  have hp0 : 0 < p := by have := prm_pos hp; omega
  unfold gstep
  cases q : leadI s.1 s.2 at_ with
  | none =>
    left
    refine ⟨rfl, rfl, ?_⟩
    have hz := leadI_none q
    rw [step_none (T := Tl s.1 s.2 at_) (fun r hr => ?_)]
    · refine sumR_congr fun x _ => NF_congr _ _ fun d _ _ => ?_
      unfold Tl
      rw [List.map_map]
      have e : ((fun x : List Int => x.drop 1) ∘ fun x : List Int => x.drop at_) = fun x : List Int => x.drop (at_ + 1) := by
        funext r
        simp [List.drop_drop]
      rw [e]
    · unfold Tl at hr
      obtain ⟨r0, h0, rfl⟩ := List.mem_map.mp hr
      have := hz r0 h0
      rw [drop_cons (by rw [(h r0 (List.mem_of_mem_drop h0)).1]; omega)]
      exact this
  | some k =>
    right
    refine ⟨rfl, ?_⟩
    obtain ⟨h1, h2, h3⟩ := leadI_some q
    have hk := h _ (List.getElem_mem h2)
    have hkl : (s.1.getD k []).length = n := by rw [getD_eq h2]; exact hk.1
    obtain ⟨a, ha⟩ : ∃ a, (s.1.getD k []).getD at_ 0 = a := ⟨_, rfl⟩
    have hain : 0 ≤ a ∧ a < (p : Int) := by
      rw [← ha, getD_eq (show at_ < (s.1.getD k []).length by omega)]
      have hm : (s.1.getD k [])[at_]'(by omega) ∈ s.1[k] := by
        have h9 : at_ < (s.1.getD k []).length := by omega
        have : (s.1.getD k [])[at_] ∈ s.1.getD k [] := List.getElem_mem h9
        have e9 : s.1[k] = s.1.getD k [] := (getD_eq h2).symm
        rw [e9]
        exact this
      exact hk.2 _ hm
    rw [ha] at h3
    have hov := over_ok hp hain.1 hain.2 h3
    obtain ⟨t, ht⟩ : ∃ t, overI a p = t := ⟨_, rfl⟩
    rw [ht] at hov
    obtain ⟨ld, hld⟩ : ∃ ld, lead1 s.1 k at_ p = ld := ⟨_, rfl⟩
    have hld2 : ld = (s.1.getD k []).map fun x => x * t % (p : Int) := by rw [← hld]; unfold lead1; rw [ha, ht]
    have hldl : ld.length = n := by rw [hld2, List.length_map, hkl]
    have hlda : ld.getD at_ 0 = 1 := by
      rw [getD_eq (by omega)]
      simp only [hld2]
      rw [List.getElem_map, ← getD_eq (d := 0), ha]
      exact hov
    have hldd : ld.drop at_ = 1 :: ld.drop (at_ + 1) := by rw [drop_cons (by omega), hlda]
    obtain ⟨B, hB⟩ : ∃ B, (swp s.1 k s.2 at_ p).drop (s.2 + 1) = B := ⟨_, rfl⟩
    have hBl : ∀ r ∈ B, r.length = n := fun r hr => by
      rw [← hB] at hr
      have hr2 := List.mem_of_mem_drop hr
      unfold swp at hr2
      rcases List.mem_or_eq_of_mem_set hr2 with m | m
      · rcases List.mem_or_eq_of_mem_set m with m2 | m2
        · exact (h r m2).1
        · rw [m2, getD_eq (show s.2 < s.1.length by omega)]
          exact (h _ (List.getElem_mem _)).1
      · rw [m, hld]
        exact hldl
    have hdl : (swp s.1 k s.2 at_ p).length = s.1.length := by unfold swp; rw [List.length_set, List.length_set]
    have e1 : Tl ((swp s.1 k s.2 at_ p).take (s.2 + 1) ++ B.map (fun r => clr r ld at_ p)) (s.2 + 1) (at_ + 1) = ((B.map fun r => (clr r ld at_ p).drop at_).map (·.drop 1)) := by
      unfold Tl
      rw [List.drop_append_of_le_length (by rw [List.length_take]; omega), List.drop_of_length_le (by rw [List.length_take]; omega), List.nil_append, List.map_map, List.map_map]
      apply List.map_congr_left
      intro r _
      simp [List.drop_drop]
    simp only
    rw [hB, hld, e1]
    refine step_lead hp0 (l := ld.drop (at_ + 1)) (fun r hr => ?_) (fun d => ?_)
    · obtain ⟨r0, h0, rfl⟩ := List.mem_map.mp hr
      have hl0 := hBl r0 h0
      have hc := (clr_rw hp0 (at_ := at_) hl0 hldl).1
      rw [drop_cons (by omega)]
      show (clr r0 ld at_ p).getD at_ 0 = 0
      rw [getD_eq (by omega)]
      unfold clr
      rw [List.getElem_zipWith, ← getD_eq (d := 0) (xs := ld), hlda, Int.mul_one, ← getD_eq (d := 0) (xs := r0), Int.sub_self]
      rfl
    · rw [← hldd]
      unfold Tl
      rw [sat_map, swp_mem (at_ := at_) (p := p) h1 h2, hB]
      have eld : ((p : Int) ∣ dotF ((s.1.getD k []).drop at_) at_ d) ↔ (p : Int) ∣ dotF (ld.drop at_) at_ d := by
        rw [hld2, ← List.map_drop]
        obtain ⟨w, hw⟩ := dot_scale (p := p) (t := t) (c := d) ((s.1.getD k []).drop at_) (at_ : Int)
        rw [hw]
        generalize dotF ((s.1.getD k []).drop at_) at_ d = y
        constructor
        · rintro ⟨z, rfl⟩
          refine ⟨t * z + w, ?_⟩
          rw [Int.mul_add, ← Int.mul_assoc, ← Int.mul_assoc, Int.mul_comm t]
        · rintro ⟨z, hz⟩
          have e2 : a * t = 1 + p * (a * t / p) := by
            have := Int.emod_def (a * t) p
            rw [hov] at this
            omega
          refine ⟨a * z - a * w - (a * t / p) * y, ?_⟩
          have e3 : y = a * t * y - p * (a * t / p) * y := by
            rw [e2]
            have e4 : (1 + (p : Int) * (a * t / p)) / p = a * t / p := by rw [← e2]
            rw [e4, Int.add_mul, Int.one_mul]
            omega
          have e5 : a * (t * y) + a * (p * w) = a * (p * z) := by rw [← Int.mul_add, hz]
          rw [Int.mul_sub, Int.mul_sub]
          have e6 : a * t * y = a * (t * y) := Int.mul_assoc ..
          have e7 : (p : Int) * (a * z) = a * (p * z) := by rw [← Int.mul_assoc, ← Int.mul_assoc, Int.mul_comm (p : Int)]
          have e8 : (p : Int) * (a * w) = a * (p * w) := by rw [← Int.mul_assoc, ← Int.mul_assoc, Int.mul_comm (p : Int)]
          have e9 : (p : Int) * (a * t / p * y) = p * (a * t / p) * y := (Int.mul_assoc ..).symm
          rw [e7, e8, e9]
          omega
      rw [eld]
      refine and_congr_right fun hl => ?_
      unfold satF
      have eB : ∀ r ∈ B, ((p : Int) ∣ dotF (r.drop at_) at_ d ↔ (p : Int) ∣ dotF ((clr r ld at_ p).drop at_) at_ d) := fun r hr => by
        unfold clr
        rw [List.drop_zipWith]
        obtain ⟨w, hw⟩ := dot_clear (p := p) (t := r.getD at_ 0) (c := d) (r.drop at_) (ld.drop at_) (at_ : Int) (by rw [List.length_drop, List.length_drop, hBl r hr, hldl])
        rw [hw]
        obtain ⟨z, hz⟩ := hl
        rw [hz]
        generalize dotF (r.drop at_) at_ d = y
        generalize r.getD at_ 0 = u
        have e2 : y - u * (p * z) + p * w = y + p * (w - u * z) := by
          rw [Int.mul_sub, ← Int.mul_assoc u, Int.mul_comm u, Int.mul_assoc (p : Int) u z]
          omega
        rw [e2]
        constructor
        · rintro ⟨v, rfl⟩
          exact ⟨v + (w - u * z), by rw [Int.mul_add]⟩
        · rintro ⟨v, hv⟩
          exact ⟨v - (w - u * z), by rw [Int.mul_sub]; omega⟩
      constructor
      · intro hs r hr
        obtain ⟨r0, h0, rfl⟩ := List.mem_map.mp hr
        exact (eB r0 h0).mp (hs r0 h0)
      · intro hs r hr
        exact (eB r hr).mpr (hs _ (List.mem_map.mpr ⟨r, hr, rfl⟩))
/-- the whole elimination -/
theorem gauss {p n : Nat} (hp : Prm p) : ∀ (k at_ : Nat) (s : List (List Int) × Nat) (c : Int → Int), Rws p n s.1 → at_ + k = n →
    s.2 ≤ ((List.range' at_ k).foldl (gstep p) s).2 ∧ NF p (lin (at_ : Int) k) c (fun d => ind (satF p (Tl s.1 s.2 at_) at_ d)) * p ^ (((List.range' at_ k).foldl (gstep p) s).2 - s.2) = p ^ k
  | 0, at_, s, c, h, hn => by
    refine ⟨Nat.le_refl _, ?_⟩
    show ind (satF p (Tl s.1 s.2 at_) at_ c) * p ^ (s.2 - s.2) = 1
    rw [Nat.sub_self, Nat.pow_zero, Nat.mul_one]
    refine ind_pos fun r hr => ?_
    unfold Tl at hr
    obtain ⟨r0, h0, rfl⟩ := List.mem_map.mp hr
    have := (h r0 (List.mem_of_mem_drop h0)).1
    rw [List.drop_of_length_le (by omega)]
    exact ⟨0, by simp [dotF]⟩
  | k + 1, at_, s, c, h, hn => by
    have hp0 : 0 < p := by have := prm_pos hp; omega
    rw [List.range'_succ, List.foldl_cons]
    obtain ⟨g1, g2⟩ := gstep_rws (at_ := at_) hp0 h
    rcases gstep_count (c := c) hp h hn with ⟨q1, q2, q3⟩ | ⟨q1, q2⟩
    · have eg : gstep p s at_ = s := Prod.ext q2 q1
      rw [eg]
      obtain ⟨i1, _⟩ := gauss hp k (at_ + 1) s c h (by omega)
      refine ⟨i1, ?_⟩
      rw [q3, ← sumR_mul]
      have : ∀ x, x < p → NF p (lin ((at_ : Int) + 1) k) (up1 c at_ x) (fun d => ind (satF p (Tl s.1 s.2 (at_ + 1)) ((at_ : Int) + 1) d)) * p ^ (((List.range' (at_ + 1) k).foldl (gstep p) s).2 - s.2) = p ^ k := fun x _ => (gauss hp k (at_ + 1) s (up1 c at_ x) h (by omega)).2
      rw [sumR_congr this, sumR_const, Nat.pow_succ, Nat.mul_comm]
    · obtain ⟨i1, i2⟩ := gauss hp k (at_ + 1) (gstep p s at_) c g1 (by omega)
      rw [q1] at i1 i2
      refine ⟨by omega, ?_⟩
      rw [q2, q1]
      have e : ((List.range' (at_ + 1) k).foldl (gstep p) (gstep p s at_)).2 - s.2 = (((List.range' (at_ + 1) k).foldl (gstep p) (gstep p s at_)).2 - (s.2 + 1)) + 1 := by omega
      rw [e, Nat.pow_succ, ← Nat.mul_assoc]
      have i3 : NF p (lin ((at_ : Int) + 1) k) c (fun d => ind (satF p (Tl (gstep p s at_).1 (s.2 + 1) (at_ + 1)) ((at_ : Int) + 1) d)) * p ^ (((List.range' (at_ + 1) k).foldl (gstep p) (gstep p s at_)).2 - (s.2 + 1)) = p ^ k := i2
      rw [i3, Nat.pow_succ]
/-- so many ways -/
theorem rank_count {p n : Nat} (hp : Prm p) {L : List (List Int)} (h : Rws p n L) (c : Int → Int) : ((List.range n).foldl (gstep p) (L, 0)).2 ≤ n ∧ NF p (lin 0 n) c (fun d => ind (satF p L 0 d)) = p ^ (n - ((List.range n).foldl (gstep p) (L, 0)).2) := by
  obtain ⟨_, g⟩ := gauss hp n 0 (L, 0) c h (by omega)
  rw [← List.range_eq_range'] at g
  have e : Tl L 0 0 = L := by unfold Tl; simp
  simp only [e] at g
  rw [Nat.sub_zero] at g
  have hp2 := (prm_pos hp).1
  have hle : ((List.range n).foldl (gstep p) (L, 0)).2 ≤ n := by
    apply Classical.byContradiction
    intro hc
    have hd : p ^ ((List.range n).foldl (gstep p) (L, 0)).2 ∣ p ^ n := ⟨_, by rw [Nat.mul_comm]; exact g.symm⟩
    have := (Nat.pow_dvd_pow_iff_le_right hp2).mp hd
    omega
  refine ⟨hle, ?_⟩
  have hpos : 0 < p ^ ((List.range n).foldl (gstep p) (L, 0)).2 := Nat.pow_pos (by omega)
  apply Nat.eq_of_mul_eq_mul_right hpos
  rw [← Nat.pow_add, Nat.sub_add_cancel hle]
  exact g
end DL
set_option maxRecDepth 100000
/-! MA3: the program's elimination, walked -/
namespace DL
open PySem (Str)
abbrev encLR (L : List (List Int)) : List D := L.map fun r => .lst (encI r)
def putP (p : Nat) (row : List Int) (q : Int × Int) : List Int := row.set q.1.toNat ((row.getD q.1.toNat 0 + q.2) % (p : Int))
def rowOf (n : Nat) (parts : List (Int × Int)) (p : Nat) : List Int := parts.foldl (putP p) (List.replicate n 0)
theorem putP_len (p : Nat) : ∀ (parts : List (Int × Int)) (row : List Int), (parts.foldl (putP p) row).length = row.length
  | [], _ => rfl
  | q :: parts, row => by
    rw [List.foldl_cons, putP_len p parts]
    unfold putP
    rw [List.length_set]
theorem at_int {r : List Int} {i : Nat} (h : i < r.length) : atD (encI r) (i : Int) = some (.int (r.getD i 0)) := by
  rw [atD_nat, List.getElem?_map, List.getElem?_eq_getElem h, getD_eq h]
  rfl
theorem at_row {L : List (List Int)} {i : Nat} (h : i < L.length) : atD (encLR L) (i : Int) = some (.lst (encI (L.getD i []))) := by
  rw [atD_nat, List.getElem?_map, List.getElem?_eq_getElem h, getD_eq h]
  rfl
theorem row_of_ok {n p : Nat} {parts : List (Int × Int)} (hn : n ≤ 1000) (hp : 0 < p) (h : ∀ q ∈ parts, 0 ≤ q.1 ∧ q.1 < n) : f_row_of [.int (n : Int), .lst (parts.map encP), .int (p : Int)] = .ok (.ow (.lst (encI (rowOf n parts p)))) := by
  unfold f_row_of F_row_of
  rw [fn_eq [.va (.int (n : Int)), .va (.lst (parts.map encP)), .va (.int (p : Int)), .no, .no, .no] rfl]
  have hrg := range_nat (n := n) (by omega)
  have hc := lcm (it := iRange1 (eVar 0)) (j := 5) (own := [5]) (el := eC (.int 0)) (e := [.va (.int (n : Int)), .va (.lst (parts.map encP)), .va (.int (p : Int)), .no, .no, .no]) (enc := fun k : Nat => D.int (k : Int)) (fun _ => .int 0) (List.range n)
    (by rw [← rng_eq]; simp only [ev_seq, ev_set, ev_op1, ev_op2, ev_call, ev_cons, ev_nil, ev_c, ev_var, ev_tup, ev_lst, ev_cb, ev_fz, ev_lend, ev_and, ev_or, ev_not, ev_chain, ev_if, ev_bm, ev_get2, ev_ixO, ev_sl, ev_some, ev_none, ev_tval, ev_tand, ev_tor, ev_tnot, ev_irange1, ev_irange2, ev_sif, ev_next, ev_ret, ev_retO, ev_raise, ev_app, ev_put, ev_dput, ev_for, ev_while, ev_pub, pub_cons, pub_nil, ev_drop, ev_dnew, res_nx, res_rt, res_xc, R.bind_ok, R.bind_xc, R.out_ok, R.out_xc, Out.bind_nx, Out.bind_rt, Out.bind_xc, Sl.d_va, Sl.d_ow, Sl.frz_va, Sl.frz_ow, Sl.frz_no, List.getElem?_cons_succ, List.getElem?_cons_zero, List.set_cons_succ, List.set_cons_zero, List.length_cons, List.length_nil, List.map_cons, List.map_nil, lim_val, Nat.zero_le, Nat.reduceAdd, Nat.reduceLeDiff, Nat.reduceEqDiff, reduceIte, Nat.zero_add, if_true, if_false, Bool.false_eq_true, Bool.not_true, Bool.not_false, decide_true, decide_false, o_add, o_sub, o_neg, o_lt, o_le, o_gt, o_ge, o_eq, o_ne, o_isN, o_notN, isNon_non, isNon_int, isNon_tup, isNon_lst, o_idxL, o_idxT, o_lenL, o_lenT, o_lenS, o_listL, o_listT, o_tupleL, o_tupleT, o_int, o_intb, o_max2, o_min2, o_slL, o_slT, atD_0, atD_1, atD_2, atD_3, atD_4, atD_5, range_4, range_3, range_2, hrg]) (by rw [List.length_range]; omega) (fun k _ => rfl)
  have hz : (List.range n).map (fun _ => D.int 0) = encI (List.replicate n 0) := by
    unfold encI
    rw [List.map_const', List.length_range, List.map_replicate]
  rw [hz] at hc
  have L := forD_fold (j := 4) (b := B_row_of_1) (enc := encP) (fun (row : List Int) e => row.length = n ∧ ∃ a, e = [.va (.int (n : Int)), .va (.lst (parts.map encP)), .va (.int (p : Int)), .ow (.lst (encI row)), a, .no]) (putP p) parts (List.replicate n 0)
    [.va (.int (n : Int)), .va (.lst (parts.map encP)), .va (.int (p : Int)), .ow (.lst (encI (List.replicate n 0))), .no, .no] ⟨List.length_replicate, _, rfl⟩
    (fun i q e hx he => by
      obtain ⟨hl, a, rfl⟩ := he
      obtain ⟨q0, q1⟩ := h q (List.mem_of_getElem? hx)
      generalize ((parts.take i).foldl (putP p) (List.replicate n 0)) = row at *
      obtain ⟨x, y⟩ := q
      obtain ⟨z, hz⟩ : ∃ z : Nat, x = (z : Int) := ⟨x.toNat, by simp only at q0; omega⟩
      subst hz
      simp only at q0 q1
      have hat := at_int (r := row) (i := z) (by omega)
      have hmod : dMod (.int (row.getD z 0 + y)) (.int (p : Int)) = .ok (.va (.int ((row.getD z 0 + y) % (p : Int)))) := o_mod (by omega)
      have hin : 0 ≤ (z : Int) ∧ (z : Int) < ((encI row).length : Int) := by rw [List.length_map]; omega
      refine ⟨_, ?_, ⟨?_, .va (encP ((z : Int), y)), rfl⟩⟩
      · unfold B_row_of_1
        simp only [ev_seq, ev_set, ev_op1, ev_op2, ev_call, ev_cons, ev_nil, ev_c, ev_var, ev_tup, ev_lst, ev_cb, ev_fz, ev_lend, ev_and, ev_or, ev_not, ev_chain, ev_if, ev_bm, ev_get2, ev_ixO, ev_sl, ev_some, ev_none, ev_tval, ev_tand, ev_tor, ev_tnot, ev_irange1, ev_irange2, ev_sif, ev_next, ev_ret, ev_retO, ev_raise, ev_app, ev_put, ev_dput, ev_for, ev_while, ev_pub, pub_cons, pub_nil, ev_drop, ev_dnew, res_nx, res_rt, res_xc, R.bind_ok, R.bind_xc, R.out_ok, R.out_xc, Out.bind_nx, Out.bind_rt, Out.bind_xc, Sl.d_va, Sl.d_ow, Sl.frz_va, Sl.frz_ow, Sl.frz_no, List.getElem?_cons_succ, List.getElem?_cons_zero, List.set_cons_succ, List.set_cons_zero, List.length_cons, List.length_nil, List.map_cons, List.map_nil, lim_val, Nat.zero_le, Nat.reduceAdd, Nat.reduceLeDiff, Nat.reduceEqDiff, reduceIte, Nat.zero_add, if_true, if_false, Bool.false_eq_true, Bool.not_true, Bool.not_false, decide_true, decide_false, o_add, o_sub, o_neg, o_lt, o_le, o_gt, o_ge, o_eq, o_ne, o_isN, o_notN, isNon_non, isNon_int, isNon_tup, isNon_lst, o_idxL, o_idxT, o_lenL, o_lenT, o_lenS, o_listL, o_listT, o_tupleL, o_tupleT, o_int, o_intb, o_max2, o_min2, o_slL, o_slT, atD_0, atD_1, atD_2, atD_3, atD_4, atD_5, range_4, range_3, range_2, hat, hmod, hin, and_self, encI_set, putP, Int.toNat_natCast]
      · unfold putP
        rw [List.length_set, hl])
  obtain ⟨e, hw, _, a, rfl⟩ := L
  simp only [ev_seq, ev_set, ev_op1, ev_op2, ev_call, ev_cons, ev_nil, ev_c, ev_var, ev_tup, ev_lst, ev_cb, ev_fz, ev_lend, ev_and, ev_or, ev_not, ev_chain, ev_if, ev_bm, ev_get2, ev_ixO, ev_sl, ev_some, ev_none, ev_tval, ev_tand, ev_tor, ev_tnot, ev_irange1, ev_irange2, ev_sif, ev_next, ev_ret, ev_retO, ev_raise, ev_app, ev_put, ev_dput, ev_for, ev_while, ev_pub, pub_cons, pub_nil, ev_drop, ev_dnew, res_nx, res_rt, res_xc, R.bind_ok, R.bind_xc, R.out_ok, R.out_xc, Out.bind_nx, Out.bind_rt, Out.bind_xc, Sl.d_va, Sl.d_ow, Sl.frz_va, Sl.frz_ow, Sl.frz_no, List.getElem?_cons_succ, List.getElem?_cons_zero, List.set_cons_succ, List.set_cons_zero, List.length_cons, List.length_nil, List.map_cons, List.map_nil, lim_val, Nat.zero_le, Nat.reduceAdd, Nat.reduceLeDiff, Nat.reduceEqDiff, reduceIte, Nat.zero_add, if_true, if_false, Bool.false_eq_true, Bool.not_true, Bool.not_false, decide_true, decide_false, o_add, o_sub, o_neg, o_lt, o_le, o_gt, o_ge, o_eq, o_ne, o_isN, o_notN, isNon_non, isNon_int, isNon_tup, isNon_lst, o_idxL, o_idxT, o_lenL, o_lenT, o_lenS, o_listL, o_listT, o_tupleL, o_tupleT, o_int, o_intb, o_max2, o_min2, o_slL, o_slT, atD_0, atD_1, atD_2, atD_3, atD_4, atD_5, range_4, range_3, range_2, hc, ev_iseq, hw]
  rfl
def eq2 (n p : Nat) (r : List Int) : List (List Int) := [rowOf n [(r.getD 1 0, 1), (r.getD 3 0, -1)] p, rowOf n [(r.getD 1 0, 2), (r.getD 0 0, -1), (r.getD 2 0, -1)] p]
def eqs (n p : Nat) (rs : List (List Int)) : List (List Int) := rs.flatMap (eq2 n p)
theorem drawn_mem {m : Nat} {rs : List (List Int)} (h : Drawn m rs) {x : Int} (hx : x ∈ rs.flatten) : 0 ≤ x ∧ x < 2 * (m : Int) := by
  have h1 := List.count_pos_iff.mpr hx
  rw [h.two] at h1
  by_cases c : 0 ≤ x ∧ x < 2 * (m : Int)
  · exact c
  · rw [if_neg c] at h1
    omega
theorem equations_ok {m p : Nat} {rs : List (List Int)} {rings : Int} (h : Drawn m rs) (hm : m ≤ 100) (hp : 0 < p) : f_equations [encS rs rings, .int (p : Int)] = .ok (.ow (.lst (encLR (eqs (2 * m) p rs)))) := by
  unfold f_equations F_equations
  rw [fn_eq [.va (encS rs rings), .va (.int (p : Int)), .no, .no, .no] rfl]
  have hlen : (encRs rs).length = m := by rw [List.length_map, h.len]
  have dm : dMul (.int 2) (.int m) = .ok (.va (.int ((2 * m : Nat) : Int))) := o_mulL (by decide) (by decide)
  have L := forD_fold (j := 4) (b := B_equations_1) (enc := encR) (fun (T : List (List Int)) e => T.length ≤ 2 * m ∧ ∃ a, e = [.va (encS rs rings), .va (.int (p : Int)), .va (.int ((2 * m : Nat) : Int)), .ow (.lst (encLR T)), a]) (fun T r => T ++ eq2 (2 * m) p r) rs []
    [.va (encS rs rings), .va (.int (p : Int)), .va (.int ((2 * m : Nat) : Int)), .ow (.lst []), .no] ⟨by simp, _, rfl⟩
    (fun i r e hx he => by
      obtain ⟨hl, a, rfl⟩ := he
      have hmem := List.mem_of_getElem? hx
      have hi := (List.getElem?_eq_some_iff.mp hx).1
      rw [foldl_append] at hl ⊢
      rw [List.nil_append] at hl ⊢
      have hTl : ((rs.take i).flatMap (eq2 (2 * m) p)).length = 2 * i := by
        have e2 : ((rs.take i).map fun a => (eq2 (2 * m) p a).length) = (rs.take i).map fun _ => 2 := rfl
        rw [List.length_flatMap, e2, List.map_const', List.sum_replicate_nat, List.length_take]
        omega
      generalize (rs.take i).flatMap (eq2 (2 * m) p) = T at *
      have hin : ∀ x ∈ r, 0 ≤ x ∧ x < ((2 * m : Nat) : Int) := fun x hx => by
        have := drawn_mem h (List.mem_flatten.mpr ⟨r, hmem, hx⟩)
        omega
      obtain ⟨b0, b1, b2, b3, rfl⟩ := four_of (h.four r hmem)
      have g1 := row_of_ok (n := 2 * m) (p := p) (parts := [(b1, 1), (b3, -1)]) (by omega) hp (fun q hq => by
        simp only [List.mem_cons, List.not_mem_nil, or_false] at hq
        rcases hq with rfl | rfl
        · exact hin b1 (by simp)
        · exact hin b3 (by simp))
      have g2 := row_of_ok (n := 2 * m) (p := p) (parts := [(b1, 2), (b0, -1), (b2, -1)]) (by omega) hp (fun q hq => by
        simp only [List.mem_cons, List.not_mem_nil, or_false] at hq
        rcases hq with rfl | rfl | rfl
        · exact hin b1 (by simp)
        · exact hin b0 (by simp)
        · exact hin b2 (by simp))
      simp only [List.map_cons, List.map_nil] at g1 g2
      have hl1 : T.length < 1000000 := by omega
      have hl2 : T.length + 1 < 1000000 := by omega
      rw [h.len] at hi
      refine ⟨_, ?_, ⟨?_, .va (encR [b0, b1, b2, b3]), rfl⟩⟩
      · unfold B_equations_1
        have a0 : atD (encI [b0, b1, b2, b3]) 0 = some (.int b0) := rfl
        have a1 : atD (encI [b0, b1, b2, b3]) 1 = some (.int b1) := rfl
        have a2 : atD (encI [b0, b1, b2, b3]) 2 = some (.int b2) := rfl
        have a3 : atD (encI [b0, b1, b2, b3]) 3 = some (.int b3) := rfl
        simp only [ev_seq, ev_set, ev_op1, ev_op2, ev_call, ev_cons, ev_nil, ev_c, ev_var, ev_tup, ev_lst, ev_cb, ev_fz, ev_lend, ev_and, ev_or, ev_not, ev_chain, ev_if, ev_bm, ev_get2, ev_ixO, ev_sl, ev_some, ev_none, ev_tval, ev_tand, ev_tor, ev_tnot, ev_irange1, ev_irange2, ev_sif, ev_next, ev_ret, ev_retO, ev_raise, ev_app, ev_put, ev_dput, ev_for, ev_while, ev_pub, pub_cons, pub_nil, ev_drop, ev_dnew, res_nx, res_rt, res_xc, R.bind_ok, R.bind_xc, R.out_ok, R.out_xc, Out.bind_nx, Out.bind_rt, Out.bind_xc, Sl.d_va, Sl.d_ow, Sl.frz_va, Sl.frz_ow, Sl.frz_no, List.getElem?_cons_succ, List.getElem?_cons_zero, List.set_cons_succ, List.set_cons_zero, List.length_cons, List.length_nil, List.map_cons, List.map_nil, lim_val, Nat.zero_le, Nat.reduceAdd, Nat.reduceLeDiff, Nat.reduceEqDiff, reduceIte, Nat.zero_add, if_true, if_false, Bool.false_eq_true, Bool.not_true, Bool.not_false, decide_true, decide_false, o_add, o_sub, o_neg, o_lt, o_le, o_gt, o_ge, o_eq, o_ne, o_isN, o_notN, isNon_non, isNon_int, isNon_tup, isNon_lst, o_idxL, o_idxT, o_lenL, o_lenT, o_lenS, o_listL, o_listT, o_tupleL, o_tupleT, o_int, o_intb, o_max2, o_min2, o_slL, o_slT, atD_0, atD_1, atD_2, atD_3, atD_4, atD_5, range_4, range_3, range_2, ev_op1, g1, g2, List.length_map, hl1, List.length_append, hl2]
        simp only [encLR, eq2, List.map_append, List.map_cons, List.map_nil, List.append_assoc, List.cons_append, List.nil_append]
        rfl
      · rw [List.length_append, hTl]
        show 2 * i + 2 ≤ 2 * m
        omega)
  obtain ⟨e, hw, _, a, rfl⟩ := L
  rw [foldl_append, List.nil_append] at hw
  simp only [ev_seq, ev_set, ev_op1, ev_op2, ev_call, ev_cons, ev_nil, ev_c, ev_var, ev_tup, ev_lst, ev_cb, ev_fz, ev_lend, ev_and, ev_or, ev_not, ev_chain, ev_if, ev_bm, ev_get2, ev_ixO, ev_sl, ev_some, ev_none, ev_tval, ev_tand, ev_tor, ev_tnot, ev_irange1, ev_irange2, ev_sif, ev_next, ev_ret, ev_retO, ev_raise, ev_app, ev_put, ev_dput, ev_for, ev_while, ev_pub, pub_cons, pub_nil, ev_drop, ev_dnew, res_nx, res_rt, res_xc, R.bind_ok, R.bind_xc, R.out_ok, R.out_xc, Out.bind_nx, Out.bind_rt, Out.bind_xc, Sl.d_va, Sl.d_ow, Sl.frz_va, Sl.frz_ow, Sl.frz_no, List.getElem?_cons_succ, List.getElem?_cons_zero, List.set_cons_succ, List.set_cons_zero, List.length_cons, List.length_nil, List.map_cons, List.map_nil, lim_val, Nat.zero_le, Nat.reduceAdd, Nat.reduceLeDiff, Nat.reduceEqDiff, reduceIte, Nat.zero_add, if_true, if_false, Bool.false_eq_true, Bool.not_true, Bool.not_false, decide_true, decide_false, o_add, o_sub, o_neg, o_lt, o_le, o_gt, o_ge, o_eq, o_ne, o_isN, o_notN, isNon_non, isNon_int, isNon_tup, isNon_lst, o_idxL, o_idxT, o_lenL, o_lenT, o_lenS, o_listL, o_listT, o_tupleL, o_tupleT, o_int, o_intb, o_max2, o_min2, o_slL, o_slT, atD_0, atD_1, atD_2, atD_3, atD_4, atD_5, range_4, range_3, range_2, hlen, dm, ev_iseq, hw]
  rfl
theorem lead_of_ok {n f at_ : Nat} {L : List (List Int)} (hl : L.length ≤ 1000) (hf : f ≤ L.length) (hat : at_ < n) (h : ∀ r ∈ L, r.length = n) : f_lead_of [.lst (encLR L), .int (f : Int), .int (at_ : Int)] = .ok (.va (match leadI L f at_ with
    | some k => .int (k : Int)
    | none => .non)) := by
  unfold f_lead_of F_lead_of
  rw [fn_eq [.va (.lst (encLR L)), .va (.int (f : Int)), .va (.int (at_ : Int)), .no] rfl]
  have hlen : (encLR L).length = L.length := List.length_map ..
  have W := forD_ret (j := 3) (b := B_lead_of_1) (enc := fun i : Nat => D.int ((f : Int) + (i : Int))) (fun e => ∃ a, e = [.va (.lst (encLR L)), .va (.int (f : Int)), .va (.int (at_ : Int)), a]) (fun i => if (L.getD (f + i) []).getD at_ 0 ≠ 0 then some (Sl.va (.int ((f + i : Nat) : Int))) else none) (List.range (L.length - f)) [.va (.lst (encLR L)), .va (.int (f : Int)), .va (.int (at_ : Int)), .no] ⟨_, rfl⟩
    (fun i e hi ⟨a, he⟩ => by
      subst he
      have hi2 := List.mem_range.mp hi
      have hk : f + i < L.length := by omega
      have e1 : (f : Int) + (i : Int) = ((f + i : Nat) : Int) := by omega
      have a1 := at_row hk
      have a2 := at_int (r := L.getD (f + i) []) (i := at_) (by rw [getD_eq hk, h _ (List.getElem_mem hk)]; exact hat)
      rw [e1]
      unfold B_lead_of_1
      by_cases c : (L.getD (f + i) []).getD at_ 0 = 0
      · rw [if_neg (fun z => z c)]
        rw [c] at a2
        exact ⟨_, by simp only [ev_seq, ev_set, ev_op1, ev_op2, ev_call, ev_cons, ev_nil, ev_c, ev_var, ev_tup, ev_lst, ev_cb, ev_fz, ev_lend, ev_and, ev_or, ev_not, ev_chain, ev_if, ev_bm, ev_get2, ev_ixO, ev_sl, ev_some, ev_none, ev_tval, ev_tand, ev_tor, ev_tnot, ev_irange1, ev_irange2, ev_sif, ev_next, ev_ret, ev_retO, ev_raise, ev_app, ev_put, ev_dput, ev_for, ev_while, ev_pub, pub_cons, pub_nil, ev_drop, ev_dnew, res_nx, res_rt, res_xc, R.bind_ok, R.bind_xc, R.out_ok, R.out_xc, Out.bind_nx, Out.bind_rt, Out.bind_xc, Sl.d_va, Sl.d_ow, Sl.frz_va, Sl.frz_ow, Sl.frz_no, List.getElem?_cons_succ, List.getElem?_cons_zero, List.set_cons_succ, List.set_cons_zero, List.length_cons, List.length_nil, List.map_cons, List.map_nil, lim_val, Nat.zero_le, Nat.reduceAdd, Nat.reduceLeDiff, Nat.reduceEqDiff, reduceIte, Nat.zero_add, if_true, if_false, Bool.false_eq_true, Bool.not_true, Bool.not_false, decide_true, decide_false, o_add, o_sub, o_neg, o_lt, o_le, o_gt, o_ge, o_eq, o_ne, o_isN, o_notN, isNon_non, isNon_int, isNon_tup, isNon_lst, o_idxL, o_idxT, o_lenL, o_lenT, o_lenS, o_listL, o_listT, o_tupleL, o_tupleT, o_int, o_intb, o_max2, o_min2, o_slL, o_slT, atD_0, atD_1, atD_2, atD_3, atD_4, atD_5, range_4, range_3, range_2, a1, a2], .va (.int ((f + i : Nat) : Int)), rfl⟩
      · rw [if_pos c]
        simp only [ev_seq, ev_set, ev_op1, ev_op2, ev_call, ev_cons, ev_nil, ev_c, ev_var, ev_tup, ev_lst, ev_cb, ev_fz, ev_lend, ev_and, ev_or, ev_not, ev_chain, ev_if, ev_bm, ev_get2, ev_ixO, ev_sl, ev_some, ev_none, ev_tval, ev_tand, ev_tor, ev_tnot, ev_irange1, ev_irange2, ev_sif, ev_next, ev_ret, ev_retO, ev_raise, ev_app, ev_put, ev_dput, ev_for, ev_while, ev_pub, pub_cons, pub_nil, ev_drop, ev_dnew, res_nx, res_rt, res_xc, R.bind_ok, R.bind_xc, R.out_ok, R.out_xc, Out.bind_nx, Out.bind_rt, Out.bind_xc, Sl.d_va, Sl.d_ow, Sl.frz_va, Sl.frz_ow, Sl.frz_no, List.getElem?_cons_succ, List.getElem?_cons_zero, List.set_cons_succ, List.set_cons_zero, List.length_cons, List.length_nil, List.map_cons, List.map_nil, lim_val, Nat.zero_le, Nat.reduceAdd, Nat.reduceLeDiff, Nat.reduceEqDiff, reduceIte, Nat.zero_add, if_true, if_false, Bool.false_eq_true, Bool.not_true, Bool.not_false, decide_true, decide_false, o_add, o_sub, o_neg, o_lt, o_le, o_gt, o_ge, o_eq, o_ne, o_isN, o_notN, isNon_non, isNon_int, isNon_tup, isNon_lst, o_idxL, o_idxT, o_lenL, o_lenT, o_lenS, o_listL, o_listT, o_tupleL, o_tupleT, o_int, o_intb, o_max2, o_min2, o_slL, o_slT, atD_0, atD_1, atD_2, atD_3, atD_4, atD_5, range_4, range_3, range_2, a1, a2, c])
  have hr2 : range2D (.int (f : Int)) (.int (L.length : Int)) = .ok (rng (f : Int) (L.length - f)) := by
    have e1 : ((L.length : Int) - (f : Int)).toNat = L.length - f := by omega
    rw [range2_ok (by omega) (by omega) (by omega) (by omega), e1]
  rw [← rng_eq'] at W
  have hfm : (List.range (L.length - f)).findSome? (fun i => if (L.getD (f + i) []).getD at_ 0 ≠ 0 then some (Sl.va (.int ((f + i : Nat) : Int))) else none) = (leadI L f at_).map fun (k : Nat) => Sl.va (.int (k : Int)) := by
    unfold leadI
    generalize List.range (L.length - f) = l
    induction l with
    | nil => rfl
    | cons x l ih =>
      rw [List.findSome?_cons, List.findSome?_cons]
      by_cases c : (L.getD (f + x) []).getD at_ 0 ≠ 0
      · rw [if_pos c, if_pos c]; rfl
      · rw [if_neg c, if_neg c]; exact ih
  rw [hfm] at W
  cases q : leadI L f at_ with
  | some k =>
    rw [q, Option.map_some] at W
    simp only at W
    simp only [ev_seq, ev_set, ev_op1, ev_op2, ev_call, ev_cons, ev_nil, ev_c, ev_var, ev_tup, ev_lst, ev_cb, ev_fz, ev_lend, ev_and, ev_or, ev_not, ev_chain, ev_if, ev_bm, ev_get2, ev_ixO, ev_sl, ev_some, ev_none, ev_tval, ev_tand, ev_tor, ev_tnot, ev_irange1, ev_irange2, ev_sif, ev_next, ev_ret, ev_retO, ev_raise, ev_app, ev_put, ev_dput, ev_for, ev_while, ev_pub, pub_cons, pub_nil, ev_drop, ev_dnew, res_nx, res_rt, res_xc, R.bind_ok, R.bind_xc, R.out_ok, R.out_xc, Out.bind_nx, Out.bind_rt, Out.bind_xc, Sl.d_va, Sl.d_ow, Sl.frz_va, Sl.frz_ow, Sl.frz_no, List.getElem?_cons_succ, List.getElem?_cons_zero, List.set_cons_succ, List.set_cons_zero, List.length_cons, List.length_nil, List.map_cons, List.map_nil, lim_val, Nat.zero_le, Nat.reduceAdd, Nat.reduceLeDiff, Nat.reduceEqDiff, reduceIte, Nat.zero_add, if_true, if_false, Bool.false_eq_true, Bool.not_true, Bool.not_false, decide_true, decide_false, o_add, o_sub, o_neg, o_lt, o_le, o_gt, o_ge, o_eq, o_ne, o_isN, o_notN, isNon_non, isNon_int, isNon_tup, isNon_lst, o_idxL, o_idxT, o_lenL, o_lenT, o_lenS, o_listL, o_listT, o_tupleL, o_tupleT, o_int, o_intb, o_max2, o_min2, o_slL, o_slT, atD_0, atD_1, atD_2, atD_3, atD_4, atD_5, range_4, range_3, range_2, hlen, hr2, W]
  | none =>
    rw [q, Option.map_none] at W
    obtain ⟨e, hw, a, rfl⟩ := W
    simp only [ev_seq, ev_set, ev_op1, ev_op2, ev_call, ev_cons, ev_nil, ev_c, ev_var, ev_tup, ev_lst, ev_cb, ev_fz, ev_lend, ev_and, ev_or, ev_not, ev_chain, ev_if, ev_bm, ev_get2, ev_ixO, ev_sl, ev_some, ev_none, ev_tval, ev_tand, ev_tor, ev_tnot, ev_irange1, ev_irange2, ev_sif, ev_next, ev_ret, ev_retO, ev_raise, ev_app, ev_put, ev_dput, ev_for, ev_while, ev_pub, pub_cons, pub_nil, ev_drop, ev_dnew, res_nx, res_rt, res_xc, R.bind_ok, R.bind_xc, R.out_ok, R.out_xc, Out.bind_nx, Out.bind_rt, Out.bind_xc, Sl.d_va, Sl.d_ow, Sl.frz_va, Sl.frz_ow, Sl.frz_no, List.getElem?_cons_succ, List.getElem?_cons_zero, List.set_cons_succ, List.set_cons_zero, List.length_cons, List.length_nil, List.map_cons, List.map_nil, lim_val, Nat.zero_le, Nat.reduceAdd, Nat.reduceLeDiff, Nat.reduceEqDiff, reduceIte, Nat.zero_add, if_true, if_false, Bool.false_eq_true, Bool.not_true, Bool.not_false, decide_true, decide_false, o_add, o_sub, o_neg, o_lt, o_le, o_gt, o_ge, o_eq, o_ne, o_isN, o_notN, isNon_non, isNon_int, isNon_tup, isNon_lst, o_idxL, o_idxT, o_lenL, o_lenT, o_lenS, o_listL, o_listT, o_tupleL, o_tupleT, o_int, o_intb, o_max2, o_min2, o_slL, o_slT, atD_0, atD_1, atD_2, atD_3, atD_4, atD_5, range_4, range_3, range_2, hlen, hr2, hw]
theorem over_one_ok {a : Int} {p : Nat} (h0 : 0 ≤ a) (h1 : a < 100) (hp : p ≤ 100) (hp0 : 1 ≤ p) : f_over_one [.int a, .int (p : Int)] = .ok (.va (.int (overI a p))) := by
  unfold f_over_one F_over_one
  rw [fn_eq [.va (.int a), .va (.int (p : Int)), .no] rfl]
  have W := forD_ret (j := 2) (b := B_over_one_1) (enc := fun i : Nat => D.int (1 + (i : Int))) (fun e => ∃ z, e = [.va (.int a), .va (.int (p : Int)), z]) (fun i => if a * (1 + (i : Int)) % (p : Int) = 1 then some (Sl.va (.int (1 + (i : Int)))) else none) (List.range (p - 1)) [.va (.int a), .va (.int (p : Int)), .no] ⟨_, rfl⟩
    (fun i e hi ⟨z, he⟩ => by
      subst he
      have m1 : dMul (.int a) (.int (1 + (i : Int))) = .ok (.va (.int (a * (1 + (i : Int))))) := o_mulL (by omega) (by omega)
      have m2 : dMod (.int (a * (1 + (i : Int)))) (.int (p : Int)) = .ok (.va (.int (a * (1 + (i : Int)) % (p : Int)))) := o_mod (by omega)
      unfold B_over_one_1
      by_cases c : a * (1 + (i : Int)) % (p : Int) = 1
      · rw [if_pos c]
        rw [c] at m2
        simp only [ev_seq, ev_set, ev_op1, ev_op2, ev_call, ev_cons, ev_nil, ev_c, ev_var, ev_tup, ev_lst, ev_cb, ev_fz, ev_lend, ev_and, ev_or, ev_not, ev_chain, ev_if, ev_bm, ev_get2, ev_ixO, ev_sl, ev_some, ev_none, ev_tval, ev_tand, ev_tor, ev_tnot, ev_irange1, ev_irange2, ev_sif, ev_next, ev_ret, ev_retO, ev_raise, ev_app, ev_put, ev_dput, ev_for, ev_while, ev_pub, pub_cons, pub_nil, ev_drop, ev_dnew, res_nx, res_rt, res_xc, R.bind_ok, R.bind_xc, R.out_ok, R.out_xc, Out.bind_nx, Out.bind_rt, Out.bind_xc, Sl.d_va, Sl.d_ow, Sl.frz_va, Sl.frz_ow, Sl.frz_no, List.getElem?_cons_succ, List.getElem?_cons_zero, List.set_cons_succ, List.set_cons_zero, List.length_cons, List.length_nil, List.map_cons, List.map_nil, lim_val, Nat.zero_le, Nat.reduceAdd, Nat.reduceLeDiff, Nat.reduceEqDiff, reduceIte, Nat.zero_add, if_true, if_false, Bool.false_eq_true, Bool.not_true, Bool.not_false, decide_true, decide_false, o_add, o_sub, o_neg, o_lt, o_le, o_gt, o_ge, o_eq, o_ne, o_isN, o_notN, isNon_non, isNon_int, isNon_tup, isNon_lst, o_idxL, o_idxT, o_lenL, o_lenT, o_lenS, o_listL, o_listT, o_tupleL, o_tupleT, o_int, o_intb, o_max2, o_min2, o_slL, o_slT, atD_0, atD_1, atD_2, atD_3, atD_4, atD_5, range_4, range_3, range_2, m1, m2]
      · rw [if_neg c]
        exact ⟨_, by simp only [ev_seq, ev_set, ev_op1, ev_op2, ev_call, ev_cons, ev_nil, ev_c, ev_var, ev_tup, ev_lst, ev_cb, ev_fz, ev_lend, ev_and, ev_or, ev_not, ev_chain, ev_if, ev_bm, ev_get2, ev_ixO, ev_sl, ev_some, ev_none, ev_tval, ev_tand, ev_tor, ev_tnot, ev_irange1, ev_irange2, ev_sif, ev_next, ev_ret, ev_retO, ev_raise, ev_app, ev_put, ev_dput, ev_for, ev_while, ev_pub, pub_cons, pub_nil, ev_drop, ev_dnew, res_nx, res_rt, res_xc, R.bind_ok, R.bind_xc, R.out_ok, R.out_xc, Out.bind_nx, Out.bind_rt, Out.bind_xc, Sl.d_va, Sl.d_ow, Sl.frz_va, Sl.frz_ow, Sl.frz_no, List.getElem?_cons_succ, List.getElem?_cons_zero, List.set_cons_succ, List.set_cons_zero, List.length_cons, List.length_nil, List.map_cons, List.map_nil, lim_val, Nat.zero_le, Nat.reduceAdd, Nat.reduceLeDiff, Nat.reduceEqDiff, reduceIte, Nat.zero_add, if_true, if_false, Bool.false_eq_true, Bool.not_true, Bool.not_false, decide_true, decide_false, o_add, o_sub, o_neg, o_lt, o_le, o_gt, o_ge, o_eq, o_ne, o_isN, o_notN, isNon_non, isNon_int, isNon_tup, isNon_lst, o_idxL, o_idxT, o_lenL, o_lenT, o_lenS, o_listL, o_listT, o_tupleL, o_tupleT, o_int, o_intb, o_max2, o_min2, o_slL, o_slT, atD_0, atD_1, atD_2, atD_3, atD_4, atD_5, range_4, range_3, range_2, m1, m2, c], .va (.int (1 + (i : Int))), rfl⟩)
  have hr2 : range2D (.int 1) (.int (p : Int)) = .ok (rng 1 (p - 1)) := by
    have e1 : ((p : Int) - 1).toNat = p - 1 := by omega
    rw [range2_ok (by omega) (by omega) (by omega) (by omega), e1]
  rw [← rng_eq'] at W
  have hfm : (List.range (p - 1)).findSome? (fun (i : Nat) => if a * (1 + (i : Int)) % (p : Int) = 1 then some (Sl.va (.int (1 + (i : Int)))) else none) = ((List.range (p - 1)).findSome? fun (i : Nat) => if a * (1 + (i : Int)) % (p : Int) = 1 then some (1 + (i : Int)) else none).map fun k => Sl.va (.int k) := by
    generalize List.range (p - 1) = l
    induction l with
    | nil => rfl
    | cons x l ih =>
      rw [List.findSome?_cons, List.findSome?_cons]
      by_cases c : a * (1 + (x : Int)) % (p : Int) = 1
      · rw [if_pos c, if_pos c]; rfl
      · rw [if_neg c, if_neg c]; exact ih
  rw [hfm] at W
  unfold overI
  cases q : (List.range (p - 1)).findSome? fun (i : Nat) => if a * (1 + (i : Int)) % (p : Int) = 1 then some (1 + (i : Int)) else none with
  | some k =>
    rw [q, Option.map_some] at W
    simp only at W
    simp only [ev_seq, ev_set, ev_op1, ev_op2, ev_call, ev_cons, ev_nil, ev_c, ev_var, ev_tup, ev_lst, ev_cb, ev_fz, ev_lend, ev_and, ev_or, ev_not, ev_chain, ev_if, ev_bm, ev_get2, ev_ixO, ev_sl, ev_some, ev_none, ev_tval, ev_tand, ev_tor, ev_tnot, ev_irange1, ev_irange2, ev_sif, ev_next, ev_ret, ev_retO, ev_raise, ev_app, ev_put, ev_dput, ev_for, ev_while, ev_pub, pub_cons, pub_nil, ev_drop, ev_dnew, res_nx, res_rt, res_xc, R.bind_ok, R.bind_xc, R.out_ok, R.out_xc, Out.bind_nx, Out.bind_rt, Out.bind_xc, Sl.d_va, Sl.d_ow, Sl.frz_va, Sl.frz_ow, Sl.frz_no, List.getElem?_cons_succ, List.getElem?_cons_zero, List.set_cons_succ, List.set_cons_zero, List.length_cons, List.length_nil, List.map_cons, List.map_nil, lim_val, Nat.zero_le, Nat.reduceAdd, Nat.reduceLeDiff, Nat.reduceEqDiff, reduceIte, Nat.zero_add, if_true, if_false, Bool.false_eq_true, Bool.not_true, Bool.not_false, decide_true, decide_false, o_add, o_sub, o_neg, o_lt, o_le, o_gt, o_ge, o_eq, o_ne, o_isN, o_notN, isNon_non, isNon_int, isNon_tup, isNon_lst, o_idxL, o_idxT, o_lenL, o_lenT, o_lenS, o_listL, o_listT, o_tupleL, o_tupleT, o_int, o_intb, o_max2, o_min2, o_slL, o_slT, atD_0, atD_1, atD_2, atD_3, atD_4, atD_5, range_4, range_3, range_2, hr2, W, Option.getD_some]
  | none =>
    rw [q, Option.map_none] at W
    obtain ⟨e, hw, z, rfl⟩ := W
    simp only [ev_seq, ev_set, ev_op1, ev_op2, ev_call, ev_cons, ev_nil, ev_c, ev_var, ev_tup, ev_lst, ev_cb, ev_fz, ev_lend, ev_and, ev_or, ev_not, ev_chain, ev_if, ev_bm, ev_get2, ev_ixO, ev_sl, ev_some, ev_none, ev_tval, ev_tand, ev_tor, ev_tnot, ev_irange1, ev_irange2, ev_sif, ev_next, ev_ret, ev_retO, ev_raise, ev_app, ev_put, ev_dput, ev_for, ev_while, ev_pub, pub_cons, pub_nil, ev_drop, ev_dnew, res_nx, res_rt, res_xc, R.bind_ok, R.bind_xc, R.out_ok, R.out_xc, Out.bind_nx, Out.bind_rt, Out.bind_xc, Sl.d_va, Sl.d_ow, Sl.frz_va, Sl.frz_ow, Sl.frz_no, List.getElem?_cons_succ, List.getElem?_cons_zero, List.set_cons_succ, List.set_cons_zero, List.length_cons, List.length_nil, List.map_cons, List.map_nil, lim_val, Nat.zero_le, Nat.reduceAdd, Nat.reduceLeDiff, Nat.reduceEqDiff, reduceIte, Nat.zero_add, if_true, if_false, Bool.false_eq_true, Bool.not_true, Bool.not_false, decide_true, decide_false, o_add, o_sub, o_neg, o_lt, o_le, o_gt, o_ge, o_eq, o_ne, o_isN, o_notN, isNon_non, isNon_int, isNon_tup, isNon_lst, o_idxL, o_idxT, o_lenL, o_lenT, o_lenS, o_listL, o_listT, o_tupleL, o_tupleT, o_int, o_intb, o_max2, o_min2, o_slL, o_slT, atD_0, atD_1, atD_2, atD_3, atD_4, atD_5, range_4, range_3, range_2, hr2, hw, Option.getD_none]
theorem cleared_ok {row lead : List Int} {at_ p n : Nat} (h1 : row.length = n) (h2 : lead.length = n) (ha : at_ < n) (hn : n ≤ 1000) (hp : 0 < p) (hr : 0 ≤ row.getD at_ 0 ∧ row.getD at_ 0 < 100) : f_cleared [.lst (encI row), .lst (encI lead), .int (at_ : Int), .int (p : Int)] = .ok (.ow (.lst (encI (clr row lead at_ p)))) := by
  unfold f_cleared F_cleared
  rw [fn_eq [.va (.lst (encI row)), .va (.lst (encI lead)), .va (.int (at_ : Int)), .va (.int (p : Int)), .no, .no] rfl]
  have hat := at_int (r := row) (i := at_) (by omega)
  have hrg := range_nat (n := row.length) (by omega)
  have hc := lcm (it := iRange1 (eCB bLen (aCons (eVar 0) aNil))) (j := 5) (own := [5]) (el := eOp2 dMod (eOp2 dSub (eOp2 dIdx (eVar 0) (eVar 5)) (eOp2 dMul (eVar 4) (eOp2 dIdx (eVar 1) (eVar 5)))) (eVar 3))
    (e := [.va (.lst (encI row)), .va (.lst (encI lead)), .va (.int (at_ : Int)), .va (.int (p : Int)), .va (.int (row.getD at_ 0)), .no]) (enc := fun k : Nat => D.int (k : Int)) (fun k => .int ((row.getD k 0 - row.getD at_ 0 * lead.getD k 0) % (p : Int))) (List.range row.length)
    (by rw [← rng_eq]; simp only [ev_seq, ev_set, ev_op1, ev_op2, ev_call, ev_cons, ev_nil, ev_c, ev_var, ev_tup, ev_lst, ev_cb, ev_fz, ev_lend, ev_and, ev_or, ev_not, ev_chain, ev_if, ev_bm, ev_get2, ev_ixO, ev_sl, ev_some, ev_none, ev_tval, ev_tand, ev_tor, ev_tnot, ev_irange1, ev_irange2, ev_sif, ev_next, ev_ret, ev_retO, ev_raise, ev_app, ev_put, ev_dput, ev_for, ev_while, ev_pub, pub_cons, pub_nil, ev_drop, ev_dnew, res_nx, res_rt, res_xc, R.bind_ok, R.bind_xc, R.out_ok, R.out_xc, Out.bind_nx, Out.bind_rt, Out.bind_xc, Sl.d_va, Sl.d_ow, Sl.frz_va, Sl.frz_ow, Sl.frz_no, List.getElem?_cons_succ, List.getElem?_cons_zero, List.set_cons_succ, List.set_cons_zero, List.length_cons, List.length_nil, List.map_cons, List.map_nil, lim_val, Nat.zero_le, Nat.reduceAdd, Nat.reduceLeDiff, Nat.reduceEqDiff, reduceIte, Nat.zero_add, if_true, if_false, Bool.false_eq_true, Bool.not_true, Bool.not_false, decide_true, decide_false, o_add, o_sub, o_neg, o_lt, o_le, o_gt, o_ge, o_eq, o_ne, o_isN, o_notN, isNon_non, isNon_int, isNon_tup, isNon_lst, o_idxL, o_idxT, o_lenL, o_lenT, o_lenS, o_listL, o_listT, o_tupleL, o_tupleT, o_int, o_intb, o_max2, o_min2, o_slL, o_slT, atD_0, atD_1, atD_2, atD_3, atD_4, atD_5, range_4, range_3, range_2, List.length_map, hrg]) (by rw [List.length_range]; omega)
    (fun k hk => by
      have hk2 := List.mem_range.mp hk
      have b1 := at_int (r := row) (i := k) hk2
      have b2 := at_int (r := lead) (i := k) (by omega)
      have m1 : dMul (.int (row.getD at_ 0)) (.int (lead.getD k 0)) = .ok (.va (.int (row.getD at_ 0 * lead.getD k 0))) := o_mulL (by omega) (by omega)
      have m2 : dMod (.int (row.getD k 0 - row.getD at_ 0 * lead.getD k 0)) (.int (p : Int)) = .ok (.va (.int ((row.getD k 0 - row.getD at_ 0 * lead.getD k 0) % (p : Int)))) := o_mod (by omega)
      simp only [ev_seq, ev_set, ev_op1, ev_op2, ev_call, ev_cons, ev_nil, ev_c, ev_var, ev_tup, ev_lst, ev_cb, ev_fz, ev_lend, ev_and, ev_or, ev_not, ev_chain, ev_if, ev_bm, ev_get2, ev_ixO, ev_sl, ev_some, ev_none, ev_tval, ev_tand, ev_tor, ev_tnot, ev_irange1, ev_irange2, ev_sif, ev_next, ev_ret, ev_retO, ev_raise, ev_app, ev_put, ev_dput, ev_for, ev_while, ev_pub, pub_cons, pub_nil, ev_drop, ev_dnew, res_nx, res_rt, res_xc, R.bind_ok, R.bind_xc, R.out_ok, R.out_xc, Out.bind_nx, Out.bind_rt, Out.bind_xc, Sl.d_va, Sl.d_ow, Sl.frz_va, Sl.frz_ow, Sl.frz_no, List.getElem?_cons_succ, List.getElem?_cons_zero, List.set_cons_succ, List.set_cons_zero, List.length_cons, List.length_nil, List.map_cons, List.map_nil, lim_val, Nat.zero_le, Nat.reduceAdd, Nat.reduceLeDiff, Nat.reduceEqDiff, reduceIte, Nat.zero_add, if_true, if_false, Bool.false_eq_true, Bool.not_true, Bool.not_false, decide_true, decide_false, o_add, o_sub, o_neg, o_lt, o_le, o_gt, o_ge, o_eq, o_ne, o_isN, o_notN, isNon_non, isNon_int, isNon_tup, isNon_lst, o_idxL, o_idxT, o_lenL, o_lenT, o_lenS, o_listL, o_listT, o_tupleL, o_tupleT, o_int, o_intb, o_max2, o_min2, o_slL, o_slT, atD_0, atD_1, atD_2, atD_3, atD_4, atD_5, range_4, range_3, range_2, wipe_cons, wipe_nil, b1, b2, m1, m2])
  have e : (List.range row.length).map (fun k => D.int ((row.getD k 0 - row.getD at_ 0 * lead.getD k 0) % (p : Int))) = encI (clr row lead at_ p) := by
    unfold clr
    apply List.ext_getElem
    · rw [List.length_map, List.length_range, List.length_map, List.length_zipWith]; omega
    · intro i q1 q2
      rw [List.length_map, List.length_range] at q1
      rw [List.getElem_map, List.getElem_map, List.getElem_range, List.getElem_zipWith, getD_eq (xs := row) (i := i) q1, getD_eq (xs := lead) (i := i) (by omega)]
  rw [e] at hc
  simp only [ev_seq, ev_set, ev_op1, ev_op2, ev_call, ev_cons, ev_nil, ev_c, ev_var, ev_tup, ev_lst, ev_cb, ev_fz, ev_lend, ev_and, ev_or, ev_not, ev_chain, ev_if, ev_bm, ev_get2, ev_ixO, ev_sl, ev_some, ev_none, ev_tval, ev_tand, ev_tor, ev_tnot, ev_irange1, ev_irange2, ev_sif, ev_next, ev_ret, ev_retO, ev_raise, ev_app, ev_put, ev_dput, ev_for, ev_while, ev_pub, pub_cons, pub_nil, ev_drop, ev_dnew, res_nx, res_rt, res_xc, R.bind_ok, R.bind_xc, R.out_ok, R.out_xc, Out.bind_nx, Out.bind_rt, Out.bind_xc, Sl.d_va, Sl.d_ow, Sl.frz_va, Sl.frz_ow, Sl.frz_no, List.getElem?_cons_succ, List.getElem?_cons_zero, List.set_cons_succ, List.set_cons_zero, List.length_cons, List.length_nil, List.map_cons, List.map_nil, lim_val, Nat.zero_le, Nat.reduceAdd, Nat.reduceLeDiff, Nat.reduceEqDiff, reduceIte, Nat.zero_add, if_true, if_false, Bool.false_eq_true, Bool.not_true, Bool.not_false, decide_true, decide_false, o_add, o_sub, o_neg, o_lt, o_le, o_gt, o_ge, o_eq, o_ne, o_isN, o_notN, isNon_non, isNon_int, isNon_tup, isNon_lst, o_idxL, o_idxT, o_lenL, o_lenT, o_lenS, o_listL, o_listT, o_tupleL, o_tupleT, o_int, o_intb, o_max2, o_min2, o_slL, o_slT, atD_0, atD_1, atD_2, atD_3, atD_4, atD_5, range_4, range_3, range_2, hat, hc]
end DL
set_option maxRecDepth 100000
/-! MA4: rank and colourings, walked; the law's count -/
namespace DL
open PySem (Str)
theorem encLR_set (L : List (List Int)) (k : Nat) (r : List Int) : (encLR L).set k (.lst (encI r)) = encLR (L.set k r) := by
  unfold encLR
  rw [List.map_set]
def midL (S : List (List Int)) (f i : Nat) (g : List Int → List Int) : List (List Int) := S.take (f + 1) ++ ((S.drop (f + 1)).take i).map g ++ (S.drop (f + 1)).drop i
theorem midL_len (S : List (List Int)) (f i : Nat) (g : List Int → List Int) : (midL S f i g).length = S.length := by
  unfold midL
  simp only [List.length_append, List.length_take, List.length_map, List.length_drop]
  omega
theorem midL_at {S : List (List Int)} {f i : Nat} {g : List Int → List Int} (h : f + 1 + i < S.length) : (midL S f i g).getD (f + 1 + i) [] = S.getD (f + 1 + i) [] := by
  rw [List.getD_eq_getElem?_getD, List.getD_eq_getElem?_getD]
  congr 1
  unfold midL
  rw [List.getElem?_append_right (by simp only [List.length_append, List.length_take, List.length_map, List.length_drop]; omega), List.getElem?_drop, List.getElem?_drop]
  congr 1
  simp only [List.length_append, List.length_take, List.length_map, List.length_drop]
  omega
theorem midL_set {S : List (List Int)} {f i : Nat} {g : List Int → List Int} (h : f + 1 + i < S.length) : (midL S f i g).set (f + 1 + i) (g (S.getD (f + 1 + i) [])) = midL S f (i + 1) g := by
  unfold midL
  rw [List.set_append_right _ _ (by simp only [List.length_append, List.length_take, List.length_map, List.length_drop]; omega)]
  have e1 : f + 1 + i - (List.take (f + 1) S ++ List.map g (List.take i (List.drop (f + 1) S))).length = 0 := by
    simp only [List.length_append, List.length_take, List.length_map, List.length_drop]
    omega
  rw [e1]
  have e2 : (S.drop (f + 1)).drop i = S[f + 1 + i] :: (S.drop (f + 1)).drop (i + 1) := by
    rw [List.drop_drop, List.drop_eq_getElem_cons (by omega), List.drop_drop]
    congr 1
  have e3 : (S.drop (f + 1)).take (i + 1) = (S.drop (f + 1)).take i ++ [S[f + 1 + i]] := by
    rw [List.take_succ_eq_append_getElem (by rw [List.length_drop]; omega), List.getElem_drop]
  rw [e2, e3, List.set_cons_zero, List.map_append, List.map_cons, List.map_nil, getD_eq h]
  simp
theorem midL_end {S : List (List Int)} {f : Nat} {g : List Int → List Int} : midL S f (S.length - (f + 1)) g = S.take (f + 1) ++ (S.drop (f + 1)).map g := by
  have e1 : (S.drop (f + 1)).take (S.length - (f + 1)) = S.drop (f + 1) := List.take_of_length_le (by rw [List.length_drop]; omega)
  have e2 : (S.drop (f + 1)).drop (S.length - (f + 1)) = [] := List.drop_of_length_le (by rw [List.length_drop]; omega)
  unfold midL
  rw [e1, e2, List.append_nil]
theorem midL_zero {S : List (List Int)} {f : Nat} {g : List Int → List Int} : midL S f 0 g = S := by
  unfold midL
  simp
theorem rank_step2 {p n at_ : Nat} (hp : Prm p) (hn : n ≤ 1000) (hat : at_ < n) {s : List (List Int) × Nat} (h : Rws p n s.1) (hl : s.1.length ≤ 1000) (hf : s.2 ≤ s.1.length) (x a b c : Sl) :
    ∃ x2 a2 b2 c2, B_rank_2 [.ow (.lst (encLR s.1)), .va (.int (n : Int)), .va (.int (p : Int)), .va (.int (s.2 : Int)), .va (.int (at_ : Int)), x, a, b, c, .no] = .nx [.ow (.lst (encLR (gstep p s at_).1)), .va (.int (n : Int)), .va (.int (p : Int)), .va (.int ((gstep p s at_).2 : Int)), .va (.int (at_ : Int)), x2, a2, b2, c2, .no] := by
  obtain ⟨hp2, hp13⟩ := prm_pos hp
  have hlead := lead_of_ok (n := n) (f := s.2) (at_ := at_) hl hf hat (fun r hr => (h r hr).1)
  obtain ⟨L, f⟩ := s
  simp only at h hl hf hlead ⊢
  unfold B_rank_2 gstep
  cases q : leadI L f at_ with
  | none =>
    rw [q] at hlead
    exact ⟨.va .non, a, b, c, by simp only [ev_seq, ev_set, ev_op1, ev_op2, ev_call, ev_cons, ev_nil, ev_c, ev_var, ev_tup, ev_lst, ev_cb, ev_fz, ev_lend, ev_and, ev_or, ev_not, ev_chain, ev_if, ev_bm, ev_get2, ev_ixO, ev_sl, ev_some, ev_none, ev_tval, ev_tand, ev_tor, ev_tnot, ev_irange1, ev_irange2, ev_sif, ev_next, ev_ret, ev_retO, ev_raise, ev_app, ev_put, ev_dput, ev_for, ev_while, ev_pub, pub_cons, pub_nil, ev_drop, ev_dnew, res_nx, res_rt, res_xc, R.bind_ok, R.bind_xc, R.out_ok, R.out_xc, Out.bind_nx, Out.bind_rt, Out.bind_xc, Sl.d_va, Sl.d_ow, Sl.frz_va, Sl.frz_ow, Sl.frz_no, List.getElem?_cons_succ, List.getElem?_cons_zero, List.set_cons_succ, List.set_cons_zero, List.length_cons, List.length_nil, List.map_cons, List.map_nil, lim_val, Nat.zero_le, Nat.reduceAdd, Nat.reduceLeDiff, Nat.reduceEqDiff, reduceIte, Nat.zero_add, if_true, if_false, Bool.false_eq_true, Bool.not_true, Bool.not_false, decide_true, decide_false, o_add, o_sub, o_neg, o_lt, o_le, o_gt, o_ge, o_eq, o_ne, o_isN, o_notN, isNon_non, isNon_int, isNon_tup, isNon_lst, o_idxL, o_idxT, o_lenL, o_lenT, o_lenS, o_listL, o_listT, o_tupleL, o_tupleT, o_int, o_intb, o_max2, o_min2, o_slL, o_slT, atD_0, atD_1, atD_2, atD_3, atD_4, atD_5, range_4, range_3, range_2, ev_op1, Sl.loose, D.flat, hlead]⟩
  | some k =>
    rw [q] at hlead
    simp only at hlead
    obtain ⟨h1, h2, h3⟩ := leadI_some q
    have hk := h _ (List.getElem_mem h2)
    have hkl : (L.getD k []).length = n := by rw [getD_eq h2]; exact hk.1
    have hkb : ∀ y ∈ L.getD k [], 0 ≤ y ∧ y < (p : Int) := by rw [getD_eq h2]; exact hk.2
    have r1 := at_row h2
    have r2 := at_row (show f < L.length by omega)
    have i1 := at_int (r := L.getD k []) (i := at_) (by omega)
    have hv : 0 ≤ (L.getD k []).getD at_ 0 ∧ (L.getD k []).getD at_ 0 < (p : Int) := by
      rw [getD_eq (show at_ < (L.getD k []).length by omega)]
      exact hkb _ (List.getElem_mem _)
    have ho := over_one_ok (a := (L.getD k []).getD at_ 0) (p := p) hv.1 (by omega) (by omega) (by omega)
    obtain ⟨t, ht⟩ : ∃ t, overI ((L.getD k []).getD at_ 0) p = t := ⟨_, rfl⟩
    rw [ht] at ho
    have hc := lcm (it := iSeq (eIxO 0 (eVar 5))) (j := 9) (own := [9]) (el := eOp2 dMod (eOp2 dMul (eVar 9) (eVar 6)) (eVar 2))
      (e := [.ow (.lst (encLR L)), .va (.int (n : Int)), .va (.int (p : Int)), .va (.int (f : Int)), .va (.int (at_ : Int)), .va (.int (k : Int)), .va (.int t), b, c, .no]) (enc := D.int) (fun y => .int (y * t % (p : Int))) (L.getD k [])
      (by simp only [ev_seq, ev_set, ev_op1, ev_op2, ev_call, ev_cons, ev_nil, ev_c, ev_var, ev_tup, ev_lst, ev_cb, ev_fz, ev_lend, ev_and, ev_or, ev_not, ev_chain, ev_if, ev_bm, ev_get2, ev_ixO, ev_sl, ev_some, ev_none, ev_tval, ev_tand, ev_tor, ev_tnot, ev_irange1, ev_irange2, ev_sif, ev_next, ev_ret, ev_retO, ev_raise, ev_app, ev_put, ev_dput, ev_for, ev_while, ev_pub, pub_cons, pub_nil, ev_drop, ev_dnew, res_nx, res_rt, res_xc, R.bind_ok, R.bind_xc, R.out_ok, R.out_xc, Out.bind_nx, Out.bind_rt, Out.bind_xc, Sl.d_va, Sl.d_ow, Sl.frz_va, Sl.frz_ow, Sl.frz_no, List.getElem?_cons_succ, List.getElem?_cons_zero, List.set_cons_succ, List.set_cons_zero, List.length_cons, List.length_nil, List.map_cons, List.map_nil, lim_val, Nat.zero_le, Nat.reduceAdd, Nat.reduceLeDiff, Nat.reduceEqDiff, reduceIte, Nat.zero_add, if_true, if_false, Bool.false_eq_true, Bool.not_true, Bool.not_false, decide_true, decide_false, o_add, o_sub, o_neg, o_lt, o_le, o_gt, o_ge, o_eq, o_ne, o_isN, o_notN, isNon_non, isNon_int, isNon_tup, isNon_lst, o_idxL, o_idxT, o_lenL, o_lenT, o_lenS, o_listL, o_listT, o_tupleL, o_tupleT, o_int, o_intb, o_max2, o_min2, o_slL, o_slT, atD_0, atD_1, atD_2, atD_3, atD_4, atD_5, range_4, range_3, range_2, ev_iseq, r1]) (by omega) (fun y hy => by
        have := hkb y hy
        have m1 : dMul (.int y) (.int t) = .ok (.va (.int (y * t))) := o_mulL (by omega) (by omega)
        have m2 : dMod (.int (y * t)) (.int (p : Int)) = .ok (.va (.int (y * t % (p : Int)))) := o_mod (by omega)
        simp only [ev_seq, ev_set, ev_op1, ev_op2, ev_call, ev_cons, ev_nil, ev_c, ev_var, ev_tup, ev_lst, ev_cb, ev_fz, ev_lend, ev_and, ev_or, ev_not, ev_chain, ev_if, ev_bm, ev_get2, ev_ixO, ev_sl, ev_some, ev_none, ev_tval, ev_tand, ev_tor, ev_tnot, ev_irange1, ev_irange2, ev_sif, ev_next, ev_ret, ev_retO, ev_raise, ev_app, ev_put, ev_dput, ev_for, ev_while, ev_pub, pub_cons, pub_nil, ev_drop, ev_dnew, res_nx, res_rt, res_xc, R.bind_ok, R.bind_xc, R.out_ok, R.out_xc, Out.bind_nx, Out.bind_rt, Out.bind_xc, Sl.d_va, Sl.d_ow, Sl.frz_va, Sl.frz_ow, Sl.frz_no, List.getElem?_cons_succ, List.getElem?_cons_zero, List.set_cons_succ, List.set_cons_zero, List.length_cons, List.length_nil, List.map_cons, List.map_nil, lim_val, Nat.zero_le, Nat.reduceAdd, Nat.reduceLeDiff, Nat.reduceEqDiff, reduceIte, Nat.zero_add, if_true, if_false, Bool.false_eq_true, Bool.not_true, Bool.not_false, decide_true, decide_false, o_add, o_sub, o_neg, o_lt, o_le, o_gt, o_ge, o_eq, o_ne, o_isN, o_notN, isNon_non, isNon_int, isNon_tup, isNon_lst, o_idxL, o_idxT, o_lenL, o_lenT, o_lenS, o_listL, o_listT, o_tupleL, o_tupleT, o_int, o_intb, o_max2, o_min2, o_slL, o_slT, atD_0, atD_1, atD_2, atD_3, atD_4, atD_5, range_4, range_3, range_2, wipe_cons, wipe_nil, m1, m2])
    have el : (L.getD k []).map (fun y => D.int (y * t % (p : Int))) = encI (lead1 L k at_ p) := by
      unfold lead1
      rw [ht]
      show _ = ((L.getD k []).map (fun x => x * t % (p : Int))).map D.int
      rw [List.map_map]
      rfl
    rw [el] at hc
    obtain ⟨ld, hld⟩ : ∃ ld, lead1 L k at_ p = ld := ⟨_, rfl⟩
    have hldl : ld.length = n := by rw [← hld]; unfold lead1; rw [List.length_map, hkl]
    have hldb : ∀ y ∈ ld, 0 ≤ y ∧ y < (p : Int) := fun y hy => by
      rw [← hld] at hy
      unfold lead1 at hy
      obtain ⟨z, _, rfl⟩ := List.mem_map.mp hy
      exact mod_rng (by omega) _
    rw [hld] at hc
    obtain ⟨S, hS⟩ : ∃ S, swp L k f at_ p = S := ⟨_, rfl⟩
    have hSe : (L.set k (L.getD f [])).set f ld = S := by rw [← hS]; unfold swp; rw [hld]
    have hSl : S.length = L.length := by rw [← hSe, List.length_set, List.length_set]
    have hSr : Rws p n S := fun r hr => by
      rw [← hSe] at hr
      rcases List.mem_or_eq_of_mem_set hr with m | m
      · rcases List.mem_or_eq_of_mem_set m with m2 | m2
        · exact h r m2
        · rw [m2, getD_eq (show f < L.length by omega)]
          exact h _ (List.getElem_mem _)
      · rw [m]
        exact ⟨hldl, hldb⟩
    have hin1 : (k : Int) < (L.length : Int) := by omega
    have hin2 : (f : Int) < (L.length : Int) := by omega
    have hk0 : (0 : Int) ≤ (k : Int) := by omega
    have hf0 : (0 : Int) ≤ (f : Int) := by omega
    have hr2 : range2D (.int ((f : Int) + 1)) (.int (S.length : Int)) = .ok (rng ((f : Int) + 1) (S.length - (f + 1))) := by
      have e1 : ((S.length : Int) - ((f : Int) + 1)).toNat = S.length - (f + 1) := by omega
      rw [range2_ok (by omega) (by omega) (by omega) (by omega), e1]
    have W := forD_ix (j := 8) (b := B_rank_1) (enc := fun i : Nat => D.int ((f : Int) + 1 + (i : Int))) (List.range (S.length - (f + 1))) (fun i e => ∃ z, e = [.ow (.lst (encLR (midL S f i fun r => clr r ld at_ p))), .va (.int (n : Int)), .va (.int (p : Int)), .va (.int (f : Int)), .va (.int (at_ : Int)), .va (.int (k : Int)), .va (.int t), .va (.lst (encI ld)), z, .no])
      [.ow (.lst (encLR S)), .va (.int (n : Int)), .va (.int (p : Int)), .va (.int (f : Int)), .va (.int (at_ : Int)), .va (.int (k : Int)), .va (.int t), .va (.lst (encI ld)), c, .no] ⟨c, by rw [midL_zero]⟩
      (fun i y e hy he => by
        obtain ⟨z, rfl⟩ := he
        obtain ⟨hi, hyv⟩ := List.getElem?_eq_some_iff.mp hy
        rw [List.getElem_range] at hyv
        rw [List.length_range] at hi
        subst hyv
        have hlt : f + 1 + i < S.length := by omega
        have e1 : (f : Int) + 1 + (i : Int) = ((f + 1 + i : Nat) : Int) := by omega
        have b1 := at_row (L := midL S f i fun r => clr r ld at_ p) (i := f + 1 + i) (by rw [midL_len]; exact hlt)
        rw [midL_at hlt] at b1
        have hrr := hSr _ (List.getElem_mem hlt)
        rw [← getD_eq (d := []) hlt] at hrr
        have hcl := cleared_ok (row := S.getD (f + 1 + i) []) (lead := ld) (at_ := at_) (p := p) (n := n) hrr.1 hldl hat hn (by omega) (by
          rw [getD_eq (show at_ < (S.getD (f + 1 + i) []).length by omega)]
          have := hrr.2 _ (List.getElem_mem (l := S.getD (f + 1 + i) []) (n := at_) (by omega))
          omega)
        have hin : 0 ≤ ((f + 1 + i : Nat) : Int) ∧ ((f + 1 + i : Nat) : Int) < ((encLR (midL S f i fun r => clr r ld at_ p)).length : Int) := by
          rw [List.length_map, midL_len]
          omega
        rw [e1]
        refine ⟨_, ?_, .va (.int ((f + 1 + i : Nat) : Int)), rfl⟩
        unfold B_rank_1
        simp only [ev_seq, ev_set, ev_op1, ev_op2, ev_call, ev_cons, ev_nil, ev_c, ev_var, ev_tup, ev_lst, ev_cb, ev_fz, ev_lend, ev_and, ev_or, ev_not, ev_chain, ev_if, ev_bm, ev_get2, ev_ixO, ev_sl, ev_some, ev_none, ev_tval, ev_tand, ev_tor, ev_tnot, ev_irange1, ev_irange2, ev_sif, ev_next, ev_ret, ev_retO, ev_raise, ev_app, ev_put, ev_dput, ev_for, ev_while, ev_pub, pub_cons, pub_nil, ev_drop, ev_dnew, res_nx, res_rt, res_xc, R.bind_ok, R.bind_xc, R.out_ok, R.out_xc, Out.bind_nx, Out.bind_rt, Out.bind_xc, Sl.d_va, Sl.d_ow, Sl.frz_va, Sl.frz_ow, Sl.frz_no, List.getElem?_cons_succ, List.getElem?_cons_zero, List.set_cons_succ, List.set_cons_zero, List.length_cons, List.length_nil, List.map_cons, List.map_nil, lim_val, Nat.zero_le, Nat.reduceAdd, Nat.reduceLeDiff, Nat.reduceEqDiff, reduceIte, Nat.zero_add, if_true, if_false, Bool.false_eq_true, Bool.not_true, Bool.not_false, decide_true, decide_false, o_add, o_sub, o_neg, o_lt, o_le, o_gt, o_ge, o_eq, o_ne, o_isN, o_notN, isNon_non, isNon_int, isNon_tup, isNon_lst, o_idxL, o_idxT, o_lenL, o_lenT, o_lenS, o_listL, o_listT, o_tupleL, o_tupleT, o_int, o_intb, o_max2, o_min2, o_slL, o_slT, atD_0, atD_1, atD_2, atD_3, atD_4, atD_5, range_4, range_3, range_2, b1, hcl, hin, and_self, Int.toNat_natCast, encLR_set]
        rw [midL_set (g := fun r => clr r ld at_ p) hlt])
    rw [← rng_eq', List.length_range, midL_end] at W
    obtain ⟨e, hw, z, rfl⟩ := W
    refine ⟨.va (.int (k : Int)), .va (.int t), .va (.lst (encI ld)), z, ?_⟩
    simp only [hS, hld]
    have eN : (((f + 1 : Nat)) : Int) = (f : Int) + 1 := by omega
    rw [eN]
    simp only [ev_seq, ev_set, ev_op1, ev_op2, ev_call, ev_cons, ev_nil, ev_c, ev_var, ev_tup, ev_lst, ev_cb, ev_fz, ev_lend, ev_and, ev_or, ev_not, ev_chain, ev_if, ev_bm, ev_get2, ev_ixO, ev_sl, ev_some, ev_none, ev_tval, ev_tand, ev_tor, ev_tnot, ev_irange1, ev_irange2, ev_sif, ev_next, ev_ret, ev_retO, ev_raise, ev_app, ev_put, ev_dput, ev_for, ev_while, ev_pub, pub_cons, pub_nil, ev_drop, ev_dnew, res_nx, res_rt, res_xc, R.bind_ok, R.bind_xc, R.out_ok, R.out_xc, Out.bind_nx, Out.bind_rt, Out.bind_xc, Sl.d_va, Sl.d_ow, Sl.frz_va, Sl.frz_ow, Sl.frz_no, List.getElem?_cons_succ, List.getElem?_cons_zero, List.set_cons_succ, List.set_cons_zero, List.length_cons, List.length_nil, List.map_cons, List.map_nil, lim_val, Nat.zero_le, Nat.reduceAdd, Nat.reduceLeDiff, Nat.reduceEqDiff, reduceIte, Nat.zero_add, if_true, if_false, Bool.false_eq_true, Bool.not_true, Bool.not_false, decide_true, decide_false, o_add, o_sub, o_neg, o_lt, o_le, o_gt, o_ge, o_eq, o_ne, o_isN, o_notN, isNon_non, isNon_int, isNon_tup, isNon_lst, o_idxL, o_idxT, o_lenL, o_lenT, o_lenS, o_listL, o_listT, o_tupleL, o_tupleT, o_int, o_intb, o_max2, o_min2, o_slL, o_slT, atD_0, atD_1, atD_2, atD_3, atD_4, atD_5, range_4, range_3, range_2, ev_op1, Sl.loose, D.flat, hlead, r1, i1, ho, hc, r2, hin1, hin2, hk0, hf0, List.length_set, and_self, Int.toNat_natCast, encLR_set, hSe, List.length_map, hr2, hw]
theorem rank_ok {p n : Nat} {L : List (List Int)} (hp : Prm p) (hn : n ≤ 1000) (h : Rws p n L) (hl : L.length ≤ 1000) : f_rank [.lst (encLR L), .int (n : Int), .int (p : Int)] = .ok (.va (.int (((List.range n).foldl (gstep p) (L, 0)).2 : Int))) := by
  unfold f_rank F_rank
  rw [fn_eq [.va (.lst (encLR L)), .va (.int (n : Int)), .va (.int (p : Int)), .no, .no, .no, .no, .no, .no, .no] rfl]
  have hp2 := (prm_pos hp).1
  have hrg := range_nat (n := n) (by omega)
  have W := forD_fold (j := 4) (b := B_rank_2) (enc := fun i : Nat => D.int (i : Int)) (fun (s : List (List Int) × Nat) e => (Rws p n s.1 ∧ s.1.length = L.length ∧ s.2 ≤ s.1.length) ∧ ∃ w x a b c, e = [.ow (.lst (encLR s.1)), .va (.int (n : Int)), .va (.int (p : Int)), .va (.int (s.2 : Int)), w, x, a, b, c, .no]) (gstep p) (List.range n) (L, 0)
    [.ow (.lst (encLR L)), .va (.int (n : Int)), .va (.int (p : Int)), .va (.int 0), .no, .no, .no, .no, .no, .no] ⟨⟨h, rfl, Nat.zero_le _⟩, _, _, _, _, _, rfl⟩
    (fun i at_ e hx he => by
      obtain ⟨⟨h1, h2, h3⟩, w, x, a, b, c, rfl⟩ := he
      have hat := List.mem_range.mp (List.mem_of_getElem? hx)
      generalize ((List.range n).take i).foldl (gstep p) (L, 0) = s at *
      obtain ⟨x', a', b', c', hb⟩ := rank_step2 hp hn hat h1 (by omega) h3 x a b c
      obtain ⟨g1, g2⟩ := gstep_rws (at_ := at_) (show 0 < p by omega) h1
      refine ⟨[.ow (.lst (encLR (gstep p s at_).1)), .va (.int (n : Int)), .va (.int (p : Int)), .va (.int ((gstep p s at_).2 : Int)), .va (.int (at_ : Int)), x', a', b', c', .no], ?_, ⟨g1, by omega, ?_⟩, .va (.int (at_ : Int)), x', a', b', c', rfl⟩
      · simp only [List.set_cons_succ, List.set_cons_zero]
        exact hb
      rw [g2]
      unfold gstep
      cases q : leadI s.1 s.2 at_ with
      | none => exact h3
      | some k =>
        obtain ⟨q1, q2, _⟩ := leadI_some q
        show s.2 + 1 ≤ s.1.length
        omega)
  obtain ⟨e, hw, _, w, x, a, b, c, rfl⟩ := W
  rw [← rng_eq] at hw
  simp only [ev_seq, ev_set, ev_op1, ev_op2, ev_call, ev_cons, ev_nil, ev_c, ev_var, ev_tup, ev_lst, ev_cb, ev_fz, ev_lend, ev_and, ev_or, ev_not, ev_chain, ev_if, ev_bm, ev_get2, ev_ixO, ev_sl, ev_some, ev_none, ev_tval, ev_tand, ev_tor, ev_tnot, ev_irange1, ev_irange2, ev_sif, ev_next, ev_ret, ev_retO, ev_raise, ev_app, ev_put, ev_dput, ev_for, ev_while, ev_pub, pub_cons, pub_nil, ev_drop, ev_dnew, res_nx, res_rt, res_xc, R.bind_ok, R.bind_xc, R.out_ok, R.out_xc, Out.bind_nx, Out.bind_rt, Out.bind_xc, Sl.d_va, Sl.d_ow, Sl.frz_va, Sl.frz_ow, Sl.frz_no, List.getElem?_cons_succ, List.getElem?_cons_zero, List.set_cons_succ, List.set_cons_zero, List.length_cons, List.length_nil, List.map_cons, List.map_nil, lim_val, Nat.zero_le, Nat.reduceAdd, Nat.reduceLeDiff, Nat.reduceEqDiff, reduceIte, Nat.zero_add, if_true, if_false, Bool.false_eq_true, Bool.not_true, Bool.not_false, decide_true, decide_false, o_add, o_sub, o_neg, o_lt, o_le, o_gt, o_ge, o_eq, o_ne, o_isN, o_notN, isNon_non, isNon_int, isNon_tup, isNon_lst, o_idxL, o_idxT, o_lenL, o_lenT, o_lenS, o_listL, o_listT, o_tupleL, o_tupleT, o_int, o_intb, o_max2, o_min2, o_slL, o_slT, atD_0, atD_1, atD_2, atD_3, atD_4, atD_5, range_4, range_3, range_2, hrg, hw]
theorem putP_rws {p n : Nat} (hp : 0 < p) : ∀ (parts : List (Int × Int)) (row : List Int), (∀ x ∈ row, 0 ≤ x ∧ x < (p : Int)) → ∀ x ∈ parts.foldl (putP p) row, 0 ≤ x ∧ x < (p : Int)
  | [], _, h => h
  | q :: parts, row, h => by
    rw [List.foldl_cons]
    refine putP_rws (n := n) hp parts _ fun x hx => ?_
    unfold putP at hx
    rcases List.mem_or_eq_of_mem_set hx with m | m
    · exact h x m
    · rw [m]
      exact mod_rng hp _
theorem rowOf_rw {p n : Nat} (hp : 0 < p) (parts : List (Int × Int)) : (rowOf n parts p).length = n ∧ ∀ x ∈ rowOf n parts p, 0 ≤ x ∧ x < (p : Int) := by
  unfold rowOf
  refine ⟨by rw [putP_len, List.length_replicate], putP_rws (n := n) hp parts _ fun x hx => ?_⟩
  have := List.eq_of_mem_replicate hx
  omega
theorem eqs_rws {p n : Nat} (hp : 0 < p) (rs : List (List Int)) : Rws p n (eqs n p rs) := fun r hr => by
  unfold eqs at hr
  obtain ⟨r0, _, h0⟩ := List.mem_flatMap.mp hr
  unfold eq2 at h0
  simp only [List.mem_cons, List.not_mem_nil, or_false] at h0
  rcases h0 with rfl | rfl
  · exact rowOf_rw hp _
  · exact rowOf_rw hp _
theorem eqs_len {p n : Nat} (rs : List (List Int)) : (eqs n p rs).length = 2 * rs.length := by
  unfold eqs
  have e2 : (rs.map fun a => (eq2 n p a).length) = rs.map fun _ => 2 := rfl
  rw [List.length_flatMap, e2, List.map_const', List.sum_replicate_nat]
  omega
noncomputable def colN (p n : Nat) (rs : List (List Int)) : Nat := NF p (lin 0 n) (fun _ => 0) (fun d => ind (satF p (eqs n p rs) 0 d))
theorem colourings_ok {m p : Nat} {rs : List (List Int)} {rings : Nat} (hp : Prm p) (h : Drawn m rs) (hm : m ≤ 100) (hr : rings ≤ 1000) : f_colourings [encS rs (rings : Int), .int (p : Int)] = .ok (.va (.int ((colN p (2 * m) rs * p ^ rings : Nat) : Int))) := by
  obtain ⟨hp2, hp13⟩ := prm_pos hp
  unfold f_colourings F_colourings
  rw [fn_eq [.va (encS rs (rings : Int)), .va (.int (p : Int)), .no, .no, .no, .no] rfl]
  have hlen : (encRs rs).length = m := by rw [List.length_map, h.len]
  have dm : dMul (.int 2) (.int m) = .ok (.va (.int ((2 * m : Nat) : Int))) := o_mulL (by decide) (by decide)
  have hE := eqs_rws (n := 2 * m) (show 0 < p by omega) rs
  have he := equations_ok (rings := (rings : Int)) h hm (show 0 < p by omega)
  have hk := rank_ok hp (show 2 * m ≤ 1000 by omega) hE (by rw [eqs_len, h.len]; omega)
  obtain ⟨c1, c2⟩ := rank_count hp hE (fun _ => 0)
  generalize ((List.range (2 * m)).foldl (gstep p) (eqs (2 * m) p rs, 0)).2 = g at *
  have efree : ((2 * m : Nat) : Int) - (g : Int) + (rings : Int) = ((2 * m - g + rings : Nat) : Int) := by omega
  have hrg := range_nat (n := 2 * m - g + rings) (by omega)
  have W := forD_rng (j := 5) (b := B_colourings_1) (2 * m - g + rings) (fun i e => ∃ a, e = [.va (encS rs (rings : Int)), .va (.int (p : Int)), .va (.int ((2 * m : Nat) : Int)), .va (.int ((2 * m - g + rings : Nat) : Int)), .va (.int ((p ^ i : Nat) : Int)), a])
    [.va (encS rs (rings : Int)), .va (.int (p : Int)), .va (.int ((2 * m : Nat) : Int)), .va (.int ((2 * m - g + rings : Nat) : Int)), .va (.int 1), .no] ⟨.no, rfl⟩
    (fun i e hi ⟨a, he⟩ => by
      subst he
      have m1 : dMul (.int ((p ^ i : Nat) : Int)) (.int (p : Int)) = .ok (.va (.int ((p ^ (i + 1) : Nat) : Int))) := by
        rw [o_mulR (by omega) (by omega), Nat.pow_succ, Int.natCast_mul]
      refine ⟨_, ?_, .va (.int (i : Int)), rfl⟩
      unfold B_colourings_1
      simp only [ev_seq, ev_set, ev_op1, ev_op2, ev_call, ev_cons, ev_nil, ev_c, ev_var, ev_tup, ev_lst, ev_cb, ev_fz, ev_lend, ev_and, ev_or, ev_not, ev_chain, ev_if, ev_bm, ev_get2, ev_ixO, ev_sl, ev_some, ev_none, ev_tval, ev_tand, ev_tor, ev_tnot, ev_irange1, ev_irange2, ev_sif, ev_next, ev_ret, ev_retO, ev_raise, ev_app, ev_put, ev_dput, ev_for, ev_while, ev_pub, pub_cons, pub_nil, ev_drop, ev_dnew, res_nx, res_rt, res_xc, R.bind_ok, R.bind_xc, R.out_ok, R.out_xc, Out.bind_nx, Out.bind_rt, Out.bind_xc, Sl.d_va, Sl.d_ow, Sl.frz_va, Sl.frz_ow, Sl.frz_no, List.getElem?_cons_succ, List.getElem?_cons_zero, List.set_cons_succ, List.set_cons_zero, List.length_cons, List.length_nil, List.map_cons, List.map_nil, lim_val, Nat.zero_le, Nat.reduceAdd, Nat.reduceLeDiff, Nat.reduceEqDiff, reduceIte, Nat.zero_add, if_true, if_false, Bool.false_eq_true, Bool.not_true, Bool.not_false, decide_true, decide_false, o_add, o_sub, o_neg, o_lt, o_le, o_gt, o_ge, o_eq, o_ne, o_isN, o_notN, isNon_non, isNon_int, isNon_tup, isNon_lst, o_idxL, o_idxT, o_lenL, o_lenT, o_lenS, o_listL, o_listT, o_tupleL, o_tupleT, o_int, o_intb, o_max2, o_min2, o_slL, o_slT, atD_0, atD_1, atD_2, atD_3, atD_4, atD_5, range_4, range_3, range_2, m1])
  obtain ⟨e, hw, a, rfl⟩ := W
  simp only [ev_seq, ev_set, ev_op1, ev_op2, ev_call, ev_cons, ev_nil, ev_c, ev_var, ev_tup, ev_lst, ev_cb, ev_fz, ev_lend, ev_and, ev_or, ev_not, ev_chain, ev_if, ev_bm, ev_get2, ev_ixO, ev_sl, ev_some, ev_none, ev_tval, ev_tand, ev_tor, ev_tnot, ev_irange1, ev_irange2, ev_sif, ev_next, ev_ret, ev_retO, ev_raise, ev_app, ev_put, ev_dput, ev_for, ev_while, ev_pub, pub_cons, pub_nil, ev_drop, ev_dnew, res_nx, res_rt, res_xc, R.bind_ok, R.bind_xc, R.out_ok, R.out_xc, Out.bind_nx, Out.bind_rt, Out.bind_xc, Sl.d_va, Sl.d_ow, Sl.frz_va, Sl.frz_ow, Sl.frz_no, List.getElem?_cons_succ, List.getElem?_cons_zero, List.set_cons_succ, List.set_cons_zero, List.length_cons, List.length_nil, List.map_cons, List.map_nil, lim_val, Nat.zero_le, Nat.reduceAdd, Nat.reduceLeDiff, Nat.reduceEqDiff, reduceIte, Nat.zero_add, if_true, if_false, Bool.false_eq_true, Bool.not_true, Bool.not_false, decide_true, decide_false, o_add, o_sub, o_neg, o_lt, o_le, o_gt, o_ge, o_eq, o_ne, o_isN, o_notN, isNon_non, isNon_int, isNon_tup, isNon_lst, o_idxL, o_idxT, o_lenL, o_lenT, o_lenS, o_listL, o_listT, o_tupleL, o_tupleT, o_int, o_intb, o_max2, o_min2, o_slL, o_slT, atD_0, atD_1, atD_2, atD_3, atD_4, atD_5, range_4, range_3, range_2, hlen, dm, he, hk, efree, hrg, hw]
  unfold colN
  rw [c2, ← Nat.pow_add]
end DL
set_option maxRecDepth 100000
/-! MA5: the law's count of colourings -/
namespace DL
open PySem (Str)
def addP (p : Nat) (v : List Int) : List (List Int) := (List.range p).map fun (x : Nat) => v ++ [(x : Int)]
def paintsL : Nat → Nat → List (List Int)
  | 0, _ => [[]]
  | n + 1, p => (paintsL n p).flatMap (addP p)
theorem paintsL_len (p : Nat) : ∀ n : Nat, (paintsL n p).length = p ^ n ∧ ∀ v ∈ paintsL n p, v.length = n ∧ ∀ x ∈ v, 0 ≤ x ∧ x < (p : Int)
  | 0 => ⟨rfl, fun v hv => by
    have : v = [] := by simpa [paintsL] using hv
    subst this
    simp⟩
  | n + 1 => by
    obtain ⟨h1, h2⟩ := paintsL_len p n
    rw [paintsL]
    refine ⟨?_, fun v hv => ?_⟩
    · have e : ((paintsL n p).map fun a => (addP p a).length) = (paintsL n p).map fun _ => p := by
        apply List.map_congr_left
        intro v _
        unfold addP
        rw [List.length_map, List.length_range]
      rw [List.length_flatMap, e, List.map_const', List.sum_replicate_nat, h1, Nat.pow_succ]
    · obtain ⟨u, hu, hv2⟩ := List.mem_flatMap.mp hv
      unfold addP at hv2
      obtain ⟨x, hx, rfl⟩ := List.mem_map.mp hv2
      obtain ⟨q1, q2⟩ := h2 u hu
      have hx2 := List.mem_range.mp hx
      refine ⟨by rw [List.length_append, q1]; rfl, fun y hy => ?_⟩
      rcases List.mem_append.mp hy with m | m
      · exact q2 y m
      · rw [List.mem_singleton] at m
        omega
theorem foldl_snoc {α β : Type} (f : α → β) : ∀ (l : List α) (s : List β), l.foldl (fun s x => s ++ [f x]) s = s ++ l.map f
  | [], s => by simp
  | x :: l, s => by rw [List.foldl_cons, foldl_snoc f l, List.map_cons, List.append_assoc]; rfl
theorem encLR_app (a b : List (List Int)) : encLR (a ++ b) = encLR a ++ encLR b := List.map_append
theorem paints_ok {n p : Nat} (hn : n ≤ 1000) (hp : 1 ≤ p) (hp2 : p ≤ 1000) (hb : p ^ n ≤ 100000) : f_law_paints [.int (n : Int), .int (p : Int)] = .ok (.va (.lst (encLR (paintsL n p)))) := by
  unfold f_law_paints F_law_paints
  rw [fn_eq [.va (.int (n : Int)), .va (.int (p : Int)), .no, .no, .no, .no, .no] rfl]
  have hrn := range_nat (n := n) (by omega)
  have hrp := range_nat (n := p) (by omega)
  have W := forD_rng (j := 3) (b := B_law_paints_3) n (fun i e => ∃ a b c d, e = [.va (.int (n : Int)), .va (.int (p : Int)), .va (.lst (encLR (paintsL i p))), a, b, c, d]) [.va (.int (n : Int)), .va (.int (p : Int)), .va (.lst [.lst []]), .no, .no, .no, .no] ⟨_, _, _, _, rfl⟩
    (fun k e hk ⟨a, b, c, d, he⟩ => by
      subst he
      obtain ⟨l1, l2⟩ := paintsL_len p k
      have hpk : p ^ (k + 1) ≤ p ^ n := Nat.pow_le_pow_right hp (by omega)
      have W2 := forD_fold (j := 5) (b := B_law_paints_2) (enc := fun v => D.lst (encI v)) (fun (T : List (List Int)) e => ∃ c d, e = [.va (.int (n : Int)), .va (.int (p : Int)), .va (.lst (encLR (paintsL k p))), .va (.int (k : Int)), .ow (.lst (encLR T)), c, d]) (fun T v => T ++ addP p v) (paintsL k p) []
        [.va (.int (n : Int)), .va (.int (p : Int)), .va (.lst (encLR (paintsL k p))), .va (.int (k : Int)), .ow (.lst []), c, d] ⟨_, _, rfl⟩
        (fun i v e hx he => by
          obtain ⟨c, d, rfl⟩ := he
          obtain ⟨hil, hiv⟩ := List.getElem?_eq_some_iff.mp hx
          have hv := l2 v (List.mem_of_getElem? hx)
          rw [foldl_append, List.nil_append]
          have hTl : (((paintsL k p).take i).flatMap (addP p)).length = i * p := by
            have e : (((paintsL k p).take i).map fun a => (addP p a).length) = ((paintsL k p).take i).map fun _ => p := by
              apply List.map_congr_left
              intro v _
              unfold addP
              rw [List.length_map, List.length_range]
            rw [List.length_flatMap, e, List.map_const', List.sum_replicate_nat, List.length_take, Nat.min_eq_left (Nat.le_of_lt hil)]
          generalize ((paintsL k p).take i).flatMap (addP p) = T at *
          have hsz : T.length + p ≤ 1000000 := by
            have h1 : i * p + p ≤ p ^ k * p := by
              rw [← Nat.succ_mul]
              exact Nat.mul_le_mul_right p (by omega)
            have h2 : i * p + p ≤ p ^ n := Nat.le_trans h1 hpk
            omega
          have W3 := forD_fold (j := 6) (b := B_law_paints_1) (enc := fun x : Nat => D.int (x : Int)) (fun (U : List (List Int)) e => ∃ d, e = [.va (.int (n : Int)), .va (.int (p : Int)), .va (.lst (encLR (paintsL k p))), .va (.int (k : Int)), .ow (.lst (encLR U)), .va (.lst (encI v)), d]) (fun U (x : Nat) => U ++ [v ++ [(x : Int)]]) (List.range p) T
            [.va (.int (n : Int)), .va (.int (p : Int)), .va (.lst (encLR (paintsL k p))), .va (.int (k : Int)), .ow (.lst (encLR T)), .va (.lst (encI v)), d] ⟨_, rfl⟩
            (fun i2 x e hx2 he => by
              obtain ⟨d, rfl⟩ := he
              have hxp := (List.getElem?_eq_some_iff.mp hx2).1
              rw [List.length_range] at hxp
              rw [foldl_snoc]
              have hUl : (T ++ ((List.range p).take i2).map fun (x : Nat) => v ++ [(x : Int)]).length < 1000000 := by
                rw [List.length_append, List.length_map, List.length_take, List.length_range]
                omega
              generalize (T ++ ((List.range p).take i2).map fun (x : Nat) => v ++ [(x : Int)]) = U at *
              have hadd : dAdd (.lst (encI v)) (.lst [.int (x : Int)]) = .ok (.ow (.lst (encI v ++ [.int (x : Int)]))) := o_addL (by
                have := hv.1
                rw [lim_val, List.length_map]
                simp
                omega)
              refine ⟨_, ?_, .va (.int (x : Int)), rfl⟩
              unfold B_law_paints_1
              simp only [ev_seq, ev_set, ev_op1, ev_op2, ev_call, ev_cons, ev_nil, ev_c, ev_var, ev_tup, ev_lst, ev_cb, ev_fz, ev_lend, ev_and, ev_or, ev_not, ev_chain, ev_if, ev_bm, ev_get2, ev_ixO, ev_sl, ev_some, ev_none, ev_tval, ev_tand, ev_tor, ev_tnot, ev_irange1, ev_irange2, ev_sif, ev_next, ev_ret, ev_retO, ev_raise, ev_app, ev_put, ev_dput, ev_for, ev_while, ev_pub, pub_cons, pub_nil, ev_drop, ev_dnew, res_nx, res_rt, res_xc, R.bind_ok, R.bind_xc, R.out_ok, R.out_xc, Out.bind_nx, Out.bind_rt, Out.bind_xc, Sl.d_va, Sl.d_ow, Sl.frz_va, Sl.frz_ow, Sl.frz_no, List.getElem?_cons_succ, List.getElem?_cons_zero, List.set_cons_succ, List.set_cons_zero, List.length_cons, List.length_nil, List.map_cons, List.map_nil, lim_val, Nat.zero_le, Nat.reduceAdd, Nat.reduceLeDiff, Nat.reduceEqDiff, reduceIte, Nat.zero_add, if_true, if_false, Bool.false_eq_true, Bool.not_true, Bool.not_false, decide_true, decide_false, o_add, o_sub, o_neg, o_lt, o_le, o_gt, o_ge, o_eq, o_ne, o_isN, o_notN, isNon_non, isNon_int, isNon_tup, isNon_lst, o_idxL, o_idxT, o_lenL, o_lenT, o_lenS, o_listL, o_listT, o_tupleL, o_tupleT, o_int, o_intb, o_max2, o_min2, o_slL, o_slT, atD_0, atD_1, atD_2, atD_3, atD_4, atD_5, range_4, range_3, range_2, hadd, List.length_map, hUl]
              simp only [encLR, List.map_append, List.map_cons, List.map_nil])
          obtain ⟨e3, hw3, d3, rfl⟩ := W3
          rw [foldl_snoc, ← rng_eq] at hw3
          refine ⟨_, ?_, .va (.lst (encI v)), d3, rfl⟩
          unfold B_law_paints_2
          simp only [ev_seq, ev_set, ev_op1, ev_op2, ev_call, ev_cons, ev_nil, ev_c, ev_var, ev_tup, ev_lst, ev_cb, ev_fz, ev_lend, ev_and, ev_or, ev_not, ev_chain, ev_if, ev_bm, ev_get2, ev_ixO, ev_sl, ev_some, ev_none, ev_tval, ev_tand, ev_tor, ev_tnot, ev_irange1, ev_irange2, ev_sif, ev_next, ev_ret, ev_retO, ev_raise, ev_app, ev_put, ev_dput, ev_for, ev_while, ev_pub, pub_cons, pub_nil, ev_drop, ev_dnew, res_nx, res_rt, res_xc, R.bind_ok, R.bind_xc, R.out_ok, R.out_xc, Out.bind_nx, Out.bind_rt, Out.bind_xc, Sl.d_va, Sl.d_ow, Sl.frz_va, Sl.frz_ow, Sl.frz_no, List.getElem?_cons_succ, List.getElem?_cons_zero, List.set_cons_succ, List.set_cons_zero, List.length_cons, List.length_nil, List.map_cons, List.map_nil, lim_val, Nat.zero_le, Nat.reduceAdd, Nat.reduceLeDiff, Nat.reduceEqDiff, reduceIte, Nat.zero_add, if_true, if_false, Bool.false_eq_true, Bool.not_true, Bool.not_false, decide_true, decide_false, o_add, o_sub, o_neg, o_lt, o_le, o_gt, o_ge, o_eq, o_ne, o_isN, o_notN, isNon_non, isNon_int, isNon_tup, isNon_lst, o_idxL, o_idxT, o_lenL, o_lenT, o_lenS, o_listL, o_listT, o_tupleL, o_tupleT, o_int, o_intb, o_max2, o_min2, o_slL, o_slT, atD_0, atD_1, atD_2, atD_3, atD_4, atD_5, range_4, range_3, range_2, hrp, hw3]
          rfl)
      obtain ⟨e2, hw2, c2, d2, rfl⟩ := W2
      rw [foldl_append, List.nil_append] at hw2
      refine ⟨_, ?_, .va (.int (k : Int)), .va (.lst (encLR (paintsL (k + 1) p))), c2, d2, rfl⟩
      unfold B_law_paints_3
      simp only [ev_seq, ev_set, ev_op1, ev_op2, ev_call, ev_cons, ev_nil, ev_c, ev_var, ev_tup, ev_lst, ev_cb, ev_fz, ev_lend, ev_and, ev_or, ev_not, ev_chain, ev_if, ev_bm, ev_get2, ev_ixO, ev_sl, ev_some, ev_none, ev_tval, ev_tand, ev_tor, ev_tnot, ev_irange1, ev_irange2, ev_sif, ev_next, ev_ret, ev_retO, ev_raise, ev_app, ev_put, ev_dput, ev_for, ev_while, ev_pub, pub_cons, pub_nil, ev_drop, ev_dnew, res_nx, res_rt, res_xc, R.bind_ok, R.bind_xc, R.out_ok, R.out_xc, Out.bind_nx, Out.bind_rt, Out.bind_xc, Sl.d_va, Sl.d_ow, Sl.frz_va, Sl.frz_ow, Sl.frz_no, List.getElem?_cons_succ, List.getElem?_cons_zero, List.set_cons_succ, List.set_cons_zero, List.length_cons, List.length_nil, List.map_cons, List.map_nil, lim_val, Nat.zero_le, Nat.reduceAdd, Nat.reduceLeDiff, Nat.reduceEqDiff, reduceIte, Nat.zero_add, if_true, if_false, Bool.false_eq_true, Bool.not_true, Bool.not_false, decide_true, decide_false, o_add, o_sub, o_neg, o_lt, o_le, o_gt, o_ge, o_eq, o_ne, o_isN, o_notN, isNon_non, isNon_int, isNon_tup, isNon_lst, o_idxL, o_idxT, o_lenL, o_lenT, o_lenS, o_listL, o_listT, o_tupleL, o_tupleT, o_int, o_intb, o_max2, o_min2, o_slL, o_slT, atD_0, atD_1, atD_2, atD_3, atD_4, atD_5, range_4, range_3, range_2, ev_iseq, hw2]
      rfl)
  obtain ⟨e, hw, a, b, c, d, rfl⟩ := W
  simp only [ev_seq, ev_set, ev_op1, ev_op2, ev_call, ev_cons, ev_nil, ev_c, ev_var, ev_tup, ev_lst, ev_cb, ev_fz, ev_lend, ev_and, ev_or, ev_not, ev_chain, ev_if, ev_bm, ev_get2, ev_ixO, ev_sl, ev_some, ev_none, ev_tval, ev_tand, ev_tor, ev_tnot, ev_irange1, ev_irange2, ev_sif, ev_next, ev_ret, ev_retO, ev_raise, ev_app, ev_put, ev_dput, ev_for, ev_while, ev_pub, pub_cons, pub_nil, ev_drop, ev_dnew, res_nx, res_rt, res_xc, R.bind_ok, R.bind_xc, R.out_ok, R.out_xc, Out.bind_nx, Out.bind_rt, Out.bind_xc, Sl.d_va, Sl.d_ow, Sl.frz_va, Sl.frz_ow, Sl.frz_no, List.getElem?_cons_succ, List.getElem?_cons_zero, List.set_cons_succ, List.set_cons_zero, List.length_cons, List.length_nil, List.map_cons, List.map_nil, lim_val, Nat.zero_le, Nat.reduceAdd, Nat.reduceLeDiff, Nat.reduceEqDiff, reduceIte, Nat.zero_add, if_true, if_false, Bool.false_eq_true, Bool.not_true, Bool.not_false, decide_true, decide_false, o_add, o_sub, o_neg, o_lt, o_le, o_gt, o_ge, o_eq, o_ne, o_isN, o_notN, isNon_non, isNon_int, isNon_tup, isNon_lst, o_idxL, o_idxT, o_lenL, o_lenT, o_lenS, o_listL, o_listT, o_tupleL, o_tupleT, o_int, o_intb, o_max2, o_min2, o_slL, o_slT, atD_0, atD_1, atD_2, atD_3, atD_4, atD_5, range_4, range_3, range_2, hrn, hw]
def fitB (r v : List Int) (p : Nat) : Bool := decide (v.getD (r.getD 1 0).toNat 0 = v.getD (r.getD 3 0).toNat 0) && decide ((2 * v.getD (r.getD 1 0).toNat 0 - v.getD (r.getD 0 0).toNat 0 - v.getD (r.getD 2 0).toNat 0) % (p : Int) = 0)
theorem fits_ok {r v : List Int} {p n : Nat} (hr : r.length = 4) (hin : ∀ x ∈ r, 0 ≤ x ∧ x < (n : Int)) (hv : v.length = n) (hp : 0 < p) : f_law_fits [encR r, .lst (encI v), .int (p : Int)] = .ok (.va (.bl (fitB r v p))) := by
  unfold f_law_fits F_law_fits fitB
  rw [fn_eq [.va (encR r), .va (.lst (encI v)), .va (.int (p : Int))] rfl]
  obtain ⟨a, b, c, d, rfl⟩ := four_of hr
  have ha : ∀ x ∈ [a, b, c, d], atD (encI v) x = some (.int (v.getD x.toNat 0)) := fun x hx => by
    have := hin x hx
    have h2 := at_int (r := v) (i := x.toNat) (by omega)
    rwa [Int.toNat_of_nonneg this.1] at h2
  have h0 := ha a (by simp)
  have h1 := ha b (by simp)
  have h2 := ha c (by simp)
  have h3 := ha d (by simp)
  have i0 : atD (encI [a, b, c, d]) 0 = some (.int a) := rfl
  have i1 : atD (encI [a, b, c, d]) 1 = some (.int b) := rfl
  have i2 : atD (encI [a, b, c, d]) 2 = some (.int c) := rfl
  have i3 : atD (encI [a, b, c, d]) 3 = some (.int d) := rfl
  show _ = R.ok (Sl.va (.bl (decide (v.getD b.toNat 0 = v.getD d.toNat 0) && decide ((2 * v.getD b.toNat 0 - v.getD a.toNat 0 - v.getD c.toNat 0) % (p : Int) = 0))))
  have m1 : dMul (.int 2) (.int (v.getD b.toNat 0)) = .ok (.va (.int (2 * v.getD b.toNat 0))) := o_mulL (by decide) (by decide)
  have m2 : dMod (.int (2 * v.getD b.toNat 0 - v.getD a.toNat 0 - v.getD c.toNat 0)) (.int (p : Int)) = .ok (.va (.int ((2 * v.getD b.toNat 0 - v.getD a.toNat 0 - v.getD c.toNat 0) % (p : Int)))) := o_mod (by omega)
  generalize v.getD a.toNat 0 = ya at *
  generalize v.getD b.toNat 0 = yb at *
  generalize v.getD c.toNat 0 = yc at *
  generalize v.getD d.toNat 0 = yd at *
  by_cases e : yb = yd
  · subst e
    simp only [ev_seq, ev_set, ev_op1, ev_op2, ev_call, ev_cons, ev_nil, ev_c, ev_var, ev_tup, ev_lst, ev_cb, ev_fz, ev_lend, ev_and, ev_or, ev_not, ev_chain, ev_if, ev_bm, ev_get2, ev_ixO, ev_sl, ev_some, ev_none, ev_tval, ev_tand, ev_tor, ev_tnot, ev_irange1, ev_irange2, ev_sif, ev_next, ev_ret, ev_retO, ev_raise, ev_app, ev_put, ev_dput, ev_for, ev_while, ev_pub, pub_cons, pub_nil, ev_drop, ev_dnew, res_nx, res_rt, res_xc, R.bind_ok, R.bind_xc, R.out_ok, R.out_xc, Out.bind_nx, Out.bind_rt, Out.bind_xc, Sl.d_va, Sl.d_ow, Sl.frz_va, Sl.frz_ow, Sl.frz_no, List.getElem?_cons_succ, List.getElem?_cons_zero, List.set_cons_succ, List.set_cons_zero, List.length_cons, List.length_nil, List.map_cons, List.map_nil, lim_val, Nat.zero_le, Nat.reduceAdd, Nat.reduceLeDiff, Nat.reduceEqDiff, reduceIte, Nat.zero_add, if_true, if_false, Bool.false_eq_true, Bool.not_true, Bool.not_false, decide_true, decide_false, o_add, o_sub, o_neg, o_lt, o_le, o_gt, o_ge, o_eq, o_ne, o_isN, o_notN, isNon_non, isNon_int, isNon_tup, isNon_lst, o_idxL, o_idxT, o_lenL, o_lenT, o_lenS, o_listL, o_listT, o_tupleL, o_tupleT, o_int, o_intb, o_max2, o_min2, o_slL, o_slT, atD_0, atD_1, atD_2, atD_3, atD_4, atD_5, range_4, range_3, range_2, List.map_cons, List.map_nil, h0, h1, h2, h3, m1, m2, Bool.true_and]
  · simp only [ev_seq, ev_set, ev_op1, ev_op2, ev_call, ev_cons, ev_nil, ev_c, ev_var, ev_tup, ev_lst, ev_cb, ev_fz, ev_lend, ev_and, ev_or, ev_not, ev_chain, ev_if, ev_bm, ev_get2, ev_ixO, ev_sl, ev_some, ev_none, ev_tval, ev_tand, ev_tor, ev_tnot, ev_irange1, ev_irange2, ev_sif, ev_next, ev_ret, ev_retO, ev_raise, ev_app, ev_put, ev_dput, ev_for, ev_while, ev_pub, pub_cons, pub_nil, ev_drop, ev_dnew, res_nx, res_rt, res_xc, R.bind_ok, R.bind_xc, R.out_ok, R.out_xc, Out.bind_nx, Out.bind_rt, Out.bind_xc, Sl.d_va, Sl.d_ow, Sl.frz_va, Sl.frz_ow, Sl.frz_no, List.getElem?_cons_succ, List.getElem?_cons_zero, List.set_cons_succ, List.set_cons_zero, List.length_cons, List.length_nil, List.map_cons, List.map_nil, lim_val, Nat.zero_le, Nat.reduceAdd, Nat.reduceLeDiff, Nat.reduceEqDiff, reduceIte, Nat.zero_add, if_true, if_false, Bool.false_eq_true, Bool.not_true, Bool.not_false, decide_true, decide_false, o_add, o_sub, o_neg, o_lt, o_le, o_gt, o_ge, o_eq, o_ne, o_isN, o_notN, isNon_non, isNon_int, isNon_tup, isNon_lst, o_idxL, o_idxT, o_lenL, o_lenT, o_lenS, o_listL, o_listT, o_tupleL, o_tupleT, o_int, o_intb, o_max2, o_min2, o_slL, o_slT, atD_0, atD_1, atD_2, atD_3, atD_4, atD_5, range_4, range_3, range_2, List.map_cons, List.map_nil, h0, h1, h2, h3, e, Bool.false_and]
def goodB (rs : List (List Int)) (p : Nat) (v : List Int) : Bool := rs.all fun r => fitB r v p
theorem count_ok {m p : Nat} {rs : List (List Int)} (h : Drawn m rs) (hm : m ≤ 100) (hp : 1 ≤ p) (hp2 : p ≤ 1000) (hb : p ^ (2 * m) ≤ 100000) : f_law_count [.tup (encRs rs), .int (p : Int)] = .ok (.va (.int (((paintsL (2 * m) p).countP (goodB rs p) : Nat) : Int))) := by
  unfold f_law_count F_law_count
  rw [fn_eq [.va (.tup (encRs rs)), .va (.int (p : Int)), .no, .no, .no, .no] rfl]
  have hlen : (encRs rs).length = m := by rw [List.length_map, h.len]
  have dm : dMul (.int 2) (.int m) = .ok (.va (.int ((2 * m : Nat) : Int))) := o_mulL (by decide) (by decide)
  have hpt := paints_ok (n := 2 * m) (p := p) (by omega) hp hp2 hb
  obtain ⟨_, l2⟩ := paintsL_len p (2 * m)
  have W := forD_fold (j := 3) (b := B_law_count_2) (enc := fun v => D.lst (encI v)) (fun (s : Nat) e => ∃ a b c, e = [.va (.tup (encRs rs)), .va (.int (p : Int)), .va (.int (s : Int)), a, b, c]) (fun s v => s + if goodB rs p v = true then 1 else 0) (paintsL (2 * m) p) 0
    [.va (.tup (encRs rs)), .va (.int (p : Int)), .va (.int 0), .no, .no, .no] ⟨_, _, _, rfl⟩
    (fun i v e hx he => by
      obtain ⟨a, b, c, rfl⟩ := he
      obtain ⟨hv, _⟩ := l2 v (List.mem_of_getElem? hx)
      generalize ((paintsL (2 * m) p).take i).foldl (fun s v => s + if goodB rs p v = true then 1 else 0) 0 = s at *
      have W2 := forD_fold (j := 5) (b := B_law_count_1) (enc := encR) (fun (g : Bool) e => ∃ c, e = [.va (.tup (encRs rs)), .va (.int (p : Int)), .va (.int (s : Int)), .va (.lst (encI v)), .va (.bl g), c]) (fun g r => g && fitB r v p) rs true
        [.va (.tup (encRs rs)), .va (.int (p : Int)), .va (.int (s : Int)), .va (.lst (encI v)), .va (.bl true), c] ⟨_, rfl⟩
        (fun i2 r e hx2 he => by
          obtain ⟨c, rfl⟩ := he
          have hmem := List.mem_of_getElem? hx2
          generalize (rs.take i2).foldl (fun g r => g && fitB r v p) true = g at *
          have hf := fits_ok (r := r) (v := v) (p := p) (n := 2 * m) (h.four r hmem) (fun x hx => by
            have := drawn_mem h (List.mem_flatten.mpr ⟨r, hmem, hx⟩)
            omega) hv (by omega)
          unfold B_law_count_1
          cases q : fitB r v p with
          | true =>
            rw [q] at hf
            rw [Bool.and_true]
            exact ⟨_, by simp only [ev_seq, ev_set, ev_op1, ev_op2, ev_call, ev_cons, ev_nil, ev_c, ev_var, ev_tup, ev_lst, ev_cb, ev_fz, ev_lend, ev_and, ev_or, ev_not, ev_chain, ev_if, ev_bm, ev_get2, ev_ixO, ev_sl, ev_some, ev_none, ev_tval, ev_tand, ev_tor, ev_tnot, ev_irange1, ev_irange2, ev_sif, ev_next, ev_ret, ev_retO, ev_raise, ev_app, ev_put, ev_dput, ev_for, ev_while, ev_pub, pub_cons, pub_nil, ev_drop, ev_dnew, res_nx, res_rt, res_xc, R.bind_ok, R.bind_xc, R.out_ok, R.out_xc, Out.bind_nx, Out.bind_rt, Out.bind_xc, Sl.d_va, Sl.d_ow, Sl.frz_va, Sl.frz_ow, Sl.frz_no, List.getElem?_cons_succ, List.getElem?_cons_zero, List.set_cons_succ, List.set_cons_zero, List.length_cons, List.length_nil, List.map_cons, List.map_nil, lim_val, Nat.zero_le, Nat.reduceAdd, Nat.reduceLeDiff, Nat.reduceEqDiff, reduceIte, Nat.zero_add, if_true, if_false, Bool.false_eq_true, Bool.not_true, Bool.not_false, decide_true, decide_false, o_add, o_sub, o_neg, o_lt, o_le, o_gt, o_ge, o_eq, o_ne, o_isN, o_notN, isNon_non, isNon_int, isNon_tup, isNon_lst, o_idxL, o_idxT, o_lenL, o_lenT, o_lenS, o_listL, o_listT, o_tupleL, o_tupleT, o_int, o_intb, o_max2, o_min2, o_slL, o_slT, atD_0, atD_1, atD_2, atD_3, atD_4, atD_5, range_4, range_3, range_2, hf], .va (encR r), rfl⟩
          | false =>
            rw [q] at hf
            rw [Bool.and_false]
            exact ⟨_, by simp only [ev_seq, ev_set, ev_op1, ev_op2, ev_call, ev_cons, ev_nil, ev_c, ev_var, ev_tup, ev_lst, ev_cb, ev_fz, ev_lend, ev_and, ev_or, ev_not, ev_chain, ev_if, ev_bm, ev_get2, ev_ixO, ev_sl, ev_some, ev_none, ev_tval, ev_tand, ev_tor, ev_tnot, ev_irange1, ev_irange2, ev_sif, ev_next, ev_ret, ev_retO, ev_raise, ev_app, ev_put, ev_dput, ev_for, ev_while, ev_pub, pub_cons, pub_nil, ev_drop, ev_dnew, res_nx, res_rt, res_xc, R.bind_ok, R.bind_xc, R.out_ok, R.out_xc, Out.bind_nx, Out.bind_rt, Out.bind_xc, Sl.d_va, Sl.d_ow, Sl.frz_va, Sl.frz_ow, Sl.frz_no, List.getElem?_cons_succ, List.getElem?_cons_zero, List.set_cons_succ, List.set_cons_zero, List.length_cons, List.length_nil, List.map_cons, List.map_nil, lim_val, Nat.zero_le, Nat.reduceAdd, Nat.reduceLeDiff, Nat.reduceEqDiff, reduceIte, Nat.zero_add, if_true, if_false, Bool.false_eq_true, Bool.not_true, Bool.not_false, decide_true, decide_false, o_add, o_sub, o_neg, o_lt, o_le, o_gt, o_ge, o_eq, o_ne, o_isN, o_notN, isNon_non, isNon_int, isNon_tup, isNon_lst, o_idxL, o_idxT, o_lenL, o_lenT, o_lenS, o_listL, o_listT, o_tupleL, o_tupleT, o_int, o_intb, o_max2, o_min2, o_slL, o_slT, atD_0, atD_1, atD_2, atD_3, atD_4, atD_5, range_4, range_3, range_2, hf], .va (encR r), rfl⟩)
      obtain ⟨e2, hw2, c2, rfl⟩ := W2
      have hall : ∀ (l : List (List Int)) (g : Bool), l.foldl (fun g r => g && fitB r v p) g = (g && l.all fun r => fitB r v p) := by
        intro l
        induction l with
        | nil => intro g; simp
        | cons r l ih => intro g; rw [List.foldl_cons, ih, List.all_cons, Bool.and_assoc]
      rw [hall, Bool.true_and] at hw2
      unfold B_law_count_2 goodB
      cases q : rs.all fun r => fitB r v p with
      | true =>
        rw [q] at hw2
        refine ⟨[.va (.tup (encRs rs)), .va (.int (p : Int)), .va (.int ((s + 1 : Nat) : Int)), .va (.lst (encI v)), .va (.bl true), c2], ?_, _, _, _, rfl⟩
        simp only [ev_seq, ev_set, ev_op1, ev_op2, ev_call, ev_cons, ev_nil, ev_c, ev_var, ev_tup, ev_lst, ev_cb, ev_fz, ev_lend, ev_and, ev_or, ev_not, ev_chain, ev_if, ev_bm, ev_get2, ev_ixO, ev_sl, ev_some, ev_none, ev_tval, ev_tand, ev_tor, ev_tnot, ev_irange1, ev_irange2, ev_sif, ev_next, ev_ret, ev_retO, ev_raise, ev_app, ev_put, ev_dput, ev_for, ev_while, ev_pub, pub_cons, pub_nil, ev_drop, ev_dnew, res_nx, res_rt, res_xc, R.bind_ok, R.bind_xc, R.out_ok, R.out_xc, Out.bind_nx, Out.bind_rt, Out.bind_xc, Sl.d_va, Sl.d_ow, Sl.frz_va, Sl.frz_ow, Sl.frz_no, List.getElem?_cons_succ, List.getElem?_cons_zero, List.set_cons_succ, List.set_cons_zero, List.length_cons, List.length_nil, List.map_cons, List.map_nil, lim_val, Nat.zero_le, Nat.reduceAdd, Nat.reduceLeDiff, Nat.reduceEqDiff, reduceIte, Nat.zero_add, if_true, if_false, Bool.false_eq_true, Bool.not_true, Bool.not_false, decide_true, decide_false, o_add, o_sub, o_neg, o_lt, o_le, o_gt, o_ge, o_eq, o_ne, o_isN, o_notN, isNon_non, isNon_int, isNon_tup, isNon_lst, o_idxL, o_idxT, o_lenL, o_lenT, o_lenS, o_listL, o_listT, o_tupleL, o_tupleT, o_int, o_intb, o_max2, o_min2, o_slL, o_slT, atD_0, atD_1, atD_2, atD_3, atD_4, atD_5, range_4, range_3, range_2, ev_iseq, hw2]
        rfl
      | false =>
        rw [q] at hw2
        refine ⟨[.va (.tup (encRs rs)), .va (.int (p : Int)), .va (.int (s : Int)), .va (.lst (encI v)), .va (.bl false), c2], ?_, _, _, _, rfl⟩
        simp only [ev_seq, ev_set, ev_op1, ev_op2, ev_call, ev_cons, ev_nil, ev_c, ev_var, ev_tup, ev_lst, ev_cb, ev_fz, ev_lend, ev_and, ev_or, ev_not, ev_chain, ev_if, ev_bm, ev_get2, ev_ixO, ev_sl, ev_some, ev_none, ev_tval, ev_tand, ev_tor, ev_tnot, ev_irange1, ev_irange2, ev_sif, ev_next, ev_ret, ev_retO, ev_raise, ev_app, ev_put, ev_dput, ev_for, ev_while, ev_pub, pub_cons, pub_nil, ev_drop, ev_dnew, res_nx, res_rt, res_xc, R.bind_ok, R.bind_xc, R.out_ok, R.out_xc, Out.bind_nx, Out.bind_rt, Out.bind_xc, Sl.d_va, Sl.d_ow, Sl.frz_va, Sl.frz_ow, Sl.frz_no, List.getElem?_cons_succ, List.getElem?_cons_zero, List.set_cons_succ, List.set_cons_zero, List.length_cons, List.length_nil, List.map_cons, List.map_nil, lim_val, Nat.zero_le, Nat.reduceAdd, Nat.reduceLeDiff, Nat.reduceEqDiff, reduceIte, Nat.zero_add, if_true, if_false, Bool.false_eq_true, Bool.not_true, Bool.not_false, decide_true, decide_false, o_add, o_sub, o_neg, o_lt, o_le, o_gt, o_ge, o_eq, o_ne, o_isN, o_notN, isNon_non, isNon_int, isNon_tup, isNon_lst, o_idxL, o_idxT, o_lenL, o_lenT, o_lenS, o_listL, o_listT, o_tupleL, o_tupleT, o_int, o_intb, o_max2, o_min2, o_slL, o_slT, atD_0, atD_1, atD_2, atD_3, atD_4, atD_5, range_4, range_3, range_2, ev_iseq, hw2])
  obtain ⟨e, hw, a, b, c, rfl⟩ := W
  have hcnt : ∀ (l : List (List Int)) (s : Nat), l.foldl (fun s v => s + if goodB rs p v = true then 1 else 0) s = s + l.countP (goodB rs p) := by
    intro l
    induction l with
    | nil => intro s; rfl
    | cons v l ih => intro s; rw [List.foldl_cons, ih, List.countP_cons]; omega
  rw [hcnt, Nat.zero_add] at hw
  simp only [ev_seq, ev_set, ev_op1, ev_op2, ev_call, ev_cons, ev_nil, ev_c, ev_var, ev_tup, ev_lst, ev_cb, ev_fz, ev_lend, ev_and, ev_or, ev_not, ev_chain, ev_if, ev_bm, ev_get2, ev_ixO, ev_sl, ev_some, ev_none, ev_tval, ev_tand, ev_tor, ev_tnot, ev_irange1, ev_irange2, ev_sif, ev_next, ev_ret, ev_retO, ev_raise, ev_app, ev_put, ev_dput, ev_for, ev_while, ev_pub, pub_cons, pub_nil, ev_drop, ev_dnew, res_nx, res_rt, res_xc, R.bind_ok, R.bind_xc, R.out_ok, R.out_xc, Out.bind_nx, Out.bind_rt, Out.bind_xc, Sl.d_va, Sl.d_ow, Sl.frz_va, Sl.frz_ow, Sl.frz_no, List.getElem?_cons_succ, List.getElem?_cons_zero, List.set_cons_succ, List.set_cons_zero, List.length_cons, List.length_nil, List.map_cons, List.map_nil, lim_val, Nat.zero_le, Nat.reduceAdd, Nat.reduceLeDiff, Nat.reduceEqDiff, reduceIte, Nat.zero_add, if_true, if_false, Bool.false_eq_true, Bool.not_true, Bool.not_false, decide_true, decide_false, o_add, o_sub, o_neg, o_lt, o_le, o_gt, o_ge, o_eq, o_ne, o_isN, o_notN, isNon_non, isNon_int, isNon_tup, isNon_lst, o_idxL, o_idxT, o_lenL, o_lenT, o_lenS, o_listL, o_listT, o_tupleL, o_tupleT, o_int, o_intb, o_max2, o_min2, o_slL, o_slT, atD_0, atD_1, atD_2, atD_3, atD_4, atD_5, range_4, range_3, range_2, hlen, dm, hpt, ev_iseq, hw]
/-! ### the same number -/
theorem sum_range (f : Nat → Nat) : ∀ p : Nat, ((List.range p).map f).sum = sumR p f
  | 0 => rfl
  | p + 1 => by rw [List.range_succ, List.map_append, List.sum_append, sum_range f p, sumR]; simp
theorem lin_snoc : ∀ (n : Nat) (j : Int), lin j (n + 1) = lin j n ++ [j + n]
  | 0, j => by simp [lin]
  | n + 1, j => by
    rw [lin, lin_snoc n (j + 1), lin, List.cons_append]
    congr 3
    omega
theorem NF_paints {p : Nat} (G : List Int → Nat) : ∀ (n : Nat) (c : Int → Int), NF p (lin 0 n) c (fun d => G ((List.range n).map fun (i : Nat) => d (i : Int))) = ((paintsL n p).map G).sum := by
  intro n
  induction n generalizing G with
  | zero => intro c; simp [lin, NF, paintsL]
  | succ n ih =>
    intro c
    rw [lin_snoc, NF_app]
    have e : (fun d : Int → Int => NF p [0 + (n : Int)] d fun d => G ((List.range (n + 1)).map fun (i : Nat) => d (i : Int))) = fun d => (fun v => sumR p fun x => G (v ++ [(x : Int)])) ((List.range n).map fun (i : Nat) => d (i : Int)) := by
      funext d
      simp only [NF]
      refine sumR_congr fun x _ => ?_
      rw [List.range_succ, List.map_append, List.map_cons, List.map_nil]
      have e1 : up1 d (0 + (n : Int)) (x : Int) (n : Int) = x := by rw [Int.zero_add, up1_self]
      have e2 : ((List.range n).map fun (i : Nat) => up1 d (0 + (n : Int)) (x : Int) (i : Int)) = (List.range n).map fun (i : Nat) => d (i : Int) := by
        apply List.map_congr_left
        intro i hi
        have := List.mem_range.mp hi
        exact up1_ne (by omega)
      rw [e1, e2]
    rw [e]
    refine (ih (fun v => sumR p fun x => G (v ++ [(x : Int)])) c).trans ?_
    rw [paintsL]
    generalize paintsL n p = l
    induction l with
    | nil => rfl
    | cons v l ih2 =>
      rw [List.map_cons, List.sum_cons, ih2, List.flatMap_cons, List.map_append, List.sum_append]
      congr 1
      unfold addP
      rw [List.map_map, ← sum_range]
      rfl
theorem countP_sum {α : Type} (q : α → Bool) : ∀ l : List α, l.countP q = (l.map fun v => if q v = true then 1 else 0).sum
  | [] => rfl
  | v :: l => by rw [List.countP_cons, countP_sum q l, List.map_cons, List.sum_cons]; omega
def fitC (r : List Int) (p : Nat) (c : Int → Int) : Prop := c (r.getD 1 0) = c (r.getD 3 0) ∧ (p : Int) ∣ 2 * c (r.getD 1 0) - c (r.getD 0 0) - c (r.getD 2 0)
theorem dot_set {p : Nat} {c : Int → Int} {y : Int} : ∀ (row : List Int) (i : Nat) (j : Int), i < row.length → ∃ w, dotF (row.set i ((row.getD i 0 + y) % (p : Int))) j c = dotF row j c + y * c (j + i) + p * w
  | a :: row, 0, j, _ => by
    refine ⟨-((a + y) / p) * c j, ?_⟩
    rw [List.set_cons_zero, dotF, dotF]
    show (a + y) % (p : Int) * c j + _ = _
    rw [Int.emod_def]
    have e0 : j + ((0 : Nat) : Int) = j := by omega
    rw [e0]
    generalize (a + y) / (p : Int) = z
    generalize dotF row (j + 1) c = w
    generalize c j = u
    generalize (p : Int) = P
    rw [Int.sub_mul, Int.add_mul, Int.neg_mul, Int.mul_neg, Int.mul_assoc]
    omega
  | a :: row, i + 1, j, h => by
    obtain ⟨w, hw⟩ := dot_set (p := p) (c := c) (y := y) row i (j + 1) (by simpa using h)
    refine ⟨w, ?_⟩
    rw [List.set_cons_succ, dotF, dotF]
    show a * c j + dotF (row.set i ((row.getD i 0 + y) % (p : Int))) (j + 1) c = _
    rw [hw]
    have e0 : j + ((i + 1 : Nat) : Int) = j + 1 + (i : Int) := by omega
    rw [e0]
    omega
def sumP (c : Int → Int) : List (Int × Int) → Int
  | [] => 0
  | q :: qs => q.2 * c q.1 + sumP c qs
theorem dot_rep (c : Int → Int) : ∀ (n : Nat) (j : Int), dotF (List.replicate n 0) j c = 0
  | 0, _ => rfl
  | n + 1, j => by rw [List.replicate_succ, dotF, dot_rep c n]; omega
theorem dot_parts {p n : Nat} {c : Int → Int} : ∀ (parts : List (Int × Int)) (row : List Int), row.length = n → (∀ q ∈ parts, 0 ≤ q.1 ∧ q.1 < n) → ∃ w, dotF (parts.foldl (putP p) row) 0 c = dotF row 0 c + sumP c parts + p * w
  | [], row, _, _ => ⟨0, by simp [sumP]⟩
  | q :: parts, row, hl, h => by
    obtain ⟨q0, q1⟩ := h q List.mem_cons_self
    obtain ⟨w1, hw1⟩ := dot_parts (p := p) (c := c) parts (putP p row q) (by unfold putP; rw [List.length_set]; exact hl) fun z hz => h z (List.mem_cons_of_mem _ hz)
    obtain ⟨w2, hw2⟩ := dot_set (p := p) (c := c) (y := q.2) row q.1.toNat 0 (by omega)
    refine ⟨w1 + w2, ?_⟩
    rw [List.foldl_cons, hw1]
    unfold putP
    rw [hw2]
    have e : (0 : Int) + (q.1.toNat : Int) = q.1 := by omega
    rw [e, sumP, Int.mul_add]
    omega
theorem dvd_mod {p : Nat} {x y w : Int} (h : x = y + p * w) : (p : Int) ∣ x ↔ (p : Int) ∣ y := by
  subst h
  constructor
  · rintro ⟨z, hz⟩
    exact ⟨z - w, by rw [Int.mul_sub]; omega⟩
  · rintro ⟨z, rfl⟩
    exact ⟨z + w, by rw [Int.mul_add]⟩
theorem small_dvd {p : Nat} {x y : Int} (hx : 0 ≤ x ∧ x < p) (hy : 0 ≤ y ∧ y < p) : (p : Int) ∣ x - y ↔ x = y := by
  constructor
  · rintro ⟨z, hz⟩
    have h1 : z = 0 := by
      rcases Int.lt_trichotomy z 0 with q | q | q
      · have : (p : Int) * z ≤ p * (-1) := Int.mul_le_mul_of_nonneg_left (by omega) (by omega)
        omega
      · exact q
      · have : (p : Int) * 1 ≤ p * z := Int.mul_le_mul_of_nonneg_left (by omega) (by omega)
        omega
    subst h1
    omega
  · intro e
    exact ⟨0, by omega⟩
theorem sat_fit {p n : Nat} {rs : List (List Int)} {c : Int → Int} (hin : ∀ r ∈ rs, r.length = 4 ∧ ∀ x ∈ r, 0 ≤ x ∧ x < (n : Int)) (hc : ∀ x : Int, 0 ≤ x → x < n → 0 ≤ c x ∧ c x < p) : satF p (eqs n p rs) 0 c ↔ ∀ r ∈ rs, fitC r p c := by
  have key : ∀ r ∈ rs, (∀ s ∈ eq2 n p r, (p : Int) ∣ dotF s 0 c) ↔ fitC r p c := by
    intro r hr
    obtain ⟨hl, hb⟩ := hin r hr
    obtain ⟨a0, a1, a2, a3, rfl⟩ := four_of hl
    have h0 := hb a0 (by simp)
    have h1 := hb a1 (by simp)
    have h2 := hb a2 (by simp)
    have h3 := hb a3 (by simp)
    obtain ⟨w1, hw1⟩ := dot_parts (p := p) (n := n) (c := c) [(a1, 1), (a3, -1)] (List.replicate n 0) List.length_replicate (fun q hq => by
      simp only [List.mem_cons, List.not_mem_nil, or_false] at hq
      rcases hq with rfl | rfl
      · exact h1
      · exact h3)
    obtain ⟨w2, hw2⟩ := dot_parts (p := p) (n := n) (c := c) [(a1, 2), (a0, -1), (a2, -1)] (List.replicate n 0) List.length_replicate (fun q hq => by
      simp only [List.mem_cons, List.not_mem_nil, or_false] at hq
      rcases hq with rfl | rfl | rfl
      · exact h1
      · exact h0
      · exact h2)
    rw [dot_rep] at hw1 hw2
    have e1 : (0 : Int) + sumP c [(a1, 1), (a3, -1)] = c a1 - c a3 := by simp only [sumP]; omega
    have e2 : (0 : Int) + sumP c [(a1, 2), (a0, -1), (a2, -1)] = 2 * c a1 - c a0 - c a2 := by simp only [sumP]; omega
    rw [e1] at hw1
    rw [e2] at hw2
    have d1 := (dvd_mod hw1).trans (small_dvd (hc a1 h1.1 h1.2) (hc a3 h3.1 h3.2))
    have d2 := dvd_mod hw2
    unfold eq2 fitC
    constructor
    · intro h
      exact ⟨d1.mp (h _ List.mem_cons_self), d2.mp (h _ (List.mem_cons_of_mem _ List.mem_cons_self))⟩
    · rintro ⟨g1, g2⟩ s hs
      simp only [List.mem_cons, List.not_mem_nil, or_false] at hs
      rcases hs with rfl | rfl
      · exact d1.mpr g1
      · exact d2.mpr g2
  unfold satF eqs
  constructor
  · intro h r hr
    exact (key r hr).mp fun s hs => h s (List.mem_flatMap.mpr ⟨r, hr, hs⟩)
  · intro h s hs
    obtain ⟨r, hr, hs2⟩ := List.mem_flatMap.mp hs
    exact (key r hr).mpr (h r hr) s hs2
/-- the colourings of a sheet, told with colours alone -/
noncomputable def colC (p : Nat) (ns : List Int) (rs : List (List Int)) : Nat := NF p ns (fun _ => 0) (fun d => ind (∀ r ∈ rs, fitC r p d))
theorem colN_C {p n : Nat} {rs : List (List Int)} (hin : ∀ r ∈ rs, r.length = 4 ∧ ∀ x ∈ r, 0 ≤ x ∧ x < (n : Int)) : colN p n rs = colC p (lin 0 n) rs := by
  unfold colN colC
  refine NF_congr _ _ fun d h1 h2 => ind_congr (sat_fit hin fun x h0 hn => h1 x (mem_lin.mpr ⟨h0, by omega⟩))
theorem count_C {p n : Nat} {rs : List (List Int)} (hin : ∀ r ∈ rs, r.length = 4 ∧ ∀ x ∈ r, 0 ≤ x ∧ x < (n : Int)) : (paintsL n p).countP (goodB rs p) = colC p (lin 0 n) rs := by
  unfold colC
  rw [countP_sum, ← NF_paints (fun v => if goodB rs p v = true then 1 else 0) n (fun _ => 0)]
  refine NF_congr _ _ fun d h1 h2 => ?_
  have hg : ∀ x : Int, 0 ≤ x → x < n → ((List.range n).map fun (i : Nat) => d (i : Int)).getD x.toNat 0 = d x := fun x h0 hn => by
    rw [getD_eq (by rw [List.length_map, List.length_range]; omega), List.getElem_map, List.getElem_range]
    congr 1
    omega
  have hf : goodB rs p ((List.range n).map fun (i : Nat) => d (i : Int)) = true ↔ ∀ r ∈ rs, fitC r p d := by
    unfold goodB
    rw [List.all_eq_true]
    refine forall_congr' fun r => imp_congr_right fun hr => ?_
    obtain ⟨hl, hb⟩ := hin r hr
    obtain ⟨a0, a1, a2, a3, rfl⟩ := four_of hl
    have h0 := hb a0 (by simp)
    have h1 := hb a1 (by simp)
    have h2 := hb a2 (by simp)
    have h3 := hb a3 (by simp)
    have g0 := hg a0 h0.1 h0.2
    have g1 := hg a1 h1.1 h1.2
    have g2 := hg a2 h2.1 h2.2
    have g3 := hg a3 h3.1 h3.2
    unfold fitB fitC
    simp only [List.getD_cons_zero, List.getD_cons_succ, g0, g1, g2, g3]
    rw [Bool.and_eq_true, decide_eq_true_eq, decide_eq_true_eq]
    exact and_congr_right fun _ => Int.dvd_iff_emod_eq_zero.symm
  by_cases c : ∀ r ∈ rs, fitC r p d
  · rw [if_pos (hf.mpr c), ind_pos c]
  · rw [if_neg (fun z => c (hf.mp z)), ind_neg c]
theorem drawn_rows {m : Nat} {rs : List (List Int)} (h : Drawn m rs) : ∀ r ∈ rs, r.length = 4 ∧ ∀ x ∈ r, 0 ≤ x ∧ x < ((2 * m : Nat) : Int) := fun r hr => ⟨h.four r hr, fun x hx => by
  have := drawn_mem h (List.mem_flatten.mpr ⟨r, hr, hx⟩)
  omega⟩
theorem count_col {m p : Nat} {rs : List (List Int)} (h : Drawn m rs) (hm : m ≤ 100) (hp : 1 ≤ p) (hp2 : p ≤ 1000) (hb : p ^ (2 * m) ≤ 100000) : f_law_count [.tup (encRs rs), .int (p : Int)] = .ok (.va (.int ((colC p (lin 0 (2 * m)) rs : Nat) : Int))) := by
  rw [count_ok h hm hp hp2 hb, count_C (drawn_rows h)]
theorem colourings_col {m p : Nat} {rs : List (List Int)} {rings : Nat} (hp : Prm p) (h : Drawn m rs) (hm : m ≤ 100) (hr : rings ≤ 1000) : f_colourings [encS rs (rings : Int), .int (p : Int)] = .ok (.va (.int ((colC p (lin 0 (2 * m)) rs * p ^ rings : Nat) : Int))) := by
  rw [colourings_ok hp h hm hr, colN_C (drawn_rows h)]
end DL
set_option maxRecDepth 100000
/-! MA6: sheets that grow; colourings are told by names alone -/
namespace DL
open PySem (Str)
/-! ### counts -/
theorem count_set {l : List Int} {i : Nat} {v x : Int} (h : i < l.length) : (l.set i v).count x + (if l.getD i 0 = x then 1 else 0) = l.count x + (if v = x then 1 else 0) := by
  induction l generalizing i with
  | nil => simp at h
  | cons a l ih =>
    cases i with
    | zero =>
      rw [List.set_cons_zero, List.count_cons, List.count_cons]
      simp only [List.getD_cons_zero, beq_iff_eq]
      omega
    | succ i =>
      have := ih (i := i) (by simpa using h)
      rw [List.set_cons_succ, List.count_cons, List.count_cons]
      simp only [List.getD_cons_succ]
      omega
theorem count_flat_set {rs : List (List Int)} {i : Nat} {r : List Int} {x : Int} (h : i < rs.length) : (rs.set i r).flatten.count x + (rs.getD i []).count x = rs.flatten.count x + r.count x := by
  induction rs generalizing i with
  | nil => simp at h
  | cons a l ih =>
    cases i with
    | zero =>
      rw [List.set_cons_zero, List.flatten_cons, List.flatten_cons, List.count_append, List.count_append]
      simp only [List.getD_cons_zero]
      omega
    | succ i =>
      have := ih (i := i) (by simpa using h)
      rw [List.set_cons_succ, List.flatten_cons, List.flatten_cons, List.count_append, List.count_append]
      simp only [List.getD_cons_succ]
      omega
theorem putAt_count {rs : List (List Int)} {q : Nat × Nat} {v x : Int} (h4 : ∀ r ∈ rs, r.length = 4) (h1 : q.1 < rs.length) (h2 : q.2 < 4) : (putAt rs q v).flatten.count x + (if ent rs q = x then 1 else 0) = rs.flatten.count x + (if v = x then 1 else 0) := by
  have hl : q.2 < (rs.getD q.1 []).length := by rw [getD_eq h1, h4 _ (List.getElem_mem h1)]; exact h2
  have c1 := count_flat_set (r := (rs.getD q.1 []).set q.2 v) (x := x) h1
  have c2 := count_set (v := v) (x := x) hl
  unfold putAt ent
  omega
theorem last_ent {m : Nat} {rs : List (List Int)} {line : Int} (h : Drawn m rs) (hm : m ≤ 100) (hl : 0 ≤ line ∧ line < 2 * (m : Int)) : (lastPl rs line).1 < rs.length ∧ (lastPl rs line).2 < 4 ∧ ent rs (lastPl rs line) = line := by
  obtain ⟨p, _, hq, l1, l2⟩ := ends2 (rings := 0) h hm hl
  have hin : lastPl rs line ∈ plc rs line := by rw [hq]; simp
  exact ⟨l1, l2, (plc_in hin).2.2⟩
theorem drawn_app {rs : List (List Int)} {m : Nat} (hl : rs.length = m) (h4 : ∀ r ∈ rs, r.length = 4) (h : ∀ x : Int, rs.flatten.count x = if 0 ≤ x ∧ x < 2 * (m : Int) then 2 else 0) : Drawn m rs := ⟨hl, h4, h⟩
/-- a curl put into a line -/
def curlRows (rs : List (List Int)) (line way : Int) (n : Int) : List (List Int) := putAt rs (lastPl rs line) n ++ [curlR way line n (n + 1)]
theorem curl_drawn {m : Nat} {rs : List (List Int)} {line way : Int} (h : Drawn m rs) (hm : m ≤ 100) (hl : 0 ≤ line ∧ line < 2 * (m : Int)) : Drawn (m + 1) (curlRows rs line way (2 * (m : Int))) := by
  obtain ⟨l1, l2, l3⟩ := last_ent h hm hl
  unfold curlRows
  refine ⟨by rw [List.length_append, putAt_len, h.len]; rfl, fun r hr => ?_, fun x => ?_⟩
  · rcases List.mem_append.mp hr with q | q
    · exact putAt_four h.four l1 r q
    · rw [List.mem_singleton] at q
      rw [q]
      exact curlR_len ..
  · have c1 := putAt_count (v := 2 * (m : Int)) (x := x) h.four l1 l2
    rw [l3, h.two] at c1
    have c2 : (curlR way line (2 * (m : Int)) (2 * (m : Int) + 1)).count x = (if line = x then 1 else 0) + (if 2 * (m : Int) = x then 1 else 0) + (if 2 * (m : Int) + 1 = x then 2 else 0) := by
      unfold curlR
      split
      · simp only [List.count_cons, List.count_nil, beq_iff_eq]; split <;> split <;> split <;> omega
      · split
        · simp only [List.count_cons, List.count_nil, beq_iff_eq]; split <;> split <;> split <;> omega
        · split
          · simp only [List.count_cons, List.count_nil, beq_iff_eq]; split <;> split <;> split <;> omega
          · simp only [List.count_cons, List.count_nil, beq_iff_eq]; split <;> split <;> split <;> omega
    rw [List.flatten_append, List.count_append, List.flatten_cons, List.flatten_nil, List.append_nil, c2]
    revert c1
    generalize (putAt rs (lastPl rs line) (2 * (m : Int))).flatten.count x = k
    intro c1
    rw [show ((m + 1 : Nat) : Int) = (m : Int) + 1 from rfl]
    clear c2 l3 l1 l2
    generalize (m : Int) = M at *
    grind
/-- a line laid over another -/
def laidR (upper lower n way : Int) : List (List Int) :=
  if way < 2 then [[lower, n + 2, n + 3, if way % 2 = 1 then n else upper], [n + 3, n + 2, n + 1, if way % 2 = 1 then upper else n]]
  else [[lower, if way % 2 = 1 then n else upper, n + 3, n + 2], [n + 3, if way % 2 = 1 then upper else n, n + 1, n + 2]]
def laidRows (rs : List (List Int)) (upper lower way n : Int) : List (List Int) := putAt (putAt rs (lastPl rs upper) n) (lastPl rs lower) (n + 1) ++ laidR upper lower n way
theorem laidR_four (upper lower n way : Int) : (laidR upper lower n way).length = 2 ∧ ∀ r ∈ laidR upper lower n way, r.length = 4 := by
  unfold laidR
  split
  · exact ⟨rfl, fun r hr => by simp only [List.mem_cons, List.not_mem_nil, or_false] at hr; rcases hr with rfl | rfl <;> rfl⟩
  · exact ⟨rfl, fun r hr => by simp only [List.mem_cons, List.not_mem_nil, or_false] at hr; rcases hr with rfl | rfl <;> rfl⟩
theorem ent_putAt_ne {rs : List (List Int)} {p q : Nat × Nat} {v : Int} (h4 : ∀ r ∈ rs, r.length = 4) (h1 : p.1 < rs.length) (h : q ≠ p) : ent (putAt rs p v) q = ent rs q := by
  unfold ent putAt
  by_cases e : p.1 = q.1
  · have e2 : p.2 ≠ q.2 := fun z => h (Prod.ext e.symm z.symm)
    rw [← e, List.getD_eq_getElem?_getD (l := rs.set _ _), List.getElem?_set_self h1, Option.getD_some, List.getD_eq_getElem?_getD, List.getElem?_set_ne e2, ← List.getD_eq_getElem?_getD]
  · rw [List.getD_eq_getElem?_getD (l := rs.set _ _), List.getElem?_set_ne e, ← List.getD_eq_getElem?_getD]
theorem laid_count (upper lower n way x : Int) : (laidR upper lower n way).flatten.count x = (if upper = x then 1 else 0) + (if lower = x then 1 else 0) + (if n = x then 1 else 0) + (if n + 1 = x then 1 else 0) + (if n + 2 = x then 2 else 0) + (if n + 3 = x then 2 else 0) := by
  unfold laidR
  by_cases w1 : way < 2
  · by_cases w2 : way % 2 = 1
    · simp only [w1, w2, if_true, List.flatten_cons, List.flatten_nil, List.append_nil, List.cons_append, List.nil_append, List.count_cons, List.count_nil, beq_iff_eq]
      generalize (if upper = x then 1 else 0) = a1
      generalize (if lower = x then 1 else 0) = a2
      generalize (if n = x then 1 else 0) = a3
      generalize (if n + 1 = x then 1 else 0) = a4
      split <;> split <;> omega
    · simp only [w1, w2, if_true, if_false, List.flatten_cons, List.flatten_nil, List.append_nil, List.cons_append, List.nil_append, List.count_cons, List.count_nil, beq_iff_eq]
      generalize (if upper = x then 1 else 0) = a1
      generalize (if lower = x then 1 else 0) = a2
      generalize (if n = x then 1 else 0) = a3
      generalize (if n + 1 = x then 1 else 0) = a4
      split <;> split <;> omega
  · by_cases w2 : way % 2 = 1
    · simp only [w1, w2, if_true, if_false, List.flatten_cons, List.flatten_nil, List.append_nil, List.cons_append, List.nil_append, List.count_cons, List.count_nil, beq_iff_eq]
      generalize (if upper = x then 1 else 0) = a1
      generalize (if lower = x then 1 else 0) = a2
      generalize (if n = x then 1 else 0) = a3
      generalize (if n + 1 = x then 1 else 0) = a4
      split <;> split <;> omega
    · simp only [w1, w2, if_false, List.flatten_cons, List.flatten_nil, List.append_nil, List.cons_append, List.nil_append, List.count_cons, List.count_nil, beq_iff_eq]
      generalize (if upper = x then 1 else 0) = a1
      generalize (if lower = x then 1 else 0) = a2
      generalize (if n = x then 1 else 0) = a3
      generalize (if n + 1 = x then 1 else 0) = a4
      split <;> split <;> omega
theorem laid_drawn {m : Nat} {rs : List (List Int)} {upper lower way : Int} (h : Drawn m rs) (hm : m ≤ 100) (hu : 0 ≤ upper ∧ upper < 2 * (m : Int)) (hl : 0 ≤ lower ∧ lower < 2 * (m : Int)) (hne : ¬ upper = lower) : Drawn (m + 2) (laidRows rs upper lower way (2 * (m : Int))) := by
  obtain ⟨l1, l2, l3⟩ := last_ent h hm hl
  obtain ⟨u1, u2, u3⟩ := last_ent h hm hu
  obtain ⟨r1, r2⟩ := laidR_four upper lower (2 * (m : Int)) way
  have h4 := putAt_four (v := 2 * (m : Int)) h.four u1
  have pne : lastPl rs lower ≠ lastPl rs upper := fun e => hne (by rw [← u3, ← l3, e])
  unfold laidRows
  refine ⟨by rw [List.length_append, putAt_len, putAt_len, h.len, r1], fun r hr => ?_, fun x => ?_⟩
  · rcases List.mem_append.mp hr with q | q
    · exact putAt_four h4 (by rw [putAt_len]; exact l1) r q
    · exact r2 r q
  · have c1 := putAt_count (v := 2 * (m : Int)) (x := x) h.four u1 u2
    have c2 := putAt_count (v := 2 * (m : Int) + 1) (x := x) h4 (by rw [putAt_len]; exact l1) l2
    rw [ent_putAt_ne h.four u1 pne, l3] at c2
    rw [u3, h.two] at c1
    rw [List.flatten_append, List.count_append, laid_count]
    revert c1 c2
    generalize (putAt rs (lastPl rs upper) (2 * (m : Int))).flatten.count x = k1
    generalize (putAt (putAt rs (lastPl rs upper) (2 * (m : Int))) (lastPl rs lower) (2 * (m : Int) + 1)).flatten.count x = k2
    intro c1 c2
    rw [show ((m + 2 : Nat) : Int) = (m : Int) + 2 from rfl]
    clear l1 l2 l3 u1 u2 u3 r1 r2 h4 pne hne
    generalize (m : Int) = M at *
    grind
/-- two sheets side by side -/
def besideRows (ra rb : List (List Int)) : List (List Int) := ra ++ rb.map fun r => r.map (· + 2 * (ra.length : Int))
theorem count_shift (k x : Int) (l : List Int) : (l.map (· + k)).count x = l.count (x - k) := by
  induction l with
  | nil => rfl
  | cons a l ih =>
    rw [List.map_cons, List.count_cons, List.count_cons, ih]
    congr 1
    simp only [beq_iff_eq]
    by_cases e : a = x - k
    · rw [if_pos e, if_pos (by omega)]
    · rw [if_neg e, if_neg (by omega)]
theorem beside_drawn {a b : Nat} {ra rb : List (List Int)} (ha : Drawn a ra) (hb : Drawn b rb) : Drawn (a + b) (besideRows ra rb) := by
  unfold besideRows
  refine ⟨by rw [List.length_append, List.length_map, ha.len, hb.len], fun r hr => ?_, fun x => ?_⟩
  · rcases List.mem_append.mp hr with q | q
    · exact ha.four r q
    · obtain ⟨r0, h0, rfl⟩ := List.mem_map.mp q
      rw [List.length_map]
      exact hb.four r0 h0
  · have e : (rb.map fun r => r.map (· + 2 * (ra.length : Int))).flatten = rb.flatten.map (· + 2 * (ra.length : Int)) := by rw [List.map_flatten]
    rw [List.flatten_append, List.count_append, e, count_shift, ha.two, hb.two, ha.len]
    rw [show ((a + b : Nat) : Int) = (a : Int) + b from Int.natCast_add ..]
    by_cases q1 : 0 ≤ x ∧ x < 2 * (a : Int)
    · rw [if_pos q1, if_neg (by omega), if_pos (by omega)]
    · rw [if_neg q1]
      by_cases q2 : 0 ≤ x - 2 * (a : Int) ∧ x - 2 * (a : Int) < 2 * (b : Int)
      · rw [if_pos q2, if_pos (by omega)]
      · rw [if_neg q2, if_neg (by omega)]
/-! ### names changed -/
theorem NF_ren {p : Nat} {f : Int → Int} {F F' : (Int → Int) → Nat} : ∀ (ns S : List Int) (c c' : Int → Int), (∀ x ∈ S ++ ns, ∀ y ∈ S ++ ns, f x = f y → x = y) → (∀ a ∈ S, c (f a) = c' a) →
    (∀ d d' : Int → Int, (∀ a ∈ S ++ ns, d (f a) = d' a) → F d = F' d') → NF p (ns.map f) c F = NF p ns c' F'
  | [], S, c, c', _, h2, h3 => h3 c c' fun a ha => h2 a (by simpa using ha)
  | b :: ns, S, c, c', h1, h2, h3 => by
    rw [List.map_cons, NF, NF]
    refine sumR_congr fun x _ => NF_ren ns (S ++ [b]) _ _ ?_ ?_ ?_
    · rw [List.append_assoc]; exact h1
    · intro a ha
      by_cases e : a = b
      · subst e
        rw [up1_self, up1_self]
      · have haS : a ∈ S := by
          rcases List.mem_append.mp ha with m | m
          · exact m
          · rw [List.mem_singleton] at m
            exact absurd m e
        rw [up1_ne e, up1_ne (fun z => e (h1 a (List.mem_append_left _ haS) b (List.mem_append_right _ List.mem_cons_self) z)), h2 a haS]
    · rw [List.append_assoc]; exact h3
theorem fitC_ren {r : List Int} {p : Nat} {f : Int → Int} {d d' : Int → Int} (hr : r.length = 4) (h : ∀ a ∈ r, d (f a) = d' a) : fitC (r.map f) p d ↔ fitC r p d' := by
  obtain ⟨a0, a1, a2, a3, rfl⟩ := four_of hr
  unfold fitC
  simp only [List.map_cons, List.map_nil, List.getD_cons_zero, List.getD_cons_succ]
  rw [h a0 (by simp), h a1 (by simp), h a2 (by simp), h a3 (by simp)]
theorem colC_ren {p : Nat} {f : Int → Int} {ns : List Int} {rs : List (List Int)} (hf : ∀ x ∈ ns, ∀ y ∈ ns, f x = f y → x = y) (h4 : ∀ r ∈ rs, r.length = 4 ∧ ∀ a ∈ r, a ∈ ns) : colC p (ns.map f) (rs.map fun r => r.map f) = colC p ns rs := by
  unfold colC
  refine NF_ren ns [] _ _ hf (by simp) fun d d' hd => ind_congr ?_
  constructor
  · intro h r hr
    exact (fitC_ren (h4 r hr).1 fun a ha => hd a ((h4 r hr).2 a ha)).mp (h _ (List.mem_map.mpr ⟨r, hr, rfl⟩))
  · intro h r hr
    obtain ⟨r0, h0, rfl⟩ := List.mem_map.mp hr
    exact (fitC_ren (h4 r0 h0).1 fun a ha => hd a ((h4 r0 h0).2 a ha)).mpr (h r0 h0)
theorem names_lin {m : Nat} {rs : List (List Int)} (h : Drawn m rs) : (names rs.flatten).map (idx (names rs.flatten)) = lin 0 (2 * m) := by
  have hl := drawn_names h
  have hnd := names_nodup rs.flatten
  generalize names rs.flatten = ns at *
  have hlin : ∀ (k : Nat) (j : Int), lin j k = (List.range k).map fun (i : Nat) => j + (i : Int) := by
    intro k
    induction k with
    | zero => intro j; rfl
    | succ k ih =>
      intro j
      rw [lin_snoc, ih, List.range_succ, List.map_append]
      rfl
  rw [hlin]
  apply List.ext_getElem
  · rw [List.length_map, List.length_map, List.length_range, hl]
  · intro i h1 h2
    rw [List.length_map] at h1
    rw [List.getElem_map, List.getElem_map, List.getElem_range]
    have := (idx_inj hnd (List.getElem_mem h1) h1).mpr rfl
    rw [this]
    omega
theorem perm_lin {m : Nat} {rs : List (List Int)} (h : Drawn m rs) : (names rs.flatten).Perm (lin 0 (2 * m)) := by
  rw [List.perm_ext_iff_of_nodup (names_nodup _) (lin_nodup _ _)]
  intro x
  rw [names_mem, mem_lin]
  constructor
  · intro hx
    have := drawn_mem h hx
    omega
  · intro hx
    have := h.two x
    rw [if_pos (by omega)] at this
    exact List.count_pos_iff.mp (by omega)
theorem colC_numb {p m : Nat} {rs : List (List Int)} (h : Drawn m rs) : colC p (lin 0 (2 * m)) (numb rs) = colC p (lin 0 (2 * m)) rs := by
  have hf : ∀ x ∈ names rs.flatten, ∀ y ∈ names rs.flatten, idx (names rs.flatten) x = idx (names rs.flatten) y → x = y := fun x hx y hy e => by
    have hy2 := List.idxOf_lt_length_of_mem hy
    have h1 := (idx_inj (names_nodup rs.flatten) hx hy2).mp e
    rw [h1, List.getElem_idxOf]
  have := colC_ren (p := p) (f := idx (names rs.flatten)) (ns := names rs.flatten) (rs := rs) hf fun r hr => ⟨h.four r hr, fun a ha => names_mem.mpr (List.mem_flatten.mpr ⟨r, hr, ha⟩)⟩
  rw [names_lin h] at this
  have e : (rs.map fun r => r.map (idx (names rs.flatten))) = numb rs := rfl
  rw [e] at this
  rw [this]
  unfold colC
  exact NF_perm (perm_lin h) (names_nodup _) _
/-! ### lines whose number is settled -/
theorem NF_det {p : Nat} {a : Int} {ns : List Int} {c : Int → Int} {F G : (Int → Int) → Nat} (g : (Int → Int) → Int) (ha : a ∉ ns) (h : ∀ d : Int → Int, (∀ b ∈ ns, 0 ≤ d b ∧ d b < p) → (0 ≤ g d ∧ g d < p) ∧ ∀ x : Int, 0 ≤ x → x < p → F (up1 d a x) = if x = g d then G d else 0) : NF p (a :: ns) c F = NF p ns c G := by
  rw [NF_cons ha]
  refine NF_congr _ _ fun d h1 _ => ?_
  obtain ⟨⟨g0, g1⟩, hF⟩ := h d h1
  rw [sumR_congr (g := fun x => if x = (g d).toNat then G d else 0) fun x hx => by
    rw [hF (x : Int) (by omega) (by omega)]
    by_cases e : x = (g d).toNat
    · rw [if_pos e, if_pos (by omega)]
    · rw [if_neg e, if_neg (by omega)]]
  exact sumR_one _ (by omega)
theorem fitC_congr {r : List Int} {p : Nat} {d d' : Int → Int} (hr : r.length = 4) (h : ∀ a ∈ r, d a = d' a) : fitC r p d ↔ fitC r p d' := by
  obtain ⟨a0, a1, a2, a3, rfl⟩ := four_of hr
  unfold fitC
  simp only [List.getD_cons_zero, List.getD_cons_succ]
  rw [h a0 (by simp), h a1 (by simp), h a2 (by simp), h a3 (by simp)]
theorem fits_up {rs : List (List Int)} {p : Nat} {d : Int → Int} {a x : Int} (h : ∀ r ∈ rs, r.length = 4 ∧ a ∉ r) : (∀ r ∈ rs, fitC r p (up1 d a x)) ↔ ∀ r ∈ rs, fitC r p d := by
  refine forall_congr' fun r => imp_congr_right fun hr => ?_
  obtain ⟨h1, h2⟩ := h r hr
  exact fitC_congr h1 fun b hb => up1_ne (fun e => h2 (e ▸ hb))
/-- a place's line called otherwise, the number being the same -/
theorem fits_putAt {rs : List (List Int)} {q : Nat × Nat} {v : Int} {p : Nat} {d : Int → Int} (h4 : ∀ r ∈ rs, r.length = 4) (h1 : q.1 < rs.length) (h2 : q.2 < 4) (hd : d v = d (ent rs q)) : (∀ r ∈ putAt rs q v, fitC r p d) ↔ ∀ r ∈ rs, fitC r p d := by
  have key : fitC ((rs.getD q.1 []).set q.2 v) p d ↔ fitC (rs.getD q.1 []) p d := by
    unfold ent at hd
    have hl : (rs.getD q.1 []).length = 4 := by rw [getD_eq h1]; exact h4 _ (List.getElem_mem h1)
    obtain ⟨a0, a1, a2, a3, hr⟩ := four_of hl
    rw [hr] at hd ⊢
    unfold fitC
    match q.2, h2, hd with
    | 0, _, hd => simp only [List.set_cons_zero, List.getD_cons_zero, List.getD_cons_succ] at hd ⊢; rw [hd]
    | 1, _, hd => simp only [List.set_cons_zero, List.set_cons_succ, List.getD_cons_zero, List.getD_cons_succ] at hd ⊢; rw [hd]
    | 2, _, hd => simp only [List.set_cons_zero, List.set_cons_succ, List.getD_cons_zero, List.getD_cons_succ] at hd ⊢; rw [hd]
    | 3, _, hd => simp only [List.set_cons_zero, List.set_cons_succ, List.getD_cons_zero, List.getD_cons_succ] at hd ⊢; rw [hd]
  unfold putAt
  constructor
  · intro h r hr
    obtain ⟨i, hi, rfl⟩ := List.mem_iff_getElem.mp hr
    by_cases e : q.1 = i
    · have := h ((rs.getD q.1 []).set q.2 v) (List.mem_iff_getElem.mpr ⟨q.1, by rw [List.length_set]; exact h1, List.getElem_set_self _⟩)
      have := key.mp this
      rw [getD_eq h1] at this
      subst e
      exact this
    · exact h _ (List.mem_iff_getElem.mpr ⟨i, by rw [List.length_set]; exact hi, List.getElem_set_ne e _⟩)
  · intro h r hr
    rcases List.mem_or_eq_of_mem_set hr with m | m
    · exact h r m
    · rw [m]
      refine key.mpr ?_
      rw [getD_eq h1]
      exact h _ (List.getElem_mem h1)
end DL
set_option maxRecDepth 100000
/-! MA7: a curl, a line laid over another, two sheets side by side: how many colourings -/
namespace DL
open PySem (Str)
theorem NF_set {p : Nat} {a : Int} {ns : List Int} {c : Int → Int} {Q : (Int → Int) → Prop} (g : (Int → Int) → Int) (ha : a ∉ ns) (hg : ∀ d : Int → Int, (∀ b ∈ ns, 0 ≤ d b ∧ d b < p) → (0 ≤ g d ∧ g d < p)) (hg2 : ∀ (d : Int → Int) (x : Int), g (up1 d a x) = g d) (hQ : ∀ (d : Int → Int) (x : Int), Q (up1 d a x) ↔ Q d) :
    NF p (a :: ns) c (fun d => ind (d a = g d ∧ Q d)) = NF p ns c (fun d => ind (Q d)) := by
  refine NF_det g ha fun d hd => ⟨hg d hd, fun x _ _ => ?_⟩
  rw [up1_self, hg2, ind_congr (and_congr_right fun _ => hQ d x)]
  by_cases e : x = g d
  · rw [if_pos e, ind_congr (and_iff_right e)]
  · rw [if_neg e, ind_neg (fun z => e z.1)]
theorem curl_fit {p : Nat} {e : Int → Int} {way line n l : Int} (h1 : 0 ≤ e line ∧ e line < p) (h2 : 0 ≤ e n ∧ e n < p) (h3 : 0 ≤ e l ∧ e l < p) : fitC (curlR way line n l) p e ↔ (e l = e line ∧ e n = e line) := by
  unfold fitC curlR
  split
  · simp only [List.getD_cons_zero, List.getD_cons_succ]
    rw [show 2 * e l - e l - e line = e l - e line by omega, small_dvd h3 h1]
    omega
  · split
    · simp only [List.getD_cons_zero, List.getD_cons_succ]
      rw [show 2 * e l - e line - e l = e l - e line by omega, small_dvd h3 h1]
      omega
    · split
      · simp only [List.getD_cons_zero, List.getD_cons_succ]
        rw [show 2 * e l - e l - e n = e l - e n by omega, small_dvd h3 h2]
        omega
      · simp only [List.getD_cons_zero, List.getD_cons_succ]
        rw [show 2 * e l - e n - e l = e l - e n by omega, small_dvd h3 h2]
        omega
theorem new_rows {m : Nat} {rs : List (List Int)} (h : Drawn m rs) {a : Int} (ha : 2 * (m : Int) ≤ a) : ∀ r ∈ rs, r.length = 4 ∧ a ∉ r := fun r hr => ⟨h.four r hr, fun hm => by
  have := drawn_mem h (List.mem_flatten.mpr ⟨r, hr, hm⟩)
  omega⟩
theorem colC_curl {p m : Nat} {rs : List (List Int)} {line way : Int} (h : Drawn m rs) (hm : m ≤ 100) (hl : 0 ≤ line ∧ line < 2 * (m : Int)) : colC p (lin 0 (2 * (m + 1))) (curlRows rs line way (2 * (m : Int))) = colC p (lin 0 (2 * m)) rs := by
  obtain ⟨l1, l2, l3⟩ := last_ent h hm hl
  have elin : lin 0 (2 * (m + 1)) = lin 0 (2 * m) ++ [2 * (m : Int)] ++ [2 * (m : Int) + 1] := by
    rw [show 2 * (m + 1) = 2 * m + 1 + 1 by omega, lin_snoc, lin_snoc, show (0 : Int) + ((2 * m : Nat) : Int) = 2 * (m : Int) by omega, show (0 : Int) + ((2 * m + 1 : Nat) : Int) = 2 * (m : Int) + 1 by omega]
  have hperm : (lin 0 (2 * (m + 1))).Perm ((2 * (m : Int) + 1) :: (2 * (m : Int)) :: lin 0 (2 * m)) := by
    rw [elin]
    exact (List.perm_append_singleton _ _).trans ((List.perm_append_singleton _ _).cons _)
  unfold colC
  rw [NF_perm hperm (lin_nodup _ _)]
  have n1 : 2 * (m : Int) ∉ lin 0 (2 * m) := fun z => by have := mem_lin.mp z; omega
  have n2 : 2 * (m : Int) + 1 ∉ (2 * (m : Int)) :: lin 0 (2 * m) := fun z => by
    rcases List.mem_cons.mp z with q | q
    · omega
    · have := mem_lin.mp q; omega
  have hll : line ∈ lin 0 (2 * m) := mem_lin.mpr ⟨hl.1, by omega⟩
  rw [NF_congr (G := fun e => ind (e (2 * (m : Int) + 1) = e line ∧ (e (2 * (m : Int)) = e line ∧ ∀ r ∈ rs, fitC r p e))) _ _ fun e he _ => ?_]
  · rw [NF_set (fun d => d line) n2 (fun d hd => hd line (List.mem_cons_of_mem _ hll)) (fun d x => up1_ne (by omega)) (fun d x => by
      rw [up1_ne (show ¬ (2 * (m : Int)) = 2 * (m : Int) + 1 by omega), up1_ne (show ¬ line = 2 * (m : Int) + 1 by omega), fits_up (new_rows h (by omega))]),
      NF_set (fun d => d line) n1 (fun d hd => hd line hll) (fun d x => up1_ne (by omega)) (fun d x => fits_up (new_rows h (by omega)))]
  · refine ind_congr ?_
    have f1 := he line (List.mem_cons_of_mem _ (List.mem_cons_of_mem _ hll))
    have f2 := he (2 * (m : Int)) (List.mem_cons_of_mem _ List.mem_cons_self)
    have f3 := he (2 * (m : Int) + 1) List.mem_cons_self
    unfold curlRows
    constructor
    · intro hall
      obtain ⟨q1, q2⟩ := (curl_fit f1 f2 f3).mp (hall _ (List.mem_append_right _ (List.mem_singleton_self _)))
      exact ⟨q1, q2, (fits_putAt h.four l1 l2 (by rw [l3]; exact q2)).mp fun r hr => hall r (List.mem_append_left _ hr)⟩
    · rintro ⟨q1, q2, q3⟩ r hr
      rcases List.mem_append.mp hr with z | z
      · exact (fits_putAt h.four l1 l2 (by rw [l3]; exact q2)).mpr q3 r z
      · rw [List.mem_singleton] at z
        rw [z]
        exact (curl_fit f1 f2 f3).mpr ⟨q1, q2⟩
theorem dvd_lin {p : Nat} {x y : Int} (hx : 0 ≤ x ∧ x < p) : (p : Int) ∣ y - x ↔ x = y % (p : Int) := by
  constructor
  · rintro ⟨z, hz⟩
    have e : y = x + p * z := by omega
    rw [e, Int.add_mul_emod_self_left, Int.emod_eq_of_lt hx.1 hx.2]
  · intro e
    exact ⟨y / p, by rw [e, Int.emod_def]; omega⟩
theorem laid_fit {p : Nat} {e : Int → Int} {u l n way : Int} (hu : 0 ≤ e u ∧ e u < p) (hl : 0 ≤ e l ∧ e l < p) (h0 : 0 ≤ e n ∧ e n < p) (h1 : 0 ≤ e (n + 1) ∧ e (n + 1) < p) (h2 : 0 ≤ e (n + 2) ∧ e (n + 2) < p) (h3 : 0 ≤ e (n + 3) ∧ e (n + 3) < p) :
    (∀ r ∈ laidR u l n way, fitC r p e) ↔ (e (n + 3) = (2 * e u - e l) % (p : Int) ∧ e (n + 2) = e u ∧ e (n + 1) = e l ∧ e n = e u) := by
  have key : ∀ C A B : Int, (0 ≤ C ∧ C < p) → (((C = A ∧ (p : Int) ∣ 2 * C - e l - e (n + 3)) ∧ (C = B ∧ (p : Int) ∣ 2 * C - e (n + 3) - e (n + 1))) ↔ (e (n + 3) = (2 * C - e l) % (p : Int) ∧ C = A ∧ C = B ∧ e (n + 1) = e l)) := by
    intro C A B hC
    rw [dvd_lin (x := e (n + 3)) (y := 2 * C - e l) h3]
    constructor
    · rintro ⟨⟨a1, a2⟩, b1, b2⟩
      refine ⟨a2, a1, b1, ?_⟩
      have := (dvd_lin h1).mp b2
      rw [this, a2]
      have e2 : 2 * C - (2 * C - e l) % (p : Int) = e l + p * ((2 * C - e l) / p) := by rw [Int.emod_def]; omega
      rw [e2, Int.add_mul_emod_self_left, Int.emod_eq_of_lt hl.1 hl.2]
    · rintro ⟨a2, a1, b1, b2⟩
      refine ⟨⟨a1, a2⟩, b1, ?_⟩
      rw [b2, a2]
      exact ⟨(2 * C - e l) / p, by rw [Int.emod_def]; omega⟩
  unfold laidR
  by_cases w1 : way < 2
  · rw [if_pos w1]
    by_cases w2 : way % 2 = 1
    · simp only [w2, if_true, List.forall_mem_cons, List.not_mem_nil, false_implies, implies_true, and_true, fitC, List.getD_cons_zero, List.getD_cons_succ]
      rw [key _ _ _ h2]
      constructor
      · rintro ⟨a1, a2, a3, a4⟩; exact ⟨by rw [a1, a3], a3, a4, by rw [← a2, a3]⟩
      · rintro ⟨a1, a2, a3, a4⟩; exact ⟨by rw [a1, a2], by rw [a2, a4], a2, a3⟩
    · simp only [w2, if_false, List.forall_mem_cons, List.not_mem_nil, false_implies, implies_true, and_true, fitC, List.getD_cons_zero, List.getD_cons_succ]
      rw [key _ _ _ h2]
      constructor
      · rintro ⟨a1, a2, a3, a4⟩; exact ⟨by rw [a1, a2], a2, a4, by rw [← a3, a2]⟩
      · rintro ⟨a1, a2, a3, a4⟩; exact ⟨by rw [a1, a2], a2, by rw [a2, a4], a3⟩
  · rw [if_neg w1]
    by_cases w2 : way % 2 = 1
    · simp only [w2, if_true, List.forall_mem_cons, List.not_mem_nil, false_implies, implies_true, and_true, fitC, List.getD_cons_zero, List.getD_cons_succ]
      constructor
      · rintro ⟨⟨a1, a2⟩, b1, b2⟩
        rw [a1] at a2
        rw [b1, ← b1] at b2
        obtain ⟨c1, c2, c3, c4⟩ := (key _ (e n) (e u) h2).mp ⟨⟨a1.symm, a2⟩, b1.symm, by rw [← b1]; exact b2⟩
        exact ⟨by rw [c1, c3], c3, c4, by rw [← c2, c3]⟩
      · rintro ⟨a1, a2, a3, a4⟩
        obtain ⟨⟨c1, c2⟩, c3, c4⟩ := (key _ (e n) (e u) h2).mpr ⟨by rw [a1, a2], by rw [a2, a4], a2, a3⟩
        exact ⟨⟨c1.symm, by rw [← c1]; exact c2⟩, c3.symm, by rw [← c3]; exact c4⟩
    · simp only [w2, if_false, List.forall_mem_cons, List.not_mem_nil, false_implies, implies_true, and_true, fitC, List.getD_cons_zero, List.getD_cons_succ]
      constructor
      · rintro ⟨⟨a1, a2⟩, b1, b2⟩
        obtain ⟨c1, c2, c3, c4⟩ := (key _ (e u) (e n) h2).mp ⟨⟨a1.symm, by rw [← a1]; exact a2⟩, b1.symm, by rw [← b1]; exact b2⟩
        exact ⟨by rw [c1, c2], c2, c4, by rw [← c3, c2]⟩
      · rintro ⟨a1, a2, a3, a4⟩
        obtain ⟨⟨c1, c2⟩, c3, c4⟩ := (key _ (e u) (e n) h2).mpr ⟨by rw [a1, a2], a2, by rw [a2, a4], a3⟩
        exact ⟨⟨c1.symm, by rw [← c1]; exact c2⟩, c3.symm, by rw [← c3]; exact c4⟩
theorem colC_laid {p m : Nat} {rs : List (List Int)} {upper lower way : Int} (hp : 0 < p) (h : Drawn m rs) (hm : m ≤ 100) (hu : 0 ≤ upper ∧ upper < 2 * (m : Int)) (hl : 0 ≤ lower ∧ lower < 2 * (m : Int)) (hne : ¬ upper = lower) :
    colC p (lin 0 (2 * (m + 2))) (laidRows rs upper lower way (2 * (m : Int))) = colC p (lin 0 (2 * m)) rs := by
  obtain ⟨l1, l2, l3⟩ := last_ent h hm hl
  obtain ⟨u1, u2, u3⟩ := last_ent h hm hu
  have h4 := putAt_four (v := 2 * (m : Int)) h.four u1
  have pne : lastPl rs lower ≠ lastPl rs upper := fun e => hne (by rw [← u3, ← l3, e])
  have l4 : ent (putAt rs (lastPl rs upper) (2 * (m : Int))) (lastPl rs lower) = lower := by rw [ent_putAt_ne h.four u1 pne, l3]
  have elin : lin 0 (2 * (m + 2)) = lin 0 (2 * m) ++ [2 * (m : Int)] ++ [2 * (m : Int) + 1] ++ [2 * (m : Int) + 2] ++ [2 * (m : Int) + 3] := by
    rw [show 2 * (m + 2) = 2 * m + 1 + 1 + 1 + 1 by omega, lin_snoc, lin_snoc, lin_snoc, lin_snoc, show (0 : Int) + ((2 * m : Nat) : Int) = 2 * (m : Int) by omega, show (0 : Int) + ((2 * m + 1 : Nat) : Int) = 2 * (m : Int) + 1 by omega, show (0 : Int) + ((2 * m + 1 + 1 : Nat) : Int) = 2 * (m : Int) + 2 by omega, show (0 : Int) + ((2 * m + 1 + 1 + 1 : Nat) : Int) = 2 * (m : Int) + 3 by omega]
  have hperm : (lin 0 (2 * (m + 2))).Perm ((2 * (m : Int) + 3) :: (2 * (m : Int) + 2) :: (2 * (m : Int) + 1) :: (2 * (m : Int)) :: lin 0 (2 * m)) := by
    rw [elin]
    exact (List.perm_append_singleton _ _).trans (((List.perm_append_singleton _ _).trans (((List.perm_append_singleton _ _).trans ((List.perm_append_singleton _ _).cons _)).cons _)).cons _)
  unfold colC
  rw [NF_perm hperm (lin_nodup _ _)]
  have n0 : 2 * (m : Int) ∉ lin 0 (2 * m) := fun z => by have := mem_lin.mp z; omega
  have n1 : 2 * (m : Int) + 1 ∉ (2 * (m : Int)) :: lin 0 (2 * m) := fun z => by
    simp only [List.mem_cons, mem_lin] at z; omega
  have n2 : 2 * (m : Int) + 2 ∉ (2 * (m : Int) + 1) :: (2 * (m : Int)) :: lin 0 (2 * m) := fun z => by
    simp only [List.mem_cons, mem_lin] at z; omega
  have n3 : 2 * (m : Int) + 3 ∉ (2 * (m : Int) + 2) :: (2 * (m : Int) + 1) :: (2 * (m : Int)) :: lin 0 (2 * m) := fun z => by
    simp only [List.mem_cons, mem_lin] at z; omega
  have hll : lower ∈ lin 0 (2 * m) := mem_lin.mpr ⟨hl.1, by omega⟩
  have hlu : upper ∈ lin 0 (2 * m) := mem_lin.mpr ⟨hu.1, by omega⟩
  rw [NF_congr (G := fun e => ind (e (2 * (m : Int) + 3) = (2 * e upper - e lower) % (p : Int) ∧ (e (2 * (m : Int) + 2) = e upper ∧ (e (2 * (m : Int) + 1) = e lower ∧ (e (2 * (m : Int)) = e upper ∧ ∀ r ∈ rs, fitC r p e))))) _ _ fun e he _ => ?_]
  · rw [NF_set (fun d => (2 * d upper - d lower) % (p : Int)) n3 (fun d hd => mod_rng hp _) (fun d x => by rw [up1_ne (show ¬ upper = 2 * (m : Int) + 3 by omega), up1_ne (show ¬ lower = 2 * (m : Int) + 3 by omega)]) (fun d x => by
        rw [up1_ne (show ¬ (2 * (m : Int) + 2) = 2 * (m : Int) + 3 by omega), up1_ne (show ¬ (2 * (m : Int) + 1) = 2 * (m : Int) + 3 by omega), up1_ne (show ¬ (2 * (m : Int)) = 2 * (m : Int) + 3 by omega), up1_ne (show ¬ upper = 2 * (m : Int) + 3 by omega), up1_ne (show ¬ lower = 2 * (m : Int) + 3 by omega), fits_up (new_rows h (by omega))]),
      NF_set (fun d => d upper) n2 (fun d hd => hd upper (List.mem_cons_of_mem _ (List.mem_cons_of_mem _ hlu))) (fun d x => up1_ne (by omega)) (fun d x => by
        rw [up1_ne (show ¬ (2 * (m : Int) + 1) = 2 * (m : Int) + 2 by omega), up1_ne (show ¬ (2 * (m : Int)) = 2 * (m : Int) + 2 by omega), up1_ne (show ¬ upper = 2 * (m : Int) + 2 by omega), up1_ne (show ¬ lower = 2 * (m : Int) + 2 by omega), fits_up (new_rows h (by omega))]),
      NF_set (fun d => d lower) n1 (fun d hd => hd lower (List.mem_cons_of_mem _ hll)) (fun d x => up1_ne (by omega)) (fun d x => by
        rw [up1_ne (show ¬ (2 * (m : Int)) = 2 * (m : Int) + 1 by omega), up1_ne (show ¬ upper = 2 * (m : Int) + 1 by omega), fits_up (new_rows h (by omega))]),
      NF_set (fun d => d upper) n0 (fun d hd => hd upper hlu) (fun d x => up1_ne (by omega)) (fun d x => fits_up (new_rows h (by omega)))]
  · refine ind_congr ?_
    have f1 := he upper (by simp [hlu])
    have f2 := he lower (by simp [hll])
    have g0 := he (2 * (m : Int)) (by simp)
    have g1 := he (2 * (m : Int) + 1) (by simp)
    have g2 := he (2 * (m : Int) + 2) (by simp)
    have g3 := he (2 * (m : Int) + 3) (by simp)
    have hfit := laid_fit (way := way) f1 f2 g0 g1 g2 g3
    unfold laidRows
    constructor
    · intro hall
      obtain ⟨q1, q2, q3, q4⟩ := hfit.mp fun r hr => hall r (List.mem_append_right _ hr)
      refine ⟨q1, q2, q3, q4, ?_⟩
      refine (fits_putAt (v := 2 * (m : Int)) h.four u1 u2 (by rw [u3]; exact q4)).mp ?_
      exact (fits_putAt h4 (by rw [putAt_len]; exact l1) l2 (by rw [l4]; exact q3)).mp fun r hr => hall r (List.mem_append_left _ hr)
    · rintro ⟨q1, q2, q3, q4, q5⟩ r hr
      rcases List.mem_append.mp hr with z | z
      · exact (fits_putAt h4 (by rw [putAt_len]; exact l1) l2 (by rw [l4]; exact q3)).mpr ((fits_putAt h.four u1 u2 (by rw [u3]; exact q4)).mpr q5) r z
      · exact hfit.mpr ⟨q1, q2, q3, q4⟩ r z
theorem lin_app : ∀ (k l : Nat) (j : Int), lin j (k + l) = lin j k ++ lin (j + k) l
  | 0, l, j => by simp [lin]
  | k + 1, l, j => by
    rw [show k + 1 + l = (k + l) + 1 by omega, lin, lin, lin_app k l (j + 1), List.cons_append]
    congr 3
    omega
theorem lin_shift (s : Int) : ∀ (k : Nat) (j : Int), (lin j k).map (· + s) = lin (j + s) k
  | 0, _ => rfl
  | k + 1, j => by
    rw [lin, lin, List.map_cons, lin_shift s k (j + 1)]
    congr 2
    omega
theorem colC_beside {p a b : Nat} {ra rb : List (List Int)} (ha : Drawn a ra) (hb : Drawn b rb) : colC p (lin 0 (2 * (a + b))) (besideRows ra rb) = colC p (lin 0 (2 * a)) ra * colC p (lin 0 (2 * b)) rb := by
  have e1 : lin 0 (2 * (a + b)) = lin 0 (2 * a) ++ lin (2 * (a : Int)) (2 * b) := by
    rw [show 2 * (a + b) = 2 * a + 2 * b by omega, lin_app]
    congr 2
    omega
  have hB : colC p (lin (2 * (a : Int)) (2 * b)) (rb.map fun r => r.map (· + 2 * (a : Int))) = colC p (lin 0 (2 * b)) rb := by
    have := colC_ren (p := p) (f := (· + 2 * (a : Int))) (ns := lin 0 (2 * b)) (rs := rb) (fun x _ y _ e => by
      have e2 : x + 2 * (a : Int) = y + 2 * (a : Int) := e
      omega) fun r hr => ⟨hb.four r hr, fun x hx => by
      have := drawn_mem hb (List.mem_flatten.mpr ⟨r, hr, hx⟩)
      exact mem_lin.mpr (by omega)⟩
    rw [lin_shift, Int.zero_add] at this
    exact this
  have hany : ∀ c : Int → Int, NF p (lin (2 * (a : Int)) (2 * b)) c (fun e => ind (∀ r ∈ rb.map fun r => r.map (· + 2 * (a : Int)), fitC r p e)) = colC p (lin (2 * (a : Int)) (2 * b)) (rb.map fun r => r.map (· + 2 * (a : Int))) := fun c => by
    unfold colC
    have := NF_ren (p := p) (f := id) (F := fun e => ind (∀ r ∈ rb.map fun r => r.map (· + 2 * (a : Int)), fitC r p e)) (F' := fun e => ind (∀ r ∈ rb.map fun r => r.map (· + 2 * (a : Int)), fitC r p e)) (lin (2 * (a : Int)) (2 * b)) [] c (fun _ => 0) (fun _ _ _ _ e => e) (by simp) (fun d d' hd => ind_congr ?_)
    · rwa [List.map_id] at this
    · refine forall_congr' fun r => imp_congr_right fun hr => ?_
      obtain ⟨r0, h0, rfl⟩ := List.mem_map.mp hr
      refine fitC_congr (by rw [List.length_map]; exact hb.four r0 h0) fun x hx => hd x ?_
      obtain ⟨y, hy, rfl⟩ := List.mem_map.mp hx
      have := drawn_mem hb (List.mem_flatten.mpr ⟨r0, h0, hy⟩)
      exact mem_lin.mpr (by omega)
  unfold besideRows
  rw [ha.len, e1]
  conv => lhs; unfold colC
  rw [NF_app, ← hB]
  have e2 : ∀ d : Int → Int, NF p (lin (2 * (a : Int)) (2 * b)) d (fun e => ind (∀ r ∈ ra ++ rb.map fun r => r.map (· + 2 * (a : Int)), fitC r p e)) = ind (∀ r ∈ ra, fitC r p d) * colC p (lin (2 * (a : Int)) (2 * b)) (rb.map fun r => r.map (· + 2 * (a : Int))) := fun d => by
    rw [NF_congr (G := fun e => ind (∀ r ∈ rb.map fun r => r.map (· + 2 * (a : Int)), fitC r p e) * ind (∀ r ∈ ra, fitC r p d)) _ _ fun e _ he => ?_]
    · rw [NF_mul, hany, Nat.mul_comm]
    · rw [← ind_and]
      refine ind_congr ?_
      have hra : (∀ r ∈ ra, fitC r p e) ↔ ∀ r ∈ ra, fitC r p d := by
        refine forall_congr' fun r => imp_congr_right fun hr => ?_
        refine fitC_congr (ha.four r hr) fun x hx => he x fun z => ?_
        have h1 := drawn_mem ha (List.mem_flatten.mpr ⟨r, hr, hx⟩)
        have h2 := mem_lin.mp z
        omega
      rw [← hra]
      constructor
      · intro hall
        exact ⟨fun r hr => hall r (List.mem_append_right _ hr), fun r hr => hall r (List.mem_append_left _ hr)⟩
      · rintro ⟨q1, q2⟩ r hr
        rcases List.mem_append.mp hr with z | z
        · exact q2 r z
        · exact q1 r z
  rw [show (fun d => NF p (lin (2 * (a : Int)) (2 * b)) d (fun e => ind (∀ r ∈ ra ++ rb.map fun r => r.map (· + 2 * (a : Int)), fitC r p e))) = fun d => ind (∀ r ∈ ra, fitC r p d) * colC p (lin (2 * (a : Int)) (2 * b)) (rb.map fun r => r.map (· + 2 * (a : Int))) from funext e2, NF_mul]
  rfl
end DL
set_option maxRecDepth 100000
namespace DL
open PySem (Str)
/-! ### joining pairs of lines -/
/-- the pairs joined one by one: the rows and the rings -/
def joinL : List (List Int) → List (List Int) → Int → List (List Int) × Int
  | rs, [], rg => (rs, rg)
  | rs, p :: ps, rg => joinL (rs.map fun r => r.map (ren (p.getD 1 0) (p.getD 0 0))) (ps.map fun r => r.map (ren (p.getD 1 0) (p.getD 0 0))) (if p.getD 0 0 = p.getD 1 0 then rg + 1 else rg)
termination_by _ ps _ => ps.length
decreasing_by simp
theorem ren_self (a x : Int) : ren a a x = x := by
  unfold ren
  split
  · rename_i h; exact h.symm
  · rfl
theorem ren_map_self (a : Int) (rs : List (List Int)) : (rs.map fun r => r.map (ren a a)) = rs := by
  have : (fun r : List Int => r.map (ren a a)) = id := by
    funext r
    show r.map (ren a a) = r
    have : ren a a = id := funext fun x => ren_self a x
    rw [this, List.map_id]
  rw [this, List.map_id]
theorem joinL_cons (rs : List (List Int)) (p : List Int) (ps : List (List Int)) (rg : Int) : joinL rs (p :: ps) rg = joinL (rs.map fun r => r.map (ren (p.getD 1 0) (p.getD 0 0))) (ps.map fun r => r.map (ren (p.getD 1 0) (p.getD 0 0))) (if p.getD 0 0 = p.getD 1 0 then rg + 1 else rg) := by
  rw [joinL]
theorem joinL_nil (rs : List (List Int)) (rg : Int) : joinL rs [] rg = (rs, rg) := by
  rw [joinL]
theorem joinAll_eq (rs ps : List (List Int)) (rg : Int) : (joinAll rs ps rg).1 = (joinL rs ps rg).1 ∧ (joinAll rs ps rg).2.2 = (joinL rs ps rg).2 := by
  have gen : ∀ (n k : Nat) (s : List (List Int) × List (List Int) × Int), s.2.1.length = k + n → (((List.range' k n).foldl joinStep s).1 = (joinL s.1 (s.2.1.drop k) s.2.2).1 ∧ ((List.range' k n).foldl joinStep s).2.2 = (joinL s.1 (s.2.1.drop k) s.2.2).2) := by
    intro n
    induction n with
    | zero =>
      intro k s h
      rw [List.drop_eq_nil_of_le (by omega), joinL_nil]
      exact ⟨rfl, rfl⟩
    | succ n ih =>
      intro k s h
      have hk : k < s.2.1.length := by omega
      rw [List.range'_succ, List.foldl_cons]
      have hlen : (joinStep s k).2.1.length = s.2.1.length := by
        unfold joinStep
        simp only [List.length_append, List.length_take, List.length_map, List.length_drop]
        omega
      obtain ⟨i1, i2⟩ := ih (k + 1) (joinStep s k) (by rw [hlen]; omega)
      rw [i1, i2, List.drop_eq_getElem_cons hk, joinL_cons]
      have hg : s.2.1.getD k [] = s.2.1[k] := by rw [List.getD_eq_getElem?_getD, List.getElem?_eq_getElem hk]; rfl
      have hd : (joinStep s k).2.1.drop (k + 1) = (s.2.1.drop (k + 1)).map fun r => r.map (ren (s.2.1[k].getD 1 0) (s.2.1[k].getD 0 0)) := by
        unfold joinStep
        simp only
        rw [hg, List.drop_append]
        have : (s.2.1.take (k + 1)).length = k + 1 := by rw [List.length_take]; omega
        rw [this, Nat.sub_self, List.drop_zero, List.drop_eq_nil_of_le (by omega), List.nil_append]
      rw [hd]
      unfold joinStep
      simp only
      rw [hg]
      exact ⟨rfl, rfl⟩
  unfold joinAll
  rw [List.range_eq_range']
  have := gen ps.length 0 (rs, ps, rg) (by simp)
  simpa using this
theorem joinL_len : ∀ (n : Nat) (rs ps : List (List Int)) (rg : Int), ps.length = n → (joinL rs ps rg).1.length = rs.length ∧ ((∀ r ∈ rs, r.length = 4) → ∀ r ∈ (joinL rs ps rg).1, r.length = 4)
  | 0, rs, ps, rg, h => by
    rw [List.length_eq_zero_iff.mp h, joinL_nil]
    exact ⟨rfl, id⟩
  | n + 1, rs, p :: ps, rg, h => by
    rw [joinL_cons]
    obtain ⟨h1, h2⟩ := joinL_len n (rs.map fun r => r.map (ren (p.getD 1 0) (p.getD 0 0))) (ps.map fun r => r.map (ren (p.getD 1 0) (p.getD 0 0))) (if p.getD 0 0 = p.getD 1 0 then rg + 1 else rg) (by rw [List.length_map]; simpa using h)
    refine ⟨by rw [h1, List.length_map], fun h4 => h2 fun r hr => ?_⟩
    obtain ⟨r0, h0, rfl⟩ := List.mem_map.mp hr
    rw [List.length_map]
    exact h4 r0 h0
theorem renamed_ok {r : List Int} {old new : Int} (hl : r.length ≤ 1000000) : f_renamed [encR r, .int old, .int new] = .ok (.va (encR (r.map (ren old new)))) := by
  unfold f_renamed F_renamed
  rw [fn_eq [.va (encR r), .va (.int old), .va (.int new), .no] rfl]
  have hc := lcm (it := iSeq (eVar 0)) (j := 3) (own := [3]) (el := eIf (tVal (eOp2 dEq (eVar 3) (eVar 1))) (eVar 2) (eVar 3)) (e := [.va (encR r), .va (.int old), .va (.int new), .no]) (enc := D.int) (fun x => D.int (ren old new x)) r (by simp only [ev_seq, ev_set, ev_op1, ev_op2, ev_call, ev_cons, ev_nil, ev_c, ev_var, ev_tup, ev_lst, ev_cb, ev_fz, ev_lend, ev_and, ev_or, ev_not, ev_chain, ev_if, ev_bm, ev_get2, ev_ixO, ev_sl, ev_some, ev_none, ev_tval, ev_tand, ev_tor, ev_tnot, ev_irange1, ev_irange2, ev_sif, ev_next, ev_ret, ev_retO, ev_raise, ev_app, ev_put, ev_dput, ev_for, ev_while, ev_pub, pub_cons, pub_nil, ev_drop, ev_dnew, res_nx, res_rt, res_xc, R.bind_ok, R.bind_xc, R.out_ok, R.out_xc, Out.bind_nx, Out.bind_rt, Out.bind_xc, Sl.d_va, Sl.d_ow, Sl.frz_va, Sl.frz_ow, Sl.frz_no, List.getElem?_cons_succ, List.getElem?_cons_zero, List.set_cons_succ, List.set_cons_zero, List.length_cons, List.length_nil, List.map_cons, List.map_nil, lim_val, Nat.zero_le, Nat.reduceAdd, Nat.reduceLeDiff, Nat.reduceEqDiff, reduceIte, Nat.zero_add, if_true, if_false, Bool.false_eq_true, Bool.not_true, Bool.not_false, decide_true, decide_false, o_add, o_sub, o_neg, o_lt, o_le, o_gt, o_ge, o_eq, o_ne, o_isN, o_notN, isNon_non, isNon_int, isNon_tup, isNon_lst, o_idxL, o_idxT, o_lenL, o_lenT, o_lenS, o_listL, o_listT, o_tupleL, o_tupleT, o_int, o_intb, o_max2, o_min2, o_slL, o_slT, atD_0, atD_1, atD_2, atD_3, atD_4, atD_5, range_4, range_3, range_2, ev_iseq]) hl (fun x hx => by
    unfold ren
    by_cases c : x = old
    · simp only [ev_seq, ev_set, ev_op1, ev_op2, ev_call, ev_cons, ev_nil, ev_c, ev_var, ev_tup, ev_lst, ev_cb, ev_fz, ev_lend, ev_and, ev_or, ev_not, ev_chain, ev_if, ev_bm, ev_get2, ev_ixO, ev_sl, ev_some, ev_none, ev_tval, ev_tand, ev_tor, ev_tnot, ev_irange1, ev_irange2, ev_sif, ev_next, ev_ret, ev_retO, ev_raise, ev_app, ev_put, ev_dput, ev_for, ev_while, ev_pub, pub_cons, pub_nil, ev_drop, ev_dnew, res_nx, res_rt, res_xc, R.bind_ok, R.bind_xc, R.out_ok, R.out_xc, Out.bind_nx, Out.bind_rt, Out.bind_xc, Sl.d_va, Sl.d_ow, Sl.frz_va, Sl.frz_ow, Sl.frz_no, List.getElem?_cons_succ, List.getElem?_cons_zero, List.set_cons_succ, List.set_cons_zero, List.length_cons, List.length_nil, List.map_cons, List.map_nil, lim_val, Nat.zero_le, Nat.reduceAdd, Nat.reduceLeDiff, Nat.reduceEqDiff, reduceIte, Nat.zero_add, if_true, if_false, Bool.false_eq_true, Bool.not_true, Bool.not_false, decide_true, decide_false, o_add, o_sub, o_neg, o_lt, o_le, o_gt, o_ge, o_eq, o_ne, o_isN, o_notN, isNon_non, isNon_int, isNon_tup, isNon_lst, o_idxL, o_idxT, o_lenL, o_lenT, o_lenS, o_listL, o_listT, o_tupleL, o_tupleT, o_int, o_intb, o_max2, o_min2, o_slL, o_slT, atD_0, atD_1, atD_2, atD_3, atD_4, atD_5, range_4, range_3, range_2, wipe_cons, wipe_nil, c]
    · simp only [ev_seq, ev_set, ev_op1, ev_op2, ev_call, ev_cons, ev_nil, ev_c, ev_var, ev_tup, ev_lst, ev_cb, ev_fz, ev_lend, ev_and, ev_or, ev_not, ev_chain, ev_if, ev_bm, ev_get2, ev_ixO, ev_sl, ev_some, ev_none, ev_tval, ev_tand, ev_tor, ev_tnot, ev_irange1, ev_irange2, ev_sif, ev_next, ev_ret, ev_retO, ev_raise, ev_app, ev_put, ev_dput, ev_for, ev_while, ev_pub, pub_cons, pub_nil, ev_drop, ev_dnew, res_nx, res_rt, res_xc, R.bind_ok, R.bind_xc, R.out_ok, R.out_xc, Out.bind_nx, Out.bind_rt, Out.bind_xc, Sl.d_va, Sl.d_ow, Sl.frz_va, Sl.frz_ow, Sl.frz_no, List.getElem?_cons_succ, List.getElem?_cons_zero, List.set_cons_succ, List.set_cons_zero, List.length_cons, List.length_nil, List.map_cons, List.map_nil, lim_val, Nat.zero_le, Nat.reduceAdd, Nat.reduceLeDiff, Nat.reduceEqDiff, reduceIte, Nat.zero_add, if_true, if_false, Bool.false_eq_true, Bool.not_true, Bool.not_false, decide_true, decide_false, o_add, o_sub, o_neg, o_lt, o_le, o_gt, o_ge, o_eq, o_ne, o_isN, o_notN, isNon_non, isNon_int, isNon_tup, isNon_lst, o_idxL, o_idxT, o_lenL, o_lenT, o_lenS, o_listL, o_listT, o_tupleL, o_tupleT, o_int, o_intb, o_max2, o_min2, o_slL, o_slT, atD_0, atD_1, atD_2, atD_3, atD_4, atD_5, range_4, range_3, range_2, wipe_cons, wipe_nil, c])
  rw [show encR (r.map (ren old new)) = D.tup (r.map fun x => D.int (ren old new x)) from congrArg D.tup List.map_map]
  simp only [ev_seq, ev_set, ev_op1, ev_op2, ev_call, ev_cons, ev_nil, ev_c, ev_var, ev_tup, ev_lst, ev_cb, ev_fz, ev_lend, ev_and, ev_or, ev_not, ev_chain, ev_if, ev_bm, ev_get2, ev_ixO, ev_sl, ev_some, ev_none, ev_tval, ev_tand, ev_tor, ev_tnot, ev_irange1, ev_irange2, ev_sif, ev_next, ev_ret, ev_retO, ev_raise, ev_app, ev_put, ev_dput, ev_for, ev_while, ev_pub, pub_cons, pub_nil, ev_drop, ev_dnew, res_nx, res_rt, res_xc, R.bind_ok, R.bind_xc, R.out_ok, R.out_xc, Out.bind_nx, Out.bind_rt, Out.bind_xc, Sl.d_va, Sl.d_ow, Sl.frz_va, Sl.frz_ow, Sl.frz_no, List.getElem?_cons_succ, List.getElem?_cons_zero, List.set_cons_succ, List.set_cons_zero, List.length_cons, List.length_nil, List.map_cons, List.map_nil, lim_val, Nat.zero_le, Nat.reduceAdd, Nat.reduceLeDiff, Nat.reduceEqDiff, reduceIte, Nat.zero_add, if_true, if_false, Bool.false_eq_true, Bool.not_true, Bool.not_false, decide_true, decide_false, o_add, o_sub, o_neg, o_lt, o_le, o_gt, o_ge, o_eq, o_ne, o_isN, o_notN, isNon_non, isNon_int, isNon_tup, isNon_lst, o_idxL, o_idxT, o_lenL, o_lenT, o_lenS, o_listL, o_listT, o_tupleL, o_tupleT, o_int, o_intb, o_max2, o_min2, o_slL, o_slT, atD_0, atD_1, atD_2, atD_3, atD_4, atD_5, range_4, range_3, range_2, hc]
/-- rows or pairs as tuples -/
theorem encR_ren (f : Int → Int) (rs : List (List Int)) : (rs.map fun r => encR (r.map f)) = encRs (rs.map fun r => r.map f) := by
  rw [show encRs (rs.map fun r => r.map f) = rs.map fun r => encR (r.map f) from List.map_map]
theorem joined_ok {a b : D} {rs ps : List (List Int)} {rings : Int} (ha : SeqD a (encRs rs)) (hb : SeqD b (encRs ps)) (h4 : ∀ r ∈ rs, r.length = 4) (h2 : ∀ p ∈ ps, p.length = 2) (hl : rs.length ≤ 1000) (hp : ps.length ≤ 500) :
    f_joined [a, .int rings, b] = .ok (.va (encS (numb (joinL rs ps rings).1) (joinL rs ps rings).2)) := by
  unfold f_joined F_joined
  rw [fn_eq [.va a, .va (.int rings), .va b, .no, .no, .no, .no, .no] rfl]
  have W := whileD_inv (c := tVal (eOp2 dGt (eCB bLen (aCons (eVar 4) aNil)) (eC (.int 0)))) (b := B_joined_1)
    (fun m e => ∃ (rows left : List (List Int)) (rg : Int) (x y z : Sl), e = [.va a, .va (.int rg), .va b, .va (.lst (encRs rows)), .va (.lst (encRs left)), x, y, z] ∧ left.length = m ∧ joinL rows left rg = joinL rs ps rings ∧ (∀ r ∈ rows, r.length = 4) ∧ (∀ p ∈ left, p.length = 2) ∧ rows.length = rs.length ∧ m ≤ 500)
    (fun m e ⟨rows, left, rg, x, y, z, he, hm, hj, r4, l2, hrl, hm5⟩ => by
      subst he
      match left, hm, hj, l2 with
      | p :: left, hm, hj, l2 =>
        have hp2 := l2 p List.mem_cons_self
        match p, hp2 with
        | [u, v], _ =>
          have hm' : left.length = m := by simpa using hm
          have hpos : (0 : Int) < ((left.length + 1 : Nat) : Int) := by omega
          have hcut : cutD (encRs ([u, v] :: left)) (some 1) none = encRs left := by
            rw [show (some (1 : Int)) = some ((1 : Nat) : Int) from rfl, cut_to (by rw [List.length_map, List.length_cons]; omega)]
            rfl
          have hcut2 : cutD (encR [u, v] :: encRs left) (some 1) none = encRs left := hcut
          rw [joinL_cons] at hj
          constructor
          · simp only [ev_seq, ev_set, ev_op1, ev_op2, ev_call, ev_cons, ev_nil, ev_c, ev_var, ev_tup, ev_lst, ev_cb, ev_fz, ev_lend, ev_and, ev_or, ev_not, ev_chain, ev_if, ev_bm, ev_get2, ev_ixO, ev_sl, ev_some, ev_none, ev_tval, ev_tand, ev_tor, ev_tnot, ev_irange1, ev_irange2, ev_sif, ev_next, ev_ret, ev_retO, ev_raise, ev_app, ev_put, ev_dput, ev_for, ev_while, ev_pub, pub_cons, pub_nil, ev_drop, ev_dnew, res_nx, res_rt, res_xc, R.bind_ok, R.bind_xc, R.out_ok, R.out_xc, Out.bind_nx, Out.bind_rt, Out.bind_xc, Sl.d_va, Sl.d_ow, Sl.frz_va, Sl.frz_ow, Sl.frz_no, List.getElem?_cons_succ, List.getElem?_cons_zero, List.set_cons_succ, List.set_cons_zero, List.length_cons, List.length_nil, List.map_cons, List.map_nil, lim_val, Nat.zero_le, Nat.reduceAdd, Nat.reduceLeDiff, Nat.reduceEqDiff, reduceIte, Nat.zero_add, if_true, if_false, Bool.false_eq_true, Bool.not_true, Bool.not_false, decide_true, decide_false, o_add, o_sub, o_neg, o_lt, o_le, o_gt, o_ge, o_eq, o_ne, o_isN, o_notN, isNon_non, isNon_int, isNon_tup, isNon_lst, o_idxL, o_idxT, o_lenL, o_lenT, o_lenS, o_listL, o_listT, o_tupleL, o_tupleT, o_int, o_intb, o_max2, o_min2, o_slL, o_slT, atD_0, atD_1, atD_2, atD_3, atD_4, atD_5, range_4, range_3, range_2, List.length_map, hpos]
          · by_cases c : u = v
            · subst c
              have hj2 : joinL rows left (rg + 1) = joinL rs ps rings := by
                rw [← hj]
                show joinL rows left (rg + 1) = joinL (rows.map fun r => r.map (ren u u)) (left.map fun r => r.map (ren u u)) (if u = u then rg + 1 else rg)
                rw [ren_map_self, ren_map_self, if_pos rfl]
              refine ⟨[.va a, .va (.int (rg + 1)), .va b, .va (.lst (encRs rows)), .va (.lst (encRs left)), .va (encR [u, u]), y, z], ?_, m, Nat.le_refl _, rows, left, rg + 1, _, _, _, rfl, hm', hj2, r4, fun q hq => l2 q (List.mem_cons_of_mem _ hq), hrl, by omega⟩
              unfold B_joined_1
              simp only [ev_seq, ev_set, ev_op1, ev_op2, ev_call, ev_cons, ev_nil, ev_c, ev_var, ev_tup, ev_lst, ev_cb, ev_fz, ev_lend, ev_and, ev_or, ev_not, ev_chain, ev_if, ev_bm, ev_get2, ev_ixO, ev_sl, ev_some, ev_none, ev_tval, ev_tand, ev_tor, ev_tnot, ev_irange1, ev_irange2, ev_sif, ev_next, ev_ret, ev_retO, ev_raise, ev_app, ev_put, ev_dput, ev_for, ev_while, ev_pub, pub_cons, pub_nil, ev_drop, ev_dnew, res_nx, res_rt, res_xc, R.bind_ok, R.bind_xc, R.out_ok, R.out_xc, Out.bind_nx, Out.bind_rt, Out.bind_xc, Sl.d_va, Sl.d_ow, Sl.frz_va, Sl.frz_ow, Sl.frz_no, List.getElem?_cons_succ, List.getElem?_cons_zero, List.set_cons_succ, List.set_cons_zero, List.length_cons, List.length_nil, List.map_cons, List.map_nil, lim_val, Nat.zero_le, Nat.reduceAdd, Nat.reduceLeDiff, Nat.reduceEqDiff, reduceIte, Nat.zero_add, if_true, if_false, Bool.false_eq_true, Bool.not_true, Bool.not_false, decide_true, decide_false, o_add, o_sub, o_neg, o_lt, o_le, o_gt, o_ge, o_eq, o_ne, o_isN, o_notN, isNon_non, isNon_int, isNon_tup, isNon_lst, o_idxL, o_idxT, o_lenL, o_lenT, o_lenS, o_listL, o_listT, o_tupleL, o_tupleT, o_int, o_intb, o_max2, o_min2, o_slL, o_slT, atD_0, atD_1, atD_2, atD_3, atD_4, atD_5, range_4, range_3, range_2, hcut2, eq_self]
            · have hj2 : joinL (rows.map fun r => r.map (ren v u)) (left.map fun r => r.map (ren v u)) rg = joinL rs ps rings := by
                rw [← hj]
                show _ = joinL (rows.map fun r => r.map (ren v u)) (left.map fun r => r.map (ren v u)) (if u = v then rg + 1 else rg)
                rw [if_neg c]
              have c1 := lcm (it := iSeq (eVar 3)) (j := 6) (own := [6]) (el := eCall 3 f_renamed (aCons (eVar 6) (aCons (eOp2 dIdx (eVar 5) (eC (.int 1))) (aCons (eOp2 dIdx (eVar 5) (eC (.int 0))) aNil))))
                (e := [.va a, .va (.int rg), .va b, .va (.lst (encRs rows)), .va (.lst (encRs left)), .va (encR [u, v]), y, z]) (enc := encR) (fun r => encR (r.map (ren v u))) rows (by simp only [ev_seq, ev_set, ev_op1, ev_op2, ev_call, ev_cons, ev_nil, ev_c, ev_var, ev_tup, ev_lst, ev_cb, ev_fz, ev_lend, ev_and, ev_or, ev_not, ev_chain, ev_if, ev_bm, ev_get2, ev_ixO, ev_sl, ev_some, ev_none, ev_tval, ev_tand, ev_tor, ev_tnot, ev_irange1, ev_irange2, ev_sif, ev_next, ev_ret, ev_retO, ev_raise, ev_app, ev_put, ev_dput, ev_for, ev_while, ev_pub, pub_cons, pub_nil, ev_drop, ev_dnew, res_nx, res_rt, res_xc, R.bind_ok, R.bind_xc, R.out_ok, R.out_xc, Out.bind_nx, Out.bind_rt, Out.bind_xc, Sl.d_va, Sl.d_ow, Sl.frz_va, Sl.frz_ow, Sl.frz_no, List.getElem?_cons_succ, List.getElem?_cons_zero, List.set_cons_succ, List.set_cons_zero, List.length_cons, List.length_nil, List.map_cons, List.map_nil, lim_val, Nat.zero_le, Nat.reduceAdd, Nat.reduceLeDiff, Nat.reduceEqDiff, reduceIte, Nat.zero_add, if_true, if_false, Bool.false_eq_true, Bool.not_true, Bool.not_false, decide_true, decide_false, o_add, o_sub, o_neg, o_lt, o_le, o_gt, o_ge, o_eq, o_ne, o_isN, o_notN, isNon_non, isNon_int, isNon_tup, isNon_lst, o_idxL, o_idxT, o_lenL, o_lenT, o_lenS, o_listL, o_listT, o_tupleL, o_tupleT, o_int, o_intb, o_max2, o_min2, o_slL, o_slT, atD_0, atD_1, atD_2, atD_3, atD_4, atD_5, range_4, range_3, range_2, ev_iseq]) (by omega) (fun r hr => by
                  have := renamed_ok (r := r) (old := v) (new := u) (by rw [r4 r hr]; omega)
                  simp only [ev_seq, ev_set, ev_op1, ev_op2, ev_call, ev_cons, ev_nil, ev_c, ev_var, ev_tup, ev_lst, ev_cb, ev_fz, ev_lend, ev_and, ev_or, ev_not, ev_chain, ev_if, ev_bm, ev_get2, ev_ixO, ev_sl, ev_some, ev_none, ev_tval, ev_tand, ev_tor, ev_tnot, ev_irange1, ev_irange2, ev_sif, ev_next, ev_ret, ev_retO, ev_raise, ev_app, ev_put, ev_dput, ev_for, ev_while, ev_pub, pub_cons, pub_nil, ev_drop, ev_dnew, res_nx, res_rt, res_xc, R.bind_ok, R.bind_xc, R.out_ok, R.out_xc, Out.bind_nx, Out.bind_rt, Out.bind_xc, Sl.d_va, Sl.d_ow, Sl.frz_va, Sl.frz_ow, Sl.frz_no, List.getElem?_cons_succ, List.getElem?_cons_zero, List.set_cons_succ, List.set_cons_zero, List.length_cons, List.length_nil, List.map_cons, List.map_nil, lim_val, Nat.zero_le, Nat.reduceAdd, Nat.reduceLeDiff, Nat.reduceEqDiff, reduceIte, Nat.zero_add, if_true, if_false, Bool.false_eq_true, Bool.not_true, Bool.not_false, decide_true, decide_false, o_add, o_sub, o_neg, o_lt, o_le, o_gt, o_ge, o_eq, o_ne, o_isN, o_notN, isNon_non, isNon_int, isNon_tup, isNon_lst, o_idxL, o_idxT, o_lenL, o_lenT, o_lenS, o_listL, o_listT, o_tupleL, o_tupleT, o_int, o_intb, o_max2, o_min2, o_slL, o_slT, atD_0, atD_1, atD_2, atD_3, atD_4, atD_5, range_4, range_3, range_2, wipe_cons, wipe_nil, this])
              rw [encR_ren] at c1
              have c2 := lcm (it := iSeq (eVar 4)) (j := 7) (own := [7]) (el := eCall 3 f_renamed (aCons (eVar 7) (aCons (eOp2 dIdx (eVar 5) (eC (.int 1))) (aCons (eOp2 dIdx (eVar 5) (eC (.int 0))) aNil))))
                (e := [.va a, .va (.int rg), .va b, .va (.lst (encRs (rows.map fun r => r.map (ren v u)))), .va (.lst (encRs left)), .va (encR [u, v]), y, z]) (enc := encR) (fun r => encR (r.map (ren v u))) left (by simp only [ev_seq, ev_set, ev_op1, ev_op2, ev_call, ev_cons, ev_nil, ev_c, ev_var, ev_tup, ev_lst, ev_cb, ev_fz, ev_lend, ev_and, ev_or, ev_not, ev_chain, ev_if, ev_bm, ev_get2, ev_ixO, ev_sl, ev_some, ev_none, ev_tval, ev_tand, ev_tor, ev_tnot, ev_irange1, ev_irange2, ev_sif, ev_next, ev_ret, ev_retO, ev_raise, ev_app, ev_put, ev_dput, ev_for, ev_while, ev_pub, pub_cons, pub_nil, ev_drop, ev_dnew, res_nx, res_rt, res_xc, R.bind_ok, R.bind_xc, R.out_ok, R.out_xc, Out.bind_nx, Out.bind_rt, Out.bind_xc, Sl.d_va, Sl.d_ow, Sl.frz_va, Sl.frz_ow, Sl.frz_no, List.getElem?_cons_succ, List.getElem?_cons_zero, List.set_cons_succ, List.set_cons_zero, List.length_cons, List.length_nil, List.map_cons, List.map_nil, lim_val, Nat.zero_le, Nat.reduceAdd, Nat.reduceLeDiff, Nat.reduceEqDiff, reduceIte, Nat.zero_add, if_true, if_false, Bool.false_eq_true, Bool.not_true, Bool.not_false, decide_true, decide_false, o_add, o_sub, o_neg, o_lt, o_le, o_gt, o_ge, o_eq, o_ne, o_isN, o_notN, isNon_non, isNon_int, isNon_tup, isNon_lst, o_idxL, o_idxT, o_lenL, o_lenT, o_lenS, o_listL, o_listT, o_tupleL, o_tupleT, o_int, o_intb, o_max2, o_min2, o_slL, o_slT, atD_0, atD_1, atD_2, atD_3, atD_4, atD_5, range_4, range_3, range_2, ev_iseq]) (by omega) (fun r hr => by
                  have := renamed_ok (r := r) (old := v) (new := u) (by rw [l2 r (List.mem_cons_of_mem _ hr)]; omega)
                  simp only [ev_seq, ev_set, ev_op1, ev_op2, ev_call, ev_cons, ev_nil, ev_c, ev_var, ev_tup, ev_lst, ev_cb, ev_fz, ev_lend, ev_and, ev_or, ev_not, ev_chain, ev_if, ev_bm, ev_get2, ev_ixO, ev_sl, ev_some, ev_none, ev_tval, ev_tand, ev_tor, ev_tnot, ev_irange1, ev_irange2, ev_sif, ev_next, ev_ret, ev_retO, ev_raise, ev_app, ev_put, ev_dput, ev_for, ev_while, ev_pub, pub_cons, pub_nil, ev_drop, ev_dnew, res_nx, res_rt, res_xc, R.bind_ok, R.bind_xc, R.out_ok, R.out_xc, Out.bind_nx, Out.bind_rt, Out.bind_xc, Sl.d_va, Sl.d_ow, Sl.frz_va, Sl.frz_ow, Sl.frz_no, List.getElem?_cons_succ, List.getElem?_cons_zero, List.set_cons_succ, List.set_cons_zero, List.length_cons, List.length_nil, List.map_cons, List.map_nil, lim_val, Nat.zero_le, Nat.reduceAdd, Nat.reduceLeDiff, Nat.reduceEqDiff, reduceIte, Nat.zero_add, if_true, if_false, Bool.false_eq_true, Bool.not_true, Bool.not_false, decide_true, decide_false, o_add, o_sub, o_neg, o_lt, o_le, o_gt, o_ge, o_eq, o_ne, o_isN, o_notN, isNon_non, isNon_int, isNon_tup, isNon_lst, o_idxL, o_idxT, o_lenL, o_lenT, o_lenS, o_listL, o_listT, o_tupleL, o_tupleT, o_int, o_intb, o_max2, o_min2, o_slL, o_slT, atD_0, atD_1, atD_2, atD_3, atD_4, atD_5, range_4, range_3, range_2, wipe_cons, wipe_nil, this])
              rw [encR_ren] at c2
              refine ⟨[.va a, .va (.int rg), .va b, .va (.lst (encRs (rows.map fun r => r.map (ren v u)))), .va (.lst (encRs (left.map fun r => r.map (ren v u)))), .va (encR [u, v]), y, z], ?_, m, Nat.le_refl _, _, _, rg, _, _, _, rfl, by rw [List.length_map]; exact hm', hj2, fun r hr => ?_, fun q hq => ?_, by rw [List.length_map]; exact hrl, by omega⟩
              · unfold B_joined_1
                simp only [ev_seq, ev_set, ev_op1, ev_op2, ev_call, ev_cons, ev_nil, ev_c, ev_var, ev_tup, ev_lst, ev_cb, ev_fz, ev_lend, ev_and, ev_or, ev_not, ev_chain, ev_if, ev_bm, ev_get2, ev_ixO, ev_sl, ev_some, ev_none, ev_tval, ev_tand, ev_tor, ev_tnot, ev_irange1, ev_irange2, ev_sif, ev_next, ev_ret, ev_retO, ev_raise, ev_app, ev_put, ev_dput, ev_for, ev_while, ev_pub, pub_cons, pub_nil, ev_drop, ev_dnew, res_nx, res_rt, res_xc, R.bind_ok, R.bind_xc, R.out_ok, R.out_xc, Out.bind_nx, Out.bind_rt, Out.bind_xc, Sl.d_va, Sl.d_ow, Sl.frz_va, Sl.frz_ow, Sl.frz_no, List.getElem?_cons_succ, List.getElem?_cons_zero, List.set_cons_succ, List.set_cons_zero, List.length_cons, List.length_nil, List.map_cons, List.map_nil, lim_val, Nat.zero_le, Nat.reduceAdd, Nat.reduceLeDiff, Nat.reduceEqDiff, reduceIte, Nat.zero_add, if_true, if_false, Bool.false_eq_true, Bool.not_true, Bool.not_false, decide_true, decide_false, o_add, o_sub, o_neg, o_lt, o_le, o_gt, o_ge, o_eq, o_ne, o_isN, o_notN, isNon_non, isNon_int, isNon_tup, isNon_lst, o_idxL, o_idxT, o_lenL, o_lenT, o_lenS, o_listL, o_listT, o_tupleL, o_tupleT, o_int, o_intb, o_max2, o_min2, o_slL, o_slT, atD_0, atD_1, atD_2, atD_3, atD_4, atD_5, range_4, range_3, range_2, hcut2, c, c1, c2]
              · obtain ⟨r0, h0, rfl⟩ := List.mem_map.mp hr
                rw [List.length_map]
                exact r4 r0 h0
              · obtain ⟨r0, h0, rfl⟩ := List.mem_map.mp hq
                rw [List.length_map]
                exact l2 r0 (List.mem_cons_of_mem _ h0))
    (fun e ⟨rows, left, rg, x, y, z, he, hm, hj, r4, l2, hrl, hm5⟩ => by
      subst he
      rw [List.length_eq_zero_iff.mp hm]
      simp only [ev_seq, ev_set, ev_op1, ev_op2, ev_call, ev_cons, ev_nil, ev_c, ev_var, ev_tup, ev_lst, ev_cb, ev_fz, ev_lend, ev_and, ev_or, ev_not, ev_chain, ev_if, ev_bm, ev_get2, ev_ixO, ev_sl, ev_some, ev_none, ev_tval, ev_tand, ev_tor, ev_tnot, ev_irange1, ev_irange2, ev_sif, ev_next, ev_ret, ev_retO, ev_raise, ev_app, ev_put, ev_dput, ev_for, ev_while, ev_pub, pub_cons, pub_nil, ev_drop, ev_dnew, res_nx, res_rt, res_xc, R.bind_ok, R.bind_xc, R.out_ok, R.out_xc, Out.bind_nx, Out.bind_rt, Out.bind_xc, Sl.d_va, Sl.d_ow, Sl.frz_va, Sl.frz_ow, Sl.frz_no, List.getElem?_cons_succ, List.getElem?_cons_zero, List.set_cons_succ, List.set_cons_zero, List.length_cons, List.length_nil, List.map_cons, List.map_nil, lim_val, Nat.zero_le, Nat.reduceAdd, Nat.reduceLeDiff, Nat.reduceEqDiff, reduceIte, Nat.zero_add, if_true, if_false, Bool.false_eq_true, Bool.not_true, Bool.not_false, decide_true, decide_false, o_add, o_sub, o_neg, o_lt, o_le, o_gt, o_ge, o_eq, o_ne, o_isN, o_notN, isNon_non, isNon_int, isNon_tup, isNon_lst, o_idxL, o_idxT, o_lenL, o_lenT, o_lenS, o_listL, o_listT, o_tupleL, o_tupleT, o_int, o_intb, o_max2, o_min2, o_slL, o_slT, atD_0, atD_1, atD_2, atD_3, atD_4, atD_5, range_4, range_3, range_2, List.map_nil, List.length_nil]
      rfl)
    1000 ps.length [.va a, .va (.int rings), .va b, .va (.lst (encRs rs)), .va (.lst (encRs ps)), .no, .no, .no] (by omega) ⟨rs, ps, rings, _, _, _, rfl, rfl, rfl, h4, h2, rfl, hp⟩
  obtain ⟨e, hw, rows, left, rg, x, y, z, he, hm, hj, r4, l2, hrl, _⟩ := W
  rw [List.length_eq_zero_iff.mp hm, joinL_nil] at hj
  have hn := numbered_l r4 (by omega)
  simp only [ev_seq, ev_set, ev_op1, ev_op2, ev_call, ev_cons, ev_nil, ev_c, ev_var, ev_tup, ev_lst, ev_cb, ev_fz, ev_lend, ev_and, ev_or, ev_not, ev_chain, ev_if, ev_bm, ev_get2, ev_ixO, ev_sl, ev_some, ev_none, ev_tval, ev_tand, ev_tor, ev_tnot, ev_irange1, ev_irange2, ev_sif, ev_next, ev_ret, ev_retO, ev_raise, ev_app, ev_put, ev_dput, ev_for, ev_while, ev_pub, pub_cons, pub_nil, ev_drop, ev_dnew, res_nx, res_rt, res_xc, R.bind_ok, R.bind_xc, R.out_ok, R.out_xc, Out.bind_nx, Out.bind_rt, Out.bind_xc, Sl.d_va, Sl.d_ow, Sl.frz_va, Sl.frz_ow, Sl.frz_no, List.getElem?_cons_succ, List.getElem?_cons_zero, List.set_cons_succ, List.set_cons_zero, List.length_cons, List.length_nil, List.map_cons, List.map_nil, lim_val, Nat.zero_le, Nat.reduceAdd, Nat.reduceLeDiff, Nat.reduceEqDiff, reduceIte, Nat.zero_add, if_true, if_false, Bool.false_eq_true, Bool.not_true, Bool.not_false, decide_true, decide_false, o_add, o_sub, o_neg, o_lt, o_le, o_gt, o_ge, o_eq, o_ne, o_isN, o_notN, isNon_non, isNon_int, isNon_tup, isNon_lst, o_idxL, o_idxT, o_lenL, o_lenT, o_lenS, o_listL, o_listT, o_tupleL, o_tupleT, o_int, o_intb, o_max2, o_min2, o_slL, o_slT, atD_0, atD_1, atD_2, atD_3, atD_4, atD_5, range_4, range_3, range_2, list_seq ha, list_seq hb, hw, he, hn]
  rw [← hj]
/-- the law's own joining -/
theorem rowsL_enc : ∀ rs : List (List Int), rowsL (encRs rs) = some rs
  | [] => rfl
  | r :: rs => by
    show (intsD (encR r)).bind (fun r => (rowsL (encRs rs)).map (r :: ·)) = _
    rw [rowsL_enc rs]
    show (intsOf (encI r)).bind _ = _
    rw [intsOf_enc]
    rfl
theorem rowsD_enc {d : D} {rs : List (List Int)} (h : SeqD d (encRs rs)) : rowsD d = some rs := by
  rcases h with rfl | rfl
  · exact rowsL_enc rs
  · exact rowsL_enc rs
theorem law_joined_ok {a b : D} {rs ps : List (List Int)} {rings : Int} (ha : SeqD a (encRs rs)) (hb : SeqD b (encRs ps)) (h4 : ∀ r ∈ rs, r.length = 4) (h2 : ∀ p ∈ ps, p.length = 2) (hl : rs.length ≤ 400) (hp : ps.length ≤ 400) :
    f_law_joined [a, .int rings, b] = .ok (.va (encS (numb (joinL rs ps rings).1) (joinL rs ps rings).2)) := by
  unfold f_law_joined joinedF
  simp only [rowsD_enc ha, rowsD_enc hb]
  rw [if_pos ⟨⟨by omega, by omega⟩, fun r hr => by rw [h4 r hr]; omega, h2⟩]
  obtain ⟨e1, e2⟩ := joinAll_eq rs ps rings
  obtain ⟨l1, l2⟩ := joinL_len ps.length rs ps rings rfl
  rw [e1, e2]
  have hj4 := l2 h4
  have hn := law_numbered_ok (d := .lst ((joinL rs ps rings).1.map fun r => D.lst (r.map D.int))) (rowD := fun r => D.lst (encI r)) (.inl rfl) (fun r => .inl rfl) (flat_le4 hj4 (by rw [l1]; omega)) (by rw [l1]; omega)
  rw [hn]
  rfl
/-! ### a crossing by its number; without some -/
theorem row_at_ok {rs : List (List Int)} {rings at_ : Int} (h : 0 ≤ at_ ∧ at_ < rs.length) : f_row_at [encS rs rings, .int at_] = .ok (.va (encR (rs.getD at_.toNat []))) := by
  unfold f_row_at F_row_at
  rw [fn_eq [.va (encS rs rings), .va (.int at_)] rfl]
  have h1 := h.1
  have h2 := h.2
  have hk : at_.toNat < rs.length := by omega
  have hx := row_at_k hk
  rw [Int.toNat_of_nonneg h1] at hx
  rw [getD_eq hk]
  simp only [ev_seq, ev_set, ev_op1, ev_op2, ev_call, ev_cons, ev_nil, ev_c, ev_var, ev_tup, ev_lst, ev_cb, ev_fz, ev_lend, ev_and, ev_or, ev_not, ev_chain, ev_if, ev_bm, ev_get2, ev_ixO, ev_sl, ev_some, ev_none, ev_tval, ev_tand, ev_tor, ev_tnot, ev_irange1, ev_irange2, ev_sif, ev_next, ev_ret, ev_retO, ev_raise, ev_app, ev_put, ev_dput, ev_for, ev_while, ev_pub, pub_cons, pub_nil, ev_drop, ev_dnew, res_nx, res_rt, res_xc, R.bind_ok, R.bind_xc, R.out_ok, R.out_xc, Out.bind_nx, Out.bind_rt, Out.bind_xc, Sl.d_va, Sl.d_ow, Sl.frz_va, Sl.frz_ow, Sl.frz_no, List.getElem?_cons_succ, List.getElem?_cons_zero, List.set_cons_succ, List.set_cons_zero, List.length_cons, List.length_nil, List.map_cons, List.map_nil, lim_val, Nat.zero_le, Nat.reduceAdd, Nat.reduceLeDiff, Nat.reduceEqDiff, reduceIte, Nat.zero_add, if_true, if_false, Bool.false_eq_true, Bool.not_true, Bool.not_false, decide_true, decide_false, o_add, o_sub, o_neg, o_lt, o_le, o_gt, o_ge, o_eq, o_ne, o_isN, o_notN, isNon_non, isNon_int, isNon_tup, isNon_lst, o_idxL, o_idxT, o_lenL, o_lenT, o_lenS, o_listL, o_listT, o_tupleL, o_tupleT, o_int, o_intb, o_max2, o_min2, o_slL, o_slT, atD_0, atD_1, atD_2, atD_3, atD_4, atD_5, range_4, range_3, range_2, List.length_map, h1, h2, hx]
theorem row_at_no {rs : List (List Int)} {rings at_ : Int} (h : ¬ (0 ≤ at_ ∧ at_ < rs.length)) : f_row_at [encS rs rings, .int at_] = .xc 2 := by
  unfold f_row_at F_row_at
  rw [fn_eq [.va (encS rs rings), .va (.int at_)] rfl]
  by_cases h1 : 0 ≤ at_
  · have h2 : ¬ (at_ < (rs.length : Int)) := fun z => h ⟨h1, z⟩
    simp only [ev_seq, ev_set, ev_op1, ev_op2, ev_call, ev_cons, ev_nil, ev_c, ev_var, ev_tup, ev_lst, ev_cb, ev_fz, ev_lend, ev_and, ev_or, ev_not, ev_chain, ev_if, ev_bm, ev_get2, ev_ixO, ev_sl, ev_some, ev_none, ev_tval, ev_tand, ev_tor, ev_tnot, ev_irange1, ev_irange2, ev_sif, ev_next, ev_ret, ev_retO, ev_raise, ev_app, ev_put, ev_dput, ev_for, ev_while, ev_pub, pub_cons, pub_nil, ev_drop, ev_dnew, res_nx, res_rt, res_xc, R.bind_ok, R.bind_xc, R.out_ok, R.out_xc, Out.bind_nx, Out.bind_rt, Out.bind_xc, Sl.d_va, Sl.d_ow, Sl.frz_va, Sl.frz_ow, Sl.frz_no, List.getElem?_cons_succ, List.getElem?_cons_zero, List.set_cons_succ, List.set_cons_zero, List.length_cons, List.length_nil, List.map_cons, List.map_nil, lim_val, Nat.zero_le, Nat.reduceAdd, Nat.reduceLeDiff, Nat.reduceEqDiff, reduceIte, Nat.zero_add, if_true, if_false, Bool.false_eq_true, Bool.not_true, Bool.not_false, decide_true, decide_false, o_add, o_sub, o_neg, o_lt, o_le, o_gt, o_ge, o_eq, o_ne, o_isN, o_notN, isNon_non, isNon_int, isNon_tup, isNon_lst, o_idxL, o_idxT, o_lenL, o_lenT, o_lenS, o_listL, o_listT, o_tupleL, o_tupleT, o_int, o_intb, o_max2, o_min2, o_slL, o_slT, atD_0, atD_1, atD_2, atD_3, atD_4, atD_5, range_4, range_3, range_2, List.length_map, h1, h2]
  · simp only [ev_seq, ev_set, ev_op1, ev_op2, ev_call, ev_cons, ev_nil, ev_c, ev_var, ev_tup, ev_lst, ev_cb, ev_fz, ev_lend, ev_and, ev_or, ev_not, ev_chain, ev_if, ev_bm, ev_get2, ev_ixO, ev_sl, ev_some, ev_none, ev_tval, ev_tand, ev_tor, ev_tnot, ev_irange1, ev_irange2, ev_sif, ev_next, ev_ret, ev_retO, ev_raise, ev_app, ev_put, ev_dput, ev_for, ev_while, ev_pub, pub_cons, pub_nil, ev_drop, ev_dnew, res_nx, res_rt, res_xc, R.bind_ok, R.bind_xc, R.out_ok, R.out_xc, Out.bind_nx, Out.bind_rt, Out.bind_xc, Sl.d_va, Sl.d_ow, Sl.frz_va, Sl.frz_ow, Sl.frz_no, List.getElem?_cons_succ, List.getElem?_cons_zero, List.set_cons_succ, List.set_cons_zero, List.length_cons, List.length_nil, List.map_cons, List.map_nil, lim_val, Nat.zero_le, Nat.reduceAdd, Nat.reduceLeDiff, Nat.reduceEqDiff, reduceIte, Nat.zero_add, if_true, if_false, Bool.false_eq_true, Bool.not_true, Bool.not_false, decide_true, decide_false, o_add, o_sub, o_neg, o_lt, o_le, o_gt, o_ge, o_eq, o_ne, o_isN, o_notN, isNon_non, isNon_int, isNon_tup, isNon_lst, o_idxL, o_idxT, o_lenL, o_lenT, o_lenS, o_listL, o_listT, o_tupleL, o_tupleT, o_int, o_intb, o_max2, o_min2, o_slL, o_slT, atD_0, atD_1, atD_2, atD_3, atD_4, atD_5, range_4, range_3, range_2, List.length_map, h1]
/-- the rows but those at some numbers -/
def wo (rs : List (List Int)) (gone : List Int) : List (List Int) := ((List.range rs.length).filter fun (k : Nat) => !decide ((k : Int) ∈ gone)).map fun k => rs.getD k []
theorem wo_four {rs : List (List Int)} {gone : List Int} (h4 : ∀ r ∈ rs, r.length = 4) : ∀ r ∈ wo rs gone, r.length = 4 := fun r hr => by
  unfold wo at hr
  obtain ⟨k, hk, rfl⟩ := List.mem_map.mp hr
  have := List.mem_range.mp (List.mem_filter.mp hk).1
  rw [getD_eq this]
  exact h4 _ (List.getElem_mem _)
theorem wo_len (rs : List (List Int)) (gone : List Int) : (wo rs gone).length ≤ rs.length := by
  unfold wo
  rw [List.length_map]
  exact Nat.le_trans (List.length_filter_le _ _) (by rw [List.length_range]; exact Nat.le_refl _)
theorem without_ok {rs : List (List Int)} {gone : List Int} (hl : rs.length ≤ 1000) : f_without [.tup (encRs rs), .lst (encI gone)] = .ok (.ow (.lst (encRs (wo rs gone)))) := by
  unfold f_without F_without
  rw [fn_eq [.va (.tup (encRs rs)), .va (.lst (encI gone)), .no] rfl]
  have hb := range_nat (n := rs.length) (by omega)
  have hc := lcf (it := iRange1 (eCB bLen (aCons (eVar 0) aNil))) (j := 2) (own := [2]) (c := tVal (eOp2 dNotIn (eVar 2) (eVar 1))) (el := eOp2 dIdx (eVar 0) (eVar 2)) (e := [.va (.tup (encRs rs)), .va (.lst (encI gone)), .no]) (enc := fun k : Nat => D.int (k : Int)) (fun k : Nat => !decide ((k : Int) ∈ gone)) (fun k => encR (rs.getD k [])) (List.range rs.length)
    (by rw [← rng_eq]; simp only [ev_seq, ev_set, ev_op1, ev_op2, ev_call, ev_cons, ev_nil, ev_c, ev_var, ev_tup, ev_lst, ev_cb, ev_fz, ev_lend, ev_and, ev_or, ev_not, ev_chain, ev_if, ev_bm, ev_get2, ev_ixO, ev_sl, ev_some, ev_none, ev_tval, ev_tand, ev_tor, ev_tnot, ev_irange1, ev_irange2, ev_sif, ev_next, ev_ret, ev_retO, ev_raise, ev_app, ev_put, ev_dput, ev_for, ev_while, ev_pub, pub_cons, pub_nil, ev_drop, ev_dnew, res_nx, res_rt, res_xc, R.bind_ok, R.bind_xc, R.out_ok, R.out_xc, Out.bind_nx, Out.bind_rt, Out.bind_xc, Sl.d_va, Sl.d_ow, Sl.frz_va, Sl.frz_ow, Sl.frz_no, List.getElem?_cons_succ, List.getElem?_cons_zero, List.set_cons_succ, List.set_cons_zero, List.length_cons, List.length_nil, List.map_cons, List.map_nil, lim_val, Nat.zero_le, Nat.reduceAdd, Nat.reduceLeDiff, Nat.reduceEqDiff, reduceIte, Nat.zero_add, if_true, if_false, Bool.false_eq_true, Bool.not_true, Bool.not_false, decide_true, decide_false, o_add, o_sub, o_neg, o_lt, o_le, o_gt, o_ge, o_eq, o_ne, o_isN, o_notN, isNon_non, isNon_int, isNon_tup, isNon_lst, o_idxL, o_idxT, o_lenL, o_lenT, o_lenS, o_listL, o_listT, o_tupleL, o_tupleT, o_int, o_intb, o_max2, o_min2, o_slL, o_slT, atD_0, atD_1, atD_2, atD_3, atD_4, atD_5, range_4, range_3, range_2, List.length_map, hb]) (by rw [List.length_range]; omega)
    (fun k hk => by simp only [ev_seq, ev_set, ev_op1, ev_op2, ev_call, ev_cons, ev_nil, ev_c, ev_var, ev_tup, ev_lst, ev_cb, ev_fz, ev_lend, ev_and, ev_or, ev_not, ev_chain, ev_if, ev_bm, ev_get2, ev_ixO, ev_sl, ev_some, ev_none, ev_tval, ev_tand, ev_tor, ev_tnot, ev_irange1, ev_irange2, ev_sif, ev_next, ev_ret, ev_retO, ev_raise, ev_app, ev_put, ev_dput, ev_for, ev_while, ev_pub, pub_cons, pub_nil, ev_drop, ev_dnew, res_nx, res_rt, res_xc, R.bind_ok, R.bind_xc, R.out_ok, R.out_xc, Out.bind_nx, Out.bind_rt, Out.bind_xc, Sl.d_va, Sl.d_ow, Sl.frz_va, Sl.frz_ow, Sl.frz_no, List.getElem?_cons_succ, List.getElem?_cons_zero, List.set_cons_succ, List.set_cons_zero, List.length_cons, List.length_nil, List.map_cons, List.map_nil, lim_val, Nat.zero_le, Nat.reduceAdd, Nat.reduceLeDiff, Nat.reduceEqDiff, reduceIte, Nat.zero_add, if_true, if_false, Bool.false_eq_true, Bool.not_true, Bool.not_false, decide_true, decide_false, o_add, o_sub, o_neg, o_lt, o_le, o_gt, o_ge, o_eq, o_ne, o_isN, o_notN, isNon_non, isNon_int, isNon_tup, isNon_lst, o_idxL, o_idxT, o_lenL, o_lenT, o_lenS, o_listL, o_listT, o_tupleL, o_tupleT, o_int, o_intb, o_max2, o_min2, o_slL, o_slT, atD_0, atD_1, atD_2, atD_3, atD_4, atD_5, range_4, range_3, range_2, wipe_cons, wipe_nil, notIn_enc])
    (fun k hk _ => by
      have hk2 := List.mem_range.mp hk
      have := row_at_k hk2
      rw [← getD_eq (d := []) hk2] at this
      simp only [ev_seq, ev_set, ev_op1, ev_op2, ev_call, ev_cons, ev_nil, ev_c, ev_var, ev_tup, ev_lst, ev_cb, ev_fz, ev_lend, ev_and, ev_or, ev_not, ev_chain, ev_if, ev_bm, ev_get2, ev_ixO, ev_sl, ev_some, ev_none, ev_tval, ev_tand, ev_tor, ev_tnot, ev_irange1, ev_irange2, ev_sif, ev_next, ev_ret, ev_retO, ev_raise, ev_app, ev_put, ev_dput, ev_for, ev_while, ev_pub, pub_cons, pub_nil, ev_drop, ev_dnew, res_nx, res_rt, res_xc, R.bind_ok, R.bind_xc, R.out_ok, R.out_xc, Out.bind_nx, Out.bind_rt, Out.bind_xc, Sl.d_va, Sl.d_ow, Sl.frz_va, Sl.frz_ow, Sl.frz_no, List.getElem?_cons_succ, List.getElem?_cons_zero, List.set_cons_succ, List.set_cons_zero, List.length_cons, List.length_nil, List.map_cons, List.map_nil, lim_val, Nat.zero_le, Nat.reduceAdd, Nat.reduceLeDiff, Nat.reduceEqDiff, reduceIte, Nat.zero_add, if_true, if_false, Bool.false_eq_true, Bool.not_true, Bool.not_false, decide_true, decide_false, o_add, o_sub, o_neg, o_lt, o_le, o_gt, o_ge, o_eq, o_ne, o_isN, o_notN, isNon_non, isNon_int, isNon_tup, isNon_lst, o_idxL, o_idxT, o_lenL, o_lenT, o_lenS, o_listL, o_listT, o_tupleL, o_tupleT, o_int, o_intb, o_max2, o_min2, o_slL, o_slT, atD_0, atD_1, atD_2, atD_3, atD_4, atD_5, range_4, range_3, range_2, wipe_cons, wipe_nil, this])
  have e : encRs (wo rs gone) = ((List.range rs.length).filter fun (k : Nat) => !decide ((k : Int) ∈ gone)).map fun k => encR (rs.getD k []) := List.map_map
  rw [e]
  simp only [ev_seq, ev_set, ev_op1, ev_op2, ev_call, ev_cons, ev_nil, ev_c, ev_var, ev_tup, ev_lst, ev_cb, ev_fz, ev_lend, ev_and, ev_or, ev_not, ev_chain, ev_if, ev_bm, ev_get2, ev_ixO, ev_sl, ev_some, ev_none, ev_tval, ev_tand, ev_tor, ev_tnot, ev_irange1, ev_irange2, ev_sif, ev_next, ev_ret, ev_retO, ev_raise, ev_app, ev_put, ev_dput, ev_for, ev_while, ev_pub, pub_cons, pub_nil, ev_drop, ev_dnew, res_nx, res_rt, res_xc, R.bind_ok, R.bind_xc, R.out_ok, R.out_xc, Out.bind_nx, Out.bind_rt, Out.bind_xc, Sl.d_va, Sl.d_ow, Sl.frz_va, Sl.frz_ow, Sl.frz_no, List.getElem?_cons_succ, List.getElem?_cons_zero, List.set_cons_succ, List.set_cons_zero, List.length_cons, List.length_nil, List.map_cons, List.map_nil, lim_val, Nat.zero_le, Nat.reduceAdd, Nat.reduceLeDiff, Nat.reduceEqDiff, reduceIte, Nat.zero_add, if_true, if_false, Bool.false_eq_true, Bool.not_true, Bool.not_false, decide_true, decide_false, o_add, o_sub, o_neg, o_lt, o_le, o_gt, o_ge, o_eq, o_ne, o_isN, o_notN, isNon_non, isNon_int, isNon_tup, isNon_lst, o_idxL, o_idxT, o_lenL, o_lenT, o_lenS, o_listL, o_listT, o_tupleL, o_tupleT, o_int, o_intb, o_max2, o_min2, o_slL, o_slT, atD_0, atD_1, atD_2, atD_3, atD_4, atD_5, range_4, range_3, range_2, hc]
theorem wo_one {rs : List (List Int)} {k : Nat} (hk : k < rs.length) : wo rs [(k : Int)] = rs.take k ++ rs.drop (k + 1) := by
  have hcond : ∀ i : Nat, (!decide ((i : Int) ∈ [(k : Int)])) = !decide (i = k) := fun i => by
    congr 1
    rw [Bool.eq_iff_iff]
    simp
    omega
  unfold wo
  have e : (List.range rs.length).filter (fun i : Nat => !decide ((i : Int) ∈ [(k : Int)])) = List.range k ++ (List.range (rs.length - (k + 1))).map (k + 1 + ·) := by
    have hr : List.range rs.length = List.range k ++ (k :: (List.range (rs.length - (k + 1))).map (k + 1 + ·)) := by
      have h1 : rs.length = (k + 1) + (rs.length - (k + 1)) := by omega
      conv => lhs; rw [h1, List.range_add, List.range_succ]
      rw [List.append_assoc]
      rfl
    rw [hr, List.filter_append, List.filter_cons_of_neg (by rw [hcond]; simp)]
    congr 1
    · apply List.filter_eq_self.mpr
      intro i hi
      rw [hcond]
      have := List.mem_range.mp hi
      simp
      omega
    · apply List.filter_eq_self.mpr
      intro i hi
      obtain ⟨j, _, rfl⟩ := List.mem_map.mp hi
      rw [hcond]
      simp
      omega
  rw [e, List.map_append, List.map_map]
  congr 1
  · apply List.ext_getElem
    · rw [List.length_map, List.length_range, List.length_take]; omega
    · intro i h1 h2
      rw [List.length_map, List.length_range] at h1
      rw [List.getElem_map, List.getElem_range, List.getElem_take, getD_eq (by omega)]
  · apply List.ext_getElem
    · rw [List.length_map, List.length_range, List.length_drop]
    · intro i h1 h2
      rw [List.length_map, List.length_range] at h1
      rw [List.getElem_map, List.getElem_range, List.getElem_drop]
      show rs.getD (k + 1 + i) [] = _
      exact getD_eq (by omega)
end DL
set_option maxRecDepth 100000
namespace DL
open PySem (Str)
/-! ### numbering does not see the names -/
def InjOn (f : Int → Int) (xs : List Int) : Prop := ∀ x ∈ xs, ∀ y ∈ xs, f x = f y → x = y
theorem fold_map {f : Int → Int} : ∀ (xs ns all : List Int), InjOn f all → (∀ x ∈ xs, x ∈ all) → (∀ x ∈ ns, x ∈ all) → (xs.map f).foldl fstep (ns.map f) = (xs.foldl fstep ns).map f
  | [], ns, all, _, _, _ => rfl
  | x :: xs, ns, all, hi, hx, hn => by
    rw [List.map_cons, List.foldl_cons, List.foldl_cons]
    have e : fstep (ns.map f) (f x) = (fstep ns x).map f := by
      unfold fstep
      by_cases h : x ∈ ns
      · rw [if_pos h, if_pos (List.mem_map.mpr ⟨x, h, rfl⟩)]
      · rw [if_neg h, if_neg, List.map_append]
        · rfl
        · intro m
          obtain ⟨y, hy, e⟩ := List.mem_map.mp m
          have := hi y (hn y hy) x (hx x List.mem_cons_self) e
          exact h (this ▸ hy)
    rw [e]
    refine fold_map xs _ all hi (fun y m => hx y (List.mem_cons_of_mem _ m)) fun y m => ?_
    rcases mem_fstep.mp m with z | z
    · exact hn y z
    · rw [z]; exact hx x List.mem_cons_self
theorem names_map {f : Int → Int} {xs : List Int} (hi : InjOn f xs) : names (xs.map f) = (names xs).map f := by
  have := fold_map xs [] xs hi (fun _ h => h) (fun _ h => by cases h)
  exact this
theorem idxOf_map {f : Int → Int} {x : Int} : ∀ {ns : List Int}, (∀ y ∈ ns, f y = f x → y = x) → (ns.map f).idxOf (f x) = ns.idxOf x
  | [], _ => rfl
  | n :: ns, h => by
    rw [List.map_cons, List.idxOf_cons, List.idxOf_cons]
    by_cases e : n = x
    · subst e
      simp
    · have e2 : ¬ (f n = f x) := fun z => e (h n List.mem_cons_self z)
      have h1 : (f n == f x) = false := by simpa using e2
      have h2 : (n == x) = false := by simpa using e
      rw [h1, h2]
      simp only [cond_false]
      rw [idxOf_map fun y hy => h y (List.mem_cons_of_mem _ hy)]
theorem numb_inj {f : Int → Int} {rs : List (List Int)} (hi : InjOn f rs.flatten) : numb (rs.map fun r => r.map f) = numb rs := by
  unfold numb
  have hf : (rs.map fun r => r.map f).flatten = rs.flatten.map f := by rw [List.map_flatten]
  rw [hf, names_map hi, List.map_map]
  apply List.map_congr_left
  intro r hr
  show (r.map f).map _ = _
  rw [List.map_map]
  apply List.map_congr_left
  intro x hx
  have hxm : x ∈ rs.flatten := List.mem_flatten.mpr ⟨r, hr, hx⟩
  show idx ((names rs.flatten).map f) (f x) = idx (names rs.flatten) x
  unfold idx
  rw [idxOf_map fun y hy e => hi y (names_mem.mp hy) x hxm e]
theorem idx_injOn (xs : List Int) : InjOn (idx (names xs)) xs := fun x hx y hy e => by
  have h1 := List.idxOf_lt_length_of_mem (names_mem.mpr hx)
  have h2 := List.idxOf_lt_length_of_mem (names_mem.mpr hy)
  have e1 : (names xs)[(names xs).idxOf x] = x := List.getElem_idxOf h1
  have e2 : (names xs)[(names xs).idxOf y] = y := List.getElem_idxOf h2
  unfold idx at e
  have e3 : (names xs).idxOf x = (names xs).idxOf y := by omega
  rw [← e1, ← e2]
  congr 1
theorem numb_numb (rs : List (List Int)) : numb (numb rs) = numb rs := numb_inj (idx_injOn rs.flatten)
theorem InjOn.sub {f : Int → Int} {xs ys : List Int} (h : InjOn f ys) (s : ∀ x ∈ xs, x ∈ ys) : InjOn f xs := fun x hx y hy e => h x (s x hx) y (s y hy) e
/-! ### curls taken out -/
/-- the first end beside which the same line stands again -/
def twin (r : List Int) : Option Nat := if r.getD 0 0 = r.getD 1 0 then some 0 else if r.getD 1 0 = r.getD 2 0 then some 1 else if r.getD 2 0 = r.getD 3 0 then some 2 else if r.getD 3 0 = r.getD 0 0 then some 3 else none
theorem curl_end_c {a b c d : Int} : (a = b → f_curl_end [encR [a, b, c, d]] = .ok (.va (.int 0))) ∧ (¬ a = b → b = c → f_curl_end [encR [a, b, c, d]] = .ok (.va (.int 1))) ∧ (¬ a = b → ¬ b = c → c = d → f_curl_end [encR [a, b, c, d]] = .ok (.va (.int 2))) ∧
    (¬ a = b → ¬ b = c → ¬ c = d → d = a → f_curl_end [encR [a, b, c, d]] = .ok (.va (.int 3))) ∧ (¬ a = b → ¬ b = c → ¬ c = d → ¬ d = a → f_curl_end [encR [a, b, c, d]] = .ok (.va .non)) := by
  have m1 : dMod (.int 1) (.int 4) = .ok (.va (.int 1)) := o_mod (by decide)
  have m2 : dMod (.int 2) (.int 4) = .ok (.va (.int 2)) := o_mod (by decide)
  have m3 : dMod (.int 3) (.int 4) = .ok (.va (.int 3)) := o_mod (by decide)
  have m4 : dMod (.int 4) (.int 4) = .ok (.va (.int 0)) := o_mod (by decide)
  have q1 : (0 : Int) + 1 = 1 := rfl
  have q2 : (1 : Int) + 1 = 2 := rfl
  have q3 : (2 : Int) + 1 = 3 := rfl
  have q4 : (3 : Int) + 1 = 4 := rfl
  unfold f_curl_end F_curl_end
  rw [fn_eq [.va (encR [a, b, c, d]), .no] rfl]
  refine ⟨fun h0 => ?_, fun h0 h1 => ?_, fun h0 h1 h2 => ?_, fun h0 h1 h2 h3 => ?_, fun h0 h1 h2 h3 => ?_⟩
  · subst h0
    simp only [ev_seq, ev_set, ev_op1, ev_op2, ev_call, ev_cons, ev_nil, ev_c, ev_var, ev_tup, ev_lst, ev_cb, ev_fz, ev_lend, ev_and, ev_or, ev_not, ev_chain, ev_if, ev_bm, ev_get2, ev_ixO, ev_sl, ev_some, ev_none, ev_tval, ev_tand, ev_tor, ev_tnot, ev_irange1, ev_irange2, ev_sif, ev_next, ev_ret, ev_retO, ev_raise, ev_app, ev_put, ev_dput, ev_for, ev_while, ev_pub, pub_cons, pub_nil, ev_drop, ev_dnew, res_nx, res_rt, res_xc, R.bind_ok, R.bind_xc, R.out_ok, R.out_xc, Out.bind_nx, Out.bind_rt, Out.bind_xc, Sl.d_va, Sl.d_ow, Sl.frz_va, Sl.frz_ow, Sl.frz_no, List.getElem?_cons_succ, List.getElem?_cons_zero, List.set_cons_succ, List.set_cons_zero, List.length_cons, List.length_nil, List.map_cons, List.map_nil, lim_val, Nat.zero_le, Nat.reduceAdd, Nat.reduceLeDiff, Nat.reduceEqDiff, reduceIte, Nat.zero_add, if_true, if_false, Bool.false_eq_true, Bool.not_true, Bool.not_false, decide_true, decide_false, o_add, o_sub, o_neg, o_lt, o_le, o_gt, o_ge, o_eq, o_ne, o_isN, o_notN, isNon_non, isNon_int, isNon_tup, isNon_lst, o_idxL, o_idxT, o_lenL, o_lenT, o_lenS, o_listL, o_listT, o_tupleL, o_tupleT, o_int, o_intb, o_max2, o_min2, o_slL, o_slT, atD_0, atD_1, atD_2, atD_3, atD_4, atD_5, range_4, range_3, range_2, forD, B_curl_end_1, q1, q2, q3, q4, m1, eq_self]
  · subst h1
    simp only [ev_seq, ev_set, ev_op1, ev_op2, ev_call, ev_cons, ev_nil, ev_c, ev_var, ev_tup, ev_lst, ev_cb, ev_fz, ev_lend, ev_and, ev_or, ev_not, ev_chain, ev_if, ev_bm, ev_get2, ev_ixO, ev_sl, ev_some, ev_none, ev_tval, ev_tand, ev_tor, ev_tnot, ev_irange1, ev_irange2, ev_sif, ev_next, ev_ret, ev_retO, ev_raise, ev_app, ev_put, ev_dput, ev_for, ev_while, ev_pub, pub_cons, pub_nil, ev_drop, ev_dnew, res_nx, res_rt, res_xc, R.bind_ok, R.bind_xc, R.out_ok, R.out_xc, Out.bind_nx, Out.bind_rt, Out.bind_xc, Sl.d_va, Sl.d_ow, Sl.frz_va, Sl.frz_ow, Sl.frz_no, List.getElem?_cons_succ, List.getElem?_cons_zero, List.set_cons_succ, List.set_cons_zero, List.length_cons, List.length_nil, List.map_cons, List.map_nil, lim_val, Nat.zero_le, Nat.reduceAdd, Nat.reduceLeDiff, Nat.reduceEqDiff, reduceIte, Nat.zero_add, if_true, if_false, Bool.false_eq_true, Bool.not_true, Bool.not_false, decide_true, decide_false, o_add, o_sub, o_neg, o_lt, o_le, o_gt, o_ge, o_eq, o_ne, o_isN, o_notN, isNon_non, isNon_int, isNon_tup, isNon_lst, o_idxL, o_idxT, o_lenL, o_lenT, o_lenS, o_listL, o_listT, o_tupleL, o_tupleT, o_int, o_intb, o_max2, o_min2, o_slL, o_slT, atD_0, atD_1, atD_2, atD_3, atD_4, atD_5, range_4, range_3, range_2, forD, B_curl_end_1, q1, q2, q3, q4, m1, m2, h0, eq_self]
  · subst h2
    simp only [ev_seq, ev_set, ev_op1, ev_op2, ev_call, ev_cons, ev_nil, ev_c, ev_var, ev_tup, ev_lst, ev_cb, ev_fz, ev_lend, ev_and, ev_or, ev_not, ev_chain, ev_if, ev_bm, ev_get2, ev_ixO, ev_sl, ev_some, ev_none, ev_tval, ev_tand, ev_tor, ev_tnot, ev_irange1, ev_irange2, ev_sif, ev_next, ev_ret, ev_retO, ev_raise, ev_app, ev_put, ev_dput, ev_for, ev_while, ev_pub, pub_cons, pub_nil, ev_drop, ev_dnew, res_nx, res_rt, res_xc, R.bind_ok, R.bind_xc, R.out_ok, R.out_xc, Out.bind_nx, Out.bind_rt, Out.bind_xc, Sl.d_va, Sl.d_ow, Sl.frz_va, Sl.frz_ow, Sl.frz_no, List.getElem?_cons_succ, List.getElem?_cons_zero, List.set_cons_succ, List.set_cons_zero, List.length_cons, List.length_nil, List.map_cons, List.map_nil, lim_val, Nat.zero_le, Nat.reduceAdd, Nat.reduceLeDiff, Nat.reduceEqDiff, reduceIte, Nat.zero_add, if_true, if_false, Bool.false_eq_true, Bool.not_true, Bool.not_false, decide_true, decide_false, o_add, o_sub, o_neg, o_lt, o_le, o_gt, o_ge, o_eq, o_ne, o_isN, o_notN, isNon_non, isNon_int, isNon_tup, isNon_lst, o_idxL, o_idxT, o_lenL, o_lenT, o_lenS, o_listL, o_listT, o_tupleL, o_tupleT, o_int, o_intb, o_max2, o_min2, o_slL, o_slT, atD_0, atD_1, atD_2, atD_3, atD_4, atD_5, range_4, range_3, range_2, forD, B_curl_end_1, q1, q2, q3, q4, m1, m2, m3, h0, h1, eq_self]
  · subst h3
    simp only [ev_seq, ev_set, ev_op1, ev_op2, ev_call, ev_cons, ev_nil, ev_c, ev_var, ev_tup, ev_lst, ev_cb, ev_fz, ev_lend, ev_and, ev_or, ev_not, ev_chain, ev_if, ev_bm, ev_get2, ev_ixO, ev_sl, ev_some, ev_none, ev_tval, ev_tand, ev_tor, ev_tnot, ev_irange1, ev_irange2, ev_sif, ev_next, ev_ret, ev_retO, ev_raise, ev_app, ev_put, ev_dput, ev_for, ev_while, ev_pub, pub_cons, pub_nil, ev_drop, ev_dnew, res_nx, res_rt, res_xc, R.bind_ok, R.bind_xc, R.out_ok, R.out_xc, Out.bind_nx, Out.bind_rt, Out.bind_xc, Sl.d_va, Sl.d_ow, Sl.frz_va, Sl.frz_ow, Sl.frz_no, List.getElem?_cons_succ, List.getElem?_cons_zero, List.set_cons_succ, List.set_cons_zero, List.length_cons, List.length_nil, List.map_cons, List.map_nil, lim_val, Nat.zero_le, Nat.reduceAdd, Nat.reduceLeDiff, Nat.reduceEqDiff, reduceIte, Nat.zero_add, if_true, if_false, Bool.false_eq_true, Bool.not_true, Bool.not_false, decide_true, decide_false, o_add, o_sub, o_neg, o_lt, o_le, o_gt, o_ge, o_eq, o_ne, o_isN, o_notN, isNon_non, isNon_int, isNon_tup, isNon_lst, o_idxL, o_idxT, o_lenL, o_lenT, o_lenS, o_listL, o_listT, o_tupleL, o_tupleT, o_int, o_intb, o_max2, o_min2, o_slL, o_slT, atD_0, atD_1, atD_2, atD_3, atD_4, atD_5, range_4, range_3, range_2, forD, B_curl_end_1, q1, q2, q3, q4, m1, m2, m3, m4, h0, h1, h2, eq_self]
  · simp only [ev_seq, ev_set, ev_op1, ev_op2, ev_call, ev_cons, ev_nil, ev_c, ev_var, ev_tup, ev_lst, ev_cb, ev_fz, ev_lend, ev_and, ev_or, ev_not, ev_chain, ev_if, ev_bm, ev_get2, ev_ixO, ev_sl, ev_some, ev_none, ev_tval, ev_tand, ev_tor, ev_tnot, ev_irange1, ev_irange2, ev_sif, ev_next, ev_ret, ev_retO, ev_raise, ev_app, ev_put, ev_dput, ev_for, ev_while, ev_pub, pub_cons, pub_nil, ev_drop, ev_dnew, res_nx, res_rt, res_xc, R.bind_ok, R.bind_xc, R.out_ok, R.out_xc, Out.bind_nx, Out.bind_rt, Out.bind_xc, Sl.d_va, Sl.d_ow, Sl.frz_va, Sl.frz_ow, Sl.frz_no, List.getElem?_cons_succ, List.getElem?_cons_zero, List.set_cons_succ, List.set_cons_zero, List.length_cons, List.length_nil, List.map_cons, List.map_nil, lim_val, Nat.zero_le, Nat.reduceAdd, Nat.reduceLeDiff, Nat.reduceEqDiff, reduceIte, Nat.zero_add, if_true, if_false, Bool.false_eq_true, Bool.not_true, Bool.not_false, decide_true, decide_false, o_add, o_sub, o_neg, o_lt, o_le, o_gt, o_ge, o_eq, o_ne, o_isN, o_notN, isNon_non, isNon_int, isNon_tup, isNon_lst, o_idxL, o_idxT, o_lenL, o_lenT, o_lenS, o_listL, o_listT, o_tupleL, o_tupleT, o_int, o_intb, o_max2, o_min2, o_slL, o_slT, atD_0, atD_1, atD_2, atD_3, atD_4, atD_5, range_4, range_3, range_2, forD, B_curl_end_1, q1, q2, q3, q4, m1, m2, m3, m4, h0, h1, h2, h3]
theorem curl_end_ok {r : List Int} (h : r.length = 4) : f_curl_end [encR r] = .ok (.va (match twin r with
    | some k => .int (k : Int)
    | none => .non)) := by
  obtain ⟨a, b, c, d, rfl⟩ := four_of h
  obtain ⟨t0, t1, t2, t3, t4⟩ := curl_end_c (a := a) (b := b) (c := c) (d := d)
  have g0 : [a, b, c, d].getD 0 0 = a := rfl
  have g1 : [a, b, c, d].getD 1 0 = b := rfl
  have g2 : [a, b, c, d].getD 2 0 = c := rfl
  have g3 : [a, b, c, d].getD 3 0 = d := rfl
  unfold twin
  rw [g0, g1, g2, g3]
  by_cases h0 : a = b
  · rw [t0 h0, if_pos h0]; rfl
  · by_cases h1 : b = c
    · rw [t1 h0 h1, if_neg h0, if_pos h1]; rfl
    · by_cases h2 : c = d
      · rw [t2 h0 h1 h2, if_neg h0, if_neg h1, if_pos h2]; rfl
      · by_cases h3 : d = a
        · rw [t3 h0 h1 h2 h3, if_neg h0, if_neg h1, if_neg h2, if_pos h3]; rfl
        · rw [t4 h0 h1 h2 h3, if_neg h0, if_neg h1, if_neg h2, if_neg h3]
theorem law_twin_c {a b c d : Int} : (a = b → f_law_twin [encR [a, b, c, d]] = .ok (.va (.int 0))) ∧ (¬ a = b → b = c → f_law_twin [encR [a, b, c, d]] = .ok (.va (.int 1))) ∧ (¬ a = b → ¬ b = c → c = d → f_law_twin [encR [a, b, c, d]] = .ok (.va (.int 2))) ∧
    (¬ a = b → ¬ b = c → ¬ c = d → d = a → f_law_twin [encR [a, b, c, d]] = .ok (.va (.int 3))) ∧ (¬ a = b → ¬ b = c → ¬ c = d → ¬ d = a → f_law_twin [encR [a, b, c, d]] = .ok (.va (.int (-1)))) := by
  have m1 : dMod (.int 1) (.int 4) = .ok (.va (.int 1)) := o_mod (by decide)
  have m2 : dMod (.int 2) (.int 4) = .ok (.va (.int 2)) := o_mod (by decide)
  have m3 : dMod (.int 3) (.int 4) = .ok (.va (.int 3)) := o_mod (by decide)
  have m4 : dMod (.int 4) (.int 4) = .ok (.va (.int 0)) := o_mod (by decide)
  have q1 : (0 : Int) + 1 = 1 := rfl
  have q2 : (1 : Int) + 1 = 2 := rfl
  have q3 : (2 : Int) + 1 = 3 := rfl
  have q4 : (3 : Int) + 1 = 4 := rfl
  unfold f_law_twin F_law_twin
  rw [fn_eq [.va (encR [a, b, c, d]), .no] rfl]
  refine ⟨fun h0 => ?_, fun h0 h1 => ?_, fun h0 h1 h2 => ?_, fun h0 h1 h2 h3 => ?_, fun h0 h1 h2 h3 => ?_⟩
  · subst h0
    simp only [ev_seq, ev_set, ev_op1, ev_op2, ev_call, ev_cons, ev_nil, ev_c, ev_var, ev_tup, ev_lst, ev_cb, ev_fz, ev_lend, ev_and, ev_or, ev_not, ev_chain, ev_if, ev_bm, ev_get2, ev_ixO, ev_sl, ev_some, ev_none, ev_tval, ev_tand, ev_tor, ev_tnot, ev_irange1, ev_irange2, ev_sif, ev_next, ev_ret, ev_retO, ev_raise, ev_app, ev_put, ev_dput, ev_for, ev_while, ev_pub, pub_cons, pub_nil, ev_drop, ev_dnew, res_nx, res_rt, res_xc, R.bind_ok, R.bind_xc, R.out_ok, R.out_xc, Out.bind_nx, Out.bind_rt, Out.bind_xc, Sl.d_va, Sl.d_ow, Sl.frz_va, Sl.frz_ow, Sl.frz_no, List.getElem?_cons_succ, List.getElem?_cons_zero, List.set_cons_succ, List.set_cons_zero, List.length_cons, List.length_nil, List.map_cons, List.map_nil, lim_val, Nat.zero_le, Nat.reduceAdd, Nat.reduceLeDiff, Nat.reduceEqDiff, reduceIte, Nat.zero_add, if_true, if_false, Bool.false_eq_true, Bool.not_true, Bool.not_false, decide_true, decide_false, o_add, o_sub, o_neg, o_lt, o_le, o_gt, o_ge, o_eq, o_ne, o_isN, o_notN, isNon_non, isNon_int, isNon_tup, isNon_lst, o_idxL, o_idxT, o_lenL, o_lenT, o_lenS, o_listL, o_listT, o_tupleL, o_tupleT, o_int, o_intb, o_max2, o_min2, o_slL, o_slT, atD_0, atD_1, atD_2, atD_3, atD_4, atD_5, range_4, range_3, range_2, forD, B_law_twin_1, q1, q2, q3, q4, m1, eq_self]
  · subst h1
    simp only [ev_seq, ev_set, ev_op1, ev_op2, ev_call, ev_cons, ev_nil, ev_c, ev_var, ev_tup, ev_lst, ev_cb, ev_fz, ev_lend, ev_and, ev_or, ev_not, ev_chain, ev_if, ev_bm, ev_get2, ev_ixO, ev_sl, ev_some, ev_none, ev_tval, ev_tand, ev_tor, ev_tnot, ev_irange1, ev_irange2, ev_sif, ev_next, ev_ret, ev_retO, ev_raise, ev_app, ev_put, ev_dput, ev_for, ev_while, ev_pub, pub_cons, pub_nil, ev_drop, ev_dnew, res_nx, res_rt, res_xc, R.bind_ok, R.bind_xc, R.out_ok, R.out_xc, Out.bind_nx, Out.bind_rt, Out.bind_xc, Sl.d_va, Sl.d_ow, Sl.frz_va, Sl.frz_ow, Sl.frz_no, List.getElem?_cons_succ, List.getElem?_cons_zero, List.set_cons_succ, List.set_cons_zero, List.length_cons, List.length_nil, List.map_cons, List.map_nil, lim_val, Nat.zero_le, Nat.reduceAdd, Nat.reduceLeDiff, Nat.reduceEqDiff, reduceIte, Nat.zero_add, if_true, if_false, Bool.false_eq_true, Bool.not_true, Bool.not_false, decide_true, decide_false, o_add, o_sub, o_neg, o_lt, o_le, o_gt, o_ge, o_eq, o_ne, o_isN, o_notN, isNon_non, isNon_int, isNon_tup, isNon_lst, o_idxL, o_idxT, o_lenL, o_lenT, o_lenS, o_listL, o_listT, o_tupleL, o_tupleT, o_int, o_intb, o_max2, o_min2, o_slL, o_slT, atD_0, atD_1, atD_2, atD_3, atD_4, atD_5, range_4, range_3, range_2, forD, B_law_twin_1, q1, q2, q3, q4, m1, m2, h0, eq_self]
  · subst h2
    simp only [ev_seq, ev_set, ev_op1, ev_op2, ev_call, ev_cons, ev_nil, ev_c, ev_var, ev_tup, ev_lst, ev_cb, ev_fz, ev_lend, ev_and, ev_or, ev_not, ev_chain, ev_if, ev_bm, ev_get2, ev_ixO, ev_sl, ev_some, ev_none, ev_tval, ev_tand, ev_tor, ev_tnot, ev_irange1, ev_irange2, ev_sif, ev_next, ev_ret, ev_retO, ev_raise, ev_app, ev_put, ev_dput, ev_for, ev_while, ev_pub, pub_cons, pub_nil, ev_drop, ev_dnew, res_nx, res_rt, res_xc, R.bind_ok, R.bind_xc, R.out_ok, R.out_xc, Out.bind_nx, Out.bind_rt, Out.bind_xc, Sl.d_va, Sl.d_ow, Sl.frz_va, Sl.frz_ow, Sl.frz_no, List.getElem?_cons_succ, List.getElem?_cons_zero, List.set_cons_succ, List.set_cons_zero, List.length_cons, List.length_nil, List.map_cons, List.map_nil, lim_val, Nat.zero_le, Nat.reduceAdd, Nat.reduceLeDiff, Nat.reduceEqDiff, reduceIte, Nat.zero_add, if_true, if_false, Bool.false_eq_true, Bool.not_true, Bool.not_false, decide_true, decide_false, o_add, o_sub, o_neg, o_lt, o_le, o_gt, o_ge, o_eq, o_ne, o_isN, o_notN, isNon_non, isNon_int, isNon_tup, isNon_lst, o_idxL, o_idxT, o_lenL, o_lenT, o_lenS, o_listL, o_listT, o_tupleL, o_tupleT, o_int, o_intb, o_max2, o_min2, o_slL, o_slT, atD_0, atD_1, atD_2, atD_3, atD_4, atD_5, range_4, range_3, range_2, forD, B_law_twin_1, q1, q2, q3, q4, m1, m2, m3, h0, h1, eq_self]
  · subst h3
    simp only [ev_seq, ev_set, ev_op1, ev_op2, ev_call, ev_cons, ev_nil, ev_c, ev_var, ev_tup, ev_lst, ev_cb, ev_fz, ev_lend, ev_and, ev_or, ev_not, ev_chain, ev_if, ev_bm, ev_get2, ev_ixO, ev_sl, ev_some, ev_none, ev_tval, ev_tand, ev_tor, ev_tnot, ev_irange1, ev_irange2, ev_sif, ev_next, ev_ret, ev_retO, ev_raise, ev_app, ev_put, ev_dput, ev_for, ev_while, ev_pub, pub_cons, pub_nil, ev_drop, ev_dnew, res_nx, res_rt, res_xc, R.bind_ok, R.bind_xc, R.out_ok, R.out_xc, Out.bind_nx, Out.bind_rt, Out.bind_xc, Sl.d_va, Sl.d_ow, Sl.frz_va, Sl.frz_ow, Sl.frz_no, List.getElem?_cons_succ, List.getElem?_cons_zero, List.set_cons_succ, List.set_cons_zero, List.length_cons, List.length_nil, List.map_cons, List.map_nil, lim_val, Nat.zero_le, Nat.reduceAdd, Nat.reduceLeDiff, Nat.reduceEqDiff, reduceIte, Nat.zero_add, if_true, if_false, Bool.false_eq_true, Bool.not_true, Bool.not_false, decide_true, decide_false, o_add, o_sub, o_neg, o_lt, o_le, o_gt, o_ge, o_eq, o_ne, o_isN, o_notN, isNon_non, isNon_int, isNon_tup, isNon_lst, o_idxL, o_idxT, o_lenL, o_lenT, o_lenS, o_listL, o_listT, o_tupleL, o_tupleT, o_int, o_intb, o_max2, o_min2, o_slL, o_slT, atD_0, atD_1, atD_2, atD_3, atD_4, atD_5, range_4, range_3, range_2, forD, B_law_twin_1, q1, q2, q3, q4, m1, m2, m3, m4, h0, h1, h2, eq_self]
  · simp only [ev_seq, ev_set, ev_op1, ev_op2, ev_call, ev_cons, ev_nil, ev_c, ev_var, ev_tup, ev_lst, ev_cb, ev_fz, ev_lend, ev_and, ev_or, ev_not, ev_chain, ev_if, ev_bm, ev_get2, ev_ixO, ev_sl, ev_some, ev_none, ev_tval, ev_tand, ev_tor, ev_tnot, ev_irange1, ev_irange2, ev_sif, ev_next, ev_ret, ev_retO, ev_raise, ev_app, ev_put, ev_dput, ev_for, ev_while, ev_pub, pub_cons, pub_nil, ev_drop, ev_dnew, res_nx, res_rt, res_xc, R.bind_ok, R.bind_xc, R.out_ok, R.out_xc, Out.bind_nx, Out.bind_rt, Out.bind_xc, Sl.d_va, Sl.d_ow, Sl.frz_va, Sl.frz_ow, Sl.frz_no, List.getElem?_cons_succ, List.getElem?_cons_zero, List.set_cons_succ, List.set_cons_zero, List.length_cons, List.length_nil, List.map_cons, List.map_nil, lim_val, Nat.zero_le, Nat.reduceAdd, Nat.reduceLeDiff, Nat.reduceEqDiff, reduceIte, Nat.zero_add, if_true, if_false, Bool.false_eq_true, Bool.not_true, Bool.not_false, decide_true, decide_false, o_add, o_sub, o_neg, o_lt, o_le, o_gt, o_ge, o_eq, o_ne, o_isN, o_notN, isNon_non, isNon_int, isNon_tup, isNon_lst, o_idxL, o_idxT, o_lenL, o_lenT, o_lenS, o_listL, o_listT, o_tupleL, o_tupleT, o_int, o_intb, o_max2, o_min2, o_slL, o_slT, atD_0, atD_1, atD_2, atD_3, atD_4, atD_5, range_4, range_3, range_2, forD, B_law_twin_1, q1, q2, q3, q4, m1, m2, m3, m4, h0, h1, h2, h3]
theorem law_twin_ok {r : List Int} (h : r.length = 4) : f_law_twin [encR r] = .ok (.va (match twin r with
    | some k => .int (k : Int)
    | none => (.int (-1)))) := by
  obtain ⟨a, b, c, d, rfl⟩ := four_of h
  obtain ⟨t0, t1, t2, t3, t4⟩ := law_twin_c (a := a) (b := b) (c := c) (d := d)
  have g0 : [a, b, c, d].getD 0 0 = a := rfl
  have g1 : [a, b, c, d].getD 1 0 = b := rfl
  have g2 : [a, b, c, d].getD 2 0 = c := rfl
  have g3 : [a, b, c, d].getD 3 0 = d := rfl
  unfold twin
  rw [g0, g1, g2, g3]
  by_cases h0 : a = b
  · rw [t0 h0, if_pos h0]; rfl
  · by_cases h1 : b = c
    · rw [t1 h0 h1, if_neg h0, if_pos h1]; rfl
    · by_cases h2 : c = d
      · rw [t2 h0 h1 h2, if_neg h0, if_neg h1, if_pos h2]; rfl
      · by_cases h3 : d = a
        · rw [t3 h0 h1 h2 h3, if_neg h0, if_neg h1, if_neg h2, if_pos h3]; rfl
        · rw [t4 h0 h1 h2 h3, if_neg h0, if_neg h1, if_neg h2, if_neg h3]
theorem twin_lt {r : List Int} {k : Nat} (h : twin r = some k) : k < 4 := by
  unfold twin at h
  split at h
  · cases h; omega
  · split at h
    · cases h; omega
    · split at h
      · cases h; omega
      · split at h
        · cases h; omega
        · cases h
/-- the pair that is joined where a curl goes -/
def curlP (r : List Int) (k : Nat) : List Int := [r.getD ((k + 2) % 4) 0, r.getD ((k + 3) % 4) 0]
theorem end_idx {r : List Int} (h : r.length = 4) {e : Nat} (he : e < 4) : dIdx (encR r) (.int (e : Int)) = .ok (.va (.int (r.getD e 0))) := by
  refine idx_seq (.inr rfl) ?_
  rw [atD_nat, List.getElem?_map, List.getElem?_eq_getElem (by omega), getD_eq (by omega)]
  rfl
theorem mod4 (k j : Nat) : dMod (.int ((k : Int) + (j : Int))) (.int 4) = .ok (.va (.int (((k + j) % 4 : Nat) : Int))) := by
  rw [o_mod (by decide)]
  congr 3
theorem uncurled_ok {rs : List (List Int)} {rings at_ : Int} {k : Nat} (h4 : ∀ r ∈ rs, r.length = 4) (hl : rs.length ≤ 100) (h : 0 ≤ at_ ∧ at_ < rs.length) (hk : twin (rs.getD at_.toNat []) = some k) :
    f_uncurled [encS rs rings, .int at_] = .ok (.va (encS (numb (joinL (wo rs [at_]) [curlP (rs.getD at_.toNat []) k] rings).1) (joinL (wo rs [at_]) [curlP (rs.getD at_.toNat []) k] rings).2)) := by
  unfold f_uncurled F_uncurled
  rw [fn_eq [.va (encS rs rings), .va (.int at_), .no, .no, .no] rfl]
  have hr := row_at_ok (rings := rings) h
  have hw := without_ok (rs := rs) (gone := [at_]) (by omega)
  have hw' : f_without [.tup (encRs rs), .lst [.int at_]] = _ := hw
  have hj := joined_ok (a := .lst (encRs (wo rs [at_]))) (b := .lst (encRs [curlP (rs.getD at_.toNat []) k])) (rings := rings) (.inl rfl) (.inl rfl) (wo_four h4) (fun p hp => by rw [List.mem_singleton] at hp; subst hp; rfl) (Nat.le_trans (wo_len _ _) (by omega)) (by simp)
  have hkk : at_.toNat < rs.length := by omega
  have hl4 : (rs.getD at_.toNat []).length = 4 := by rw [getD_eq hkk]; exact h4 _ (List.getElem_mem _)
  have hc := curl_end_ok hl4
  rw [hk] at hc
  have hk4 := twin_lt hk
  generalize rs.getD at_.toNat [] = row at *
  have i2 := end_idx hl4 (e := (k + 2) % 4) (Nat.mod_lt _ (by decide))
  have i3 := end_idx hl4 (e := (k + 3) % 4) (Nat.mod_lt _ (by decide))
  have m2 : dMod (.int ((k : Int) + 2)) (.int 4) = .ok (.va (.int (((k + 2) % 4 : Nat) : Int))) := mod4 k 2
  have m3 : dMod (.int ((k : Int) + 3)) (.int 4) = .ok (.va (.int (((k + 3) % 4 : Nat) : Int))) := mod4 k 3
  rw [show dIdx (encR row) = dIdx (.tup (encI row)) from rfl, o_idxT] at i2 i3
  have hj' : f_joined [.lst (encRs (wo rs [at_])), .int rings, .lst [.tup [.int (row.getD ((k + 2) % 4) 0), .int (row.getD ((k + 3) % 4) 0)]]] = _ := hj
  simp only [ev_seq, ev_set, ev_op1, ev_op2, ev_call, ev_cons, ev_nil, ev_c, ev_var, ev_tup, ev_lst, ev_cb, ev_fz, ev_lend, ev_and, ev_or, ev_not, ev_chain, ev_if, ev_bm, ev_get2, ev_ixO, ev_sl, ev_some, ev_none, ev_tval, ev_tand, ev_tor, ev_tnot, ev_irange1, ev_irange2, ev_sif, ev_next, ev_ret, ev_retO, ev_raise, ev_app, ev_put, ev_dput, ev_for, ev_while, ev_pub, pub_cons, pub_nil, ev_drop, ev_dnew, res_nx, res_rt, res_xc, R.bind_ok, R.bind_xc, R.out_ok, R.out_xc, Out.bind_nx, Out.bind_rt, Out.bind_xc, Sl.d_va, Sl.d_ow, Sl.frz_va, Sl.frz_ow, Sl.frz_no, List.getElem?_cons_succ, List.getElem?_cons_zero, List.set_cons_succ, List.set_cons_zero, List.length_cons, List.length_nil, List.map_cons, List.map_nil, lim_val, Nat.zero_le, Nat.reduceAdd, Nat.reduceLeDiff, Nat.reduceEqDiff, reduceIte, Nat.zero_add, if_true, if_false, Bool.false_eq_true, Bool.not_true, Bool.not_false, decide_true, decide_false, o_add, o_sub, o_neg, o_lt, o_le, o_gt, o_ge, o_eq, o_ne, o_isN, o_notN, isNon_non, isNon_int, isNon_tup, isNon_lst, o_idxL, o_idxT, o_lenL, o_lenT, o_lenS, o_listL, o_listT, o_tupleL, o_tupleT, o_int, o_intb, o_max2, o_min2, o_slL, o_slT, atD_0, atD_1, atD_2, atD_3, atD_4, atD_5, range_4, range_3, range_2, hr, hc, m2, m3, i2, i3, hw', hj']
theorem uncurled_place {rs : List (List Int)} {rings at_ : Int} (h : ¬ (0 ≤ at_ ∧ at_ < rs.length)) : f_uncurled [encS rs rings, .int at_] = .xc 2 := by
  unfold f_uncurled F_uncurled
  rw [fn_eq [.va (encS rs rings), .va (.int at_), .no, .no, .no] rfl]
  have hr := row_at_no (rings := rings) h
  simp only [ev_seq, ev_set, ev_op1, ev_op2, ev_call, ev_cons, ev_nil, ev_c, ev_var, ev_tup, ev_lst, ev_cb, ev_fz, ev_lend, ev_and, ev_or, ev_not, ev_chain, ev_if, ev_bm, ev_get2, ev_ixO, ev_sl, ev_some, ev_none, ev_tval, ev_tand, ev_tor, ev_tnot, ev_irange1, ev_irange2, ev_sif, ev_next, ev_ret, ev_retO, ev_raise, ev_app, ev_put, ev_dput, ev_for, ev_while, ev_pub, pub_cons, pub_nil, ev_drop, ev_dnew, res_nx, res_rt, res_xc, R.bind_ok, R.bind_xc, R.out_ok, R.out_xc, Out.bind_nx, Out.bind_rt, Out.bind_xc, Sl.d_va, Sl.d_ow, Sl.frz_va, Sl.frz_ow, Sl.frz_no, List.getElem?_cons_succ, List.getElem?_cons_zero, List.set_cons_succ, List.set_cons_zero, List.length_cons, List.length_nil, List.map_cons, List.map_nil, lim_val, Nat.zero_le, Nat.reduceAdd, Nat.reduceLeDiff, Nat.reduceEqDiff, reduceIte, Nat.zero_add, if_true, if_false, Bool.false_eq_true, Bool.not_true, Bool.not_false, decide_true, decide_false, o_add, o_sub, o_neg, o_lt, o_le, o_gt, o_ge, o_eq, o_ne, o_isN, o_notN, isNon_non, isNon_int, isNon_tup, isNon_lst, o_idxL, o_idxT, o_lenL, o_lenT, o_lenS, o_listL, o_listT, o_tupleL, o_tupleT, o_int, o_intb, o_max2, o_min2, o_slL, o_slT, atD_0, atD_1, atD_2, atD_3, atD_4, atD_5, range_4, range_3, range_2, hr]
theorem uncurled_move {rs : List (List Int)} {rings at_ : Int} (h4 : ∀ r ∈ rs, r.length = 4) (h : 0 ≤ at_ ∧ at_ < rs.length) (hk : twin (rs.getD at_.toNat []) = none) : f_uncurled [encS rs rings, .int at_] = .xc 3 := by
  unfold f_uncurled F_uncurled
  rw [fn_eq [.va (encS rs rings), .va (.int at_), .no, .no, .no] rfl]
  have hr := row_at_ok (rings := rings) h
  have hkk : at_.toNat < rs.length := by omega
  have hl4 : (rs.getD at_.toNat []).length = 4 := by rw [getD_eq hkk]; exact h4 _ (List.getElem_mem _)
  have hc := curl_end_ok hl4
  rw [hk] at hc
  simp only [ev_seq, ev_set, ev_op1, ev_op2, ev_call, ev_cons, ev_nil, ev_c, ev_var, ev_tup, ev_lst, ev_cb, ev_fz, ev_lend, ev_and, ev_or, ev_not, ev_chain, ev_if, ev_bm, ev_get2, ev_ixO, ev_sl, ev_some, ev_none, ev_tval, ev_tand, ev_tor, ev_tnot, ev_irange1, ev_irange2, ev_sif, ev_next, ev_ret, ev_retO, ev_raise, ev_app, ev_put, ev_dput, ev_for, ev_while, ev_pub, pub_cons, pub_nil, ev_drop, ev_dnew, res_nx, res_rt, res_xc, R.bind_ok, R.bind_xc, R.out_ok, R.out_xc, Out.bind_nx, Out.bind_rt, Out.bind_xc, Sl.d_va, Sl.d_ow, Sl.frz_va, Sl.frz_ow, Sl.frz_no, List.getElem?_cons_succ, List.getElem?_cons_zero, List.set_cons_succ, List.set_cons_zero, List.length_cons, List.length_nil, List.map_cons, List.map_nil, lim_val, Nat.zero_le, Nat.reduceAdd, Nat.reduceLeDiff, Nat.reduceEqDiff, reduceIte, Nat.zero_add, if_true, if_false, Bool.false_eq_true, Bool.not_true, Bool.not_false, decide_true, decide_false, o_add, o_sub, o_neg, o_lt, o_le, o_gt, o_ge, o_eq, o_ne, o_isN, o_notN, isNon_non, isNon_int, isNon_tup, isNon_lst, o_idxL, o_idxT, o_lenL, o_lenT, o_lenS, o_listL, o_listT, o_tupleL, o_tupleT, o_int, o_intb, o_max2, o_min2, o_slL, o_slT, atD_0, atD_1, atD_2, atD_3, atD_4, atD_5, range_4, range_3, range_2, hr, hc]
end DL
set_option maxRecDepth 100000
/-! M18: rows and pairs of lines in which each line stands twice; what joining leaves -/
namespace DL
open PySem (Str)
structure Sys (ns : List Int) (rs ps : List (List Int)) : Prop where
  nd : ns.Nodup
  four : ∀ r ∈ rs, r.length = 4
  two : ∀ q ∈ ps, q.length = 2
  cnt : ∀ v : Int, rs.flatten.count v + ps.flatten.count v = if v ∈ ns then 2 else 0
def eqsP (d : Int → Int) (ps : List (List Int)) : Prop := ∀ q ∈ ps, d (q.getD 0 0) = d (q.getD 1 0)
noncomputable def colP (p : Nat) (ns : List Int) (rs ps : List (List Int)) : Nat := NF p ns (fun _ => 0) fun d => ind ((∀ r ∈ rs, fitC r p d) ∧ eqsP d ps)
theorem two_of {r : List Int} (h : r.length = 2) : ∃ a b, r = [a, b] := by
  match r, h with
  | [a, b], _ => exact ⟨a, b, rfl⟩
theorem flat_map (f : Int → Int) (rs : List (List Int)) : (rs.map fun r => r.map f).flatten = rs.flatten.map f := by
  induction rs with
  | nil => rfl
  | cons r rs ih => rw [List.map_cons, List.flatten_cons, List.flatten_cons, List.map_append, ih]
theorem count_ren {x y v : Int} (h : x ≠ y) : ∀ l : List Int, (l.map (ren y x)).count v = if v = x then l.count x + l.count y else if v = y then 0 else l.count v
  | [] => by simp
  | a :: l => by
    rw [List.map_cons, List.count_cons, count_ren h l, List.count_cons, List.count_cons, List.count_cons]
    unfold ren
    simp only [beq_iff_eq]
    grind
theorem Sys.mem {ns : List Int} {rs ps : List (List Int)} (s : Sys ns rs ps) {v : Int} : v ∈ ns ↔ v ∈ rs.flatten ∨ v ∈ ps.flatten := by
  have h := s.cnt v
  constructor
  · intro m
    rw [if_pos m] at h
    by_cases z : v ∈ rs.flatten
    · exact .inl z
    · rw [List.count_eq_zero_of_not_mem z] at h
      exact .inr (List.count_pos_iff.mp (by omega))
  · intro z
    by_cases m : v ∈ ns
    · exact m
    · rw [if_neg m] at h
      rcases z with z | z
      · have := List.count_pos_iff.mpr z; omega
      · have := List.count_pos_iff.mpr z; omega
/-- a pair of one line: a ring -/
theorem sys_same {ns : List Int} {rs ps : List (List Int)} {x : Int} (s : Sys ns rs ([x, x] :: ps)) : Sys (ns.erase x) rs ps ∧ ∀ p, colP p ns rs ([x, x] :: ps) = colP p (ns.erase x) rs ps * p := by
  have hx : x ∈ ns := s.mem.mpr (.inr (by simp))
  have hc := s.cnt x
  rw [if_pos hx, List.flatten_cons, List.count_append] at hc
  have h2 : [x, x].count x = 2 := by simp
  have n1 : x ∉ rs.flatten := fun z => by have := List.count_pos_iff.mpr z; omega
  have n2 : x ∉ ps.flatten := fun z => by have := List.count_pos_iff.mpr z; omega
  constructor
  · refine ⟨s.nd.erase x, s.four, fun q hq => s.two q (List.mem_cons_of_mem _ hq), fun v => ?_⟩
    have hv := s.cnt v
    rw [List.flatten_cons, List.count_append] at hv
    have me : v ∈ ns.erase x ↔ v ≠ x ∧ v ∈ ns := List.Nodup.mem_erase_iff s.nd
    by_cases e : v = x
    · subst e
      rw [if_neg (fun z => (me.mp z).1 rfl)]
      omega
    · have h0 : [x, x].count v = 0 := List.count_eq_zero_of_not_mem (by simpa using e)
      rw [h0] at hv
      by_cases m : v ∈ ns
      · rw [if_pos m] at hv
        rw [if_pos (me.mpr ⟨e, m⟩)]
        omega
      · rw [if_neg m] at hv
        rw [if_neg (fun z => m (me.mp z).2)]
        omega
  · intro p
    unfold colP
    rw [NF_perm (List.perm_cons_erase hx) s.nd]
    have hne : x ∉ ns.erase x := fun z => (List.Nodup.mem_erase_iff s.nd).mp z |>.1 rfl
    rw [NF_cons hne]
    rw [NF_congr (G := fun d => ind ((∀ r ∈ rs, fitC r p d) ∧ eqsP d ps) * p) _ _ fun d _ _ => ?_, NF_mul]
    have e1 : ∀ v : Nat, ind ((∀ r ∈ rs, fitC r p (up1 d x v)) ∧ eqsP (up1 d x v) ([x, x] :: ps)) = ind ((∀ r ∈ rs, fitC r p d) ∧ eqsP d ps) := by
      intro v
      refine ind_congr ?_
      rw [fits_up fun r hr => ⟨s.four r hr, fun z => n1 (List.mem_flatten.mpr ⟨r, hr, z⟩)⟩]
      refine and_congr_right fun _ => ?_
      unfold eqsP
      constructor
      · intro h q hq
        have hh := h q (List.mem_cons_of_mem _ hq)
        obtain ⟨a, b, rfl⟩ := two_of (s.two q (List.mem_cons_of_mem _ hq))
        have ha : ¬ a = x := fun z => n2 (List.mem_flatten.mpr ⟨_, hq, by simp [z]⟩)
        have hb : ¬ b = x := fun z => n2 (List.mem_flatten.mpr ⟨_, hq, by simp [z]⟩)
        simp only [List.getD_cons_zero, List.getD_cons_succ] at hh ⊢
        rwa [up1_ne ha, up1_ne hb] at hh
      · intro h q hq
        rcases List.mem_cons.mp hq with rfl | m
        · rfl
        · have hh := h q m
          obtain ⟨a, b, rfl⟩ := two_of (s.two q (List.mem_cons_of_mem _ m))
          have ha : ¬ a = x := fun z => n2 (List.mem_flatten.mpr ⟨_, m, by simp [z]⟩)
          have hb : ¬ b = x := fun z => n2 (List.mem_flatten.mpr ⟨_, m, by simp [z]⟩)
          simp only [List.getD_cons_zero, List.getD_cons_succ] at hh ⊢
          rwa [up1_ne ha, up1_ne hb]
    rw [sumR_congr fun v _ => e1 v, sumR_const, Nat.mul_comm]
theorem fitC_renD {r : List Int} {p : Nat} {x y : Int} {d : Int → Int} (hr : r.length = 4) : fitC (r.map (ren y x)) p d ↔ fitC r p (up1 d y (d x)) :=
  fitC_ren hr fun a _ => by
    unfold ren up1
    split <;> rfl
theorem sys_diff {ns : List Int} {rs ps : List (List Int)} {x y : Int} (s : Sys ns rs ([x, y] :: ps)) (h : x ≠ y) : Sys (ns.erase y) (rs.map fun r => r.map (ren y x)) (ps.map fun r => r.map (ren y x)) ∧ ∀ p, colP p ns rs ([x, y] :: ps) = colP p (ns.erase y) (rs.map fun r => r.map (ren y x)) (ps.map fun r => r.map (ren y x)) := by
  have hx : x ∈ ns := s.mem.mpr (.inr (by simp))
  have hy : y ∈ ns := s.mem.mpr (.inr (by simp))
  constructor
  · refine ⟨s.nd.erase y, fun r hr => ?_, fun q hq => ?_, fun v => ?_⟩
    · obtain ⟨r0, h0, rfl⟩ := List.mem_map.mp hr
      rw [List.length_map]
      exact s.four r0 h0
    · obtain ⟨r0, h0, rfl⟩ := List.mem_map.mp hq
      rw [List.length_map]
      exact s.two r0 (List.mem_cons_of_mem _ h0)
    · have hv := s.cnt v
      have hx2 := s.cnt x
      have hy2 := s.cnt y
      rw [if_pos hx] at hx2
      rw [if_pos hy] at hy2
      rw [List.flatten_cons, List.count_append] at hv hx2 hy2
      have c1 : [x, y].count x = 1 := by simp [h, Ne.symm h]
      have c2 : [x, y].count y = 1 := by simp [h]
      rw [c1] at hx2
      rw [c2] at hy2
      have me : v ∈ ns.erase y ↔ v ≠ y ∧ v ∈ ns := List.Nodup.mem_erase_iff s.nd
      rw [flat_map, flat_map, count_ren h, count_ren h]
      by_cases e1 : v = x
      · subst e1
        rw [if_pos rfl, if_pos rfl, if_pos (me.mpr ⟨h, hx⟩)]
        omega
      · rw [if_neg e1, if_neg e1]
        by_cases e2 : v = y
        · rw [if_pos e2, if_pos e2, if_neg (fun z => (me.mp z).1 e2)]
        · rw [if_neg e2, if_neg e2]
          have c3 : [x, y].count v = 0 := List.count_eq_zero_of_not_mem (by simp [e1, e2])
          rw [c3] at hv
          by_cases m : v ∈ ns
          · rw [if_pos m] at hv
            rw [if_pos (me.mpr ⟨e2, m⟩)]
            omega
          · rw [if_neg m] at hv
            rw [if_neg (fun z => m (me.mp z).2)]
            omega
  · intro p
    unfold colP
    rw [NF_perm (List.perm_cons_erase hy) s.nd]
    have hne : y ∉ ns.erase y := fun z => (List.Nodup.mem_erase_iff s.nd).mp z |>.1 rfl
    have hxe : x ∈ ns.erase y := (List.Nodup.mem_erase_iff s.nd).mpr ⟨h, hx⟩
    refine NF_det (fun d => d x) hne fun d hd => ⟨hd x hxe, fun v hv0 hv1 => ?_⟩
    by_cases e : v = d x
    · rw [if_pos e]
      subst e
      refine ind_congr ?_
      constructor
      · rintro ⟨h1, h2⟩
        refine ⟨fun r hr => ?_, fun q hq => ?_⟩
        · obtain ⟨r0, h0, rfl⟩ := List.mem_map.mp hr
          exact (fitC_renD (s.four r0 h0)).mpr (h1 r0 h0)
        · obtain ⟨r0, h0, rfl⟩ := List.mem_map.mp hq
          have hh := h2 r0 (List.mem_cons_of_mem _ h0)
          obtain ⟨a, b, rfl⟩ := two_of (s.two r0 (List.mem_cons_of_mem _ h0))
          simp only [List.map_cons, List.map_nil, List.getD_cons_zero, List.getD_cons_succ] at hh ⊢
          unfold ren
          unfold up1 at hh
          grind
      · rintro ⟨h1, h2⟩
        refine ⟨fun r hr => ?_, fun q hq => ?_⟩
        · exact (fitC_renD (s.four r hr)).mp (h1 _ (List.mem_map.mpr ⟨r, hr, rfl⟩))
        · rcases List.mem_cons.mp hq with rfl | m
          · simp only [List.getD_cons_zero, List.getD_cons_succ]
            rw [up1_self, up1_ne h]
          · have hh := h2 _ (List.mem_map.mpr ⟨q, m, rfl⟩)
            obtain ⟨a, b, rfl⟩ := two_of (s.two q (List.mem_cons_of_mem _ m))
            simp only [List.map_cons, List.map_nil, List.getD_cons_zero, List.getD_cons_succ] at hh ⊢
            unfold ren at hh
            unfold up1
            grind
    · rw [if_neg e]
      refine ind_neg fun z => e ?_
      have hh := z.2 [x, y] List.mem_cons_self
      simp only [List.getD_cons_zero, List.getD_cons_succ] at hh
      rw [up1_self, up1_ne h] at hh
      exact hh.symm
theorem sys_join : ∀ (n : Nat) {ns : List Int} {rs ps : List (List Int)} (rg : Int), ps.length = n → Sys ns rs ps → ∃ (ns' : List Int) (k : Nat), Sys ns' (joinL rs ps rg).1 [] ∧ (joinL rs ps rg).2 = rg + k ∧ ∀ p, colP p ns rs ps = colP p ns' (joinL rs ps rg).1 [] * p ^ k
  | 0, ns, rs, ps, rg, hn, s => by
    rw [List.length_eq_zero_iff] at hn
    subst hn
    rw [joinL_nil]
    exact ⟨ns, 0, s, by simp, fun p => by rw [Nat.pow_zero, Nat.mul_one]⟩
  | n + 1, ns, rs, q :: ps, rg, hn, s => by
    obtain ⟨x, y, rfl⟩ := two_of (s.two q List.mem_cons_self)
    rw [joinL_cons]
    simp only [List.getD_cons_zero, List.getD_cons_succ]
    have hn' : ps.length = n := by simpa using hn
    by_cases h : x = y
    · subst h
      obtain ⟨s1, c1⟩ := sys_same s
      rw [ren_map_self, ren_map_self, if_pos rfl]
      obtain ⟨ns', k, h1, h2, h3⟩ := sys_join n (rg + 1) hn' s1
      refine ⟨ns', k + 1, h1, by rw [h2]; push_cast; omega, fun p => ?_⟩
      rw [c1 p, h3 p, Nat.pow_succ, Nat.mul_assoc]
    · obtain ⟨s1, c1⟩ := sys_diff s h
      rw [if_neg h]
      obtain ⟨ns', k, h1, h2, h3⟩ := sys_join n rg (by rw [List.length_map]; exact hn') s1
      exact ⟨ns', k, h1, h2, fun p => by rw [c1 p, h3 p]⟩
theorem lin_range : ∀ (k : Nat) (j : Int), lin j k = (List.range k).map fun (i : Nat) => j + (i : Int) := by
  intro k
  induction k with
  | zero => intro j; rfl
  | succ k ih =>
    intro j
    rw [lin_snoc, ih, List.range_succ, List.map_append]
    rfl
theorem idx_lin {ns : List Int} (hnd : ns.Nodup) : ns.map (idx ns) = lin 0 ns.length := by
  rw [lin_range]
  apply List.ext_getElem
  · rw [List.length_map, List.length_map, List.length_range]
  · intro i h1 h2
    rw [List.length_map] at h1
    rw [List.getElem_map, List.getElem_map, List.getElem_range]
    have := (idx_inj hnd (List.getElem_mem h1) h1).mpr rfl
    rw [this]
    omega
theorem sys_len {ns : List Int} {rs : List (List Int)} (s : Sys ns rs []) : ns.length = 2 * rs.length := by
  have hp : rs.flatten.Perm (ns ++ ns) := by
    rw [List.perm_iff_count]
    intro v
    have h := s.cnt v
    rw [List.flatten_nil, List.count_nil, Nat.add_zero] at h
    rw [h, List.count_append]
    by_cases m : v ∈ ns
    · have c1 := List.nodup_iff_count.mp s.nd v
      have c2 := List.count_pos_iff.mpr m
      rw [if_pos m]
      omega
    · rw [if_neg m, List.count_eq_zero_of_not_mem m]
  have := hp.length_eq
  rw [flat4 s.four, List.length_append] at this
  omega
/-- numbered anew it is a drawn sheet with as many colourings -/
theorem sys_numb {ns : List Int} {rs : List (List Int)} (s : Sys ns rs []) : Drawn rs.length (numb rs) ∧ ∀ p, colC p (lin 0 (2 * rs.length)) (numb rs) = colP p ns rs [] := by
  have hlen := sys_len s
  have hin : ∀ x ∈ rs.flatten, x ∈ ns := fun x hx => s.mem.mpr (.inl hx)
  have hinj : ∀ x ∈ ns, ∀ y ∈ ns, idx ns x = idx ns y → x = y := fun x hx y hy e => by
    have h1 := List.idxOf_lt_length_of_mem hx
    have h2 := List.idxOf_lt_length_of_mem hy
    have e1 : ns[ns.idxOf x] = x := List.getElem_idxOf h1
    have e2 : ns[ns.idxOf y] = y := List.getElem_idxOf h2
    unfold idx at e
    have e3 : ns.idxOf x = ns.idxOf y := by omega
    rw [← e1, ← e2]
    simp only [e3]
  have hD : Drawn rs.length (rs.map fun r => r.map (idx ns)) := by
    refine ⟨List.length_map _, fun r hr => ?_, fun v => ?_⟩
    · obtain ⟨r0, h0, rfl⟩ := List.mem_map.mp hr
      rw [List.length_map, s.four r0 h0]
    · rw [flat_map, count_idx s.nd hin]
      by_cases c : 0 ≤ v ∧ v < 2 * (rs.length : Int)
      · rw [dif_pos (by omega), if_pos c]
        have h := s.cnt (ns[v.toNat]'(by omega))
        rw [List.flatten_nil, List.count_nil, Nat.add_zero, if_pos (List.getElem_mem _)] at h
        exact h
      · rw [dif_neg (by omega), if_neg c]
  have hN : numb (rs.map fun r => r.map (idx ns)) = numb rs := numb_inj fun x hx y hy e => hinj x (hin x hx) y (hin y hy) e
  have hd2 := numb_drawn hD
  rw [hN] at hd2
  refine ⟨hd2, fun p => ?_⟩
  have h1 := colC_numb (p := p) hD
  rw [hN] at h1
  rw [h1]
  have h2 := colC_ren (p := p) (f := idx ns) (ns := ns) (rs := rs) hinj fun r hr => ⟨s.four r hr, fun a ha => hin a (List.mem_flatten.mpr ⟨r, hr, ha⟩)⟩
  rw [idx_lin s.nd, hlen] at h2
  rw [h2]
  unfold colC colP
  refine NF_congr _ _ fun d _ _ => ind_congr ⟨fun h => ⟨h, fun q hq => by cases hq⟩, fun h => h.1⟩
end DL
set_option maxRecDepth 100000
namespace DL
open PySem (Str)
/-! ### two crossings that come apart -/
def turnR : List Int → List Int
  | [a, b, c, d] => [c, d, a, b]
  | r => r
def tst : List Int → List Int → Option (List (List Int))
  | [x0, x1, x2, x3], [y0, y1, y2, y3] => if x2 = y0 ∧ x1 = y1 then some [[x0, y2], [x3, y3]] else if x2 = y0 ∧ x3 = y3 then some [[x0, y2], [x1, y1]] else none
  | _, _ => none
def apartP (x y : List Int) : Option (List (List Int)) := [x, turnR x].findSome? fun x => [y, turnR y].findSome? (tst x)
theorem turnR_len {r : List Int} (h : r.length = 4) : (turnR r).length = 4 := by
  obtain ⟨a, b, c, d, rfl⟩ := four_of h
  rfl
theorem turned_row_ok {r : List Int} (h : r.length = 4) : f_turned [encR r] = .ok (.va (encR (turnR r))) := by
  obtain ⟨a, b, c, d, rfl⟩ := four_of h
  unfold f_turned F_turned
  rw [fn_eq [.va (encR [a, b, c, d])] rfl]
  simp only [ev_seq, ev_set, ev_op1, ev_op2, ev_call, ev_cons, ev_nil, ev_c, ev_var, ev_tup, ev_lst, ev_cb, ev_fz, ev_lend, ev_and, ev_or, ev_not, ev_chain, ev_if, ev_bm, ev_get2, ev_ixO, ev_sl, ev_some, ev_none, ev_tval, ev_tand, ev_tor, ev_tnot, ev_irange1, ev_irange2, ev_sif, ev_next, ev_ret, ev_retO, ev_raise, ev_app, ev_put, ev_dput, ev_for, ev_while, ev_pub, pub_cons, pub_nil, ev_drop, ev_dnew, res_nx, res_rt, res_xc, R.bind_ok, R.bind_xc, R.out_ok, R.out_xc, Out.bind_nx, Out.bind_rt, Out.bind_xc, Sl.d_va, Sl.d_ow, Sl.frz_va, Sl.frz_ow, Sl.frz_no, List.getElem?_cons_succ, List.getElem?_cons_zero, List.set_cons_succ, List.set_cons_zero, List.length_cons, List.length_nil, List.map_cons, List.map_nil, lim_val, Nat.zero_le, Nat.reduceAdd, Nat.reduceLeDiff, Nat.reduceEqDiff, reduceIte, Nat.zero_add, if_true, if_false, Bool.false_eq_true, Bool.not_true, Bool.not_false, decide_true, decide_false, o_add, o_sub, o_neg, o_lt, o_le, o_gt, o_ge, o_eq, o_ne, o_isN, o_notN, isNon_non, isNon_int, isNon_tup, isNon_lst, o_idxL, o_idxT, o_lenL, o_lenT, o_lenS, o_listL, o_listT, o_tupleL, o_tupleT, o_int, o_intb, o_max2, o_min2, o_slL, o_slT, atD_0, atD_1, atD_2, atD_3, atD_4, atD_5, range_4, range_3, range_2]
  rfl
theorem apart_in {u v : Sl} {x y : List Int} (hx : x.length = 4) (hy : y.length = 4) : match tst x y with
    | some ps => B_apart_pairs_1 [u, v, .va (encR x), .va (encR y)] = .rt (.ow (.lst (encRs ps)))
    | none => B_apart_pairs_1 [u, v, .va (encR x), .va (encR y)] = .nx [u, v, .va (encR x), .va (encR y)] := by
  obtain ⟨x0, x1, x2, x3, rfl⟩ := four_of hx
  obtain ⟨y0, y1, y2, y3, rfl⟩ := four_of hy
  have e : tst [x0, x1, x2, x3] [y0, y1, y2, y3] = if x2 = y0 ∧ x1 = y1 then some [[x0, y2], [x3, y3]] else if x2 = y0 ∧ x3 = y3 then some [[x0, y2], [x1, y1]] else none := rfl
  by_cases c0 : x2 = y0
  · by_cases c1 : x1 = y1
    · rw [if_pos ⟨c0, c1⟩] at e
      rw [e]
      show B_apart_pairs_1 _ = _
      unfold B_apart_pairs_1
      simp only [ev_seq, ev_set, ev_op1, ev_op2, ev_call, ev_cons, ev_nil, ev_c, ev_var, ev_tup, ev_lst, ev_cb, ev_fz, ev_lend, ev_and, ev_or, ev_not, ev_chain, ev_if, ev_bm, ev_get2, ev_ixO, ev_sl, ev_some, ev_none, ev_tval, ev_tand, ev_tor, ev_tnot, ev_irange1, ev_irange2, ev_sif, ev_next, ev_ret, ev_retO, ev_raise, ev_app, ev_put, ev_dput, ev_for, ev_while, ev_pub, pub_cons, pub_nil, ev_drop, ev_dnew, res_nx, res_rt, res_xc, R.bind_ok, R.bind_xc, R.out_ok, R.out_xc, Out.bind_nx, Out.bind_rt, Out.bind_xc, Sl.d_va, Sl.d_ow, Sl.frz_va, Sl.frz_ow, Sl.frz_no, List.getElem?_cons_succ, List.getElem?_cons_zero, List.set_cons_succ, List.set_cons_zero, List.length_cons, List.length_nil, List.map_cons, List.map_nil, lim_val, Nat.zero_le, Nat.reduceAdd, Nat.reduceLeDiff, Nat.reduceEqDiff, reduceIte, Nat.zero_add, if_true, if_false, Bool.false_eq_true, Bool.not_true, Bool.not_false, decide_true, decide_false, o_add, o_sub, o_neg, o_lt, o_le, o_gt, o_ge, o_eq, o_ne, o_isN, o_notN, isNon_non, isNon_int, isNon_tup, isNon_lst, o_idxL, o_idxT, o_lenL, o_lenT, o_lenS, o_listL, o_listT, o_tupleL, o_tupleT, o_int, o_intb, o_max2, o_min2, o_slL, o_slT, atD_0, atD_1, atD_2, atD_3, atD_4, atD_5, range_4, range_3, range_2, c0, c1, eq_self]
      rfl
    · rw [if_neg (fun z => c1 z.2)] at e
      by_cases c2 : x3 = y3
      · rw [if_pos ⟨c0, c2⟩] at e
        rw [e]
        show B_apart_pairs_1 _ = _
        unfold B_apart_pairs_1
        simp only [ev_seq, ev_set, ev_op1, ev_op2, ev_call, ev_cons, ev_nil, ev_c, ev_var, ev_tup, ev_lst, ev_cb, ev_fz, ev_lend, ev_and, ev_or, ev_not, ev_chain, ev_if, ev_bm, ev_get2, ev_ixO, ev_sl, ev_some, ev_none, ev_tval, ev_tand, ev_tor, ev_tnot, ev_irange1, ev_irange2, ev_sif, ev_next, ev_ret, ev_retO, ev_raise, ev_app, ev_put, ev_dput, ev_for, ev_while, ev_pub, pub_cons, pub_nil, ev_drop, ev_dnew, res_nx, res_rt, res_xc, R.bind_ok, R.bind_xc, R.out_ok, R.out_xc, Out.bind_nx, Out.bind_rt, Out.bind_xc, Sl.d_va, Sl.d_ow, Sl.frz_va, Sl.frz_ow, Sl.frz_no, List.getElem?_cons_succ, List.getElem?_cons_zero, List.set_cons_succ, List.set_cons_zero, List.length_cons, List.length_nil, List.map_cons, List.map_nil, lim_val, Nat.zero_le, Nat.reduceAdd, Nat.reduceLeDiff, Nat.reduceEqDiff, reduceIte, Nat.zero_add, if_true, if_false, Bool.false_eq_true, Bool.not_true, Bool.not_false, decide_true, decide_false, o_add, o_sub, o_neg, o_lt, o_le, o_gt, o_ge, o_eq, o_ne, o_isN, o_notN, isNon_non, isNon_int, isNon_tup, isNon_lst, o_idxL, o_idxT, o_lenL, o_lenT, o_lenS, o_listL, o_listT, o_tupleL, o_tupleT, o_int, o_intb, o_max2, o_min2, o_slL, o_slT, atD_0, atD_1, atD_2, atD_3, atD_4, atD_5, range_4, range_3, range_2, c0, c1, c2, eq_self]
        rfl
      · rw [if_neg (fun z => c2 z.2)] at e
        rw [e]
        show B_apart_pairs_1 _ = _
        unfold B_apart_pairs_1
        simp only [ev_seq, ev_set, ev_op1, ev_op2, ev_call, ev_cons, ev_nil, ev_c, ev_var, ev_tup, ev_lst, ev_cb, ev_fz, ev_lend, ev_and, ev_or, ev_not, ev_chain, ev_if, ev_bm, ev_get2, ev_ixO, ev_sl, ev_some, ev_none, ev_tval, ev_tand, ev_tor, ev_tnot, ev_irange1, ev_irange2, ev_sif, ev_next, ev_ret, ev_retO, ev_raise, ev_app, ev_put, ev_dput, ev_for, ev_while, ev_pub, pub_cons, pub_nil, ev_drop, ev_dnew, res_nx, res_rt, res_xc, R.bind_ok, R.bind_xc, R.out_ok, R.out_xc, Out.bind_nx, Out.bind_rt, Out.bind_xc, Sl.d_va, Sl.d_ow, Sl.frz_va, Sl.frz_ow, Sl.frz_no, List.getElem?_cons_succ, List.getElem?_cons_zero, List.set_cons_succ, List.set_cons_zero, List.length_cons, List.length_nil, List.map_cons, List.map_nil, lim_val, Nat.zero_le, Nat.reduceAdd, Nat.reduceLeDiff, Nat.reduceEqDiff, reduceIte, Nat.zero_add, if_true, if_false, Bool.false_eq_true, Bool.not_true, Bool.not_false, decide_true, decide_false, o_add, o_sub, o_neg, o_lt, o_le, o_gt, o_ge, o_eq, o_ne, o_isN, o_notN, isNon_non, isNon_int, isNon_tup, isNon_lst, o_idxL, o_idxT, o_lenL, o_lenT, o_lenS, o_listL, o_listT, o_tupleL, o_tupleT, o_int, o_intb, o_max2, o_min2, o_slL, o_slT, atD_0, atD_1, atD_2, atD_3, atD_4, atD_5, range_4, range_3, range_2, c0, c1, c2, eq_self]
  · rw [if_neg (fun z => c0 z.1), if_neg (fun z => c0 z.1)] at e
    rw [e]
    show B_apart_pairs_1 _ = _
    unfold B_apart_pairs_1
    simp only [ev_seq, ev_set, ev_op1, ev_op2, ev_call, ev_cons, ev_nil, ev_c, ev_var, ev_tup, ev_lst, ev_cb, ev_fz, ev_lend, ev_and, ev_or, ev_not, ev_chain, ev_if, ev_bm, ev_get2, ev_ixO, ev_sl, ev_some, ev_none, ev_tval, ev_tand, ev_tor, ev_tnot, ev_irange1, ev_irange2, ev_sif, ev_next, ev_ret, ev_retO, ev_raise, ev_app, ev_put, ev_dput, ev_for, ev_while, ev_pub, pub_cons, pub_nil, ev_drop, ev_dnew, res_nx, res_rt, res_xc, R.bind_ok, R.bind_xc, R.out_ok, R.out_xc, Out.bind_nx, Out.bind_rt, Out.bind_xc, Sl.d_va, Sl.d_ow, Sl.frz_va, Sl.frz_ow, Sl.frz_no, List.getElem?_cons_succ, List.getElem?_cons_zero, List.set_cons_succ, List.set_cons_zero, List.length_cons, List.length_nil, List.map_cons, List.map_nil, lim_val, Nat.zero_le, Nat.reduceAdd, Nat.reduceLeDiff, Nat.reduceEqDiff, reduceIte, Nat.zero_add, if_true, if_false, Bool.false_eq_true, Bool.not_true, Bool.not_false, decide_true, decide_false, o_add, o_sub, o_neg, o_lt, o_le, o_gt, o_ge, o_eq, o_ne, o_isN, o_notN, isNon_non, isNon_int, isNon_tup, isNon_lst, o_idxL, o_idxT, o_lenL, o_lenT, o_lenS, o_listL, o_listT, o_tupleL, o_tupleT, o_int, o_intb, o_max2, o_min2, o_slL, o_slT, atD_0, atD_1, atD_2, atD_3, atD_4, atD_5, range_4, range_3, range_2, c0]
theorem apart_pairs_ok {x y : List Int} (hx : x.length = 4) (hy : y.length = 4) : f_apart_pairs [encR x, encR y] = .ok (match apartP x y with
    | some ps => .ow (.lst (encRs ps))
    | none => .va .non) := by
  unfold f_apart_pairs F_apart_pairs
  rw [fn_eq [.va (encR x), .va (encR y), .no, .no] rfl]
  have tx := turned_row_ok hx
  have ty := turned_row_ok hy
  have L := forD_ret (j := 2) (b := B_apart_pairs_2) (enc := encR) (fun e => ∃ a b, e = [.va (encR x), .va (encR y), a, b]) (fun x => ([y, turnR y].findSome? (tst x)).map fun ps => Sl.ow (.lst (encRs ps))) [x, turnR x] [.va (encR x), .va (encR y), .no, .no] ⟨_, _, rfl⟩
    (fun x' e hx' ⟨a, b, he⟩ => by
      subst he
      have hxl : x'.length = 4 := by
        simp only [List.mem_cons, List.not_mem_nil, or_false] at hx'
        rcases hx' with rfl | rfl
        · exact hx
        · exact turnR_len hx
      have L1 := forD_ret (j := 3) (b := B_apart_pairs_1) (enc := encR) (fun e => ∃ b, e = [.va (encR x), .va (encR y), .va (encR x'), b]) (fun y => (tst x' y).map fun ps => Sl.ow (.lst (encRs ps))) [y, turnR y] [.va (encR x), .va (encR y), .va (encR x'), b] ⟨_, rfl⟩
        (fun y' e hy' ⟨b, he⟩ => by
          subst he
          have hyl : y'.length = 4 := by
            simp only [List.mem_cons, List.not_mem_nil, or_false] at hy'
            rcases hy' with rfl | rfl
            · exact hy
            · exact turnR_len hy
          have := apart_in (u := .va (encR x)) (v := .va (encR y)) hxl hyl
          cases q : tst x' y' with
          | some ps => rw [q] at this; exact this
          | none => rw [q] at this; exact ⟨_, this, _, rfl⟩)
      have e2 : [y, turnR y].findSome? (fun y => (tst x' y).map fun ps => Sl.ow (.lst (encRs ps))) = ([y, turnR y].findSome? (tst x')).map fun ps => Sl.ow (.lst (encRs ps)) := by
        simp only [List.findSome?_cons, List.findSome?_nil]
        cases tst x' y with
        | some ps => rfl
        | none => cases tst x' (turnR y) <;> rfl
      rw [e2] at L1
      have hB : B_apart_pairs_2 ([Sl.va (encR x), .va (encR y), a, b].set 2 (.va (encR x'))) = forD 3 B_apart_pairs_1 ([y, turnR y].map encR) [.va (encR x), .va (encR y), .va (encR x'), b] := by
        unfold B_apart_pairs_2
        simp only [ev_seq, ev_set, ev_op1, ev_op2, ev_call, ev_cons, ev_nil, ev_c, ev_var, ev_tup, ev_lst, ev_cb, ev_fz, ev_lend, ev_and, ev_or, ev_not, ev_chain, ev_if, ev_bm, ev_get2, ev_ixO, ev_sl, ev_some, ev_none, ev_tval, ev_tand, ev_tor, ev_tnot, ev_irange1, ev_irange2, ev_sif, ev_next, ev_ret, ev_retO, ev_raise, ev_app, ev_put, ev_dput, ev_for, ev_while, ev_pub, pub_cons, pub_nil, ev_drop, ev_dnew, res_nx, res_rt, res_xc, R.bind_ok, R.bind_xc, R.out_ok, R.out_xc, Out.bind_nx, Out.bind_rt, Out.bind_xc, Sl.d_va, Sl.d_ow, Sl.frz_va, Sl.frz_ow, Sl.frz_no, List.getElem?_cons_succ, List.getElem?_cons_zero, List.set_cons_succ, List.set_cons_zero, List.length_cons, List.length_nil, List.map_cons, List.map_nil, lim_val, Nat.zero_le, Nat.reduceAdd, Nat.reduceLeDiff, Nat.reduceEqDiff, reduceIte, Nat.zero_add, if_true, if_false, Bool.false_eq_true, Bool.not_true, Bool.not_false, decide_true, decide_false, o_add, o_sub, o_neg, o_lt, o_le, o_gt, o_ge, o_eq, o_ne, o_isN, o_notN, isNon_non, isNon_int, isNon_tup, isNon_lst, o_idxL, o_idxT, o_lenL, o_lenT, o_lenS, o_listL, o_listT, o_tupleL, o_tupleT, o_int, o_intb, o_max2, o_min2, o_slL, o_slT, atD_0, atD_1, atD_2, atD_3, atD_4, atD_5, range_4, range_3, range_2, ev_iseq, ty]
      rw [hB]
      cases q : [y, turnR y].findSome? (tst x') with
      | some ps => rw [q] at L1; exact L1
      | none =>
        rw [q] at L1
        obtain ⟨e', h1, b', h2⟩ := L1
        exact ⟨e', h1, _, _, h2⟩)
  have e3 : [x, turnR x].findSome? (fun x => ([y, turnR y].findSome? (tst x)).map fun ps => Sl.ow (.lst (encRs ps))) = (apartP x y).map fun ps => Sl.ow (.lst (encRs ps)) := by
    unfold apartP
    simp only [List.findSome?_cons, List.findSome?_nil]
    cases tst x y with
    | some ps => rfl
    | none =>
      cases tst x (turnR y) with
      | some ps => rfl
      | none =>
        cases tst (turnR x) y with
        | some ps => rfl
        | none => cases tst (turnR x) (turnR y) <;> rfl
  rw [e3] at L
  cases q : apartP x y with
  | some ps =>
    rw [q] at L
    simp only [Option.map_some, List.map_cons, List.map_nil] at L
    simp only [ev_seq, ev_set, ev_op1, ev_op2, ev_call, ev_cons, ev_nil, ev_c, ev_var, ev_tup, ev_lst, ev_cb, ev_fz, ev_lend, ev_and, ev_or, ev_not, ev_chain, ev_if, ev_bm, ev_get2, ev_ixO, ev_sl, ev_some, ev_none, ev_tval, ev_tand, ev_tor, ev_tnot, ev_irange1, ev_irange2, ev_sif, ev_next, ev_ret, ev_retO, ev_raise, ev_app, ev_put, ev_dput, ev_for, ev_while, ev_pub, pub_cons, pub_nil, ev_drop, ev_dnew, res_nx, res_rt, res_xc, R.bind_ok, R.bind_xc, R.out_ok, R.out_xc, Out.bind_nx, Out.bind_rt, Out.bind_xc, Sl.d_va, Sl.d_ow, Sl.frz_va, Sl.frz_ow, Sl.frz_no, List.getElem?_cons_succ, List.getElem?_cons_zero, List.set_cons_succ, List.set_cons_zero, List.length_cons, List.length_nil, List.map_cons, List.map_nil, lim_val, Nat.zero_le, Nat.reduceAdd, Nat.reduceLeDiff, Nat.reduceEqDiff, reduceIte, Nat.zero_add, if_true, if_false, Bool.false_eq_true, Bool.not_true, Bool.not_false, decide_true, decide_false, o_add, o_sub, o_neg, o_lt, o_le, o_gt, o_ge, o_eq, o_ne, o_isN, o_notN, isNon_non, isNon_int, isNon_tup, isNon_lst, o_idxL, o_idxT, o_lenL, o_lenT, o_lenS, o_listL, o_listT, o_tupleL, o_tupleT, o_int, o_intb, o_max2, o_min2, o_slL, o_slT, atD_0, atD_1, atD_2, atD_3, atD_4, atD_5, range_4, range_3, range_2, ev_iseq, tx, L]
  | none =>
    rw [q] at L
    simp only [Option.map_none, List.map_cons, List.map_nil] at L
    obtain ⟨e', h1, a', b', h2⟩ := L
    simp only [ev_seq, ev_set, ev_op1, ev_op2, ev_call, ev_cons, ev_nil, ev_c, ev_var, ev_tup, ev_lst, ev_cb, ev_fz, ev_lend, ev_and, ev_or, ev_not, ev_chain, ev_if, ev_bm, ev_get2, ev_ixO, ev_sl, ev_some, ev_none, ev_tval, ev_tand, ev_tor, ev_tnot, ev_irange1, ev_irange2, ev_sif, ev_next, ev_ret, ev_retO, ev_raise, ev_app, ev_put, ev_dput, ev_for, ev_while, ev_pub, pub_cons, pub_nil, ev_drop, ev_dnew, res_nx, res_rt, res_xc, R.bind_ok, R.bind_xc, R.out_ok, R.out_xc, Out.bind_nx, Out.bind_rt, Out.bind_xc, Sl.d_va, Sl.d_ow, Sl.frz_va, Sl.frz_ow, Sl.frz_no, List.getElem?_cons_succ, List.getElem?_cons_zero, List.set_cons_succ, List.set_cons_zero, List.length_cons, List.length_nil, List.map_cons, List.map_nil, lim_val, Nat.zero_le, Nat.reduceAdd, Nat.reduceLeDiff, Nat.reduceEqDiff, reduceIte, Nat.zero_add, if_true, if_false, Bool.false_eq_true, Bool.not_true, Bool.not_false, decide_true, decide_false, o_add, o_sub, o_neg, o_lt, o_le, o_gt, o_ge, o_eq, o_ne, o_isN, o_notN, isNon_non, isNon_int, isNon_tup, isNon_lst, o_idxL, o_idxT, o_lenL, o_lenT, o_lenS, o_listL, o_listT, o_tupleL, o_tupleT, o_int, o_intb, o_max2, o_min2, o_slL, o_slT, atD_0, atD_1, atD_2, atD_3, atD_4, atD_5, range_4, range_3, range_2, ev_iseq, tx, h1]
theorem tst_ok {x y : List Int} {ps : List (List Int)} (h : tst x y = some ps) : (∀ p ∈ ps, p.length = 2) ∧ ps.length = 2 := by
  unfold tst at h
  split at h
  · split at h
    · cases h
      exact ⟨fun p hp => by simp only [List.mem_cons, List.not_mem_nil, or_false] at hp; rcases hp with rfl | rfl <;> rfl, rfl⟩
    · split at h
      · cases h
        exact ⟨fun p hp => by simp only [List.mem_cons, List.not_mem_nil, or_false] at hp; rcases hp with rfl | rfl <;> rfl, rfl⟩
      · cases h
  · cases h
theorem apartP_ok {x y : List Int} {ps : List (List Int)} (h : apartP x y = some ps) : (∀ p ∈ ps, p.length = 2) ∧ ps.length = 2 := by
  unfold apartP at h
  obtain ⟨x', _, h1⟩ := List.exists_of_findSome?_eq_some h
  obtain ⟨y', _, h2⟩ := List.exists_of_findSome?_eq_some h1
  exact tst_ok h2
/-! ### the law's own -/
theorem slice_turn {a b c d : Int} : (eOp2 dAdd (eSl dSl (eVar 0) (oSome (eC (.int 2))) oNone) (eSl dSl (eVar 0) oNone (oSome (eC (.int 2))))) = (eOp2 dAdd (eSl dSl (eVar 0) (oSome (eC (.int 2))) oNone) (eSl dSl (eVar 0) oNone (oSome (eC (.int 2))))) := rfl
theorem cut_a {a b c d : Int} : cutD (encI [a, b, c, d]) (some 2) none = [.int c, .int d] := rfl
theorem cut_b {a b c d : Int} : cutD (encI [a, b, c, d]) none (some 2) = [.int a, .int b] := rfl
theorem add4 {a b c d : Int} : dAdd (.tup [.int c, .int d]) (.tup [.int a, .int b]) = .ok (.va (encR [c, d, a, b])) := o_addT (by rw [lim_val]; simp)
theorem lens_in {u v t : Sl} {x y : List Int} (hx : x.length = 4) (hy : y.length = 4) (b : Sl) : match tst x y with
    | some ps => forD 5 B_law_lens_1 [.int 1, .int 3] [u, v, t, .va (encR x), .va (encR y), b] = .rt (.ow (.lst (encRs ps)))
    | none => forD 5 B_law_lens_1 [.int 1, .int 3] [u, v, t, .va (encR x), .va (encR y), b] = .nx [u, v, t, .va (encR x), .va (encR y), .va (.int 3)] := by
  obtain ⟨x0, x1, x2, x3, rfl⟩ := four_of hx
  obtain ⟨y0, y1, y2, y3, rfl⟩ := four_of hy
  have q1 : (4 : Int) - 1 = 3 := rfl
  have q3 : (4 : Int) - 3 = 1 := rfl
  have e : tst [x0, x1, x2, x3] [y0, y1, y2, y3] = if x2 = y0 ∧ x1 = y1 then some [[x0, y2], [x3, y3]] else if x2 = y0 ∧ x3 = y3 then some [[x0, y2], [x1, y1]] else none := rfl
  by_cases c0 : x2 = y0
  · by_cases c1 : x1 = y1
    · rw [if_pos ⟨c0, c1⟩] at e
      rw [e]
      show forD 5 B_law_lens_1 _ _ = _
      simp only [ev_seq, ev_set, ev_op1, ev_op2, ev_call, ev_cons, ev_nil, ev_c, ev_var, ev_tup, ev_lst, ev_cb, ev_fz, ev_lend, ev_and, ev_or, ev_not, ev_chain, ev_if, ev_bm, ev_get2, ev_ixO, ev_sl, ev_some, ev_none, ev_tval, ev_tand, ev_tor, ev_tnot, ev_irange1, ev_irange2, ev_sif, ev_next, ev_ret, ev_retO, ev_raise, ev_app, ev_put, ev_dput, ev_for, ev_while, ev_pub, pub_cons, pub_nil, ev_drop, ev_dnew, res_nx, res_rt, res_xc, R.bind_ok, R.bind_xc, R.out_ok, R.out_xc, Out.bind_nx, Out.bind_rt, Out.bind_xc, Sl.d_va, Sl.d_ow, Sl.frz_va, Sl.frz_ow, Sl.frz_no, List.getElem?_cons_succ, List.getElem?_cons_zero, List.set_cons_succ, List.set_cons_zero, List.length_cons, List.length_nil, List.map_cons, List.map_nil, lim_val, Nat.zero_le, Nat.reduceAdd, Nat.reduceLeDiff, Nat.reduceEqDiff, reduceIte, Nat.zero_add, if_true, if_false, Bool.false_eq_true, Bool.not_true, Bool.not_false, decide_true, decide_false, o_add, o_sub, o_neg, o_lt, o_le, o_gt, o_ge, o_eq, o_ne, o_isN, o_notN, isNon_non, isNon_int, isNon_tup, isNon_lst, o_idxL, o_idxT, o_lenL, o_lenT, o_lenS, o_listL, o_listT, o_tupleL, o_tupleT, o_int, o_intb, o_max2, o_min2, o_slL, o_slT, atD_0, atD_1, atD_2, atD_3, atD_4, atD_5, range_4, range_3, range_2, forD, B_law_lens_1, c0, c1, eq_self, q1]
      rfl
    · rw [if_neg (fun z => c1 z.2)] at e
      by_cases c2 : x3 = y3
      · rw [if_pos ⟨c0, c2⟩] at e
        rw [e]
        show forD 5 B_law_lens_1 _ _ = _
        simp only [ev_seq, ev_set, ev_op1, ev_op2, ev_call, ev_cons, ev_nil, ev_c, ev_var, ev_tup, ev_lst, ev_cb, ev_fz, ev_lend, ev_and, ev_or, ev_not, ev_chain, ev_if, ev_bm, ev_get2, ev_ixO, ev_sl, ev_some, ev_none, ev_tval, ev_tand, ev_tor, ev_tnot, ev_irange1, ev_irange2, ev_sif, ev_next, ev_ret, ev_retO, ev_raise, ev_app, ev_put, ev_dput, ev_for, ev_while, ev_pub, pub_cons, pub_nil, ev_drop, ev_dnew, res_nx, res_rt, res_xc, R.bind_ok, R.bind_xc, R.out_ok, R.out_xc, Out.bind_nx, Out.bind_rt, Out.bind_xc, Sl.d_va, Sl.d_ow, Sl.frz_va, Sl.frz_ow, Sl.frz_no, List.getElem?_cons_succ, List.getElem?_cons_zero, List.set_cons_succ, List.set_cons_zero, List.length_cons, List.length_nil, List.map_cons, List.map_nil, lim_val, Nat.zero_le, Nat.reduceAdd, Nat.reduceLeDiff, Nat.reduceEqDiff, reduceIte, Nat.zero_add, if_true, if_false, Bool.false_eq_true, Bool.not_true, Bool.not_false, decide_true, decide_false, o_add, o_sub, o_neg, o_lt, o_le, o_gt, o_ge, o_eq, o_ne, o_isN, o_notN, isNon_non, isNon_int, isNon_tup, isNon_lst, o_idxL, o_idxT, o_lenL, o_lenT, o_lenS, o_listL, o_listT, o_tupleL, o_tupleT, o_int, o_intb, o_max2, o_min2, o_slL, o_slT, atD_0, atD_1, atD_2, atD_3, atD_4, atD_5, range_4, range_3, range_2, forD, B_law_lens_1, c0, c1, c2, eq_self, q1, q3]
        rfl
      · rw [if_neg (fun z => c2 z.2)] at e
        rw [e]
        show forD 5 B_law_lens_1 _ _ = _
        simp only [ev_seq, ev_set, ev_op1, ev_op2, ev_call, ev_cons, ev_nil, ev_c, ev_var, ev_tup, ev_lst, ev_cb, ev_fz, ev_lend, ev_and, ev_or, ev_not, ev_chain, ev_if, ev_bm, ev_get2, ev_ixO, ev_sl, ev_some, ev_none, ev_tval, ev_tand, ev_tor, ev_tnot, ev_irange1, ev_irange2, ev_sif, ev_next, ev_ret, ev_retO, ev_raise, ev_app, ev_put, ev_dput, ev_for, ev_while, ev_pub, pub_cons, pub_nil, ev_drop, ev_dnew, res_nx, res_rt, res_xc, R.bind_ok, R.bind_xc, R.out_ok, R.out_xc, Out.bind_nx, Out.bind_rt, Out.bind_xc, Sl.d_va, Sl.d_ow, Sl.frz_va, Sl.frz_ow, Sl.frz_no, List.getElem?_cons_succ, List.getElem?_cons_zero, List.set_cons_succ, List.set_cons_zero, List.length_cons, List.length_nil, List.map_cons, List.map_nil, lim_val, Nat.zero_le, Nat.reduceAdd, Nat.reduceLeDiff, Nat.reduceEqDiff, reduceIte, Nat.zero_add, if_true, if_false, Bool.false_eq_true, Bool.not_true, Bool.not_false, decide_true, decide_false, o_add, o_sub, o_neg, o_lt, o_le, o_gt, o_ge, o_eq, o_ne, o_isN, o_notN, isNon_non, isNon_int, isNon_tup, isNon_lst, o_idxL, o_idxT, o_lenL, o_lenT, o_lenS, o_listL, o_listT, o_tupleL, o_tupleT, o_int, o_intb, o_max2, o_min2, o_slL, o_slT, atD_0, atD_1, atD_2, atD_3, atD_4, atD_5, range_4, range_3, range_2, forD, B_law_lens_1, c0, c1, c2, eq_self, q1, q3]
  · rw [if_neg (fun z => c0 z.1), if_neg (fun z => c0 z.1)] at e
    rw [e]
    show forD 5 B_law_lens_1 _ _ = _
    simp only [ev_seq, ev_set, ev_op1, ev_op2, ev_call, ev_cons, ev_nil, ev_c, ev_var, ev_tup, ev_lst, ev_cb, ev_fz, ev_lend, ev_and, ev_or, ev_not, ev_chain, ev_if, ev_bm, ev_get2, ev_ixO, ev_sl, ev_some, ev_none, ev_tval, ev_tand, ev_tor, ev_tnot, ev_irange1, ev_irange2, ev_sif, ev_next, ev_ret, ev_retO, ev_raise, ev_app, ev_put, ev_dput, ev_for, ev_while, ev_pub, pub_cons, pub_nil, ev_drop, ev_dnew, res_nx, res_rt, res_xc, R.bind_ok, R.bind_xc, R.out_ok, R.out_xc, Out.bind_nx, Out.bind_rt, Out.bind_xc, Sl.d_va, Sl.d_ow, Sl.frz_va, Sl.frz_ow, Sl.frz_no, List.getElem?_cons_succ, List.getElem?_cons_zero, List.set_cons_succ, List.set_cons_zero, List.length_cons, List.length_nil, List.map_cons, List.map_nil, lim_val, Nat.zero_le, Nat.reduceAdd, Nat.reduceLeDiff, Nat.reduceEqDiff, reduceIte, Nat.zero_add, if_true, if_false, Bool.false_eq_true, Bool.not_true, Bool.not_false, decide_true, decide_false, o_add, o_sub, o_neg, o_lt, o_le, o_gt, o_ge, o_eq, o_ne, o_isN, o_notN, isNon_non, isNon_int, isNon_tup, isNon_lst, o_idxL, o_idxT, o_lenL, o_lenT, o_lenS, o_listL, o_listT, o_tupleL, o_tupleT, o_int, o_intb, o_max2, o_min2, o_slL, o_slT, atD_0, atD_1, atD_2, atD_3, atD_4, atD_5, range_4, range_3, range_2, forD, B_law_lens_1, c0]
theorem lens_ok {x y : List Int} (hx : x.length = 4) (hy : y.length = 4) : f_law_lens [encR x, encR y] = .ok (.ow (.lst (encRs ((apartP x y).getD [])))) := by
  unfold f_law_lens F_law_lens
  rw [fn_eq [.va (encR x), .va (encR y), .no, .no, .no, .no] rfl]
  have hit : ∀ (t : Int) (a b c : Sl), (t = 0 ∨ t = 1 ∨ t = 2 ∨ t = 3) → match tst (if 2 ≤ t then turnR x else x) (if t % 2 = 1 then turnR y else y) with
      | some ps => B_law_lens_2 [.va (encR x), .va (encR y), .va (.int t), a, b, c] = .rt (.ow (.lst (encRs ps)))
      | none => ∃ a' b' c', B_law_lens_2 [.va (encR x), .va (encR y), .va (.int t), a, b, c] = .nx [.va (encR x), .va (encR y), .va (.int t), a', b', c'] := by
    intro t a b c ht
    have hm : dMod (.int t) (.int 2) = .ok (.va (.int (t % 2))) := o_mod (by decide)
    have hx' : (if 2 ≤ t then turnR x else x).length = 4 := by split; exact turnR_len hx; exact hx
    have hy' : (if t % 2 = 1 then turnR y else y).length = 4 := by split; exact turnR_len hy; exact hy
    have hB : B_law_lens_2 [.va (encR x), .va (encR y), .va (.int t), a, b, c] = forD 5 B_law_lens_1 [.int 1, .int 3] [.va (encR x), .va (encR y), .va (.int t), .va (encR (if 2 ≤ t then turnR x else x)), .va (encR (if t % 2 = 1 then turnR y else y)), c] := by
      obtain ⟨x0, x1, x2, x3, rfl⟩ := four_of hx
      obtain ⟨y0, y1, y2, y3, rfl⟩ := four_of hy
      have ex : encR (turnR [x0, x1, x2, x3]) = encR [x2, x3, x0, x1] := rfl
      have ey : encR (turnR [y0, y1, y2, y3]) = encR [y2, y3, y0, y1] := rfl
      unfold B_law_lens_2
      by_cases c1 : 2 ≤ t
      · by_cases c2 : t % 2 = 1
        · rw [if_pos c1, if_pos c2, ex, ey]
          simp only [ev_seq, ev_set, ev_sif, ev_tval, ev_op2, ev_var, ev_c, ev_fz, ev_sl, ev_some, ev_none, ev_for, ev_iseq, ev_lst, ev_cons, ev_nil, List.getElem?_cons_succ, List.getElem?_cons_zero, List.set_cons_succ, List.set_cons_zero, R.bind_ok, R.out_ok, Out.bind_nx, Sl.d_va, Sl.d_ow, o_ge, o_eq, c1, hm, c2, decide_true, if_true, o_slT, cut_a, cut_b, add4, List.length_cons, List.length_nil, lim_val, Nat.zero_add, Nat.reduceAdd, Nat.reduceLeDiff]
        · rw [if_pos c1, if_neg c2, ex]
          simp only [ev_seq, ev_set, ev_sif, ev_tval, ev_op2, ev_var, ev_c, ev_fz, ev_sl, ev_some, ev_none, ev_for, ev_iseq, ev_lst, ev_cons, ev_nil, ev_next, List.getElem?_cons_succ, List.getElem?_cons_zero, List.set_cons_succ, List.set_cons_zero, R.bind_ok, R.out_ok, Out.bind_nx, Sl.d_va, Sl.d_ow, o_ge, o_eq, c1, hm, c2, decide_true, decide_false, if_true, Bool.false_eq_true, if_false, o_slT, cut_a, cut_b, add4, List.length_cons, List.length_nil, lim_val, Nat.zero_add, Nat.reduceAdd, Nat.reduceLeDiff]
      · by_cases c2 : t % 2 = 1
        · rw [if_neg c1, if_pos c2, ey]
          simp only [ev_seq, ev_set, ev_sif, ev_tval, ev_op2, ev_var, ev_c, ev_fz, ev_sl, ev_some, ev_none, ev_for, ev_iseq, ev_lst, ev_cons, ev_nil, ev_next, List.getElem?_cons_succ, List.getElem?_cons_zero, List.set_cons_succ, List.set_cons_zero, R.bind_ok, R.out_ok, Out.bind_nx, Sl.d_va, Sl.d_ow, o_ge, o_eq, c1, hm, c2, decide_true, decide_false, if_true, Bool.false_eq_true, if_false, o_slT, cut_a, cut_b, add4, List.length_cons, List.length_nil, lim_val, Nat.zero_add, Nat.reduceAdd, Nat.reduceLeDiff]
        · rw [if_neg c1, if_neg c2]
          simp only [ev_seq, ev_set, ev_sif, ev_tval, ev_op2, ev_var, ev_c, ev_fz, ev_sl, ev_some, ev_none, ev_for, ev_iseq, ev_lst, ev_cons, ev_nil, ev_next, List.getElem?_cons_succ, List.getElem?_cons_zero, List.set_cons_succ, List.set_cons_zero, R.bind_ok, R.out_ok, Out.bind_nx, Sl.d_va, Sl.d_ow, o_ge, o_eq, c1, hm, c2, decide_true, decide_false, if_true, Bool.false_eq_true, if_false, o_slT, cut_a, cut_b, add4, List.length_cons, List.length_nil, lim_val, Nat.zero_add, Nat.reduceAdd, Nat.reduceLeDiff]
    have L := lens_in (u := .va (encR x)) (v := .va (encR y)) (t := .va (.int t)) hx' hy' c
    rw [hB]
    cases q : tst (if 2 ≤ t then turnR x else x) (if t % 2 = 1 then turnR y else y) with
    | some ps => rw [q] at L; exact L
    | none => rw [q] at L; exact ⟨_, _, _, L⟩
  have L := forD_ret (j := 2) (b := B_law_lens_2) (enc := D.int) (fun e => ∃ t a b c, e = [.va (encR x), .va (encR y), t, a, b, c]) (fun t => (tst (if 2 ≤ t then turnR x else x) (if t % 2 = 1 then turnR y else y)).map fun ps => Sl.ow (.lst (encRs ps))) [0, 1, 2, 3] [.va (encR x), .va (encR y), .no, .no, .no, .no] ⟨_, _, _, _, rfl⟩
    (fun t e ht ⟨t0, a, b, c, he⟩ => by
      subst he
      have := hit t a b c (by simpa using ht)
      cases q : tst (if 2 ≤ t then turnR x else x) (if t % 2 = 1 then turnR y else y) with
      | some ps => rw [q] at this; exact this
      | none =>
        rw [q] at this
        obtain ⟨a', b', c', h⟩ := this
        exact ⟨_, h, _, _, _, _, rfl⟩)
  have e3 : ([0, 1, 2, 3] : List Int).findSome? (fun t => (tst (if 2 ≤ t then turnR x else x) (if t % 2 = 1 then turnR y else y)).map fun ps => Sl.ow (.lst (encRs ps))) = (apartP x y).map fun ps => Sl.ow (.lst (encRs ps)) := by
    unfold apartP
    simp only [List.findSome?_cons, List.findSome?_nil]
    have a1 : (if (2 : Int) ≤ 0 then turnR x else x) = x := if_neg (by decide)
    have a2 : (if (2 : Int) ≤ 1 then turnR x else x) = x := if_neg (by decide)
    have a3 : (if (2 : Int) ≤ 2 then turnR x else x) = turnR x := if_pos (by decide)
    have a4 : (if (2 : Int) ≤ 3 then turnR x else x) = turnR x := if_pos (by decide)
    have b1 : (if (0 : Int) % 2 = 1 then turnR y else y) = y := if_neg (by decide)
    have b2 : (if (1 : Int) % 2 = 1 then turnR y else y) = turnR y := if_pos (by decide)
    have b3 : (if (2 : Int) % 2 = 1 then turnR y else y) = y := if_neg (by decide)
    have b4 : (if (3 : Int) % 2 = 1 then turnR y else y) = turnR y := if_pos (by decide)
    rw [a1, a2, a3, a4, b1, b2, b3, b4]
    cases tst x y with
    | some ps => rfl
    | none =>
      cases tst x (turnR y) with
      | some ps => rfl
      | none =>
        cases tst (turnR x) y with
        | some ps => rfl
        | none => cases tst (turnR x) (turnR y) <;> rfl
  rw [e3] at L
  cases q : apartP x y with
  | some ps =>
    rw [q] at L
    simp only [Option.map_some, List.map_cons, List.map_nil] at L
    simp only [ev_seq, ev_set, ev_op1, ev_op2, ev_call, ev_cons, ev_nil, ev_c, ev_var, ev_tup, ev_lst, ev_cb, ev_fz, ev_lend, ev_and, ev_or, ev_not, ev_chain, ev_if, ev_bm, ev_get2, ev_ixO, ev_sl, ev_some, ev_none, ev_tval, ev_tand, ev_tor, ev_tnot, ev_irange1, ev_irange2, ev_sif, ev_next, ev_ret, ev_retO, ev_raise, ev_app, ev_put, ev_dput, ev_for, ev_while, ev_pub, pub_cons, pub_nil, ev_drop, ev_dnew, res_nx, res_rt, res_xc, R.bind_ok, R.bind_xc, R.out_ok, R.out_xc, Out.bind_nx, Out.bind_rt, Out.bind_xc, Sl.d_va, Sl.d_ow, Sl.frz_va, Sl.frz_ow, Sl.frz_no, List.getElem?_cons_succ, List.getElem?_cons_zero, List.set_cons_succ, List.set_cons_zero, List.length_cons, List.length_nil, List.map_cons, List.map_nil, lim_val, Nat.zero_le, Nat.reduceAdd, Nat.reduceLeDiff, Nat.reduceEqDiff, reduceIte, Nat.zero_add, if_true, if_false, Bool.false_eq_true, Bool.not_true, Bool.not_false, decide_true, decide_false, o_add, o_sub, o_neg, o_lt, o_le, o_gt, o_ge, o_eq, o_ne, o_isN, o_notN, isNon_non, isNon_int, isNon_tup, isNon_lst, o_idxL, o_idxT, o_lenL, o_lenT, o_lenS, o_listL, o_listT, o_tupleL, o_tupleT, o_int, o_intb, o_max2, o_min2, o_slL, o_slT, atD_0, atD_1, atD_2, atD_3, atD_4, atD_5, range_4, range_3, range_2, L, Option.getD_some]
  | none =>
    rw [q] at L
    simp only [Option.map_none, List.map_cons, List.map_nil] at L
    obtain ⟨e', h1, _⟩ := L
    simp only [ev_seq, ev_set, ev_op1, ev_op2, ev_call, ev_cons, ev_nil, ev_c, ev_var, ev_tup, ev_lst, ev_cb, ev_fz, ev_lend, ev_and, ev_or, ev_not, ev_chain, ev_if, ev_bm, ev_get2, ev_ixO, ev_sl, ev_some, ev_none, ev_tval, ev_tand, ev_tor, ev_tnot, ev_irange1, ev_irange2, ev_sif, ev_next, ev_ret, ev_retO, ev_raise, ev_app, ev_put, ev_dput, ev_for, ev_while, ev_pub, pub_cons, pub_nil, ev_drop, ev_dnew, res_nx, res_rt, res_xc, R.bind_ok, R.bind_xc, R.out_ok, R.out_xc, Out.bind_nx, Out.bind_rt, Out.bind_xc, Sl.d_va, Sl.d_ow, Sl.frz_va, Sl.frz_ow, Sl.frz_no, List.getElem?_cons_succ, List.getElem?_cons_zero, List.set_cons_succ, List.set_cons_zero, List.length_cons, List.length_nil, List.map_cons, List.map_nil, lim_val, Nat.zero_le, Nat.reduceAdd, Nat.reduceLeDiff, Nat.reduceEqDiff, reduceIte, Nat.zero_add, if_true, if_false, Bool.false_eq_true, Bool.not_true, Bool.not_false, decide_true, decide_false, o_add, o_sub, o_neg, o_lt, o_le, o_gt, o_ge, o_eq, o_ne, o_isN, o_notN, isNon_non, isNon_int, isNon_tup, isNon_lst, o_idxL, o_idxT, o_lenL, o_lenT, o_lenS, o_listL, o_listT, o_tupleL, o_tupleT, o_int, o_intb, o_max2, o_min2, o_slL, o_slT, atD_0, atD_1, atD_2, atD_3, atD_4, atD_5, range_4, range_3, range_2, h1, Option.getD_none]
/-! ### taken apart -/
theorem taken_apart_ok {rs : List (List Int)} {rings x y : Int} {ps : List (List Int)} (h4 : ∀ r ∈ rs, r.length = 4) (hl : rs.length ≤ 100) (hx : 0 ≤ x ∧ x < rs.length) (hy : 0 ≤ y ∧ y < rs.length) (hne : ¬ x = y) (hp : apartP (rs.getD x.toNat []) (rs.getD y.toNat []) = some ps) :
    f_taken_apart [encS rs rings, .int x, .int y] = .ok (.va (encS (numb (joinL (wo rs [x, y]) ps rings).1) (joinL (wo rs [x, y]) ps rings).2)) := by
  unfold f_taken_apart F_taken_apart
  rw [fn_eq [.va (encS rs rings), .va (.int x), .va (.int y), .no, .no, .no] rfl]
  have r1 := row_at_ok (rings := rings) hx
  have r2 := row_at_ok (rings := rings) hy
  have l1 : (rs.getD x.toNat []).length = 4 := by rw [getD_eq (by omega)]; exact h4 _ (List.getElem_mem _)
  have l2 : (rs.getD y.toNat []).length = 4 := by rw [getD_eq (by omega)]; exact h4 _ (List.getElem_mem _)
  have ha := apart_pairs_ok l1 l2
  rw [hp] at ha
  obtain ⟨p1, p2⟩ := apartP_ok hp
  have hw := without_ok (rs := rs) (gone := [x, y]) (by omega)
  have hw' : f_without [.tup (encRs rs), .lst [.int x, .int y]] = _ := hw
  have hj := joined_ok (a := .lst (encRs (wo rs [x, y]))) (b := .lst (encRs ps)) (rings := rings) (.inl rfl) (.inl rfl) (wo_four h4) p1 (Nat.le_trans (wo_len _ _) (by omega)) (by omega)
  simp only [ev_seq, ev_set, ev_op1, ev_op2, ev_call, ev_cons, ev_nil, ev_c, ev_var, ev_tup, ev_lst, ev_cb, ev_fz, ev_lend, ev_and, ev_or, ev_not, ev_chain, ev_if, ev_bm, ev_get2, ev_ixO, ev_sl, ev_some, ev_none, ev_tval, ev_tand, ev_tor, ev_tnot, ev_irange1, ev_irange2, ev_sif, ev_next, ev_ret, ev_retO, ev_raise, ev_app, ev_put, ev_dput, ev_for, ev_while, ev_pub, pub_cons, pub_nil, ev_drop, ev_dnew, res_nx, res_rt, res_xc, R.bind_ok, R.bind_xc, R.out_ok, R.out_xc, Out.bind_nx, Out.bind_rt, Out.bind_xc, Sl.d_va, Sl.d_ow, Sl.frz_va, Sl.frz_ow, Sl.frz_no, List.getElem?_cons_succ, List.getElem?_cons_zero, List.set_cons_succ, List.set_cons_zero, List.length_cons, List.length_nil, List.map_cons, List.map_nil, lim_val, Nat.zero_le, Nat.reduceAdd, Nat.reduceLeDiff, Nat.reduceEqDiff, reduceIte, Nat.zero_add, if_true, if_false, Bool.false_eq_true, Bool.not_true, Bool.not_false, decide_true, decide_false, o_add, o_sub, o_neg, o_lt, o_le, o_gt, o_ge, o_eq, o_ne, o_isN, o_notN, isNon_non, isNon_int, isNon_tup, isNon_lst, o_idxL, o_idxT, o_lenL, o_lenT, o_lenS, o_listL, o_listT, o_tupleL, o_tupleT, o_int, o_intb, o_max2, o_min2, o_slL, o_slT, atD_0, atD_1, atD_2, atD_3, atD_4, atD_5, range_4, range_3, range_2, r1, r2, hne, ha, hw', hj]
theorem taken_apart_place {rs : List (List Int)} {rings x y : Int} (h : ¬ ((0 ≤ x ∧ x < rs.length) ∧ (0 ≤ y ∧ y < rs.length))) : f_taken_apart [encS rs rings, .int x, .int y] = .xc 2 := by
  unfold f_taken_apart F_taken_apart
  rw [fn_eq [.va (encS rs rings), .va (.int x), .va (.int y), .no, .no, .no] rfl]
  by_cases hx : 0 ≤ x ∧ x < rs.length
  · have r1 := row_at_ok (rings := rings) hx
    have r2 := row_at_no (rings := rings) (at_ := y) (rs := rs) (fun z => h ⟨hx, z⟩)
    simp only [ev_seq, ev_set, ev_op1, ev_op2, ev_call, ev_cons, ev_nil, ev_c, ev_var, ev_tup, ev_lst, ev_cb, ev_fz, ev_lend, ev_and, ev_or, ev_not, ev_chain, ev_if, ev_bm, ev_get2, ev_ixO, ev_sl, ev_some, ev_none, ev_tval, ev_tand, ev_tor, ev_tnot, ev_irange1, ev_irange2, ev_sif, ev_next, ev_ret, ev_retO, ev_raise, ev_app, ev_put, ev_dput, ev_for, ev_while, ev_pub, pub_cons, pub_nil, ev_drop, ev_dnew, res_nx, res_rt, res_xc, R.bind_ok, R.bind_xc, R.out_ok, R.out_xc, Out.bind_nx, Out.bind_rt, Out.bind_xc, Sl.d_va, Sl.d_ow, Sl.frz_va, Sl.frz_ow, Sl.frz_no, List.getElem?_cons_succ, List.getElem?_cons_zero, List.set_cons_succ, List.set_cons_zero, List.length_cons, List.length_nil, List.map_cons, List.map_nil, lim_val, Nat.zero_le, Nat.reduceAdd, Nat.reduceLeDiff, Nat.reduceEqDiff, reduceIte, Nat.zero_add, if_true, if_false, Bool.false_eq_true, Bool.not_true, Bool.not_false, decide_true, decide_false, o_add, o_sub, o_neg, o_lt, o_le, o_gt, o_ge, o_eq, o_ne, o_isN, o_notN, isNon_non, isNon_int, isNon_tup, isNon_lst, o_idxL, o_idxT, o_lenL, o_lenT, o_lenS, o_listL, o_listT, o_tupleL, o_tupleT, o_int, o_intb, o_max2, o_min2, o_slL, o_slT, atD_0, atD_1, atD_2, atD_3, atD_4, atD_5, range_4, range_3, range_2, r1, r2]
  · have r1 := row_at_no (rings := rings) hx
    simp only [ev_seq, ev_set, ev_op1, ev_op2, ev_call, ev_cons, ev_nil, ev_c, ev_var, ev_tup, ev_lst, ev_cb, ev_fz, ev_lend, ev_and, ev_or, ev_not, ev_chain, ev_if, ev_bm, ev_get2, ev_ixO, ev_sl, ev_some, ev_none, ev_tval, ev_tand, ev_tor, ev_tnot, ev_irange1, ev_irange2, ev_sif, ev_next, ev_ret, ev_retO, ev_raise, ev_app, ev_put, ev_dput, ev_for, ev_while, ev_pub, pub_cons, pub_nil, ev_drop, ev_dnew, res_nx, res_rt, res_xc, R.bind_ok, R.bind_xc, R.out_ok, R.out_xc, Out.bind_nx, Out.bind_rt, Out.bind_xc, Sl.d_va, Sl.d_ow, Sl.frz_va, Sl.frz_ow, Sl.frz_no, List.getElem?_cons_succ, List.getElem?_cons_zero, List.set_cons_succ, List.set_cons_zero, List.length_cons, List.length_nil, List.map_cons, List.map_nil, lim_val, Nat.zero_le, Nat.reduceAdd, Nat.reduceLeDiff, Nat.reduceEqDiff, reduceIte, Nat.zero_add, if_true, if_false, Bool.false_eq_true, Bool.not_true, Bool.not_false, decide_true, decide_false, o_add, o_sub, o_neg, o_lt, o_le, o_gt, o_ge, o_eq, o_ne, o_isN, o_notN, isNon_non, isNon_int, isNon_tup, isNon_lst, o_idxL, o_idxT, o_lenL, o_lenT, o_lenS, o_listL, o_listT, o_tupleL, o_tupleT, o_int, o_intb, o_max2, o_min2, o_slL, o_slT, atD_0, atD_1, atD_2, atD_3, atD_4, atD_5, range_4, range_3, range_2, r1]
theorem taken_apart_move {rs : List (List Int)} {rings x y : Int} (h4 : ∀ r ∈ rs, r.length = 4) (hx : 0 ≤ x ∧ x < rs.length) (hy : 0 ≤ y ∧ y < rs.length) (h : x = y ∨ apartP (rs.getD x.toNat []) (rs.getD y.toNat []) = none) : f_taken_apart [encS rs rings, .int x, .int y] = .xc 3 := by
  unfold f_taken_apart F_taken_apart
  rw [fn_eq [.va (encS rs rings), .va (.int x), .va (.int y), .no, .no, .no] rfl]
  have r1 := row_at_ok (rings := rings) hx
  have r2 := row_at_ok (rings := rings) hy
  by_cases c : x = y
  · subst c
    simp only [ev_seq, ev_set, ev_op1, ev_op2, ev_call, ev_cons, ev_nil, ev_c, ev_var, ev_tup, ev_lst, ev_cb, ev_fz, ev_lend, ev_and, ev_or, ev_not, ev_chain, ev_if, ev_bm, ev_get2, ev_ixO, ev_sl, ev_some, ev_none, ev_tval, ev_tand, ev_tor, ev_tnot, ev_irange1, ev_irange2, ev_sif, ev_next, ev_ret, ev_retO, ev_raise, ev_app, ev_put, ev_dput, ev_for, ev_while, ev_pub, pub_cons, pub_nil, ev_drop, ev_dnew, res_nx, res_rt, res_xc, R.bind_ok, R.bind_xc, R.out_ok, R.out_xc, Out.bind_nx, Out.bind_rt, Out.bind_xc, Sl.d_va, Sl.d_ow, Sl.frz_va, Sl.frz_ow, Sl.frz_no, List.getElem?_cons_succ, List.getElem?_cons_zero, List.set_cons_succ, List.set_cons_zero, List.length_cons, List.length_nil, List.map_cons, List.map_nil, lim_val, Nat.zero_le, Nat.reduceAdd, Nat.reduceLeDiff, Nat.reduceEqDiff, reduceIte, Nat.zero_add, if_true, if_false, Bool.false_eq_true, Bool.not_true, Bool.not_false, decide_true, decide_false, o_add, o_sub, o_neg, o_lt, o_le, o_gt, o_ge, o_eq, o_ne, o_isN, o_notN, isNon_non, isNon_int, isNon_tup, isNon_lst, o_idxL, o_idxT, o_lenL, o_lenT, o_lenS, o_listL, o_listT, o_tupleL, o_tupleT, o_int, o_intb, o_max2, o_min2, o_slL, o_slT, atD_0, atD_1, atD_2, atD_3, atD_4, atD_5, range_4, range_3, range_2, r1, eq_self]
  · have hp := h.resolve_left c
    have l1 : (rs.getD x.toNat []).length = 4 := by rw [getD_eq (by omega)]; exact h4 _ (List.getElem_mem _)
    have l2 : (rs.getD y.toNat []).length = 4 := by rw [getD_eq (by omega)]; exact h4 _ (List.getElem_mem _)
    have ha := apart_pairs_ok l1 l2
    rw [hp] at ha
    simp only [ev_seq, ev_set, ev_op1, ev_op2, ev_call, ev_cons, ev_nil, ev_c, ev_var, ev_tup, ev_lst, ev_cb, ev_fz, ev_lend, ev_and, ev_or, ev_not, ev_chain, ev_if, ev_bm, ev_get2, ev_ixO, ev_sl, ev_some, ev_none, ev_tval, ev_tand, ev_tor, ev_tnot, ev_irange1, ev_irange2, ev_sif, ev_next, ev_ret, ev_retO, ev_raise, ev_app, ev_put, ev_dput, ev_for, ev_while, ev_pub, pub_cons, pub_nil, ev_drop, ev_dnew, res_nx, res_rt, res_xc, R.bind_ok, R.bind_xc, R.out_ok, R.out_xc, Out.bind_nx, Out.bind_rt, Out.bind_xc, Sl.d_va, Sl.d_ow, Sl.frz_va, Sl.frz_ow, Sl.frz_no, List.getElem?_cons_succ, List.getElem?_cons_zero, List.set_cons_succ, List.set_cons_zero, List.length_cons, List.length_nil, List.map_cons, List.map_nil, lim_val, Nat.zero_le, Nat.reduceAdd, Nat.reduceLeDiff, Nat.reduceEqDiff, reduceIte, Nat.zero_add, if_true, if_false, Bool.false_eq_true, Bool.not_true, Bool.not_false, decide_true, decide_false, o_add, o_sub, o_neg, o_lt, o_le, o_gt, o_ge, o_eq, o_ne, o_isN, o_notN, isNon_non, isNon_int, isNon_tup, isNon_lst, o_idxL, o_idxT, o_lenL, o_lenT, o_lenS, o_listL, o_listT, o_tupleL, o_tupleT, o_int, o_intb, o_max2, o_min2, o_slL, o_slT, atD_0, atD_1, atD_2, atD_3, atD_4, atD_5, range_4, range_3, range_2, r1, r2, c, ha]
end DL
set_option maxRecDepth 100000
/-! M20: a curl taken out, two crossings taken apart: drawn sheets, colourings -/
namespace DL
open PySem (Str)
theorem range_get (rs : List (List Int)) : ((List.range rs.length).map fun k => rs.getD k []) = rs := by
  apply List.ext_getElem
  · rw [List.length_map, List.length_range]
  · intro i h1 h2
    rw [List.getElem_map, List.getElem_range, getD_eq h2]
theorem perm_wo1 {rs : List (List Int)} {a : Int} (h : 0 ≤ a ∧ a < rs.length) : rs.Perm (rs.getD a.toNat [] :: wo rs [a]) := by
  have hp : (List.range rs.length).Perm (a.toNat :: (List.range rs.length).filter fun (k : Nat) => !decide ((k : Int) ∈ [a])) := by
    refine (List.perm_ext_iff_of_nodup List.nodup_range (List.nodup_cons.mpr ⟨fun z => ?_, List.nodup_range.filter _⟩)).mpr fun k => ?_
    · have := (List.mem_filter.mp z).2
      simp only [Bool.not_eq_true', decide_eq_false_iff_not, List.mem_singleton] at this
      omega
    · rw [List.mem_cons, List.mem_filter, List.mem_range]
      simp only [Bool.not_eq_true', decide_eq_false_iff_not, List.mem_singleton]
      omega
  have h2 := hp.map fun k => rs.getD k []
  rw [range_get, List.map_cons] at h2
  exact h2
theorem perm_wo2 {rs : List (List Int)} {a b : Int} (h : 0 ≤ a ∧ a < rs.length) (h2 : 0 ≤ b ∧ b < rs.length) (hne : a ≠ b) : rs.Perm (rs.getD a.toNat [] :: rs.getD b.toNat [] :: wo rs [a, b]) := by
  have hp : (List.range rs.length).Perm (a.toNat :: b.toNat :: (List.range rs.length).filter fun (k : Nat) => !decide ((k : Int) ∈ [a, b])) := by
    refine (List.perm_ext_iff_of_nodup List.nodup_range (List.nodup_cons.mpr ⟨fun z => ?_, List.nodup_cons.mpr ⟨fun z => ?_, List.nodup_range.filter _⟩⟩)).mpr fun k => ?_
    · rcases List.mem_cons.mp z with z | z
      · omega
      · have := (List.mem_filter.mp z).2
        simp only [Bool.not_eq_true', decide_eq_false_iff_not, List.mem_cons, List.not_mem_nil, or_false, not_or] at this
        omega
    · have := (List.mem_filter.mp z).2
      simp only [Bool.not_eq_true', decide_eq_false_iff_not, List.mem_cons, List.not_mem_nil, or_false, not_or] at this
      omega
    · rw [List.mem_cons, List.mem_cons, List.mem_filter, List.mem_range]
      simp only [Bool.not_eq_true', decide_eq_false_iff_not, List.mem_cons, List.not_mem_nil, or_false, not_or]
      omega
  have h3 := hp.map fun k => rs.getD k []
  rw [range_get, List.map_cons, List.map_cons] at h3
  exact h3
theorem perm_flat {as bs : List (List Int)} (h : as.Perm bs) (v : Int) : as.flatten.count v = bs.flatten.count v := (List.Perm.flatten h).count_eq v
/-- what no row and no pair names may be told otherwise -/
theorem rest_up {rs ps : List (List Int)} {p : Nat} {d : Int → Int} {a x : Int} (h4 : ∀ r ∈ rs, r.length = 4) (h2 : ∀ q ∈ ps, q.length = 2) (n1 : a ∉ rs.flatten) (n2 : a ∉ ps.flatten) :
    ((∀ r ∈ rs, fitC r p (up1 d a x)) ∧ eqsP (up1 d a x) ps) ↔ ((∀ r ∈ rs, fitC r p d) ∧ eqsP d ps) := by
  rw [fits_up fun r hr => ⟨h4 r hr, fun z => n1 (List.mem_flatten.mpr ⟨r, hr, z⟩)⟩]
  refine and_congr_right fun _ => ?_
  unfold eqsP
  refine forall_congr' fun q => forall_congr' fun hq => ?_
  obtain ⟨u, v, rfl⟩ := two_of (h2 q hq)
  have hu : ¬ u = a := fun z => n2 (List.mem_flatten.mpr ⟨_, hq, by simp [z]⟩)
  have hv : ¬ v = a := fun z => n2 (List.mem_flatten.mpr ⟨_, hq, by simp [z]⟩)
  simp only [List.getD_cons_zero, List.getD_cons_succ]
  rw [up1_ne hu, up1_ne hv]
/-! ### a curl -/
theorem twin_fit {r : List Int} (hr : r.length = 4) {k : Nat} (h : twin r = some k) : ∃ l u v, curlP r k = [u, v] ∧ l = r.getD k 0 ∧ (∀ w, r.count w = (if w = l then 2 else 0) + [u, v].count w) ∧ (l ∈ r ∧ u ∈ r ∧ v ∈ r) ∧
    ∀ (p : Nat) (e : Int → Int), (∀ z ∈ r, 0 ≤ e z ∧ e z < p) → (fitC r p e ↔ (e l = e u ∧ e u = e v)) := by
  obtain ⟨a, b, c, d, rfl⟩ := four_of hr
  unfold twin at h
  simp only [List.getD_cons_zero, List.getD_cons_succ] at h
  unfold curlP fitC
  split at h
  · rename_i q
    cases h
    subst q
    refine ⟨a, c, d, rfl, rfl, fun w => ?_, ⟨by simp, by simp, by simp⟩, fun p e he => ?_⟩
    · simp only [List.count_cons, List.count_nil, beq_iff_eq]
      grind
    · have ha := he a (by simp)
      have hc := he c (by simp)
      simp only [List.getD_cons_zero, List.getD_cons_succ]
      rw [show 2 * e a - e a - e c = e a - e c by omega, small_dvd ha hc]
      omega
  · split at h
    · rename_i q
      cases h
      subst q
      refine ⟨b, d, a, rfl, rfl, fun w => ?_, ⟨by simp, by simp, by simp⟩, fun p e he => ?_⟩
      · simp only [List.count_cons, List.count_nil, beq_iff_eq]
        grind
      · have ha := he a (by simp)
        have hb := he b (by simp)
        simp only [List.getD_cons_zero, List.getD_cons_succ]
        rw [show 2 * e b - e a - e b = e b - e a by omega, small_dvd hb ha]
        omega
    · split at h
      · rename_i q
        cases h
        subst q
        refine ⟨c, a, b, rfl, rfl, fun w => ?_, ⟨by simp, by simp, by simp⟩, fun p e he => ?_⟩
        · simp only [List.count_cons, List.count_nil, beq_iff_eq]
          grind
        · have ha := he a (by simp)
          have hc := he c (by simp)
          simp only [List.getD_cons_zero, List.getD_cons_succ]
          constructor
          · rintro ⟨h1, h2⟩
            rw [show 2 * e b - e a - e c = e c - e a by omega, small_dvd hc ha] at h2
            omega
          · rintro ⟨h1, h2⟩
            refine ⟨by omega, ?_⟩
            rw [show 2 * e b - e a - e c = 0 by omega]
            exact ⟨0, by omega⟩
      · split at h
        · rename_i q
          cases h
          subst q
          refine ⟨d, b, c, rfl, rfl, fun w => ?_, ⟨by simp, by simp, by simp⟩, fun p e he => ?_⟩
          · simp only [List.count_cons, List.count_nil, beq_iff_eq]
            grind
          · have hc := he c (by simp)
            have hd := he d (by simp)
            simp only [List.getD_cons_zero, List.getD_cons_succ]
            constructor
            · rintro ⟨h1, h2⟩
              rw [show 2 * e b - e d - e c = e d - e c by omega, small_dvd hd hc] at h2
              omega
            · rintro ⟨h1, h2⟩
              refine ⟨by omega, ?_⟩
              rw [show 2 * e b - e d - e c = 0 by omega]
              exact ⟨0, by omega⟩
        · cases h
theorem lin_iff {m : Nat} {v : Int} : v ∈ lin 0 (2 * m) ↔ 0 ≤ v ∧ v < 2 * (m : Int) := by
  rw [mem_lin]
  omega
theorem drawn_cnt {m : Nat} {rs : List (List Int)} (h : Drawn m rs) (v : Int) : rs.flatten.count v = if v ∈ lin 0 (2 * m) then 2 else 0 := by
  rw [h.two v]
  by_cases c : 0 ≤ v ∧ v < 2 * (m : Int)
  · rw [if_pos c, if_pos (lin_iff.mpr c)]
  · rw [if_neg c, if_neg (fun z => c (lin_iff.mp z))]
theorem wo_mem {rs : List (List Int)} {gone : List Int} (h4 : ∀ r ∈ rs, r.length = 4) : ∀ r ∈ wo rs gone, r.length = 4 := wo_four h4
theorem uncurl_sys {m : Nat} {rs : List (List Int)} {at_ : Int} {k : Nat} (h : Drawn m rs) (ha : 0 ≤ at_ ∧ at_ < rs.length) (hk : twin (rs.getD at_.toNat []) = some k) :
    ∃ ns, Sys ns (wo rs [at_]) [curlP (rs.getD at_.toNat []) k] ∧ ∀ p, colC p (lin 0 (2 * m)) rs = colP p ns (wo rs [at_]) [curlP (rs.getD at_.toNat []) k] := by
  have hrow : (rs.getD at_.toNat []).length = 4 := by rw [getD_eq (by omega)]; exact h.four _ (List.getElem_mem _)
  have hperm := perm_wo1 (rs := rs) ha
  have h4 : ∀ r ∈ wo rs [at_], r.length = 4 := wo_four h.four
  generalize rs.getD at_.toNat [] = row at *
  generalize wo rs [at_] = rest at *
  obtain ⟨l, u, v, hcp, _, hcnt, ⟨hl, hu, hv⟩, hfit⟩ := twin_fit hrow hk
  rw [hcp]
  have hin : ∀ z ∈ row, z ∈ lin 0 (2 * m) := fun z hz => lin_iff.mpr (drawn_mem h (hperm.flatten.mem_iff.mpr (by rw [List.flatten_cons]; exact List.mem_append_left _ hz)))
  have hc : ∀ w, row.count w + rest.flatten.count w = if w ∈ lin 0 (2 * m) then 2 else 0 := fun w => by
    rw [← drawn_cnt h w, perm_flat hperm w, List.flatten_cons, List.count_append]
  have hl2 := hc l
  rw [if_pos (hin l hl), hcnt l, if_pos rfl] at hl2
  have n1 : l ∉ rest.flatten := fun z => by have := List.count_pos_iff.mpr z; omega
  have n2 : l ∉ [u, v] := fun z => by have := List.count_pos_iff.mpr z; omega
  have nd := lin_nodup (2 * m) 0
  generalize lin 0 (2 * m) = ns at *
  refine ⟨ns.erase l, ⟨nd.erase l, h4, fun q hq => by rw [List.mem_singleton] at hq; subst hq; rfl, fun w => ?_⟩, fun p => ?_⟩
  · have me : w ∈ ns.erase l ↔ w ≠ l ∧ w ∈ ns := List.Nodup.mem_erase_iff nd
    have hw := hc w
    rw [hcnt w] at hw
    have e0 : ([[u, v]] : List (List Int)).flatten = [u, v] := by simp
    rw [e0]
    by_cases e : w = l
    · subst e
      rw [if_neg (fun z => (me.mp z).1 rfl)]
      rw [List.count_eq_zero_of_not_mem n1, List.count_eq_zero_of_not_mem n2]
    · rw [if_neg e] at hw
      by_cases hm : w ∈ ns
      · rw [if_pos hm] at hw
        rw [if_pos (me.mpr ⟨e, hm⟩)]
        omega
      · rw [if_neg hm] at hw
        rw [if_neg (fun z => hm (me.mp z).2)]
        omega
  · unfold colC colP
    rw [NF_perm (List.perm_cons_erase (hin l hl)) nd]
    have hne : l ∉ ns.erase l := fun z => (List.Nodup.mem_erase_iff nd).mp z |>.1 rfl
    have hue : u ∈ ns.erase l := (List.Nodup.mem_erase_iff nd).mpr ⟨fun z => n2 (by simp [z]), hin u hu⟩
    rw [NF_congr (G := fun d => ind (d l = d u ∧ ((∀ r ∈ rest, fitC r p d) ∧ eqsP d [[u, v]]))) _ _ fun d hd _ => ?_]
    · refine NF_set (fun d => d u) hne (fun d hd => hd u hue) (fun d x => up1_ne fun z => n2 (by simp [z])) fun d x => rest_up h4 (fun q hq => by rw [List.mem_singleton] at hq; subst hq; rfl) n1 (by simpa using n2)
    · refine ind_congr ?_
      have hd2 : ∀ z ∈ row, 0 ≤ d z ∧ d z < p := fun z hz => hd z ((List.perm_cons_erase (hin l hl)).mem_iff.mp (hin z hz))
      have hf := hfit p d hd2
      constructor
      · intro hall
        obtain ⟨f1, f2⟩ := hf.mp (hall row (hperm.mem_iff.mpr List.mem_cons_self))
        refine ⟨f1, fun r hr => hall r (hperm.mem_iff.mpr (List.mem_cons_of_mem _ hr)), fun q hq => ?_⟩
        rw [List.mem_singleton] at hq
        subst hq
        exact f2
      · rintro ⟨f1, f2, f3⟩ r hr
        rcases List.mem_cons.mp (hperm.mem_iff.mp hr) with rfl | z
        · exact hf.mpr ⟨f1, f3 _ (List.mem_singleton_self _)⟩
        · exact f2 r z
/-! ### two crossings that come apart -/
theorem turn_count {r : List Int} (h : r.length = 4) (w : Int) : (turnR r).count w = r.count w := by
  obtain ⟨a, b, c, d, rfl⟩ := four_of h
  show [c, d, a, b].count w = _
  simp only [List.count_cons, List.count_nil]
  omega
theorem turn_mem {r : List Int} (h : r.length = 4) {w : Int} : w ∈ turnR r ↔ w ∈ r := by
  rw [← List.count_pos_iff, turn_count h, List.count_pos_iff]
theorem turn_fit {r : List Int} (h : r.length = 4) {p : Nat} {e : Int → Int} : fitC (turnR r) p e ↔ fitC r p e := by
  obtain ⟨a, b, c, d, rfl⟩ := four_of h
  show fitC [c, d, a, b] p e ↔ _
  unfold fitC
  simp only [List.getD_cons_zero, List.getD_cons_succ]
  constructor
  · rintro ⟨h1, h2⟩
    exact ⟨h1.symm, by rw [← h1, show 2 * e d - e a - e c = 2 * e d - e c - e a by omega]; exact h2⟩
  · rintro ⟨h1, h2⟩
    exact ⟨h1.symm, by rw [← h1, show 2 * e b - e c - e a = 2 * e b - e a - e c by omega]; exact h2⟩
theorem lens_key {p : Nat} {C A B T : Int} (hA : 0 ≤ A ∧ A < p) (hB : 0 ≤ B ∧ B < p) (hT : 0 ≤ T ∧ T < p) : ((p : Int) ∣ 2 * C - A - T ∧ (p : Int) ∣ 2 * C - T - B) ↔ (T = (2 * C - A) % (p : Int) ∧ A = B) := by
  rw [dvd_lin hT, dvd_lin hB]
  constructor
  · rintro ⟨h1, h2⟩
    refine ⟨h1, ?_⟩
    rw [h2, h1]
    have e2 : 2 * C - (2 * C - A) % (p : Int) = A + p * ((2 * C - A) / p) := by rw [Int.emod_def]; omega
    rw [e2, Int.add_mul_emod_self_left, Int.emod_eq_of_lt hA.1 hA.2]
  · rintro ⟨h1, h2⟩
    refine ⟨h1, ?_⟩
    subst h2
    rw [h1]
    have e2 : 2 * C - (2 * C - A) % (p : Int) = A + p * ((2 * C - A) / p) := by rw [Int.emod_def]; omega
    rw [e2, Int.add_mul_emod_self_left, Int.emod_eq_of_lt hA.1 hA.2]
/-- s, t the lines between; a with b and g with h are joined -/
def LensOf (x y : List Int) (ps : List (List Int)) (s t a b g h : Int) : Prop := ps = [[a, b], [g, h]] ∧ (∀ w, x.count w + y.count w = (if w = s then 2 else 0) + (if w = t then 2 else 0) + ([a, b].count w + [g, h].count w)) ∧
  ∀ (p : Nat) (e : Int → Int), (∀ z, z ∈ x ∨ z ∈ y → 0 ≤ e z ∧ e z < p) → ((fitC x p e ∧ fitC y p e) ↔ (e s = e g ∧ e t = (2 * e g - e a) % (p : Int) ∧ e a = e b ∧ e g = e h))
theorem tst_fit {x y : List Int} {ps : List (List Int)} (hx : x.length = 4) (hy : y.length = 4) (h : tst x y = some ps) : ∃ s t a b g hh, LensOf x y ps s t a b g hh := by
  obtain ⟨x0, x1, x2, x3, rfl⟩ := four_of hx
  obtain ⟨y0, y1, y2, y3, rfl⟩ := four_of hy
  unfold tst at h
  simp only at h
  split at h
  · rename_i q
    cases h
    obtain ⟨q1, q2⟩ := q
    subst q1 q2
    refine ⟨x1, x2, x0, y2, x3, y3, rfl, fun w => ?_, fun p e he => ?_⟩
    · simp only [List.count_cons, List.count_nil, beq_iff_eq]
      grind
    · unfold fitC
      simp only [List.getD_cons_zero, List.getD_cons_succ]
      have k := lens_key (C := e x1) (he x0 (by simp)) (he y2 (by simp)) (he x2 (by simp))
      constructor
      · rintro ⟨⟨h1, h2⟩, h3, h4⟩
        obtain ⟨k1, k2⟩ := k.mp ⟨h2, h4⟩
        exact ⟨h1, by rw [← h1]; exact k1, k2, by rw [← h1, h3]⟩
      · rintro ⟨h1, h2, h3, h4⟩
        obtain ⟨k1, k2⟩ := k.mpr ⟨by rw [h1]; exact h2, h3⟩
        exact ⟨⟨h1, k1⟩, by rw [h1, h4], k2⟩
  · split at h
    · rename_i q
      cases h
      obtain ⟨q1, q2⟩ := q
      subst q1 q2
      refine ⟨x3, x2, x0, y2, x1, y1, rfl, fun w => ?_, fun p e he => ?_⟩
      · simp only [List.count_cons, List.count_nil, beq_iff_eq]
        grind
      · unfold fitC
        simp only [List.getD_cons_zero, List.getD_cons_succ]
        have k := lens_key (C := e x1) (he x0 (by simp)) (he y2 (by simp)) (he x2 (by simp))
        constructor
        · rintro ⟨⟨h1, h2⟩, h3, h4⟩
          obtain ⟨k1, k2⟩ := k.mp ⟨h2, by rw [h1, ← h3]; exact h4⟩
          exact ⟨h1.symm, k1, k2, by rw [h1, h3]⟩
        · rintro ⟨h1, h2, h3, h4⟩
          obtain ⟨k1, k2⟩ := k.mpr ⟨h2, h3⟩
          exact ⟨⟨h1.symm, k1⟩, by rw [← h4, h1], by rw [← h4]; exact k2⟩
    · cases h
theorem lens_fit {x y : List Int} {ps : List (List Int)} (hx : x.length = 4) (hy : y.length = 4) (h : apartP x y = some ps) : ∃ s t a b g hh, LensOf x y ps s t a b g hh := by
  unfold apartP at h
  obtain ⟨x', m1, h1⟩ := List.exists_of_findSome?_eq_some h
  obtain ⟨y', m2, h2⟩ := List.exists_of_findSome?_eq_some h1
  simp only [List.mem_cons, List.not_mem_nil, or_false] at m1 m2
  have kx : x'.length = 4 ∧ (∀ w, x'.count w = x.count w) ∧ (∀ w, w ∈ x' ↔ w ∈ x) ∧ ∀ (p : Nat) (e : Int → Int), fitC x' p e ↔ fitC x p e := by
    rcases m1 with rfl | rfl
    · exact ⟨hx, fun _ => rfl, fun _ => Iff.rfl, fun _ _ => Iff.rfl⟩
    · exact ⟨turnR_len hx, turn_count hx, fun _ => turn_mem hx, fun _ _ => turn_fit hx⟩
  have ky : y'.length = 4 ∧ (∀ w, y'.count w = y.count w) ∧ (∀ w, w ∈ y' ↔ w ∈ y) ∧ ∀ (p : Nat) (e : Int → Int), fitC y' p e ↔ fitC y p e := by
    rcases m2 with rfl | rfl
    · exact ⟨hy, fun _ => rfl, fun _ => Iff.rfl, fun _ _ => Iff.rfl⟩
    · exact ⟨turnR_len hy, turn_count hy, fun _ => turn_mem hy, fun _ _ => turn_fit hy⟩
  obtain ⟨s, t, a, b, g, hh, e1, e2, e3⟩ := tst_fit kx.1 ky.1 h2
  refine ⟨s, t, a, b, g, hh, e1, fun w => ?_, fun p e he => ?_⟩
  · rw [← kx.2.1, ← ky.2.1]
    exact e2 w
  · rw [← kx.2.2.2, ← ky.2.2.2]
    exact e3 p e fun z hz => he z (by rw [← kx.2.2.1, ← ky.2.2.1]; exact hz)
theorem apart_sys {m : Nat} {rs : List (List Int)} {x y : Int} {ps : List (List Int)} (h : Drawn m rs) (hx : 0 ≤ x ∧ x < rs.length) (hy : 0 ≤ y ∧ y < rs.length) (hne : x ≠ y) (hp : apartP (rs.getD x.toNat []) (rs.getD y.toNat []) = some ps) :
    ∃ ns, Sys ns (wo rs [x, y]) ps ∧ ∀ p, 0 < p → colC p (lin 0 (2 * m)) rs = colP p ns (wo rs [x, y]) ps := by
  have l1 : (rs.getD x.toNat []).length = 4 := by rw [getD_eq (by omega)]; exact h.four _ (List.getElem_mem _)
  have l2 : (rs.getD y.toNat []).length = 4 := by rw [getD_eq (by omega)]; exact h.four _ (List.getElem_mem _)
  have hperm := perm_wo2 (rs := rs) hx hy hne
  have h4 : ∀ r ∈ wo rs [x, y], r.length = 4 := wo_four h.four
  generalize rs.getD x.toNat [] = X at *
  generalize rs.getD y.toNat [] = Y at *
  generalize wo rs [x, y] = rest at *
  obtain ⟨s, t, a, b, g, hh, rfl, hcnt, hfit⟩ := lens_fit l1 l2 hp
  have hin : ∀ z, z ∈ X ∨ z ∈ Y → z ∈ lin 0 (2 * m) := fun z hz => lin_iff.mpr (drawn_mem h (hperm.flatten.mem_iff.mpr (by
    rw [List.flatten_cons, List.flatten_cons, List.mem_append, List.mem_append]
    rcases hz with hz | hz
    · exact .inl hz
    · exact .inr (.inl hz))))
  have hc : ∀ w, X.count w + Y.count w + rest.flatten.count w = if w ∈ lin 0 (2 * m) then 2 else 0 := fun w => by
    rw [← drawn_cnt h w, perm_flat hperm w, List.flatten_cons, List.flatten_cons, List.count_append, List.count_append]
    omega
  have nd := lin_nodup (2 * m) 0
  generalize lin 0 (2 * m) = ns at *
  have mem_of : ∀ w, 0 < X.count w + Y.count w → w ∈ ns := fun w hw => by
    by_cases z : w ∈ ns
    · exact z
    · have := hc w
      rw [if_neg z] at this
      omega
  have hs1 := hcnt s
  have ht1 := hcnt t
  rw [if_pos rfl] at hs1 ht1
  have hsn := mem_of s (by omega)
  have htn := mem_of t (by omega)
  have hs2 := hc s
  have ht2 := hc t
  rw [if_pos hsn] at hs2
  rw [if_pos htn] at ht2
  have hst : ¬ s = t := fun z => by rw [if_pos z] at hs1; omega
  rw [if_neg hst] at hs1
  rw [if_neg (fun z => hst z.symm)] at ht1
  have inr : ∀ w, w ∈ [a, b] ∨ w ∈ [g, hh] → w ≠ s ∧ w ≠ t ∧ w ∈ ns := by
    intro w hw
    have hpos : 0 < [a, b].count w + [g, hh].count w := by
      rcases hw with hw | hw
      · have := List.count_pos_iff.mpr hw; omega
      · have := List.count_pos_iff.mpr hw; omega
    refine ⟨fun z => ?_, fun z => ?_, mem_of w (by rw [hcnt w]; omega)⟩
    · subst z; omega
    · subst z; omega
  have n1 : s ∉ rest.flatten := fun z => by have := List.count_pos_iff.mpr z; omega
  have n2 : t ∉ rest.flatten := fun z => by have := List.count_pos_iff.mpr z; omega
  have n3 : s ∉ ([[a, b], [g, hh]] : List (List Int)).flatten := fun z => by
    have z2 : s ∈ [a, b] ∨ s ∈ [g, hh] := by simpa [or_assoc] using z
    exact (inr s z2).1 rfl
  have n4 : t ∉ ([[a, b], [g, hh]] : List (List Int)).flatten := fun z => by
    have z2 : t ∈ [a, b] ∨ t ∈ [g, hh] := by simpa [or_assoc] using z
    exact (inr t z2).2.1 rfl
  have p2 : ∀ q ∈ ([[a, b], [g, hh]] : List (List Int)), q.length = 2 := fun q hq => by
    simp only [List.mem_cons, List.not_mem_nil, or_false] at hq
    rcases hq with rfl | rfl <;> rfl
  have hts : t ∈ ns.erase s := (List.Nodup.mem_erase_iff nd).mpr ⟨fun z => hst z.symm, htn⟩
  have nd2 : (ns.erase s).Nodup := nd.erase s
  have me2 : ∀ w, w ∈ (ns.erase s).erase t ↔ w ≠ t ∧ w ≠ s ∧ w ∈ ns := fun w => by
    rw [List.Nodup.mem_erase_iff nd2, List.Nodup.mem_erase_iff nd]
  have hperm2 : ns.Perm (s :: t :: (ns.erase s).erase t) := (List.perm_cons_erase hsn).trans ((List.perm_cons_erase hts).cons s)
  refine ⟨(ns.erase s).erase t, ⟨nd2.erase t, h4, p2, fun w => ?_⟩, fun p hp0 => ?_⟩
  · have me := me2 w
    have hw := hc w
    have hw2 := hcnt w
    have e0 : ([[a, b], [g, hh]] : List (List Int)).flatten = [a, b] ++ [g, hh] := by simp
    rw [e0, List.count_append]
    by_cases e : w = s
    · subst e
      rw [if_neg (fun z => (me.mp z).2.1 rfl)]
      omega
    · rw [if_neg e] at hw2
      by_cases e' : w = t
      · subst e'
        rw [if_neg (fun z => (me.mp z).1 rfl)]
        omega
      · rw [if_neg e'] at hw2
        by_cases hm : w ∈ ns
        · rw [if_pos hm] at hw
          rw [if_pos (me.mpr ⟨e', e, hm⟩)]
          omega
        · rw [if_neg hm] at hw
          rw [if_neg (fun z => hm (me.mp z).2.2)]
          omega
  · unfold colC colP
    rw [NF_perm hperm2 nd]
    have hg := inr g (.inr (by simp))
    have ha := inr a (.inl (by simp))
    have hgm : g ∈ (ns.erase s).erase t := (me2 g).mpr ⟨hg.2.1, hg.1, hg.2.2⟩
    have hne1 : s ∉ t :: (ns.erase s).erase t := fun z => by
      rcases List.mem_cons.mp z with z | z
      · exact hst z
      · exact ((me2 s).mp z).2.1 rfl
    have hne2 : t ∉ (ns.erase s).erase t := fun z => ((me2 t).mp z).1 rfl
    rw [NF_congr (G := fun d => ind (d s = d g ∧ (d t = (2 * d g - d a) % (p : Int) ∧ ((∀ r ∈ rest, fitC r p d) ∧ eqsP d [[a, b], [g, hh]])))) _ _ fun d hd _ => ?_]
    · rw [NF_set (Q := fun d => d t = (2 * d g - d a) % (p : Int) ∧ ((∀ r ∈ rest, fitC r p d) ∧ eqsP d [[a, b], [g, hh]])) (fun d => d g) hne1 (fun d hd => hd g (List.mem_cons_of_mem _ hgm)) (fun d v => up1_ne hg.1) (fun d v => by
        rw [up1_ne (fun z => hst z.symm), up1_ne hg.1, up1_ne ha.1, rest_up h4 p2 n1 n3])]
      exact NF_set (Q := fun d => ((∀ r ∈ rest, fitC r p d) ∧ eqsP d [[a, b], [g, hh]])) (fun d => (2 * d g - d a) % (p : Int)) hne2 (fun d hd => ⟨Int.emod_nonneg _ (by omega), Int.emod_lt_of_pos _ (by omega)⟩) (fun d v => by rw [up1_ne hg.2.1, up1_ne ha.2.1]) (fun d v => rest_up h4 p2 n2 n4)
    · refine ind_congr ?_
      have hf := hfit p d fun z hz => hd z (hperm2.mem_iff.mp (hin z hz))
      constructor
      · intro hall
        obtain ⟨f1, f2, f3, f4⟩ := hf.mp ⟨hall X (hperm.mem_iff.mpr (by simp)), hall Y (hperm.mem_iff.mpr (by simp))⟩
        refine ⟨f1, f2, fun r hr => hall r (hperm.mem_iff.mpr (by simp [hr])), fun q hq => ?_⟩
        simp only [List.mem_cons, List.not_mem_nil, or_false] at hq
        rcases hq with rfl | rfl
        · exact f3
        · exact f4
      · rintro ⟨f1, f2, f3, f4⟩ r hr
        have hxy := hf.mpr ⟨f1, f2, f4 [a, b] (by simp), f4 [g, hh] (by simp)⟩
        rcases List.mem_cons.mp (hperm.mem_iff.mp hr) with rfl | z
        · exact hxy.1
        · rcases List.mem_cons.mp z with rfl | z
          · exact hxy.2
          · exact f3 r z
end DL
set_option maxRecDepth 100000
/-! M26: notes: what is shown, what is read -/
namespace DL
open PySem (Str)
open TL (tl numL spl pre)
abbrev sepB : Str := Str.ofString " | "
abbrev sepW : Str := Str.ofString " "
theorem tl_sepB : tl sepB = [32, 124, 32] := by decide +kernel
theorem tl_sepW : tl sepW = [32] := by decide +kernel
/-! ### cutting at bars -/
theorem pre_bar {l : List Nat} (h : l[1]? ≠ some 124) : pre [32, 124, 32] l = false := by
  cases e : pre [32, 124, 32] l with
  | false => rfl
  | true =>
    have e1 : l.take 3 = [32, 124, 32] := eq_of_beq e
    have e2 : (l.take 3)[1]? = some 124 := by rw [e1]; rfl
    rw [List.getElem?_take] at e2
    exact absurd e2 h
theorem spl_bar : ∀ {parts : List (List Nat)}, parts ≠ [] → (∀ p ∈ parts, (124 : Nat) ∉ p) → spl [32, 124, 32] 0 [] (TL.joinL [32, 124, 32] parts) = parts
  | [], h, _ => absurd rfl h
  | [p], _, hp => by
    show spl [32, 124, 32] 0 [] p = [p]
    rw [TL.spl_last (p := p) fun i hi => pre_bar fun z => hp p (List.mem_singleton.mpr rfl) ?_, List.nil_append]
    rw [List.getElem?_drop] at z
    exact List.mem_of_getElem? z
  | p :: q :: r, _, hp => by
    show spl [32, 124, 32] 0 [] (p ++ ([32, 124, 32] ++ TL.joinL [32, 124, 32] (q :: r))) = p :: q :: r
    rw [TL.spl_part (by simp) fun i hi => pre_bar fun z => ?_, List.nil_append, spl_bar (by simp) fun z hz => hp z (List.mem_cons_of_mem _ hz)]
    rw [List.getElem?_drop] at z
    by_cases c : i + 1 < p.length
    · rw [List.getElem?_append_left c] at z
      exact hp p List.mem_cons_self (List.mem_of_getElem? z)
    · rw [List.getElem?_append_right (by omega), show i + 1 - p.length = 0 by omega] at z
      cases z
theorem split_bar {parts : List Str} (hne : parts ≠ []) (hp : ∀ p ∈ parts, (124 : Nat) ∉ tl p) : PySem.Txt.split (Str.join sepB parts) sepB = parts := by
  refine TL.map_tl_inj ?_
  rw [TL.split_spl _ sepB (by rw [tl_sepB]; simp) (TL.kind_ok (by decide +kernel)), TL.tl_join, tl_sepB]
  refine spl_bar (fun e => hne (List.map_eq_nil_iff.mp e)) fun p h => ?_
  obtain ⟨z, hz, rfl⟩ := List.mem_map.mp h
  exact hp z hz
/-! ### numbers' texts -/
theorem numL_head (n : Nat) : ∀ d, (numL n).head? = some d → d = 48 → n = 0 := by
  induction n using Nat.strongRecOn with
  | _ n ih =>
    intro d h e
    by_cases c : n < 10
    · rw [TL.numL_lt c] at h
      have : 48 + n = d := Option.some.inj h
      omega
    · rw [TL.numL_step (by omega), List.head?_append] at h
      have hne := TL.numL_ne (n / 10)
      cases q : numL (n / 10) with
      | nil => exact absurd q hne
      | cons a l =>
        rw [q] at h
        have h2 : (numL (n / 10)).head? = some d := by rw [q]; exact h
        have := ih (n / 10) (by omega) d h2 e
        omega
theorem num_ok {n : Nat} (h : n < 10 ^ 60) : NumOk (txN n) := by
  refine ⟨fun c hc => ?_, ?_, ?_, ?_⟩
  · rw [tl_txN] at hc
    exact TL.numL_digits n c hc
  · rw [tl_txN]
    exact TL.numL_ne n
  · rw [tl_txN]
    exact TL.numL_len (by decide) h
  · rw [tl_txN]
    rintro ⟨a, b⟩
    have := numL_head n 48 a rfl
    subst this
    rw [TL.numL_lt (by decide)] at b
    simp at b
theorem val_tx (n : Nat) : valN (txN n) = n := by
  unfold valN
  rw [tl_txN]
  exact TL.numL_val n
theorem tx_len {n : Nat} (h : n < 10 ^ 62) : (txN n).length ≤ 62 := by
  rw [TL.len_tl, tl_txN]
  exact TL.numL_len (by decide) h
theorem str_ok {n : Nat} (h : n < 10 ^ 62) : bStrI [.int (n : Int)] = .ok (.va (.str (txN n))) := by
  show (if ((n : Int).natAbs).log2 < 1920 then (R.ok (.va (.str (Str.ofString (toString ((n : Nat) : Int))))) : R Sl) else R.bad) = _
  rw [if_pos]
  · rfl
  · rw [Int.natAbs_natCast]
    by_cases z : n = 0
    · subst z; decide
    · exact (Nat.log2_lt z).mpr (Nat.lt_trans h (by decide +kernel))
theorem len_app (a b : Str) : (a ++ b).length = a.length + b.length := by
  rw [TL.len_tl, TL.tl_append, List.length_append, ← TL.len_tl, ← TL.len_tl]
theorem sepB_len : sepB.length = 3 := by rw [TL.len_tl, tl_sepB]; rfl
theorem sepW_len : sepW.length = 1 := by rw [TL.len_tl, tl_sepW]; rfl
/-- a row's text -/
def rowT (r : List Int) : Str := PySem.Txt.join sepW (r.map fun x => txN x.toNat)
def noteT (rings : Nat) (rs : List (List Int)) : Str := rs.foldl (fun t r => t ++ sepB ++ rowT r) (txN rings)
theorem tl_rowT (r : List Int) : tl (rowT r) = TL.joinL [32] (r.map fun x => numL x.toNat) := by
  unfold rowT
  rw [TL.join_eq, TL.tl_join, tl_sepW, List.map_map]
  congr 1
  exact List.map_congr_left fun x _ => tl_txN _
theorem jtx_mem {S : List Nat} {c : Nat} : ∀ {ps : List (List Nat)}, c ∈ TL.joinL S ps → c ∈ S ∨ ∃ p ∈ ps, c ∈ p
  | [], h => by cases h
  | [p], h => .inr ⟨p, List.mem_singleton.mpr rfl, h⟩
  | p :: q :: r, h => by
    have h : c ∈ p ++ (S ++ TL.joinL S (q :: r)) := h
    rcases List.mem_append.mp h with h | h
    · exact .inr ⟨p, List.mem_cons_self, h⟩
    · rcases List.mem_append.mp h with h | h
      · exact .inl h
      · rcases jtx_mem h with h | ⟨z, hz, h⟩
        · exact .inl h
        · exact .inr ⟨z, List.mem_cons_of_mem _ hz, h⟩
theorem rowT_free (r : List Int) : (124 : Nat) ∉ tl (rowT r) := fun h => by
  rw [tl_rowT] at h
  rcases jtx_mem h with h | ⟨p, hp, h⟩
  · simp at h
  · obtain ⟨x, _, rfl⟩ := List.mem_map.mp hp
    exact TL.numL_free (by omega) h
theorem txN_free (n : Nat) : (124 : Nat) ∉ tl (txN n) := by
  rw [tl_txN]
  exact TL.numL_free (by omega)
theorem jtx_len {S : List Nat} {k : Nat} : ∀ {ps : List (List Nat)}, (∀ p ∈ ps, p.length ≤ k) → (TL.joinL S ps).length ≤ ps.length * (k + S.length)
  | [], _ => Nat.zero_le _
  | [p], h => by
    have := h p (List.mem_singleton.mpr rfl)
    show p.length ≤ 1 * (k + S.length)
    omega
  | p :: q :: r, h => by
    have h1 := h p List.mem_cons_self
    have h2 := jtx_len (S := S) (ps := q :: r) fun z hz => h z (List.mem_cons_of_mem _ hz)
    show (p ++ (S ++ TL.joinL S (q :: r))).length ≤ _
    rw [List.length_append, List.length_append, List.length_cons, Nat.add_mul, Nat.one_mul]
    omega
theorem rowT_len {r : List Int} (h4 : r.length = 4) (hx : ∀ x ∈ r, x.toNat < 10 ^ 62) : (rowT r).length ≤ 252 := by
  rw [TL.len_tl, tl_rowT]
  have := jtx_len (S := [32]) (k := 62) (ps := r.map fun x => numL x.toNat) fun p hp => by
    obtain ⟨x, hm, rfl⟩ := List.mem_map.mp hp
    exact TL.numL_len (by decide) (hx x hm)
  rw [List.length_map, h4] at this
  exact this
theorem noteT_len {rings : Nat} (h0 : rings < 10 ^ 62) : ∀ (rs : List (List Int)), (∀ r ∈ rs, r.length = 4 ∧ ∀ x ∈ r, x.toNat < 10 ^ 62) → (noteT rings rs).length ≤ 62 + 255 * rs.length := by
  intro rs
  have key : ∀ (rs : List (List Int)) (t : Str), (∀ r ∈ rs, r.length = 4 ∧ ∀ x ∈ r, x.toNat < 10 ^ 62) → (rs.foldl (fun t r => t ++ sepB ++ rowT r) t).length ≤ t.length + 255 * rs.length := by
    intro rs
    induction rs with
    | nil => intro t _; exact Nat.le_refl _
    | cons r rs ih =>
      intro t h
      have h1 := rowT_len (h r List.mem_cons_self).1 (h r List.mem_cons_self).2
      have h2 := ih (t ++ sepB ++ rowT r) fun z hz => h z (List.mem_cons_of_mem _ hz)
      rw [len_app, len_app, sepB_len] at h2
      rw [List.foldl_cons, List.length_cons]
      omega
  intro h
  have := key rs (txN rings) h
  have h2 := tx_len h0
  unfold noteT
  omega
theorem join_fold (f : List Int → Str) : ∀ (rs : List (List Int)) (t : Str), rs.foldl (fun t r => t ++ sepB ++ f r) t = Str.join sepB (t :: rs.map f)
  | [], t => rfl
  | r :: rs, t => by
    rw [List.foldl_cons, join_fold f rs, List.map_cons]
    refine TL.ext_tl ?_
    rw [TL.tl_join, TL.tl_join]
    simp only [List.map_cons]
    cases rs with
    | nil =>
      simp only [List.map_nil]
      show tl (t ++ sepB ++ f r) = tl t ++ (tl sepB ++ tl (f r))
      rw [TL.tl_append, TL.tl_append, List.append_assoc]
    | cons a rs =>
      simp only [List.map_cons]
      show tl (t ++ sepB ++ f r) ++ (tl sepB ++ TL.joinL (tl sepB) _) = tl t ++ (tl sepB ++ (tl (f r) ++ (tl sepB ++ TL.joinL (tl sepB) _)))
      rw [TL.tl_append, TL.tl_append, List.append_assoc, List.append_assoc]
theorem note_split (rings : Nat) (rs : List (List Int)) : PySem.Txt.split (noteT rings rs) sepB = txN rings :: rs.map rowT := by
  unfold noteT
  rw [join_fold]
  refine split_bar (by simp) fun p hp => ?_
  rcases List.mem_cons.mp hp with rfl | hp
  · exact txN_free _
  · obtain ⟨r, _, rfl⟩ := List.mem_map.mp hp
    exact rowT_free r
theorem row_split {r : List Int} (h : r ≠ []) : PySem.Txt.split (rowT r) sepW = r.map fun x => txN x.toNat := by
  unfold rowT
  refine TL.split_join (s := 32) (S := []) tl_sepW (by decide +kernel) (fun e => h (List.map_eq_nil_iff.mp e)) fun p hp => ?_
  obtain ⟨x, _, rfl⟩ := List.mem_map.mp hp
  rw [tl_txN]
  exact TL.numL_free (by omega)
/-! ### shown -/
theorem strs_enc (ys : List Str) : strsOf (ys.map D.str) = some ys := by
  induction ys with
  | nil => rfl
  | cons y ys ih =>
    show (strsOf (ys.map D.str)).map (y :: ·) = _
    rw [ih]
    rfl
theorem join_ok {s : Str} {ys : List Str} {k : Nat} (hs : s.length ≤ 10) (hy : ∀ y ∈ ys, y.length ≤ 1000) (hl : ys.length ≤ 1000) : dJoin s (.lst (ys.map D.str)) = .ok (.va (.str (PySem.Txt.join s ys))) := by
  show (match strsOf (ys.map D.str) with
    | some ys => if (ys.map fun y : Str => y.length).sum + ys.length * s.length ≤ 16777216 then (R.ok (.va (.str (PySem.Txt.join s ys))) : R Sl) else R.bad
    | none => R.bad) = _
  rw [strs_enc]
  refine if_pos ?_
  have h1 : (ys.map (·.length)).sum ≤ ys.length * 1000 := by
    clear hl
    induction ys with
    | nil => exact Nat.le_refl _
    | cons y ys ih =>
      have a := hy y List.mem_cons_self
      have b := ih fun z hz => hy z (List.mem_cons_of_mem _ hz)
      rw [List.map_cons, List.sum_cons, List.length_cons, Nat.add_mul]
      omega
  have h2 : ys.length * s.length ≤ 1000 * 10 := Nat.mul_le_mul hl hs
  have h3 : ys.length * 1000 ≤ 1000 * 1000 := Nat.mul_le_mul_right _ hl
  omega
theorem ev_m1 (g : Str → D → R Sl) (a b : FE) (e : Env) : eM1 g a b e = (a e).bind fun x => match x.d with
  | .str z => (b e).bind fun y => g z y.d
  | _ => .bad := nr rfl
structure Nice (rs : List (List Int)) (rings : Nat) : Prop where
  four : ∀ r ∈ rs, r.length = 4
  ge : ∀ r ∈ rs, ∀ x ∈ r, 0 ≤ x
  lt : ∀ r ∈ rs, ∀ x ∈ r, x.toNat < 10 ^ 60
  len : rs.length ≤ 100
  rg : rings < 10 ^ 60
theorem lt62 {n : Nat} (h : n < 10 ^ 60) : n < 10 ^ 62 := Nat.lt_trans h (by decide +kernel)
theorem shown_ok {rs : List (List Int)} {rings : Nat} (h : Nice rs rings) : f_shown [encS rs (rings : Int)] = .ok (.va (.str (noteT rings rs))) := by
  unfold f_shown F_shown
  rw [fn_eq [.va (encS rs (rings : Int)), .no, .no, .no] rfl]
  have h0 := str_ok (lt62 h.rg)
  have L := forD_fold (j := 2) (b := B_shown_1) (enc := encR) (fun (t : Str) e => ∃ a, e = [.va (encS rs (rings : Int)), .va (.str t), a, .no]) (fun t r => t ++ sepB ++ rowT r) rs (txN rings) [.va (encS rs (rings : Int)), .va (.str (txN rings)), .no, .no] ⟨_, rfl⟩
    (fun i r e hi ⟨a, he⟩ => by
      subst he
      obtain ⟨hi2, hv⟩ := List.getElem?_eq_some_iff.mp hi
      have hm : r ∈ rs := hv ▸ List.getElem_mem hi2
      have hl := noteT_len (lt62 h.rg) (rs.take i) fun z hz => ⟨h.four z (List.mem_of_mem_take hz), fun x hx => lt62 (h.lt z (List.mem_of_mem_take hz) x hx)⟩
      have hl2 : (rs.take i).length ≤ 100 := by rw [List.length_take]; have := h.len; omega
      unfold noteT at hl
      generalize (rs.take i).foldl (fun t r => t ++ sepB ++ rowT r) (txN rings) = t at *
      have hr := rowT_len (h.four r hm) fun x hx => lt62 (h.lt r hm x hx)
      have hc := lcm (it := iSeq (eVar 2)) (j := 3) (own := [3]) (el := eCB bStrI (aCons (eVar 3) aNil)) (e := [.va (encS rs (rings : Int)), .va (.str t), .va (encR r), .no]) (enc := D.int) (fun x => D.str (txN x.toNat)) r (by simp only [ev_seq, ev_set, ev_op1, ev_op2, ev_call, ev_cons, ev_nil, ev_c, ev_var, ev_tup, ev_lst, ev_cb, ev_fz, ev_lend, ev_and, ev_or, ev_not, ev_chain, ev_if, ev_bm, ev_get2, ev_ixO, ev_sl, ev_some, ev_none, ev_tval, ev_tand, ev_tor, ev_tnot, ev_irange1, ev_irange2, ev_sif, ev_next, ev_ret, ev_retO, ev_raise, ev_app, ev_put, ev_dput, ev_for, ev_while, ev_pub, pub_cons, pub_nil, ev_drop, ev_dnew, res_nx, res_rt, res_xc, R.bind_ok, R.bind_xc, R.out_ok, R.out_xc, Out.bind_nx, Out.bind_rt, Out.bind_xc, Sl.d_va, Sl.d_ow, Sl.frz_va, Sl.frz_ow, Sl.frz_no, List.getElem?_cons_succ, List.getElem?_cons_zero, List.set_cons_succ, List.set_cons_zero, List.length_cons, List.length_nil, List.map_cons, List.map_nil, lim_val, Nat.zero_le, Nat.reduceAdd, Nat.reduceLeDiff, Nat.reduceEqDiff, reduceIte, Nat.zero_add, if_true, if_false, Bool.false_eq_true, Bool.not_true, Bool.not_false, decide_true, decide_false, o_add, o_sub, o_neg, o_lt, o_le, o_gt, o_ge, o_eq, o_ne, o_isN, o_notN, isNon_non, isNon_int, isNon_tup, isNon_lst, o_idxL, o_idxT, o_lenL, o_lenT, o_lenS, o_listL, o_listT, o_tupleL, o_tupleT, o_int, o_intb, o_max2, o_min2, o_slL, o_slT, atD_0, atD_1, atD_2, atD_3, atD_4, atD_5, range_4, range_3, range_2, ev_iseq]) (by rw [h.four r hm]; omega) (fun x hx => by
        have hs := str_ok (lt62 (h.lt r hm x hx))
        rw [Int.toNat_of_nonneg (h.ge r hm x hx)] at hs
        simp only [ev_seq, ev_set, ev_op1, ev_op2, ev_call, ev_cons, ev_nil, ev_c, ev_var, ev_tup, ev_lst, ev_cb, ev_fz, ev_lend, ev_and, ev_or, ev_not, ev_chain, ev_if, ev_bm, ev_get2, ev_ixO, ev_sl, ev_some, ev_none, ev_tval, ev_tand, ev_tor, ev_tnot, ev_irange1, ev_irange2, ev_sif, ev_next, ev_ret, ev_retO, ev_raise, ev_app, ev_put, ev_dput, ev_for, ev_while, ev_pub, pub_cons, pub_nil, ev_drop, ev_dnew, res_nx, res_rt, res_xc, R.bind_ok, R.bind_xc, R.out_ok, R.out_xc, Out.bind_nx, Out.bind_rt, Out.bind_xc, Sl.d_va, Sl.d_ow, Sl.frz_va, Sl.frz_ow, Sl.frz_no, List.getElem?_cons_succ, List.getElem?_cons_zero, List.set_cons_succ, List.set_cons_zero, List.length_cons, List.length_nil, List.map_cons, List.map_nil, lim_val, Nat.zero_le, Nat.reduceAdd, Nat.reduceLeDiff, Nat.reduceEqDiff, reduceIte, Nat.zero_add, if_true, if_false, Bool.false_eq_true, Bool.not_true, Bool.not_false, decide_true, decide_false, o_add, o_sub, o_neg, o_lt, o_le, o_gt, o_ge, o_eq, o_ne, o_isN, o_notN, isNon_non, isNon_int, isNon_tup, isNon_lst, o_idxL, o_idxT, o_lenL, o_lenT, o_lenS, o_listL, o_listT, o_tupleL, o_tupleT, o_int, o_intb, o_max2, o_min2, o_slL, o_slT, atD_0, atD_1, atD_2, atD_3, atD_4, atD_5, range_4, range_3, range_2, wipe_cons, wipe_nil, hs])
      have hj : dJoin sepW (.lst (r.map fun x => D.str (txN x.toNat))) = .ok (.va (.str (rowT r))) := by
        rw [show (r.map fun x => D.str (txN x.toNat)) = (r.map fun x => txN x.toNat).map D.str from (List.map_map).symm]
        exact join_ok (k := 0) (by rw [sepW_len]; omega) (fun y hy => by
          obtain ⟨x, hx, rfl⟩ := List.mem_map.mp hy
          have := tx_len (lt62 (h.lt r hm x hx))
          omega) (by rw [List.length_map, h.four r hm]; omega)
      have a1 : dAdd (.str t) (.str sepB) = .ok (.va (.str (t ++ sepB))) := str_add (by rw [sepB_len]; omega)
      have a2 : dAdd (.str (t ++ sepB)) (.str (rowT r)) = .ok (.va (.str (t ++ sepB ++ rowT r))) := str_add (by rw [len_app, sepB_len]; omega)
      refine ⟨[.va (encS rs (rings : Int)), .va (.str (t ++ sepB ++ rowT r)), .va (encR r), .no], ?_, _, rfl⟩
      unfold B_shown_1
      simp only [ev_seq, ev_set, ev_op1, ev_op2, ev_call, ev_cons, ev_nil, ev_c, ev_var, ev_tup, ev_lst, ev_cb, ev_fz, ev_lend, ev_and, ev_or, ev_not, ev_chain, ev_if, ev_bm, ev_get2, ev_ixO, ev_sl, ev_some, ev_none, ev_tval, ev_tand, ev_tor, ev_tnot, ev_irange1, ev_irange2, ev_sif, ev_next, ev_ret, ev_retO, ev_raise, ev_app, ev_put, ev_dput, ev_for, ev_while, ev_pub, pub_cons, pub_nil, ev_drop, ev_dnew, res_nx, res_rt, res_xc, R.bind_ok, R.bind_xc, R.out_ok, R.out_xc, Out.bind_nx, Out.bind_rt, Out.bind_xc, Sl.d_va, Sl.d_ow, Sl.frz_va, Sl.frz_ow, Sl.frz_no, List.getElem?_cons_succ, List.getElem?_cons_zero, List.set_cons_succ, List.set_cons_zero, List.length_cons, List.length_nil, List.map_cons, List.map_nil, lim_val, Nat.zero_le, Nat.reduceAdd, Nat.reduceLeDiff, Nat.reduceEqDiff, reduceIte, Nat.zero_add, if_true, if_false, Bool.false_eq_true, Bool.not_true, Bool.not_false, decide_true, decide_false, o_add, o_sub, o_neg, o_lt, o_le, o_gt, o_ge, o_eq, o_ne, o_isN, o_notN, isNon_non, isNon_int, isNon_tup, isNon_lst, o_idxL, o_idxT, o_lenL, o_lenT, o_lenS, o_listL, o_listT, o_tupleL, o_tupleT, o_int, o_intb, o_max2, o_min2, o_slL, o_slT, atD_0, atD_1, atD_2, atD_3, atD_4, atD_5, range_4, range_3, range_2, ev_m1, a1, hc, hj, a2])
  obtain ⟨e, hL, a, he⟩ := L
  simp only [ev_seq, ev_set, ev_op1, ev_op2, ev_call, ev_cons, ev_nil, ev_c, ev_var, ev_tup, ev_lst, ev_cb, ev_fz, ev_lend, ev_and, ev_or, ev_not, ev_chain, ev_if, ev_bm, ev_get2, ev_ixO, ev_sl, ev_some, ev_none, ev_tval, ev_tand, ev_tor, ev_tnot, ev_irange1, ev_irange2, ev_sif, ev_next, ev_ret, ev_retO, ev_raise, ev_app, ev_put, ev_dput, ev_for, ev_while, ev_pub, pub_cons, pub_nil, ev_drop, ev_dnew, res_nx, res_rt, res_xc, R.bind_ok, R.bind_xc, R.out_ok, R.out_xc, Out.bind_nx, Out.bind_rt, Out.bind_xc, Sl.d_va, Sl.d_ow, Sl.frz_va, Sl.frz_ow, Sl.frz_no, List.getElem?_cons_succ, List.getElem?_cons_zero, List.set_cons_succ, List.set_cons_zero, List.length_cons, List.length_nil, List.map_cons, List.map_nil, lim_val, Nat.zero_le, Nat.reduceAdd, Nat.reduceLeDiff, Nat.reduceEqDiff, reduceIte, Nat.zero_add, if_true, if_false, Bool.false_eq_true, Bool.not_true, Bool.not_false, decide_true, decide_false, o_add, o_sub, o_neg, o_lt, o_le, o_gt, o_ge, o_eq, o_ne, o_isN, o_notN, isNon_non, isNon_int, isNon_tup, isNon_lst, o_idxL, o_idxT, o_lenL, o_lenT, o_lenS, o_listL, o_listT, o_tupleL, o_tupleT, o_int, o_intb, o_max2, o_min2, o_slL, o_slT, atD_0, atD_1, atD_2, atD_3, atD_4, atD_5, range_4, range_3, range_2, ev_iseq, h0, hL, he]
  rfl
end DL
set_option maxRecDepth 100000
namespace DL
open PySem (Str)
open TL (tl numL spl pre)
def rowN (p : Str) : List Int := (PySem.Txt.split p sepW).map fun w => ((valN w : Nat) : Int)
structure GoodRow (p : Str) : Prop where
  len : (PySem.Txt.split p sepW).length = 4
  ok : ∀ w ∈ PySem.Txt.split p sepW, NumOk w
  le : p.length ≤ 1000000
theorem split_ok {a b : Str} (hb : b.length ≠ 0) (ha : a.length ≤ 1000000) : dSplit a (.str b) = .ok (.ow (.lst ((PySem.Txt.split a b).map D.str))) := by
  show (if (b.length == 0) = false ∧ a.length ≤ LIM then (R.ok (.ow (.lst ((PySem.Txt.split a b).map D.str))) : R Sl) else R.bad) = _
  exact if_pos ⟨by simpa using hb, by rw [lim_val]; exact ha⟩
theorem cut_1 {α : Type} (a : α) (xs : List α) : cutD (a :: xs) (some 1) none = xs := by
  unfold cutD sIxD
  simp
theorem read_good {t p0 : Str} {ps : List Str} (hl : t.length ≤ 1000000) (e : PySem.Txt.split t sepB = p0 :: ps) (h0 : NumOk p0) (hp : ∀ p ∈ ps, GoodRow p) (hn : ps.length ≤ 100000) : f_read [.str t] = f_drawn [.lst (encRs (ps.map rowN)), .int ((valN p0 : Nat) : Int)] := by
  unfold f_read F_read
  rw [fn_eq [.va (.str t), .no, .no, .no, .no, .no] rfl]
  have hs := split_ok (b := sepB) (by rw [sepB_len]; decide) hl
  rw [e] at hs
  have hn0 := number_of_ok h0
  have hcut : cutD ((p0 :: ps).map D.str) (some 1) none = ps.map D.str := cut_1 _ _
  have hix : atD ((p0 :: ps).map D.str) 0 = some (.str p0) := by
    unfold atD ixOf
    rw [if_pos (Int.le_refl 0), if_pos (by rw [List.length_map, List.length_cons]; omega)]
    rfl
  generalize (p0 :: ps).map D.str = PL at *
  have L := forD_fold (j := 3) (b := B_read_1) (enc := D.str) (fun (s : List (List Int)) e => ∃ a b, e = [.va (.str t), .va (.lst PL), .ow (.lst (encRs s)), a, b, .no]) (fun s p => s ++ [rowN p]) ps [] [.va (.str t), .va (.lst PL), .ow (.lst []), .no, .no, .no] ⟨_, _, rfl⟩
    (fun i p e hi ⟨a, b, he⟩ => by
      subst he
      obtain ⟨hi2, hv⟩ := List.getElem?_eq_some_iff.mp hi
      have g := hp p (hv ▸ List.getElem_mem hi2)
      have hsl : ((ps.take i).foldl (fun s p => s ++ [rowN p]) []).length ≤ 100000 := by
        have : ∀ (l : List Str) (s : List (List Int)), (l.foldl (fun s p => s ++ [rowN p]) s).length = s.length + l.length := by
          intro l
          induction l with
          | nil => intro s; simp
          | cons x l ih => intro s; rw [List.foldl_cons, ih, List.length_append, List.length_cons]; simp; omega
        rw [this, List.length_take]
        simp
        omega
      generalize (ps.take i).foldl (fun s p => s ++ [rowN p]) [] = s at *
      have h1 := split_ok (a := p) (b := sepW) (by rw [sepW_len]; decide) g.le
      have hc := lcm (it := iSeq (eVar 4)) (j := 5) (own := [5]) (el := eCall 1 f_number_of (aCons (eVar 5) aNil)) (e := [.va (.str t), .va (.lst PL), .ow (.lst (encRs s)), .va (.str p), .va (.lst ((PySem.Txt.split p sepW).map D.str)), .no]) (enc := D.str) (fun w => D.int ((valN w : Nat) : Int)) (PySem.Txt.split p sepW) (by simp only [ev_seq, ev_set, ev_op1, ev_op2, ev_call, ev_cons, ev_nil, ev_c, ev_var, ev_tup, ev_lst, ev_cb, ev_fz, ev_lend, ev_and, ev_or, ev_not, ev_chain, ev_if, ev_bm, ev_get2, ev_ixO, ev_sl, ev_some, ev_none, ev_tval, ev_tand, ev_tor, ev_tnot, ev_irange1, ev_irange2, ev_sif, ev_next, ev_ret, ev_retO, ev_raise, ev_app, ev_put, ev_dput, ev_for, ev_while, ev_pub, pub_cons, pub_nil, ev_drop, ev_dnew, res_nx, res_rt, res_xc, R.bind_ok, R.bind_xc, R.out_ok, R.out_xc, Out.bind_nx, Out.bind_rt, Out.bind_xc, Sl.d_va, Sl.d_ow, Sl.frz_va, Sl.frz_ow, Sl.frz_no, List.getElem?_cons_succ, List.getElem?_cons_zero, List.set_cons_succ, List.set_cons_zero, List.length_cons, List.length_nil, List.map_cons, List.map_nil, lim_val, Nat.zero_le, Nat.reduceAdd, Nat.reduceLeDiff, Nat.reduceEqDiff, reduceIte, Nat.zero_add, if_true, if_false, Bool.false_eq_true, Bool.not_true, Bool.not_false, decide_true, decide_false, o_add, o_sub, o_neg, o_lt, o_le, o_gt, o_ge, o_eq, o_ne, o_isN, o_notN, isNon_non, isNon_int, isNon_tup, isNon_lst, o_idxL, o_idxT, o_lenL, o_lenT, o_lenS, o_listL, o_listT, o_tupleL, o_tupleT, o_int, o_intb, o_max2, o_min2, o_slL, o_slT, atD_0, atD_1, atD_2, atD_3, atD_4, atD_5, range_4, range_3, range_2, ev_iseq]) (by rw [g.len]; omega) (fun w hw => by
        have := number_of_ok (g.ok w hw)
        simp only [ev_seq, ev_set, ev_op1, ev_op2, ev_call, ev_cons, ev_nil, ev_c, ev_var, ev_tup, ev_lst, ev_cb, ev_fz, ev_lend, ev_and, ev_or, ev_not, ev_chain, ev_if, ev_bm, ev_get2, ev_ixO, ev_sl, ev_some, ev_none, ev_tval, ev_tand, ev_tor, ev_tnot, ev_irange1, ev_irange2, ev_sif, ev_next, ev_ret, ev_retO, ev_raise, ev_app, ev_put, ev_dput, ev_for, ev_while, ev_pub, pub_cons, pub_nil, ev_drop, ev_dnew, res_nx, res_rt, res_xc, R.bind_ok, R.bind_xc, R.out_ok, R.out_xc, Out.bind_nx, Out.bind_rt, Out.bind_xc, Sl.d_va, Sl.d_ow, Sl.frz_va, Sl.frz_ow, Sl.frz_no, List.getElem?_cons_succ, List.getElem?_cons_zero, List.set_cons_succ, List.set_cons_zero, List.length_cons, List.length_nil, List.map_cons, List.map_nil, lim_val, Nat.zero_le, Nat.reduceAdd, Nat.reduceLeDiff, Nat.reduceEqDiff, reduceIte, Nat.zero_add, if_true, if_false, Bool.false_eq_true, Bool.not_true, Bool.not_false, decide_true, decide_false, o_add, o_sub, o_neg, o_lt, o_le, o_gt, o_ge, o_eq, o_ne, o_isN, o_notN, isNon_non, isNon_int, isNon_tup, isNon_lst, o_idxL, o_idxT, o_lenL, o_lenT, o_lenS, o_listL, o_listT, o_tupleL, o_tupleT, o_int, o_intb, o_max2, o_min2, o_slL, o_slT, atD_0, atD_1, atD_2, atD_3, atD_4, atD_5, range_4, range_3, range_2, wipe_cons, wipe_nil, this])
      have hlen : (((PySem.Txt.split p sepW).map D.str).length : Int) = 4 := by rw [List.length_map, g.len]; rfl
      have hrow : D.tup ((PySem.Txt.split p sepW).map fun w => D.int ((valN w : Nat) : Int)) = encR (rowN p) := by
        show _ = D.tup ((rowN p).map D.int)
        unfold rowN
        rw [List.map_map]
        rfl
      have hll : (encRs s).length < 1000000 := by rw [List.length_map]; omega
      have d4 : decide ((4 : Int) = 4) = true := rfl
      refine ⟨[.va (.str t), .va (.lst PL), .ow (.lst (encRs (s ++ [rowN p]))), .va (.str p), .va (.lst ((PySem.Txt.split p sepW).map D.str)), .no], ?_, _, _, rfl⟩
      unfold B_read_1
      rw [show encRs (s ++ [rowN p]) = encRs s ++ [encR (rowN p)] from List.map_append]
      simp only [ev_seq, ev_set, ev_op1, ev_op2, ev_call, ev_cons, ev_nil, ev_c, ev_var, ev_tup, ev_lst, ev_cb, ev_fz, ev_lend, ev_and, ev_or, ev_not, ev_chain, ev_if, ev_bm, ev_get2, ev_ixO, ev_sl, ev_some, ev_none, ev_tval, ev_tand, ev_tor, ev_tnot, ev_irange1, ev_irange2, ev_sif, ev_next, ev_ret, ev_retO, ev_raise, ev_app, ev_put, ev_dput, ev_for, ev_while, ev_pub, pub_cons, pub_nil, ev_drop, ev_dnew, res_nx, res_rt, res_xc, R.bind_ok, R.bind_xc, R.out_ok, R.out_xc, Out.bind_nx, Out.bind_rt, Out.bind_xc, Sl.d_va, Sl.d_ow, Sl.frz_va, Sl.frz_ow, Sl.frz_no, List.getElem?_cons_succ, List.getElem?_cons_zero, List.set_cons_succ, List.set_cons_zero, List.length_cons, List.length_nil, List.map_cons, List.map_nil, lim_val, Nat.zero_le, Nat.reduceAdd, Nat.reduceLeDiff, Nat.reduceEqDiff, reduceIte, Nat.zero_add, if_true, if_false, Bool.false_eq_true, Bool.not_true, Bool.not_false, decide_true, decide_false, o_add, o_sub, o_neg, o_lt, o_le, o_gt, o_ge, o_eq, o_ne, o_isN, o_notN, isNon_non, isNon_int, isNon_tup, isNon_lst, o_idxL, o_idxT, o_lenL, o_lenT, o_lenS, o_listL, o_listT, o_tupleL, o_tupleT, o_int, o_intb, o_max2, o_min2, o_slL, o_slT, atD_0, atD_1, atD_2, atD_3, atD_4, atD_5, range_4, range_3, range_2, ev_m1, h1, hlen, d4, hc, hrow, hll])
  obtain ⟨e2, hL, a, b, he⟩ := L
  have hf : ∀ (l : List Str) (s : List (List Int)), l.foldl (fun s p => s ++ [rowN p]) s = s ++ l.map rowN := by
    intro l
    induction l with
    | nil => intro s; simp
    | cons x l ih => intro s; rw [List.foldl_cons, ih, List.append_assoc]; rfl
  rw [hf, List.nil_append] at he
  rw [ev_seq, ev_set, ev_fz, ev_m1]
  simp only [ev_var, ev_c, List.getElem?_cons_zero, R.bind_ok, Sl.d_va, hs, R.out_ok, Out.bind_nx, Sl.d_ow]
  simp only [ev_seq, ev_set, ev_op1, ev_op2, ev_call, ev_cons, ev_nil, ev_c, ev_var, ev_tup, ev_lst, ev_cb, ev_fz, ev_lend, ev_and, ev_or, ev_not, ev_chain, ev_if, ev_bm, ev_get2, ev_ixO, ev_sl, ev_some, ev_none, ev_tval, ev_tand, ev_tor, ev_tnot, ev_irange1, ev_irange2, ev_sif, ev_next, ev_ret, ev_retO, ev_raise, ev_app, ev_put, ev_dput, ev_for, ev_while, ev_pub, pub_cons, pub_nil, ev_drop, ev_dnew, res_nx, res_rt, res_xc, R.bind_ok, R.bind_xc, R.out_ok, R.out_xc, Out.bind_nx, Out.bind_rt, Out.bind_xc, Sl.d_va, Sl.d_ow, Sl.frz_va, Sl.frz_ow, Sl.frz_no, List.getElem?_cons_succ, List.getElem?_cons_zero, List.set_cons_succ, List.set_cons_zero, List.length_cons, List.length_nil, List.map_cons, List.map_nil, lim_val, Nat.zero_le, Nat.reduceAdd, Nat.reduceLeDiff, Nat.reduceEqDiff, reduceIte, Nat.zero_add, if_true, if_false, Bool.false_eq_true, Bool.not_true, Bool.not_false, decide_true, decide_false, o_add, o_sub, o_neg, o_lt, o_le, o_gt, o_ge, o_eq, o_ne, o_isN, o_notN, isNon_non, isNon_int, isNon_tup, isNon_lst, o_idxL, o_idxT, o_lenL, o_lenT, o_lenS, o_listL, o_listT, o_tupleL, o_tupleT, o_int, o_intb, o_max2, o_min2, o_slL, o_slT, atD_0, atD_1, atD_2, atD_3, atD_4, atD_5, range_4, range_3, range_2, ev_iseq, hcut, hL, he, hix, hn0]
  cases f_drawn [.lst (encRs (ps.map rowN)), .int ((valN p0 : Nat) : Int)] <;> rfl
theorem rowN_T {r : List Int} (h : r ≠ []) (hx : ∀ x ∈ r, 0 ≤ x) : rowN (rowT r) = r := by
  unfold rowN
  rw [row_split h, List.map_map]
  refine (List.map_congr_left fun x m => ?_).trans (List.map_id r)
  show ((valN (txN x.toNat) : Nat) : Int) = x
  rw [val_tx]
  exact Int.toNat_of_nonneg (hx x m)
theorem read_note {rs : List (List Int)} {rings : Nat} (h : Nice rs rings) : f_read [.str (noteT rings rs)] = f_drawn [.lst (encRs rs), .int (rings : Int)] := by
  have hl := noteT_len (lt62 h.rg) rs fun r hr => ⟨h.four r hr, fun x hx => lt62 (h.lt r hr x hx)⟩
  have hlen := h.len
  have ne : ∀ r ∈ rs, r ≠ [] := fun r hr e => by
    have := h.four r hr
    rw [e] at this
    cases this
  rw [read_good (by omega) (note_split rings rs) (num_ok h.rg) (fun p hp => by
    obtain ⟨r, hr, rfl⟩ := List.mem_map.mp hp
    refine ⟨?_, fun w hw => ?_, ?_⟩
    · rw [row_split (ne r hr), List.length_map, h.four r hr]
    · rw [row_split (ne r hr)] at hw
      obtain ⟨x, hx, rfl⟩ := List.mem_map.mp hw
      exact num_ok (h.lt r hr x hx)
    · have := rowT_len (h.four r hr) fun x hx => lt62 (h.lt r hr x hx)
      omega) (by rw [List.length_map]; omega), val_tx, List.map_map]
  congr 4
  refine (List.map_congr_left fun r hr => ?_).trans (List.map_id rs)
  exact rowN_T (ne r hr) (h.ge r hr)
/-! ### the law -/
theorem due_row {s : Str} {r : List Int} (h4 : r.length = 4) : r.foldl (fun t x => t ++ sepW ++ txN x.toNat) (s ++ Str.ofString " |") = s ++ sepB ++ rowT r := by
  obtain ⟨a, b, c, d, rfl⟩ := four_of h4
  refine TL.ext_tl ?_
  have e : tl (Str.ofString " |") = [32, 124] := by decide +kernel
  simp only [List.foldl_cons, List.foldl_nil, TL.tl_append, tl_rowT, tl_sepW, tl_sepB, e, tl_txN, List.map_cons, List.map_nil, TL.joinL, List.append_assoc, List.cons_append, List.nil_append]
theorem drawn_nice {m rg : Nat} {rs : List (List Int)} (d : Drawn m rs) (hm : m ≤ 50) (hr : rg ≤ 1000) : Nice rs rg := by
  have hlen := d.len
  have rng : ∀ r ∈ rs, ∀ x ∈ r, 0 ≤ x ∧ x < 100 := fun r hr x hx => by
    have h1 : 0 < rs.flatten.count x := List.count_pos_iff.mpr (List.mem_flatten.mpr ⟨r, hr, hx⟩)
    rw [drawn_cnt d] at h1
    split at h1
    · rename_i z
      have := mem_lin.mp z
      omega
    · omega
  refine ⟨d.four, fun r hr x hx => (rng r hr x hx).1, fun r hr x hx => ?_, by omega, ?_⟩
  · have := rng r hr x hx
    exact Nat.lt_of_lt_of_le (show x.toNat < 100 by omega) (by decide +kernel)
  · exact Nat.lt_of_le_of_lt hr (by decide +kernel)
theorem law_k17_true (ns : List Int) (hl : ns.length ≤ 63) : f_law_k17 [.scr ns] = .ok (.va (.bl true)) := by
  unfold f_law_k17 F_law_k17
  rw [fn_eq [.va (.scr ns), .no, .no, .no, .no, .no, .no, .no] rfl]
  obtain ⟨m, hm, hm3⟩ : ∃ m : Nat, cell ns 0 % 11 = (m : Int) ∧ m ≤ 10 := ⟨(cell ns 0 % 11).toNat, by omega, by omega⟩
  obtain ⟨rg, hrg, hrg2⟩ : ∃ r : Nat, cell ns 1 % 101 = (r : Int) ∧ r ≤ 100 := ⟨(cell ns 1 % 101).toNat, by omega, by omega⟩
  have d0 : dMod (.int (cell ns 0)) (.int 11) = .ok (.va (.int (m : Int))) := by rw [o_mod (by decide), hm]
  have d1 : dMod (.int (cell ns 1)) (.int 101) = .ok (.va (.int (rg : Int))) := by rw [o_mod (by decide), hrg]
  obtain ⟨rs, rs0, h1, h2, d, _, hnu⟩ := sheet_ok (ns := ns) (start := 2) (m := m) (fx := []) (by decide) (by omega) (by simp) (by simp)
  have h1' : f_law_rows [.scr ns, .int 2, .int m, .lst []] = .ok (.ow (.lst (encRs rs0))) := h1
  have N := drawn_nice (rg := rg) d (by omega) (by omega)
  have h0 := str_ok (lt62 N.rg)
  have hlen := d.len
  have L := forD_fold (j := 5) (b := B_law_k17_2) (enc := encR) (fun (t : Str) e => ∃ a b, e = [.va (.scr ns), .va (.int (m : Int)), .va (.tup (encRs rs)), .va (.int (rg : Int)), .va (.str t), a, b, .no]) (fun t r => t ++ sepB ++ rowT r) rs (txN rg) [.va (.scr ns), .va (.int (m : Int)), .va (.tup (encRs rs)), .va (.int (rg : Int)), .va (.str (txN rg)), .no, .no, .no] ⟨_, _, rfl⟩
    (fun i r e hi ⟨a, b, he⟩ => by
      subst he
      obtain ⟨hi2, hv⟩ := List.getElem?_eq_some_iff.mp hi
      have hmm : r ∈ rs := hv ▸ List.getElem_mem hi2
      have hl := noteT_len (lt62 N.rg) (rs.take i) fun z hz => ⟨N.four z (List.mem_of_mem_take hz), fun x hx => lt62 (N.lt z (List.mem_of_mem_take hz) x hx)⟩
      have hl2 : (rs.take i).length ≤ 100 := by rw [List.length_take]; omega
      unfold noteT at hl
      generalize (rs.take i).foldl (fun t r => t ++ sepB ++ rowT r) (txN rg) = t at *
      have b1 : (Str.ofString " |").length = 2 := by rw [TL.len_tl]; decide +kernel
      have a1 : dAdd (.str t) (.str (Str.ofString " |")) = .ok (.va (.str (t ++ Str.ofString " |"))) := str_add (by rw [b1]; omega)
      have L2 := forD_fold (j := 6) (b := B_law_k17_1) (enc := D.int) (fun (u : Str) e => ∃ b, e = [.va (.scr ns), .va (.int (m : Int)), .va (.tup (encRs rs)), .va (.int (rg : Int)), .va (.str u), .va (encR r), b, .no]) (fun t x => t ++ sepW ++ txN x.toNat) r (t ++ Str.ofString " |") [.va (.scr ns), .va (.int (m : Int)), .va (.tup (encRs rs)), .va (.int (rg : Int)), .va (.str (t ++ Str.ofString " |")), .va (encR r), b, .no] ⟨_, rfl⟩
        (fun i x e hi ⟨b, he⟩ => by
          subst he
          obtain ⟨hi2, hv⟩ := List.getElem?_eq_some_iff.mp hi
          have hx : x ∈ r := hv ▸ List.getElem_mem hi2
          have hul : ((r.take i).foldl (fun t x => t ++ sepW ++ txN x.toNat) (t ++ Str.ofString " |")).length ≤ 100000 := by
            have key : ∀ (l : List Int) (t : Str), (∀ x ∈ l, x.toNat < 10 ^ 62) → (l.foldl (fun t x => t ++ sepW ++ txN x.toNat) t).length ≤ t.length + 63 * l.length := by
              intro l
              induction l with
              | nil => intro t _; exact Nat.le_refl _
              | cons x l ih =>
                intro t hh
                have q1 := tx_len (hh x List.mem_cons_self)
                have q2 := ih (t ++ sepW ++ txN x.toNat) fun z hz => hh z (List.mem_cons_of_mem _ hz)
                rw [len_app, len_app, sepW_len] at q2
                rw [List.foldl_cons, List.length_cons]
                omega
            have q := key (r.take i) (t ++ Str.ofString " |") fun z hz => lt62 (N.lt r hmm z (List.mem_of_mem_take hz))
            have q2 : (r.take i).length ≤ 4 := by rw [List.length_take, N.four r hmm]; omega
            rw [len_app, b1] at q
            omega
          generalize (r.take i).foldl (fun t x => t ++ sepW ++ txN x.toNat) (t ++ Str.ofString " |") = u at *
          have hs := str_ok (lt62 (N.lt r hmm x hx))
          have hx2 := tx_len (lt62 (N.lt r hmm x hx))
          rw [Int.toNat_of_nonneg (N.ge r hmm x hx)] at hs
          have c1 : dAdd (.str u) (.str sepW) = .ok (.va (.str (u ++ sepW))) := str_add (by rw [sepW_len]; omega)
          have c2 : dAdd (.str (u ++ sepW)) (.str (txN x.toNat)) = .ok (.va (.str (u ++ sepW ++ txN x.toNat))) := str_add (by rw [len_app, sepW_len]; omega)
          refine ⟨[.va (.scr ns), .va (.int (m : Int)), .va (.tup (encRs rs)), .va (.int (rg : Int)), .va (.str (u ++ sepW ++ txN x.toNat)), .va (encR r), .va (.int x), .no], ?_, _, rfl⟩
          unfold B_law_k17_1
          simp only [ev_seq, ev_set, ev_op1, ev_op2, ev_call, ev_cons, ev_nil, ev_c, ev_var, ev_tup, ev_lst, ev_cb, ev_fz, ev_lend, ev_and, ev_or, ev_not, ev_chain, ev_if, ev_bm, ev_get2, ev_ixO, ev_sl, ev_some, ev_none, ev_tval, ev_tand, ev_tor, ev_tnot, ev_irange1, ev_irange2, ev_sif, ev_next, ev_ret, ev_retO, ev_raise, ev_app, ev_put, ev_dput, ev_for, ev_while, ev_pub, pub_cons, pub_nil, ev_drop, ev_dnew, res_nx, res_rt, res_xc, R.bind_ok, R.bind_xc, R.out_ok, R.out_xc, Out.bind_nx, Out.bind_rt, Out.bind_xc, Sl.d_va, Sl.d_ow, Sl.frz_va, Sl.frz_ow, Sl.frz_no, List.getElem?_cons_succ, List.getElem?_cons_zero, List.set_cons_succ, List.set_cons_zero, List.length_cons, List.length_nil, List.map_cons, List.map_nil, lim_val, Nat.zero_le, Nat.reduceAdd, Nat.reduceLeDiff, Nat.reduceEqDiff, reduceIte, Nat.zero_add, if_true, if_false, Bool.false_eq_true, Bool.not_true, Bool.not_false, decide_true, decide_false, o_add, o_sub, o_neg, o_lt, o_le, o_gt, o_ge, o_eq, o_ne, o_isN, o_notN, isNon_non, isNon_int, isNon_tup, isNon_lst, o_idxL, o_idxT, o_lenL, o_lenT, o_lenS, o_listL, o_listT, o_tupleL, o_tupleT, o_int, o_intb, o_max2, o_min2, o_slL, o_slT, atD_0, atD_1, atD_2, atD_3, atD_4, atD_5, range_4, range_3, range_2, c1, hs, c2])
      obtain ⟨e2, hL2, b2, he2⟩ := L2
      rw [due_row (N.four r hmm)] at he2
      refine ⟨[.va (.scr ns), .va (.int (m : Int)), .va (.tup (encRs rs)), .va (.int (rg : Int)), .va (.str (t ++ sepB ++ rowT r)), .va (encR r), b2, .no], ?_, _, _, rfl⟩
      unfold B_law_k17_2
      simp only [ev_seq, ev_set, ev_op1, ev_op2, ev_call, ev_cons, ev_nil, ev_c, ev_var, ev_tup, ev_lst, ev_cb, ev_fz, ev_lend, ev_and, ev_or, ev_not, ev_chain, ev_if, ev_bm, ev_get2, ev_ixO, ev_sl, ev_some, ev_none, ev_tval, ev_tand, ev_tor, ev_tnot, ev_irange1, ev_irange2, ev_sif, ev_next, ev_ret, ev_retO, ev_raise, ev_app, ev_put, ev_dput, ev_for, ev_while, ev_pub, pub_cons, pub_nil, ev_drop, ev_dnew, res_nx, res_rt, res_xc, R.bind_ok, R.bind_xc, R.out_ok, R.out_xc, Out.bind_nx, Out.bind_rt, Out.bind_xc, Sl.d_va, Sl.d_ow, Sl.frz_va, Sl.frz_ow, Sl.frz_no, List.getElem?_cons_succ, List.getElem?_cons_zero, List.set_cons_succ, List.set_cons_zero, List.length_cons, List.length_nil, List.map_cons, List.map_nil, lim_val, Nat.zero_le, Nat.reduceAdd, Nat.reduceLeDiff, Nat.reduceEqDiff, reduceIte, Nat.zero_add, if_true, if_false, Bool.false_eq_true, Bool.not_true, Bool.not_false, decide_true, decide_false, o_add, o_sub, o_neg, o_lt, o_le, o_gt, o_ge, o_eq, o_ne, o_isN, o_notN, isNon_non, isNon_int, isNon_tup, isNon_lst, o_idxL, o_idxT, o_lenL, o_lenT, o_lenS, o_listL, o_listT, o_tupleL, o_tupleT, o_int, o_intb, o_max2, o_min2, o_slL, o_slT, atD_0, atD_1, atD_2, atD_3, atD_4, atD_5, range_4, range_3, range_2, ev_iseq, a1, hL2, he2])
  obtain ⟨e, hL, a, b, he⟩ := L
  have hfold : rs.foldl (fun t r => t ++ sepB ++ rowT r) (txN rg) = noteT rg rs := rfl
  rw [hfold] at he
  have hsh := shown_ok N
  have hrd := read_note N
  have hcnt : (rs.flatten.all fun x => decide (rs.flatten.count x = 2)) = true := by
    refine List.all_eq_true.mpr fun x hx => decide_eq_true ?_
    have h1 : 0 < rs.flatten.count x := List.count_pos_iff.mpr hx
    rw [drawn_cnt d] at h1 ⊢
    split at h1
    · rename_i z
      rw [if_pos z]
    · omega
  have hdr := drawn_ok (d := .lst (encRs rs)) (rings := (rg : Int)) (.inl rfl) d.four (by omega) hcnt
  have hn2 : numb rs = rs := by
    rw [hnu]
    exact numb_numb _
  rw [hn2] at hdr
  rw [hdr] at hrd
  have hsame := same_ok (rs := rs) (rings := (rg : Int)) d.four (by omega)
  have isi : bIsi "str" [.str (noteT rg rs)] = .ok (.va (.bl true)) := rfl
  have ne : decide (noteT rg rs = noteT rg rs) = true := decide_eq_true rfl
  simp only [ev_seq, ev_set, ev_op1, ev_op2, ev_call, ev_cons, ev_nil, ev_c, ev_var, ev_tup, ev_lst, ev_cb, ev_fz, ev_lend, ev_and, ev_or, ev_not, ev_chain, ev_if, ev_bm, ev_get2, ev_ixO, ev_sl, ev_some, ev_none, ev_tval, ev_tand, ev_tor, ev_tnot, ev_irange1, ev_irange2, ev_sif, ev_next, ev_ret, ev_retO, ev_raise, ev_app, ev_put, ev_dput, ev_for, ev_while, ev_pub, pub_cons, pub_nil, ev_drop, ev_dnew, res_nx, res_rt, res_xc, R.bind_ok, R.bind_xc, R.out_ok, R.out_xc, Out.bind_nx, Out.bind_rt, Out.bind_xc, Sl.d_va, Sl.d_ow, Sl.frz_va, Sl.frz_ow, Sl.frz_no, List.getElem?_cons_succ, List.getElem?_cons_zero, List.set_cons_succ, List.set_cons_zero, List.length_cons, List.length_nil, List.map_cons, List.map_nil, lim_val, Nat.zero_le, Nat.reduceAdd, Nat.reduceLeDiff, Nat.reduceEqDiff, reduceIte, Nat.zero_add, if_true, if_false, Bool.false_eq_true, Bool.not_true, Bool.not_false, decide_true, decide_false, o_add, o_sub, o_neg, o_lt, o_le, o_gt, o_ge, o_eq, o_ne, o_isN, o_notN, isNon_non, isNon_int, isNon_tup, isNon_lst, o_idxL, o_idxT, o_lenL, o_lenT, o_lenS, o_listL, o_listT, o_tupleL, o_tupleT, o_int, o_intb, o_max2, o_min2, o_slL, o_slT, atD_0, atD_1, atD_2, atD_3, atD_4, atD_5, range_4, range_3, range_2, ev_iseq, cell_at_ok (ns := ns) (k := 0) (by decide), cell_at_ok (ns := ns) (k := 1) (by decide), d0, d1, h1', h2, h0, hL, he, hsh, hrd, isi, str_ne, ne, hsame]
end DL
set_option maxRecDepth 100000
/-! DL: the plain data's operations are what the model does (over HandS). -/
namespace DL
open PySem PySem.Spec PyProof.Rows L2

/-! ### heaps that grow -/
def Ex (H H' : Hp) : Prop := ∀ a o, H a = some o → H' a = some o
theorem Ex.refl (H : Hp) : Ex H H := fun _ _ h => h
theorem Ex.trans {H H1 H2 : Hp} (a : Ex H H1) (b : Ex H1 H2) : Ex H H2 := fun x o h => b x o (a x o h)
theorem Ex.new {H : Hp} {p : Addr} {o : HO} (h : H p = none) : Ex H (upd H p o) := fun a u e => by
  rw [upd_ne (ne_of_none e h)]
  exact e
/-- o may have been locked meanwhile -/
def Lk (o o' : HO) : Prop := o' = o ∨ ∃ ob kvs, o = .dK kvs ∧ o' = .frz ob (.dK kvs)
theorem Lk.refl (o : HO) : Lk o o := .inl rfl
theorem Lk.trans {a b c : HO} (h : Lk a b) (k : Lk b c) : Lk a c := by
  rcases h with rfl | ⟨ob, kvs, rfl, rfl⟩
  · exact k
  · rcases k with rfl | ⟨_, _, e, _⟩
    · exact .inr ⟨ob, kvs, rfl, rfl⟩
    · cases e
/-- from the read part Hf of H to the read part Hf' of H' -/
structure Grow (Hf H Hf' H' : Hp) : Prop where
  sub : Ex Hf' H'
  old : Ex Hf Hf'
  kept : ∀ a o, H a = some o → Hf a = none → H' a = some o ∧ Hf' a = none
theorem Grow.refl {Hf H : Hp} (h : Ex Hf H) : Grow Hf H Hf H := ⟨h, .refl Hf, fun _ _ e n => ⟨e, n⟩⟩
theorem Grow.trans {Hf H Hf1 H1 Hf2 H2 : Hp} (a : Grow Hf H Hf1 H1) (b : Grow Hf1 H1 Hf2 H2) : Grow Hf H Hf2 H2 :=
  ⟨b.sub, a.old.trans b.old, fun x o e n => by
    obtain ⟨e1, n1⟩ := a.kept x o e n
    exact b.kept x o e1 n1⟩
/-- an object that is new stands nowhere before -/
theorem Grow.fresh {Hf H Hf' H' : Hp} (g : Grow Hf H Hf' H') (s : Ex Hf H) {p : Addr} (h : H' p = none) : H p = none := by
  cases e : H p with
  | none => rfl
  | some o =>
    cases e2 : Hf p with
    | none =>
      obtain ⟨q, _⟩ := g.kept p o e e2
      rw [h] at q; cases q
    | some u =>
      have := g.sub p u (g.old p u e2)
      rw [h] at this; cases this
theorem Grow.new {Hf H : Hp} {p : Addr} {o : HO} (s : Ex Hf H) (h : H p = none) : Grow Hf H (upd Hf p o) (upd H p o) := by
  have hf : Hf p = none := by
    cases e : Hf p with
    | none => rfl
    | some u =>
      have := s p u e
      rw [h] at this; cases this
  refine ⟨fun a u e => ?_, fun a u e => by rw [upd_ne (ne_of_none e hf)]; exact e, fun a u e n => ?_⟩
  · by_cases ha : a = p
    · subst ha
      rw [upd_same] at e ⊢
      exact e
    · rw [upd_ne ha] at e ⊢
      exact s a u e
  · have ha : a ≠ p := ne_of_none e h
    rw [upd_ne ha, upd_ne ha]
    exact ⟨e, n⟩
/-- a new object that is not read yet -/
theorem Grow.newO {Hf H : Hp} {p : Addr} {o : HO} (s : Ex Hf H) (h : H p = none) : Grow Hf H Hf (upd H p o) := by
  refine ⟨s.trans (Ex.new h), .refl Hf, fun a u e n => ?_⟩
  rw [upd_ne (ne_of_none e h)]
  exact ⟨e, n⟩
theorem Ex.none_of {Hf H : Hp} (s : Ex Hf H) {p : Addr} (h : H p = none) : Hf p = none := by
  cases e : Hf p with
  | none => rfl
  | some u =>
    have := s p u e
    rw [h] at this; cases this
/-- what is held alone is laid open -/
theorem Grow.open {Hf H Hf1 H1 : Hp} {p : Addr} {o : HO} (s : Ex Hf H) (g : Grow Hf H Hf1 H1) (hp : H p = none) (hn : Hf1 p = none) (ho : H1 p = some o) : Grow Hf H (upd Hf1 p o) H1 := by
  refine ⟨fun a u e => ?_, fun a u e => ?_, fun a u e n => ?_⟩
  · by_cases ha : a = p
    · subst ha
      rw [upd_same] at e; cases e
      exact ho
    · rw [upd_ne ha] at e
      exact g.sub a u e
  · have ha : a ≠ p := ne_of_none (s a u e) hp
    rw [upd_ne ha]
    exact g.old a u e
  · have ha : a ≠ p := ne_of_none e hp
    rw [upd_ne ha]
    exact g.kept a u e n

/-! ### data in a heap -/
def kqV (p : Int × Fv) : Key × V := (.inl p.1, match p.2 with
  | .int i => .int i
  | .bl b => .bl b)
def Fv.v : Fv → V
  | .int i => .int i
  | .bl b => .bl b
theorem kqV_eq (p : Int × Fv) : kqV p = (.inl p.1, p.2.v) := by
  obtain ⟨k, v⟩ := p
  cases v <;> rfl
mutual
inductive Rep (K : PySem.W.Frag) (H : Hp) : D → V → Prop
  | non : Rep K H .non .non
  | bl (b : Bool) : Rep K H (.bl b) (.bl b)
  | int (i : Int) : Rep K H (.int i) (.int i)
  | str (x : Str) : Rep K H (.str x) (.str x)
  | lst {a : Addr} {vs : List V} {ds : List D} : H a = some (.lst vs) → RepL K H ds vs → Rep K H (.lst ds) (.ref a)
  | tup {a : Addr} {vs : List V} {ds : List D} : H a = some (.tup vs) → RepL K H ds vs → Rep K H (.tup ds) (.ref a)
  | dic {a : Addr} {kvs : List (Int × Fv)} : Rd H a (.dK (kvs.map kqV)) → Rep K H (.dic kvs) (.ref a)
  | scr {a : Addr} {ns : List Int} : SqL K H a (ns.map V.int) → Rep K H (.scr ns) (.ref a)
  | adr (a : Addr) : Rep K H (.adr a) (.ref a)
inductive RepL (K : PySem.W.Frag) (H : Hp) : List D → List V → Prop
  | nil : RepL K H [] []
  | cons {d : D} {ds : List D} {v : V} {vs : List V} : Rep K H d v → RepL K H ds vs → RepL K H (d :: ds) (v :: vs)
end
/-- what Rep leans on is kept, or locked -/
def Lo (H H' : Hp) : Prop := ∀ a o, H a = some o → ∃ o', H' a = some o' ∧ Lk o o'
theorem Lo.refl (H : Hp) : Lo H H := fun _ o e => ⟨o, e, .refl o⟩
theorem Lo.trans {H H1 H2 : Hp} (a : Lo H H1) (b : Lo H1 H2) : Lo H H2 := fun x o e => by
  obtain ⟨o1, e1, l1⟩ := a x o e
  obtain ⟨o2, e2, l2⟩ := b x o1 e1
  exact ⟨o2, e2, l1.trans l2⟩
theorem Ex.lo {H H' : Hp} (h : Ex H H') : Lo H H' := fun a o e => ⟨o, h a o e, .refl o⟩
theorem Grow.lo {Hf H Hf' H' : Hp} (g : Grow Hf H Hf' H') : Lo Hf Hf' := g.old.lo
theorem Lo.rd {H H' : Hp} (l : Lo H H') {a : Addr} {kvs : List (Key × V)} (h : Rd H a (.dK kvs)) : Rd H' a (.dK kvs) := by
  rcases h with h | ⟨ob, h⟩
  · obtain ⟨o', e, k⟩ := l a _ h
    rcases k with rfl | ⟨ob, kvs', e1, rfl⟩
    · exact .inl e
    · cases e1
      exact .inr ⟨ob, e⟩
  · obtain ⟨o', e, k⟩ := l a _ h
    rcases k with rfl | ⟨_, _, e1, _⟩
    · exact .inr ⟨ob, e⟩
    · cases e1
theorem Lo.lst {H H' : Hp} (l : Lo H H') {a : Addr} {vs : List V} (h : H a = some (.lst vs)) : H' a = some (.lst vs) := by
  obtain ⟨o', e, k⟩ := l a _ h
  rcases k with rfl | ⟨_, _, e1, _⟩
  · exact e
  · cases e1
theorem Lo.tup {H H' : Hp} (l : Lo H H') {a : Addr} {vs : List V} (h : H a = some (.tup vs)) : H' a = some (.tup vs) := by
  obtain ⟨o', e, k⟩ := l a _ h
  rcases k with rfl | ⟨_, _, e1, _⟩
  · exact e
  · cases e1
theorem Lo.sql {K : PySem.W.Frag} {H H' : Hp} (l : Lo H H') {a : Addr} {vs : List V} (h : SqL K H a vs) : SqL K H' a vs := by
  rcases h with (h | ⟨ob, h⟩) | h
  · exact .inl (.inl (l.lst h))
  · obtain ⟨o', e, k⟩ := l a _ h
    rcases k with rfl | ⟨_, _, e1, _⟩
    · exact .inl (.inr ⟨ob, e⟩)
    · cases e1
  · exact .inr h
section
variable {K : PySem.W.Frag} {H H' : Hp}
mutual
theorem Rep.mono (l : Lo H H') : ∀ {d : D} {v : V}, Rep K H d v → Rep K H' d v
  | _, _, .non => .non
  | _, _, .bl b => .bl b
  | _, _, .int i => .int i
  | _, _, .str x => .str x
  | _, _, .lst h r => .lst (l.lst h) (RepL.mono l r)
  | _, _, .tup h r => .tup (l.tup h) (RepL.mono l r)
  | _, _, .dic h => .dic (l.rd h)
  | _, _, .scr h => .scr (l.sql h)
  | _, _, .adr a => .adr a
theorem RepL.mono (l : Lo H H') : ∀ {ds : List D} {vs : List V}, RepL K H ds vs → RepL K H' ds vs
  | _, _, .nil => .nil
  | _, _, .cons r t => .cons (Rep.mono l r) (RepL.mono l t)
end
theorem RepL.length : ∀ {ds : List D} {vs : List V}, RepL K H ds vs → ds.length = vs.length
  | _, _, .nil => rfl
  | _, _, .cons _ t => by rw [List.length_cons, List.length_cons, RepL.length t]
theorem RepL.get : ∀ {ds : List D} {vs : List V} {i : Nat} {d : D}, RepL K H ds vs → ds[i]? = some d → ∃ v, vs[i]? = some v ∧ Rep K H d v
  | _, _, _, _, .nil, e => by simp at e
  | _, _, 0, _, .cons r _, e => by
    have e1 := Option.some.inj e
    subst e1
    exact ⟨_, rfl, r⟩
  | _, _, i + 1, d, .cons _ t, e => by
    obtain ⟨v, h1, h2⟩ := RepL.get (i := i) (d := d) t (by simpa using e)
    exact ⟨v, by simpa using h1, h2⟩
theorem RepL.append : ∀ {ds es : List D} {vs us : List V}, RepL K H ds vs → RepL K H es us → RepL K H (ds ++ es) (vs ++ us)
  | _, _, _, _, .nil, s => s
  | _, _, _, _, .cons r t, s => .cons r (RepL.append t s)
theorem RepL.set {d : D} {v : V} (r : Rep K H d v) : ∀ {ds : List D} {vs : List V} (i : Nat), RepL K H ds vs → RepL K H (ds.set i d) (vs.set i v)
  | _, _, _, .nil => .nil
  | _, _, 0, .cons _ t => .cons r t
  | _, _, i + 1, .cons q t => .cons q (RepL.set r i t)
theorem RepL.take : ∀ {ds : List D} {vs : List V} (n : Nat), RepL K H ds vs → RepL K H (ds.take n) (vs.take n)
  | _, _, 0, _ => .nil
  | _, _, _ + 1, .nil => .nil
  | _, _, n + 1, .cons r t => .cons r (RepL.take n t)
theorem RepL.drop : ∀ {ds : List D} {vs : List V} (n : Nat), RepL K H ds vs → RepL K H (ds.drop n) (vs.drop n)
  | _, _, 0, r => r
  | _, _, _ + 1, .nil => .nil
  | _, _, n + 1, .cons _ t => RepL.drop n t
theorem RepL.ints : ∀ {ds : List D} {vs : List V} {ns : List Int}, RepL K H ds vs → intsOf ds = some ns → vs = ns.map V.int
  | _, _, _, .nil, e => by
    have e1 := Option.some.inj e
    subst e1
    rfl
  | _, _, ns, .cons r t, e => by
    cases r with
    | int i =>
      rename_i ds' vs'
      cases q : intsOf ds' with
      | none => simp [intsOf, q] at e
      | some ms =>
        have e1 : i :: ms = ns := by
          simp only [intsOf, q, Option.map_some] at e
          exact Option.some.inj e
        subst e1
        rw [RepL.ints t q]
        rfl
    | _ => simp [intsOf] at e
theorem RepL.ofInts (ns : List Int) : RepL K H (ns.map D.int) (ns.map V.int) := by
  induction ns with
  | nil => exact .nil
  | cons n ns ih => exact .cons (.int n) ih
/-- flat data does not lean on the heap -/
theorem Rep.flat {d : D} {v : V} (f : d.flat = true) (r : Rep K H d v) (H2 : Hp) : Rep K H2 d v := by
  cases r with
  | non => exact .non
  | bl b => exact .bl b
  | int i => exact .int i
  | str x => exact .str x
  | _ => exact absurd (show false = true from f) Bool.false_ne_true
theorem RepL.flats : ∀ {ds : List D} {vs : List V}, ds.all D.flat = true → RepL K H ds vs → ∀ H2 : Hp, RepL K H2 ds vs
  | _, _, _, .nil, _ => .nil
  | _, _, f, .cons r t, H2 => by
    rw [List.all_cons, Bool.and_eq_true] at f
    exact .cons (r.flat f.1 H2) (RepL.flats f.2 t H2)
end

/-- the object at p is held alone, its items are read in Hf -/
def OwnAt (K : PySem.W.Frag) (Hf H : Hp) (d : D) (p : Addr) : Prop := match d with
  | .lst ds => ∃ vs, H p = some (.lst vs) ∧ RepL K Hf ds vs
  | .dic kvs => H p = some (.dK (kvs.map kqV))
  | _ => False
/-- an expression's value behind it: from H to Hf', H' -/
def SlV (K : PySem.W.Frag) (H Hf' H' : Hp) (s : Sl) (v : V) : Prop := match s with
  | .no => False
  | .va d => Rep K Hf' d v
  | .ow d => ∃ p, v = .ref p ∧ H p = none ∧ Hf' p = none ∧ OwnAt K Hf' H' d p
def SlotR (K : PySem.W.Frag) (H0 Hf H : Hp) (s : Sl) (o : Option V) : Prop := match s with
  | .no => True
  | .va d => ∃ v, o = some v ∧ Rep K Hf d v
  | .ow d => ∃ p, o = some (.ref p) ∧ H0 p = none ∧ Hf p = none ∧ OwnAt K Hf H d p
/-- slot i holds the object at p alone -/
def OwnsAt (env : Env) (σ : L2.St) (i : Nat) (p : Addr) : Prop := (∃ d, env[i]? = some (.ow d)) ∧ σ[i]? = some (some (.ref p))
structure EnvR (K : PySem.W.Frag) (H0 Hf H : Hp) (env : Env) (σ : L2.St) : Prop where
  len : env.length = σ.length
  slot : ∀ (i : Nat) (s : Sl) (o : Option V), env[i]? = some s → σ[i]? = some o → SlotR K H0 Hf H s o
  apart : ∀ (i j : Nat) (p : Addr), OwnsAt env σ i p → OwnsAt env σ j p → i = j

section
variable {K : PySem.W.Frag} {H0 Hf H Hf' H' : Hp} {env : Env} {σ : L2.St}
theorem OwnAt.some {d : D} {p : Addr} (h : OwnAt K Hf H d p) : ∃ o, H p = some o := by
  cases d with
  | lst ds => obtain ⟨vs, e, _⟩ := h; exact ⟨_, e⟩
  | dic kvs => exact ⟨_, h⟩
  | _ => exact False.elim h
theorem OwnAt.grow {d : D} {p : Addr} (h : OwnAt K Hf H d p) (g : Grow Hf H Hf' H') (n : Hf p = none) : OwnAt K Hf' H' d p ∧ Hf' p = none := by
  obtain ⟨o, e⟩ := h.some
  obtain ⟨e1, n1⟩ := g.kept p o e n
  cases d with
  | lst ds =>
    obtain ⟨vs, e2, r⟩ := h
    rw [e] at e2; cases e2
    exact ⟨⟨vs, e1, r.mono g.lo⟩, n1⟩
  | dic kvs =>
    have e2 : H p = Option.some (.dK (kvs.map kqV)) := h
    rw [e] at e2; cases e2
    exact ⟨e1, n1⟩
  | _ => exact False.elim h
theorem EnvR.grow (x : EnvR K H0 Hf H env σ) (g : Grow Hf H Hf' H') : EnvR K H0 Hf' H' env σ :=
  ⟨x.len, fun i s o e1 e2 => by
    have q := x.slot i s o e1 e2
    cases s with
    | no => trivial
    | va d => obtain ⟨v, e, r⟩ := q; exact ⟨v, e, r.mono g.lo⟩
    | ow d =>
      obtain ⟨p, e, h0, n, w⟩ := q
      obtain ⟨w', n'⟩ := w.grow g n
      exact ⟨p, e, h0, n', w'⟩, x.apart⟩
theorem EnvR.any (x : EnvR K H0 Hf H env σ) {i : Nat} {s : Sl} (e : env[i]? = some s) : ∃ o, σ[i]? = some o ∧ SlotR K H0 Hf H s o := by
  have hi := (List.getElem?_eq_some_iff.mp e).1
  have hj : i < σ.length := by rw [← x.len]; exact hi
  exact ⟨σ[i], List.getElem?_eq_getElem hj, x.slot i s _ e (List.getElem?_eq_getElem hj)⟩
/-- a new temporary is laid open -/
theorem SlV.rep {s : Sl} {v : V} (sub : Ex Hf H) (g : Grow Hf H Hf' H') (h : SlV K H Hf' H' s v) : ∃ Hf2, Grow Hf H Hf2 H' ∧ Rep K Hf2 s.d v := by
  cases s with
  | no => exact False.elim h
  | va d => exact ⟨Hf', g, h⟩
  | ow d =>
    obtain ⟨p, rfl, hp, n, w⟩ := h
    obtain ⟨o, e⟩ := w.some
    refine ⟨upd Hf' p o, Grow.open sub g hp n e, ?_⟩
    cases d with
    | lst ds =>
      obtain ⟨vs, e2, r⟩ := w
      rw [e] at e2; cases e2
      exact .lst upd_same (r.mono (Ex.new n).lo)
    | dic kvs =>
      have e2 : H' p = some (.dK (kvs.map kqV)) := w
      rw [e] at e2; cases e2
      exact .dic (.inl upd_same)
    | _ => exact False.elim w
end
end DL
set_option maxRecDepth 100000
namespace DL
open PySem PySem.Spec PyProof.Rows L2

/-- what is wanted behind an expression -/
def PostE (K : PySem.W.Frag) (W : WX) (cls : Nat → Addr) (Hf H : Hp) (σ : L2.St) (r : R Sl) (Q : VK) : Prop := match r with
  | .ok s => ∀ v Hf' H', Grow Hf H Hf' H' → SlV K H Hf' H' s v → Q v H'
  | .xc c => ∀ Hf' H', Grow Hf H Hf' H' → W (.ref (cls c)) none σ H'
  | .bad => False
/-- behind a reading whose outcome is not held -/
def PostX (W : WX) (cls : Nat → Addr) (Hf H : Hp) (σ : L2.St) {α : Type} (r : R α) (P : α → Prop) : Prop := match r with
  | .ok a => P a
  | .xc c => ∀ Hf' H', Grow Hf H Hf' H' → W (.ref (cls c)) none σ H'
  | .bad => False
structure DE (K : PySem.W.Frag) (W : WX) (cls : Nat → Addr) (t : TE) (f : FE) : Prop where
  run : ∀ (H0 Hf H : Hp) (env : Env) (σ : L2.St) (Q : VK), Ex Hf H → EnvR K H0 Hf H env σ → PostE K W cls Hf H σ (f env) Q → t σ H Q
structure DT (K : PySem.W.Frag) (W : WX) (cls : Nat → Addr) (t : TT) (f : FT) : Prop where
  run : ∀ (H0 Hf H : Hp) (env : Env) (σ : L2.St) (Q : Bool → Hp → Prop), Ex Hf H → EnvR K H0 Hf H env σ →
    PostX W cls Hf H σ (f env) (fun b => ∀ Hf' H', Grow Hf H Hf' H' → Q b H') → t σ H Q
structure DA (K : PySem.W.Frag) (W : WX) (cls : Nat → Addr) (t : TA) (f : FA) : Prop where
  run : ∀ (H0 Hf H : Hp) (env : Env) (σ : L2.St) (Q : List V → Hp → Prop), Ex Hf H → EnvR K H0 Hf H env σ →
    PostX W cls Hf H σ (f env) (fun ds => ∀ vs Hf' H', Grow Hf H Hf' H' → RepL K Hf' ds vs → Q vs H') → t σ H Q
structure DO (K : PySem.W.Frag) (W : WX) (cls : Nat → Addr) (t : TO) (f : Env → R (Option Int)) : Prop where
  run : ∀ (H0 Hf H : Hp) (env : Env) (σ : L2.St) (Q : Option Int → Hp → Prop), Ex Hf H → EnvR K H0 Hf H env σ →
    PostX W cls Hf H σ (f env) (fun o => ∀ Hf' H', Grow Hf H Hf' H' → Q o H') → t σ H Q
/-- an iterator that tells the items of ds, in any heap that has what Hf has -/
structure JOk (K : PySem.W.Frag) (J : It) (Hf : Hp) (ds : List D) : Prop where
  go : ∀ i H, Lo Hf H → i < ds.length → J.go i H
  yld : ∀ i H x H', Lo Hf H → i < ds.length → J.yld i H x H' → H' = H ∧ ∃ d, ds[i]? = some d ∧ Rep K Hf d x
  stop : ∀ i H, Lo Hf H → ds.length ≤ i → J.stop i H
structure DI (K : PySem.W.Frag) (W : WX) (cls : Nat → Addr) (t : TI) (f : FI) : Prop where
  run : ∀ (H0 Hf H : Hp) (env : Env) (σ : L2.St) (Q : It → Hp → Prop), Ex Hf H → EnvR K H0 Hf H env σ →
    PostX W cls Hf H σ (f env) (fun ds => ∀ J Hf' H', Grow Hf H Hf' H' → JOk K J Hf' ds → Q J H') → t σ H Q

section
variable {K : PySem.W.Frag} {W : WX} {cls : Nat → Addr}
theorem PostX.mono {Hf H : Hp} {σ : L2.St} {α : Type} {r : R α} {P P' : α → Prop} (h : PostX W cls Hf H σ r P) (k : ∀ a, P a → P' a) : PostX W cls Hf H σ r P' := by
  cases r with
  | ok a => exact k a h
  | xc c => exact h
  | bad => exact h
theorem PostX.grow {Hf H Hf1 H1 : Hp} {σ : L2.St} {α : Type} {r : R α} {P : α → Prop} (h : PostX W cls Hf H σ r P) (g : Grow Hf H Hf1 H1) : PostX W cls Hf1 H1 σ r P := by
  cases r with
  | ok a => exact h
  | xc c => exact fun Hf' H' g' => h Hf' H' (g.trans g')
  | bad => exact h
theorem PostX.bind {Hf H : Hp} {σ : L2.St} {α β : Type} {r : R α} {f : α → R β} {P : β → Prop} (h : PostX W cls Hf H σ (r.bind f) P) : PostX W cls Hf H σ r (fun a => PostX W cls Hf H σ (f a) P) := by
  cases r with
  | ok a => exact h
  | xc c => exact h
  | bad => exact h
theorem PostE.x {Hf H : Hp} {σ : L2.St} {r : R Sl} {Q : VK} (h : PostE K W cls Hf H σ r Q) : PostX W cls Hf H σ r (fun s => ∀ v Hf' H', Grow Hf H Hf' H' → SlV K H Hf' H' s v → Q v H') := by
  cases r with
  | ok a => exact h
  | xc c => exact h
  | bad => exact h
theorem PostX.e {Hf H : Hp} {σ : L2.St} {r : R Sl} {Q : VK} (h : PostX W cls Hf H σ r (fun s => ∀ v Hf' H', Grow Hf H Hf' H' → SlV K H Hf' H' s v → Q v H')) : PostE K W cls Hf H σ r Q := by
  cases r with
  | ok a => exact h
  | xc c => exact h
  | bad => exact h
theorem SlV.back {Hf H Hf1 H1 Hf2 H2 : Hp} {s : Sl} {v : V} (sub : Ex Hf H) (g : Grow Hf H Hf1 H1) (h : SlV K H1 Hf2 H2 s v) : SlV K H Hf2 H2 s v := by
  cases s with
  | no => exact h
  | va d => exact h
  | ow d => obtain ⟨p, e, hp, r⟩ := h; exact ⟨p, e, g.fresh sub hp, r⟩
theorem PostE.grow {Hf H Hf1 H1 : Hp} {σ : L2.St} {r : R Sl} {Q : VK} (sub : Ex Hf H) (h : PostE K W cls Hf H σ r Q) (g : Grow Hf H Hf1 H1) : PostE K W cls Hf1 H1 σ r Q := by
  cases r with
  | ok a => exact fun v Hf' H' g' q => h v Hf' H' (g.trans g') (q.back sub g)
  | xc c => exact fun Hf' H' g' => h Hf' H' (g.trans g')
  | bad => exact h
/-- one expression, then the rest, by its value -/
theorem DE.then {t : TE} {f : FE} (d : DE K W cls t f) {H0 Hf H : Hp} {env : Env} {σ : L2.St} {Q : VK} {β : Type} {k : Sl → R β} {P : β → Prop} (sub : Ex Hf H) (x : EnvR K H0 Hf H env σ)
    (h : PostX W cls Hf H σ ((f env).bind k) P)
    (go : ∀ s v Hf' H', Grow Hf H Hf' H' → Rep K Hf' s.d v → PostX W cls Hf' H' σ (k s) P → Q v H') : t σ H Q := by
  refine d.run H0 Hf H env σ Q sub x ?_
  cases e : f env with
  | ok s =>
    intro v Hf' H' g q
    obtain ⟨Hf2, g2, r⟩ := q.rep sub g
    rw [e] at h
    exact go s v Hf2 H' g2 r (h.grow g2)
  | xc c => rw [e] at h; exact h
  | bad => rw [e] at h; exact h

/-! ### names, constants -/
theorem de_var {i : Nat} : DE K W cls (L2.tVar i) (eVar i) := by
  refine ⟨fun H0 Hf H env σ Q sub x h => ?_⟩
  unfold eVar at h
  cases e : env[i]? with
  | none => rw [e] at h; exact h.elim
  | some s =>
    rw [e] at h
    cases s with
    | va d =>
      obtain ⟨o, eo, v, ev, r⟩ := x.any e
      subst ev
      exact ⟨v, eo, h v Hf H (.refl sub) r⟩
    | no => exact h.elim
    | ow d => exact h.elim
theorem de_c {d : D} {v : V} (r : ∀ H : Hp, Rep K H d v) : DE K W cls (tC v) (eC d) :=
  ⟨fun H0 Hf H env σ Q sub x h => h v Hf H (.refl sub) (r Hf)⟩
theorem de_int {i : Int} : DE K W cls (tC (.int i)) (eC (.int i)) := de_c fun _ => .int i
theorem de_bl {b : Bool} : DE K W cls (tC (.bl b)) (eC (.bl b)) := de_c fun _ => .bl b
theorem de_non : DE K W cls (tC .non) (eC .non) := de_c fun _ => .non
theorem de_str {x : Str} : DE K W cls (tC (.str x)) (eC (.str x)) := de_c fun _ => .str x

/-! ### operations on values -/
/-- what an operation of two values comes to -/
def RR (K : PySem.W.Frag) (r : R2) (g : D → D → R Sl) : Prop := ∀ (Hf H : Hp) (a b : D) (x y : V) (Q : VK), Ex Hf H → Rep K Hf a x → Rep K Hf b y →
  PostE K (fun _ _ _ _ => False) (fun _ => 0) Hf H [] (g a b) Q → r x y H Q
def RU1 (K : PySem.W.Frag) (r : V → Hp → VK → Prop) (g : D → R Sl) : Prop := ∀ (Hf H : Hp) (a : D) (x : V) (Q : VK), Ex Hf H → Rep K Hf a x →
  PostE K (fun _ _ _ _ => False) (fun _ => 0) Hf H [] (g a) Q → r x H Q
def RCB (K : PySem.W.Frag) (r : List V → Hp → VK → Prop) (g : List D → R Sl) : Prop := ∀ (Hf H : Hp) (as : List D) (xs : List V) (Q : VK), Ex Hf H → RepL K Hf as xs →
  PostE K (fun _ _ _ _ => False) (fun _ => 0) Hf H [] (g as) Q → r xs H Q
def NoXc {α β : Type} (g : α → R β) : Prop := ∀ a c, g a ≠ .xc c
/-- an operation lets no error out: what it is asked is what was asked -/
theorem PostX.noxc {Hf H : Hp} {σ : L2.St} {r : R Sl} {Q : VK} (hn : ∀ c, r ≠ .xc c) (h : PostX W cls Hf H σ r (fun s => ∀ v Hf' H', Grow Hf H Hf' H' → SlV K H Hf' H' s v → Q v H')) :
    PostE K (fun _ _ _ _ => False) (fun _ => 0) Hf H [] r Q := by
  cases r with
  | ok a => exact h
  | xc c => exact absurd rfl (hn c)
  | bad => exact h
theorem postE_ok_grow {Hf H Hf1 H1 : Hp} {s : Sl} {Q : VK} {v : V} (sub : Ex Hf H) (g : Grow Hf H Hf1 H1) (h : PostX W cls Hf1 H1 [] (R.ok s) (fun s => ∀ v Hf' H', Grow Hf H Hf' H' → SlV K H Hf' H' s v → Q v H')) : True := trivial
/-- widen what follows an operation behind some growth -/
theorem PostX.behind {Hf H Hf1 H1 : Hp} {σ : L2.St} {r : R Sl} {Q : VK} (sub : Ex Hf H) (g : Grow Hf H Hf1 H1) (h : PostX W cls Hf1 H1 σ r (fun s => ∀ v Hf' H', Grow Hf H Hf' H' → SlV K H Hf' H' s v → Q v H')) :
    PostX W cls Hf1 H1 σ r (fun s => ∀ v Hf' H', Grow Hf1 H1 Hf' H' → SlV K H1 Hf' H' s v → Q v H') :=
  h.mono fun s k v Hf' H' g' q => k v Hf' H' (g.trans g') (q.back sub g)
theorem de_op1 {r : V → Hp → VK → Prop} {g : D → R Sl} {ta : TE} {fa : FE} (hr : RU1 K r g) (hn : NoXc g) (ha : DE K W cls ta fa) : DE K W cls (tUn r ta) (eOp1 g fa) := by
  refine ⟨fun H0 Hf H env σ Q sub x h => ?_⟩
  refine ha.then sub x h.x fun s v Hf1 H1 g1 r1 q => ?_
  exact hr Hf1 H1 s.d v Q g1.sub r1 ((q.behind sub g1).noxc (hn _))
theorem de_op2 {r : R2} {g : D → D → R Sl} {ta tb : TE} {fa fb : FE} (hr : RR K r g) (hn : ∀ a, NoXc (g a)) (ha : DE K W cls ta fa) (hb : DE K W cls tb fb) : DE K W cls (tOp r ta tb) (eOp2 g fa fb) := by
  refine ⟨fun H0 Hf H env σ Q sub x h => ?_⟩
  refine ha.then sub x h.x fun s v Hf1 H1 g1 r1 q => ?_
  refine hb.then g1.sub (x.grow g1) q fun s2 v2 Hf2 H2 g2 r2 q2 => ?_
  exact hr Hf2 H2 s.d s2.d v v2 Q g2.sub (r1.mono g2.lo) r2 ((q2.behind sub (g1.trans g2)).noxc (hn _ _))
theorem da_nil : DA K W cls tNil aNil := ⟨fun H0 Hf H env σ Q sub x h => h [] Hf H (.refl sub) .nil⟩
theorem da_cons {ta : TE} {fa : FE} {tr : TA} {fr : FA} (ha : DE K W cls ta fa) (hr : DA K W cls tr fr) : DA K W cls (tCons ta tr) (aCons fa fr) := by
  refine ⟨fun H0 Hf H env σ Q sub x h => ?_⟩
  refine ha.then sub x h fun s v Hf1 H1 g1 r1 q => ?_
  refine hr.run H0 Hf1 H1 env σ _ g1.sub (x.grow g1) (q.bind.mono fun ds k vs Hf2 H2 g2 r2 => ?_)
  exact k (v :: vs) Hf2 H2 (g1.trans g2) (.cons (r1.mono g2.lo) r2)
/-- arguments, then the rest -/
theorem DA.then {t : TA} {f : FA} (d : DA K W cls t f) {H0 Hf H : Hp} {env : Env} {σ : L2.St} {Q : List V → Hp → Prop} {β : Type} {k : List D → R β} {P : β → Prop} (sub : Ex Hf H) (x : EnvR K H0 Hf H env σ)
    (h : PostX W cls Hf H σ ((f env).bind k) P)
    (go : ∀ ds vs Hf' H', Grow Hf H Hf' H' → RepL K Hf' ds vs → PostX W cls Hf' H' σ (k ds) P → Q vs H') : t σ H Q := by
  refine d.run H0 Hf H env σ Q sub x (h.bind.mono fun ds q vs Hf' H' g r => go ds vs Hf' H' g r (q.grow g))
theorem lim_le {n : Nat} (h : n ≤ LIM) : n ≤ sizeLine := by
  rw [sizeLine_eq]
  unfold LIM at h
  omega
theorem lim_lt {n : Nat} (h : n < LIM) : n < sizeLine := by
  rw [sizeLine_eq]
  unfold LIM at h
  omega
theorem de_tup {ta : TA} {fa : FA} (ha : DA K W cls ta fa) : DE K W cls (tTup ta) (eTup fa) := by
  refine ⟨fun H0 Hf H env σ Q sub x h => ?_⟩
  refine ha.then sub x h.x fun ds vs Hf1 H1 g1 r1 q => ?_
  by_cases hl : ds.length ≤ LIM
  · rw [if_pos hl] at q
    refine ⟨by rw [← r1.length]; exact lim_le hl, fun p hp => ?_⟩
    have hn : Hf1 p = none := g1.sub.none_of hp
    exact q _ _ _ (g1.trans (Grow.new g1.sub hp)) (.tup upd_same (r1.mono (Ex.new hn).lo))
  · rw [if_neg hl] at q
    exact q.elim
theorem de_lst {ta : TA} {fa : FA} (ha : DA K W cls ta fa) : DE K W cls (tLst ta) (eLst fa) := by
  refine ⟨fun H0 Hf H env σ Q sub x h => ?_⟩
  refine ha.then sub x h.x fun ds vs Hf1 H1 g1 r1 q => ?_
  by_cases hl : ds.length ≤ LIM
  · rw [if_pos hl] at q
    refine ⟨by rw [← r1.length]; exact lim_le hl, fun p hp => ?_⟩
    have hn : Hf1 p = none := g1.sub.none_of hp
    exact q (.ref p) Hf1 _ (g1.trans (Grow.newO g1.sub hp)) ⟨p, rfl, g1.fresh sub hp, hn, vs, upd_same, r1⟩
  · rw [if_neg hl] at q
    exact q.elim
theorem de_cb {r : List V → Hp → VK → Prop} {g : List D → R Sl} {ta : TA} {fa : FA} (hr : RCB K r g) (hn : NoXc g) (ha : DA K W cls ta fa) : DE K W cls (tCB r ta) (eCB g fa) := by
  refine ⟨fun H0 Hf H env σ Q sub x h => ?_⟩
  refine ha.then sub x h.x fun ds vs Hf1 H1 g1 r1 q => ?_
  exact hr Hf1 H1 ds vs Q g1.sub r1 ((q.behind sub g1).noxc (hn _))
/-- one test, then the rest -/
theorem DT.then {t : TT} {f : FT} (d : DT K W cls t f) {H0 Hf H : Hp} {env : Env} {σ : L2.St} {Q : Bool → Hp → Prop} {β : Type} {k : Bool → R β} {P : β → Prop} (sub : Ex Hf H) (x : EnvR K H0 Hf H env σ)
    (h : PostX W cls Hf H σ ((f env).bind k) P)
    (go : ∀ b Hf' H', Grow Hf H Hf' H' → PostX W cls Hf' H' σ (k b) P → Q b H') : t σ H Q :=
  d.run H0 Hf H env σ Q sub x (h.bind.mono fun b q Hf' H' g => go b Hf' H' g (q.grow g))
theorem de_if {tc : TT} {fc : FT} {ta tb : TE} {fa fb : FE} (hc : DT K W cls tc fc) (ha : DE K W cls ta fa) (hb : DE K W cls tb fb) : DE K W cls (tIf tc ta tb) (eIf fc fa fb) := by
  refine ⟨fun H0 Hf H env σ Q sub x h => ?_⟩
  refine hc.then sub x h.x fun b Hf1 H1 g1 q => ?_
  cases b with
  | true => exact ha.run H0 Hf1 H1 env σ Q g1.sub (x.grow g1) (PostX.e (q.behind sub g1))
  | false => exact hb.run H0 Hf1 H1 env σ Q g1.sub (x.grow g1) (PostX.e (q.behind sub g1))
theorem Rep.bl_inv {Hf : Hp} {b : Bool} {v : V} (r : Rep K Hf (.bl b) v) : v = .bl b := by cases r; rfl
theorem Rep.int_inv {Hf : Hp} {i : Int} {v : V} (r : Rep K Hf (.int i) v) : v = .int i := by cases r; rfl
theorem Rep.str_inv {Hf : Hp} {i : Str} {v : V} (r : Rep K Hf (.str i) v) : v = .str i := by cases r; rfl
theorem Rep.non_inv {Hf : Hp} {v : V} (r : Rep K Hf .non v) : v = .non := by cases r; rfl
theorem de_andV {ta tb : TE} {fa fb : FE} (ha : DE K W cls ta fa) (hb : DE K W cls tb fb) : DE K W cls (tAndV ta tb) (eAnd fa fb) := by
  refine ⟨fun H0 Hf H env σ Q sub x h => ?_⟩
  refine ha.then sub x h.x fun s v Hf1 H1 g1 r1 q => ?_
  cases e : s.d with
  | bl k =>
    rw [e] at q r1
    refine ⟨k, r1.bl_inv, ?_⟩
    cases k with
    | true =>
      show tb σ H1 Q
      exact hb.run H0 Hf1 H1 env σ Q g1.sub (x.grow g1) (PostX.e (q.behind sub g1))
    | false =>
      show Q (.bl false) H1
      exact q _ _ _ g1 (.bl false)
  | _ => rw [e] at q; exact q.elim
theorem de_orV {ta tb : TE} {fa fb : FE} (ha : DE K W cls ta fa) (hb : DE K W cls tb fb) : DE K W cls (tOrV ta tb) (eOr fa fb) := by
  refine ⟨fun H0 Hf H env σ Q sub x h => ?_⟩
  refine ha.then sub x h.x fun s v Hf1 H1 g1 r1 q => ?_
  cases e : s.d with
  | bl k =>
    rw [e] at q r1
    refine ⟨k, r1.bl_inv, ?_⟩
    cases k with
    | false =>
      show tb σ H1 Q
      exact hb.run H0 Hf1 H1 env σ Q g1.sub (x.grow g1) (PostX.e (q.behind sub g1))
    | true =>
      show Q (.bl true) H1
      exact q _ _ _ g1 (.bl true)
  | _ => rw [e] at q; exact q.elim
theorem de_notV {ta : TE} {fa : FE} (ha : DE K W cls ta fa) : DE K W cls (tNotV ta) (eNot fa) := by
  refine ⟨fun H0 Hf H env σ Q sub x h => ?_⟩
  refine ha.then sub x h.x fun s v Hf1 H1 g1 r1 q => ?_
  cases e : s.d with
  | bl k =>
    rw [e] at q r1
    exact ⟨k, r1.bl_inv, q _ _ _ g1 (.bl (!k))⟩
  | _ => rw [e] at q; exact q.elim
/-- an operation gives a value that is told -/
theorem RR.give {r : R2} {g : D → D → R Sl} (hr : RR K r g) (hn : ∀ a, NoXc (g a)) {Hf H : Hp} {σ : L2.St} {a b : D} {x y : V} {Q : VK} {β : Type} {k : Sl → R β} {P : β → Prop} (sub : Ex Hf H) (r1 : Rep K Hf a x) (r2 : Rep K Hf b y)
    (h : PostX W cls Hf H σ ((g a b).bind k) P) (go : ∀ s v Hf' H', Grow Hf H Hf' H' → Rep K Hf' s.d v → PostX W cls Hf' H' σ (k s) P → Q v H') : r x y H Q := by
  refine hr Hf H a b x y Q sub r1 r2 ?_
  cases e : g a b with
  | ok s =>
    intro v Hf' H' g' q
    obtain ⟨Hf2, g2, rr⟩ := q.rep sub g'
    rw [e] at h
    exact go s v Hf2 H' g2 rr (h.grow g2)
  | xc c => exact absurd e (hn a b c)
  | bad => rw [e] at h; exact h
theorem de_chain {r r' : R2} {g g' : D → D → R Sl} {ta tb tc : TE} {fa fb fc : FE} (hr : RR K r g) (hn : ∀ a, NoXc (g a)) (hr' : RR K r' g') (hn' : ∀ a, NoXc (g' a)) (ha : DE K W cls ta fa) (hb : DE K W cls tb fb) (hc : DE K W cls tc fc) :
    DE K W cls (tChain r r' ta tb tc) (eChain g g' fa fb fc) := by
  refine ⟨fun H0 Hf H env σ Q sub x h => ?_⟩
  refine ha.then sub x h.x fun s v Hf1 H1 g1 r1 q => ?_
  refine hb.then g1.sub (x.grow g1) q fun s2 v2 Hf2 H2 g2 r2 q2 => ?_
  have g12 := g1.trans g2
  refine hr.give hn g2.sub (r1.mono g2.lo) r2 q2 fun s3 v3 Hf3 H3 g3 r3 q3 => ?_
  have g13 := g12.trans g3
  cases e : s3.d with
  | bl k =>
    rw [e] at q3 r3
    refine ⟨k, r3.bl_inv, ?_⟩
    cases k with
    | false =>
      show Q (.bl false) H3
      exact q3 _ _ _ g13 (.bl false)
    | true =>
      show tc σ H3 fun w' H4 => r' v2 w' H4 Q
      refine hc.then g3.sub (x.grow g13) q3 fun s4 v4 Hf4 H4 g4 r4 q4 => ?_
      exact hr' Hf4 H4 s2.d s4.d v2 v4 Q g4.sub (r2.mono (g3.trans g4).lo) r4 ((q4.behind sub (g13.trans g4)).noxc (hn' _ _))
  | _ => rw [e] at q3; exact q3.elim
theorem do_none : DO K W cls tNoPart oNone := ⟨fun H0 Hf H env σ Q sub x h => h Hf H (.refl sub)⟩
theorem do_some {ta : TE} {fa : FE} (ha : DE K W cls ta fa) : DO K W cls (tPart ta) (oSome fa) := by
  refine ⟨fun H0 Hf H env σ Q sub x h => ?_⟩
  refine ha.then sub x h fun s v Hf1 H1 g1 r1 q => ?_
  cases e : s.d with
  | int i =>
    rw [e] at q r1
    exact ⟨i, r1.int_inv, q Hf1 H1 g1⟩
  | _ => rw [e] at q; exact q.elim
def RSl (K : PySem.W.Frag) (r : V → Option Int → Option Int → Hp → VK → Prop) (g : D → Option Int → Option Int → R Sl) : Prop := ∀ (Hf H : Hp) (a : D) (x : V) (lo hi : Option Int) (Q : VK), Ex Hf H → Rep K Hf a x →
  PostE K (fun _ _ _ _ => False) (fun _ => 0) Hf H [] (g a lo hi) Q → r x lo hi H Q
theorem DO.then {t : TO} {f : Env → R (Option Int)} (d : DO K W cls t f) {H0 Hf H : Hp} {env : Env} {σ : L2.St} {Q : Option Int → Hp → Prop} {β : Type} {k : Option Int → R β} {P : β → Prop} (sub : Ex Hf H) (x : EnvR K H0 Hf H env σ)
    (h : PostX W cls Hf H σ ((f env).bind k) P)
    (go : ∀ b Hf' H', Grow Hf H Hf' H' → PostX W cls Hf' H' σ (k b) P → Q b H') : t σ H Q :=
  d.run H0 Hf H env σ Q sub x (h.bind.mono fun b q Hf' H' g => go b Hf' H' g (q.grow g))
theorem de_sl {r : V → Option Int → Option Int → Hp → VK → Prop} {g : D → Option Int → Option Int → R Sl} {ta : TE} {fa : FE} {tl th : TO} {fl fh : Env → R (Option Int)} (hr : RSl K r g) (hn : ∀ a l h c, g a l h ≠ .xc c)
    (ha : DE K W cls ta fa) (hl : DO K W cls tl fl) (hh : DO K W cls th fh) : DE K W cls (tSl r ta tl th) (eSl g fa fl fh) := by
  refine ⟨fun H0 Hf H env σ Q sub x h => ?_⟩
  refine ha.then sub x h.x fun s v Hf1 H1 g1 r1 q => ?_
  refine hl.then g1.sub (x.grow g1) q fun o1 Hf2 H2 g2 q2 => ?_
  refine hh.then g2.sub (x.grow (g1.trans g2)) q2 fun o2 Hf3 H3 g3 q3 => ?_
  exact hr Hf3 H3 s.d v o1 o2 Q g3.sub (r1.mono (g2.trans g3).lo) ((q3.behind sub ((g1.trans g2).trans g3)).noxc (hn _ _ _))

/-! ### tests -/
theorem dt_val {ta : TE} {fa : FE} (ha : DE K W cls ta fa) : DT K W cls (tTest ta) (tVal fa) := by
  refine ⟨fun H0 Hf H env σ Q sub x h => ?_⟩
  refine ha.then sub x h fun s v Hf1 H1 g1 r1 q => ?_
  cases e : s.d with
  | bl k =>
    rw [e] at q r1
    exact ⟨k, r1.bl_inv, q Hf1 H1 g1⟩
  | _ => rw [e] at q; exact q.elim
theorem dt_valB {ta : TE} {fa : FE} (ha : DE K W cls ta fa) : DT K W cls (tB ta) (tVal fa) := ⟨(dt_val ha).run⟩
theorem dt_and {tc td : TT} {fc fd : FT} (hc : DT K W cls tc fc) (hd : DT K W cls td fd) : DT K W cls (L2.tAnd tc td) (tAnd fc fd) := by
  refine ⟨fun H0 Hf H env σ Q sub x h => ?_⟩
  refine hc.then sub x h fun b Hf1 H1 g1 q => ?_
  cases b with
  | true =>
    show td σ H1 Q
    exact hd.run H0 Hf1 H1 env σ Q g1.sub (x.grow g1) (q.mono fun b k Hf2 H2 g2 => k Hf2 H2 (g1.trans g2))
  | false =>
    show Q false H1
    exact q Hf1 H1 g1
theorem dt_or {tc td : TT} {fc fd : FT} (hc : DT K W cls tc fc) (hd : DT K W cls td fd) : DT K W cls (L2.tOr tc td) (tOr fc fd) := by
  refine ⟨fun H0 Hf H env σ Q sub x h => ?_⟩
  refine hc.then sub x h fun b Hf1 H1 g1 q => ?_
  cases b with
  | false =>
    show td σ H1 Q
    exact hd.run H0 Hf1 H1 env σ Q g1.sub (x.grow g1) (q.mono fun b k Hf2 H2 g2 => k Hf2 H2 (g1.trans g2))
  | true =>
    show Q true H1
    exact q Hf1 H1 g1
theorem dt_not {tc : TT} {fc : FT} (hc : DT K W cls tc fc) : DT K W cls (L2.tNot tc) (tNot fc) := by
  refine ⟨fun H0 Hf H env σ Q sub x h => ?_⟩
  refine hc.then sub x h fun b Hf1 H1 g1 q => ?_
  exact q Hf1 H1 g1
theorem dt_yes : DT K W cls L2.tYes tYes := ⟨fun H0 Hf H env σ Q sub x h => h Hf H (.refl sub)⟩

/-! ### an item of a list that a slot holds -/
theorem nx_idx : ∀ a, NoXc (dIdx a) := by
  intro a b c
  unfold dIdx
  split <;> (try split) <;> (try split) <;> (intro h; cases h)
theorem rr_ix : RR K (rIx K) dIdx := by
  intro Hf H a b x y Q sub r1 r2 h
  unfold dIdx at h
  split at h
  · rename_i ds i
    split at h
    · rename_i d e
      cases r1 with
      | lst ha rl =>
        rename_i p vs
        cases r2
        obtain ⟨j, ej, hj⟩ : ∃ j, ixOf ds.length i = some j ∧ ds[j]? = some d := by
          unfold atD at e
          cases q : ixOf ds.length i with
          | none => rw [q] at e; cases e
          | some j => rw [q] at e; exact ⟨j, rfl, e⟩
        obtain ⟨v, hv, rv⟩ := rl.get hj
        refine .inl ⟨p, vs, i, v, rfl, rfl, SqL.of (sub _ _ ha), ?_, h v Hf H (.refl sub) rv⟩
        show (ixOf vs.length i).bind _ = _
        rw [← rl.length, ej]
        exact hv
    · exact h.elim
  · rename_i ds i
    split at h
    · rename_i d e
      cases r1 with
      | tup ha rl =>
        rename_i p vs
        cases r2
        obtain ⟨j, ej, hj⟩ : ∃ j, ixOf ds.length i = some j ∧ ds[j]? = some d := by
          unfold atD at e
          cases q : ixOf ds.length i with
          | none => rw [q] at e; cases e
          | some j => rw [q] at e; exact ⟨j, rfl, e⟩
        obtain ⟨v, hv, rv⟩ := rl.get hj
        refine .inr (.inl ⟨p, vs, i, v, rfl, rfl, SqT.of (sub _ _ ha), ?_, h v Hf H (.refl sub) rv⟩)
        show (ixOf vs.length i).bind _ = _
        rw [← rl.length, ej]
        exact hv
    · exact h.elim
  · rename_i ns i
    split at h
    · rename_i d e
      cases r1 with
      | scr ha =>
        rename_i p
        cases r2
        refine .inl ⟨p, ns.map V.int, i, .int d, rfl, rfl, (Ex.lo sub).sql ha, ?_, h (.int d) Hf H (.refl sub) (.int d)⟩
        unfold atD at e
        show (ixOf (ns.map V.int).length i).bind _ = _
        rw [List.length_map]
        cases q : ixOf ns.length i with
        | none => rw [q] at e; cases e
        | some j =>
          rw [q] at e
          show (ns.map V.int)[j]? = _
          have e' : ns[j]? = some d := e
          rw [List.getElem?_map, e']
          rfl
    · exact h.elim
  · rename_i z i
    by_cases hl : z.length ≤ LIM
    · rw [if_pos hl] at h
      split at h
      · rename_i c e
        cases r1
        cases r2
        exact .inr (.inr ⟨z, i, c, rfl, rfl, lim_le hl, e, h _ Hf H (.refl sub) (.str _)⟩)
      · exact h.elim
    · rw [if_neg hl] at h
      exact h.elim
  · exact h.elim
theorem de_ix {ta tb : TE} {fa fb : FE} (ha : DE K W cls ta fa) (hb : DE K W cls tb fb) : DE K W cls (tOp (rIx K) ta tb) (eOp2 dIdx fa fb) := de_op2 rr_ix nx_idx ha hb
theorem de_ixO {i : Nat} {ta : TE} {fa : FE} (ha : DE K W cls ta fa) : DE K W cls (tOp (rIx K) (L2.tVar i) ta) (eIxO i fa) := by
  refine ⟨fun H0 Hf H env σ Q sub x h => ?_⟩
  unfold eIxO at h
  split at h
  · rename_i ds e
    obtain ⟨o, eo, p, ev, h0, n, w⟩ := x.any e
    subst ev
    refine ⟨.ref p, eo, ?_⟩
    refine ha.then sub x h.x fun s v Hf1 H1 g1 r1 q => ?_
    cases es : s.d with
    | int k =>
      rw [es] at q r1
      dsimp only at q
      split at q
      · rename_i d ed
        obtain ⟨⟨vs, hp, rl⟩, n1⟩ := w.grow g1 n
        obtain ⟨j, ej, hj⟩ : ∃ j, ixOf ds.length k = some j ∧ ds[j]? = some d := by
          unfold atD at ed
          cases q : ixOf ds.length k with
          | none => rw [q] at ed; cases ed
          | some j => rw [q] at ed; exact ⟨j, rfl, ed⟩
        obtain ⟨v', hv, rv⟩ := rl.get hj
        refine .inl ⟨p, vs, k, v', rfl, r1.int_inv, SqL.of hp, ?_, q v' Hf1 H1 g1 rv⟩
        show (ixOf vs.length k).bind _ = _
        rw [← rl.length, ej]
        exact hv
      · exact q.elim
    | _ => rw [es] at q; exact q.elim
  · rename_i d e
    obtain ⟨o, eo, v0, ev, r0⟩ := x.any e
    subst ev
    refine ⟨v0, eo, ?_⟩
    refine ha.then sub x h.x fun s v Hf1 H1 g1 r1 q => ?_
    exact rr_ix Hf1 H1 d s.d v0 v Q g1.sub (r0.mono g1.lo) r1 ((q.behind sub g1).noxc (nx_idx _ _))
  · exact h.elim
end
end DL
set_option maxRecDepth 100000
namespace DL
open PySem PySem.Spec PyProof.Rows L2
section
variable {K : PySem.W.Frag} {W : WX} {cls : Nat → Addr}

/-! ### a look through what is held alone -/
open Classical in
/-- the read part with all that the slots hold -/
noncomputable def openH (env : Env) (σ : L2.St) (Hf H : Hp) : Hp := fun a => if ∃ i, OwnsAt env σ i a then H a else Hf a
section
variable {H0 Hf H : Hp} {env : Env} {σ : L2.St}
theorem openH_own {i : Nat} {p : Addr} (o : OwnsAt env σ i p) : openH env σ Hf H p = H p := by
  unfold openH
  rw [if_pos ⟨i, o⟩]
theorem openH_not {p : Addr} (o : ¬ ∃ i, OwnsAt env σ i p) : openH env σ Hf H p = Hf p := by
  unfold openH
  rw [if_neg o]
theorem EnvR.own (x : EnvR K H0 Hf H env σ) {i : Nat} {p : Addr} (o : OwnsAt env σ i p) : ∃ d, env[i]? = some (.ow d) ∧ H0 p = none ∧ Hf p = none ∧ OwnAt K Hf H d p := by
  obtain ⟨⟨d, e⟩, e2⟩ := o
  obtain ⟨p', ep, h0, n, w⟩ := x.slot i _ _ e e2
  cases ep
  exact ⟨d, e, h0, n, w⟩
theorem openH_sub (x : EnvR K H0 Hf H env σ) (sub : Ex Hf H) : Ex (openH env σ Hf H) H := fun a o e => by
  by_cases h : ∃ i, OwnsAt env σ i a
  · obtain ⟨i, hi⟩ := h
    rw [openH_own hi] at e
    exact e
  · rw [openH_not h] at e
    exact sub a o e
theorem openH_ex (x : EnvR K H0 Hf H env σ) : Ex Hf (openH env σ Hf H) := fun a o e => by
  by_cases h : ∃ i, OwnsAt env σ i a
  · obtain ⟨i, hi⟩ := h
    obtain ⟨_, _, _, n, _⟩ := x.own hi
    rw [n] at e; cases e
  · rw [openH_not h]
    exact e
theorem EnvR.openAll (x : EnvR K H0 Hf H env σ) (sub : Ex Hf H) : EnvR K H0 (openH env σ Hf H) H (env.map Sl.frz) σ := by
  refine ⟨by rw [List.length_map]; exact x.len, fun i s o e1 e2 => ?_, fun i j p h1 h2 => ?_⟩
  · rw [List.getElem?_map] at e1
    cases q : env[i]? with
    | none => rw [q] at e1; cases e1
    | some s0 =>
      rw [q] at e1
      have es : s0.frz = s := Option.some.inj e1
      have z := x.slot i s0 o q e2
      cases s0 with
      | no => subst es; trivial
      | va d =>
        subst es
        obtain ⟨v, ev, r⟩ := z
        exact ⟨v, ev, r.mono (openH_ex x).lo⟩
      | ow d =>
        subst es
        obtain ⟨p, ev, h0, n, w⟩ := z
        have ow : OwnsAt env σ i p := ⟨⟨d, q⟩, by rw [e2, ev]⟩
        refine ⟨.ref p, ev, ?_⟩
        cases d with
        | lst ds =>
          obtain ⟨vs, hp, r⟩ := w
          exact .lst (by rw [openH_own ow]; exact hp) (r.mono (openH_ex x).lo)
        | dic kvs => exact .dic (.inl (by rw [openH_own ow]; exact w))
        | _ => exact False.elim w
  · obtain ⟨⟨d, e⟩, _⟩ := h1
    rw [List.getElem?_map] at e
    cases q : env[i]? with
    | none => rw [q] at e; cases e
    | some s0 =>
      rw [q] at e
      cases s0 <;> cases e
end
open Classical in
/-- what is read behind a look: what was read before, and what is new -/
noncomputable def backH (Hf H Hf2 : Hp) : Hp := fun a => if H a = none then Hf2 a else (match Hf a with
  | none => none
  | some _ => Hf2 a)
theorem backH_grow {Hf Hq H Hf2 H' : Hp} (sub : Ex Hf H) (ex : Ex Hf Hq) (subq : Ex Hq H) (g : Grow Hq H Hf2 H') : Grow Hf H (backH Hf H Hf2) H' := by
  refine ⟨fun a o e => ?_, fun a o e => ?_, fun a o e n => ?_⟩
  · unfold backH at e
    by_cases h : H a = none
    · rw [if_pos h] at e
      exact g.sub a o e
    · rw [if_neg h] at e
      cases q : Hf a with
      | none => rw [q] at e; cases e
      | some u => rw [q] at e; exact g.sub a o e
  · have e' := g.old a o (ex a o e)
    unfold backH
    rw [if_neg (by rw [sub a o e]; intro z; cases z), e]
    exact e'
  · have hb : backH Hf H Hf2 a = none := by
      unfold backH
      rw [if_neg (by rw [e]; intro z; cases z), n]
    refine ⟨?_, hb⟩
    cases q : Hq a with
    | none => exact (g.kept a o e q).1
    | some u =>
      have e2 := subq a u q
      rw [e] at e2
      cases e2
      exact g.sub a _ (g.old a _ q)
theorem backH_tup {Hf Hq H Hf2 H' : Hp} (sub : Ex Hf H) (subq : Ex Hq H) (g : Grow Hq H Hf2 H') (ho : ∀ a o, Hq a = some o → Hf a = none → (∃ vs, o = .lst vs) ∨ ∃ kvs, o = .dK kvs) {a : Addr} {vs : List V} (e : Hf2 a = some (.tup vs)) :
    backH Hf H Hf2 a = some (.tup vs) := by
  unfold backH
  by_cases h : H a = none
  · rw [if_pos h]
    exact e
  · rw [if_neg h]
    cases q : Hf a with
    | some u => exact e
    | none =>
      exfalso
      cases q2 : Hq a with
      | some u =>
        have e2 := g.old a u q2
        rw [e] at e2
        cases e2
        rcases ho a _ q2 q with ⟨_, z⟩ | ⟨_, z⟩ <;> cases z
      | none =>
        cases q3 : H a with
        | none => exact h q3
        | some u =>
          have := (g.kept a u q3 q2).2
          rw [e] at this
          cases this
theorem openH_kind {H0 Hf H : Hp} {env : Env} {σ : L2.St} (x : EnvR K H0 Hf H env σ) : ∀ a o, openH env σ Hf H a = some o → Hf a = none → (∃ vs, o = .lst vs) ∨ ∃ kvs, o = .dK kvs := fun a o e n => by
  by_cases h : ∃ i, OwnsAt env σ i a
  · obtain ⟨i, hi⟩ := h
    rw [openH_own hi] at e
    obtain ⟨d, _, _, _, w⟩ := x.own hi
    cases d with
    | lst ds =>
      obtain ⟨vs, hp, _⟩ := w
      rw [e] at hp
      cases hp
      exact .inl ⟨_, rfl⟩
    | dic kvs =>
      have w' : H a = some (.dK (kvs.map kqV)) := w
      rw [e] at w'
      cases w'
      exact .inr ⟨_, rfl⟩
    | _ => exact False.elim w
  · rw [openH_not h, n] at e
    cases e
theorem de_lend {ta : TE} {fa : FE} (ha : DE K W cls ta fa) : DE K W cls ta (eLend fa) := by
  refine ⟨fun H0 Hf H env σ Q sub x h => ?_⟩
  have subq := openH_sub x sub
  have ex := openH_ex x
  have kind := openH_kind x
  have y := x.openAll sub
  generalize openH env σ Hf H = Hq at subq ex kind y
  refine ha.run H0 Hq H (env.map Sl.frz) σ Q subq y ?_
  unfold eLend at h
  cases e : fa (env.map Sl.frz) with
  | bad => rw [e] at h; exact h
  | xc c =>
    rw [e] at h
    exact fun Hf' H' g => h _ H' (backH_grow sub ex subq g)
  | ok s =>
    rw [e] at h
    change PostE K W cls Hf H σ (if s.loose = true then R.ok s else R.bad) Q at h
    by_cases hl : s.loose = true
    · rw [if_pos hl] at h
      intro v Hf2 H' g q
      refine h v (backH Hf H Hf2) H' (backH_grow sub ex subq g) ?_
      cases s with
      | no => exact q
      | va d =>
        cases d with
        | tup ds =>
          cases q with
          | tup hp rl => exact .tup (backH_tup sub subq g kind hp) (rl.flats hl _)
        | non => exact Rep.flat rfl q _
        | bl b => exact Rep.flat rfl q _
        | int i => exact Rep.flat rfl q _
        | str z => exact Rep.flat rfl q _
        | lst ds => exact absurd (show false = true from hl) Bool.false_ne_true
        | dic ds => exact absurd (show false = true from hl) Bool.false_ne_true
        | scr ds => exact absurd (show false = true from hl) Bool.false_ne_true
        | adr n => exact absurd (show false = true from hl) Bool.false_ne_true
      | ow d =>
        cases d with
        | lst ds =>
          obtain ⟨p, ev, hp, n, vs, hv, rl⟩ := q
          refine ⟨p, ev, hp, ?_, vs, hv, rl.flats hl _⟩
          unfold backH
          rw [if_pos hp]
          exact n
        | _ => exact absurd (show false = true from hl) Bool.false_ne_true
    · rw [if_neg hl] at h
      exact h.elim
end
end DL
set_option maxRecDepth 100000
namespace DL
open PySem PySem.Spec PyProof.Rows L2
section
variable {K : PySem.W.Frag} {W : WX} {cls : Nat → Addr}

/-! ### what is walked -/
theorem Rep.lst_inv {Hf : Hp} {ds : List D} {v : V} (r : Rep K Hf (.lst ds) v) : ∃ a vs, v = .ref a ∧ Hf a = some (.lst vs) ∧ RepL K Hf ds vs := by
  cases r with
  | lst h l => exact ⟨_, _, rfl, h, l⟩
theorem Rep.tup_inv {Hf : Hp} {ds : List D} {v : V} (r : Rep K Hf (.tup ds) v) : ∃ a vs, v = .ref a ∧ Hf a = some (.tup vs) ∧ RepL K Hf ds vs := by
  cases r with
  | tup h l => exact ⟨_, _, rfl, h, l⟩
theorem Rep.dic_inv {Hf : Hp} {kvs : List (Int × Fv)} {v : V} (r : Rep K Hf (.dic kvs) v) : ∃ a, v = .ref a ∧ Rd Hf a (.dK (kvs.map kqV)) := by
  cases r with
  | dic h => exact ⟨_, rfl, h⟩
/-- two readings of a list are one -/
theorem sql_lst {H : Hp} {a : Addr} {vs us : List V} (h : H a = some (.lst vs)) (q : Rd H a (.lst us)) : us = vs := by
  rcases q with q | ⟨o, q⟩
  · rw [h] at q; cases q; rfl
  · rw [h] at q; cases q
theorem jok_list {Hf : Hp} {a : Addr} {vs : List V} {ds : List D} (h : Hf a = some (.lst vs)) (r : RepL K Hf ds vs) : JOk K (Itl K a) Hf ds where
  go := fun i H l hi => by
    have hv : i < vs.length := by rw [← r.length]; exact hi
    exact ⟨vs, vs[i], SqL.of (l.lst h), List.getElem?_eq_getElem hv⟩
  yld := fun i H x H' l hv y => by
    obtain ⟨rfl, f⟩ := y
    refine ⟨rfl, ?_⟩
    have e := f vs (SqL.of (l.lst h))
    obtain ⟨v, e1, rv⟩ := r.get (List.getElem?_eq_getElem hv)
    rw [e1] at e
    cases e
    exact ⟨_, List.getElem?_eq_getElem hv, rv⟩
  stop := fun i H l hi => ⟨vs, SqL.of (l.lst h), by rw [← r.length]; exact hi⟩
theorem jok_tup {Hf : Hp} {a : Addr} {vs : List V} {ds : List D} (h : Hf a = some (.tup vs)) (r : RepL K Hf ds vs) : JOk K (Itt K a) Hf ds where
  go := fun i H l hi => by
    have hv : i < vs.length := by rw [← r.length]; exact hi
    exact ⟨vs, vs[i], SqT.of (l.tup h), List.getElem?_eq_getElem hv⟩
  yld := fun i H x H' l hv y => by
    obtain ⟨rfl, f⟩ := y
    refine ⟨rfl, ?_⟩
    have e := f vs (SqT.of (l.tup h))
    obtain ⟨v, e1, rv⟩ := r.get (List.getElem?_eq_getElem hv)
    rw [e1] at e
    cases e
    exact ⟨_, List.getElem?_eq_getElem hv, rv⟩
  stop := fun i H l hi => ⟨vs, SqT.of (l.tup h), by rw [← r.length]; exact hi⟩
theorem rng_len (lo : Int) (n : Nat) : (rng lo n).length = n := by
  unfold rng
  rw [List.length_map, List.length_range]
theorem rng_get {lo : Int} {n i : Nat} (h : i < n) : (rng lo n)[i]? = some (.int (lo + (i : Nat))) := by
  unfold rng
  rw [List.getElem?_map, List.getElem?_range h]
  rfl
theorem jok_rng {Hf : Hp} {lo : Int} {n : Nat} : JOk K (Itr lo n) Hf (rng lo n) where
  go := fun i H l hi => by
    rw [rng_len] at hi
    exact hi
  yld := fun i H x H' l hi y => by
    rw [rng_len] at hi
    obtain ⟨rfl, rfl⟩ := y
    exact ⟨rfl, _, rng_get hi, .int _⟩
  stop := fun i H l hi => by
    rw [rng_len] at hi
    exact hi
theorem jok_str {Hf : Hp} {z : Str} : JOk K (Its z) Hf (z.cps.toList.map fun c => .str ⟨#[c]⟩) where
  go := fun i H l hi => by
    rw [List.length_map, Array.length_toList] at hi
    exact hi
  yld := fun i H x H' l hi y => by
    obtain ⟨rfl, c, hc, rfl⟩ := y
    refine ⟨rfl, .str ⟨#[c]⟩, ?_, .str _⟩
    rw [List.getElem?_map, Array.getElem?_toList, hc]
    rfl
  stop := fun i H l hi => by
    rw [List.length_map, Array.length_toList] at hi
    exact hi
/-- a list or a tuple, whichever comes -/
def iBoth (K : PySem.W.Frag) (tl : TE) : TI := fun σ H R => tl σ H fun x H1 => (∃ a, x = .ref a ∧ (∃ xs, SqL K H1 a xs) ∧ R (Itl K a) H1) ∨ (∃ a, x = .ref a ∧ (∃ xs, SqT K H1 a xs) ∧ R (Itt K a) H1)
theorem pi_both {X : Cx} {tg l : Expr} {tl : TE} (hl : PE X l tl) : PI X tg l (iBoth X.K tl) := by
  refine ⟨fun pins s σ H R I h => ?_⟩
  refine thn (hl.run pins s σ H _ I h) fun v s1 ⟨x, H1, I1, r1, q1⟩ => ?_
  rcases q1 with ⟨a, e, ⟨xs, hq⟩, q⟩ | ⟨a, e, ⟨xs, hq⟩, q⟩
  · subst e
    cases r1
    obtain ⟨its, rv, p, hz⟩ := I1.list hq
    refine wpAny_pyIter_list p.isList ?_
    exact pi_one (tk := s1.toks) I1 _ (turn_list a _) ⟨_, Heap.get?_push_size _ rfl, rfl, rfl⟩ q
  · subst e
    cases r1
    obtain ⟨its, rv, p, hz⟩ := I1.tuple hq
    refine wpAny_pyIter_tuple (show s1.heap.IsTuple a its.toArray from p) ?_
    exact pi_one (tk := s1.toks) I1 _ (turn_tuple a _) ⟨_, Heap.get?_push_size _ rfl, rfl, rfl⟩ q
theorem di_seq {ta : TE} {fa : FE} (ha : DE K W cls ta fa) : DI K W cls (iBoth K ta) (iSeq fa) := by
  refine ⟨fun H0 Hf H env σ Q sub x h => ?_⟩
  refine ha.then sub x h fun s v Hf1 H1 g1 r1 q => ?_
  cases e : s.d with
  | lst ds =>
    rw [e] at q r1
    obtain ⟨a, vs, rfl, hp, rl⟩ := r1.lst_inv
    exact .inl ⟨a, rfl, ⟨vs, SqL.of (g1.sub _ _ hp)⟩, q _ Hf1 H1 g1 (jok_list hp rl)⟩
  | tup ds =>
    rw [e] at q r1
    obtain ⟨a, vs, rfl, hp, rl⟩ := r1.tup_inv
    exact .inr ⟨a, rfl, ⟨vs, SqT.of (g1.sub _ _ hp)⟩, q _ Hf1 H1 g1 (jok_tup hp rl)⟩
  | _ => rw [e] at q; exact q.elim
theorem di_range1 {ta : TE} {fa : FE} (ha : DE K W cls ta fa) : DI K W cls (iRng1 (tCons ta tNil)) (iRange1 fa) := by
  refine ⟨fun H0 Hf H env σ Q sub x h => ?_⟩
  refine ha.then sub x h fun s v Hf1 H1 g1 r1 q => ?_
  cases e : s.d with
  | int j =>
    rw [e] at q r1
    unfold rangeD at q
    dsimp only at q
    by_cases hj : -(2 ^ 62) ≤ j ∧ j < 2 ^ 62
    · rw [if_pos hj] at q
      refine ⟨j, by rw [r1.int_inv], hj.1, hj.2, q _ Hf1 H1 g1 jok_rng⟩
    · rw [if_neg hj] at q
      exact q.elim
  | _ => rw [e] at q; exact q.elim
theorem di_range2 {ta tb : TE} {fa fb : FE} (ha : DE K W cls ta fa) (hb : DE K W cls tb fb) : DI K W cls (iRng2 (tCons ta (tCons tb tNil))) (iRange2 fa fb) := by
  refine ⟨fun H0 Hf H env σ Q sub x h => ?_⟩
  refine ha.then sub x h fun s v Hf1 H1 g1 r1 q => ?_
  refine hb.then g1.sub (x.grow g1) q fun s2 v2 Hf2 H2 g2 r2 q2 => ?_
  have r1' := r1.mono g2.lo
  cases e : s.d with
  | int i =>
    cases e2 : s2.d with
    | int j =>
      rw [e] at r1'
      rw [e2] at r2
      rw [e, e2] at q2
      unfold range2D at q2
      dsimp only at q2
      by_cases hj : (-(2 ^ 62) ≤ i ∧ i < 2 ^ 62) ∧ -(2 ^ 62) ≤ j ∧ j < 2 ^ 62
      · rw [if_pos hj] at q2
        refine ⟨i, j, by rw [r1'.int_inv, r2.int_inv], ⟨hj.1.1, hj.1.2, hj.2.1, hj.2.2⟩, q2 _ Hf2 H2 (g1.trans g2) jok_rng⟩
      · rw [if_neg hj] at q2
        exact q2.elim
    | _ => rw [e, e2] at q2; exact q2.elim
  | _ => rw [e] at q2; exact q2.elim
theorem di_str {ta : TE} {fa : FE} (ha : DE K W cls ta fa) : DI K W cls (L2.iStr ta) (iStr fa) := by
  refine ⟨fun H0 Hf H env σ Q sub x h => ?_⟩
  refine ha.then sub x h fun s v Hf1 H1 g1 r1 q => ?_
  cases e : s.d with
  | str z =>
    rw [e] at q r1
    exact ⟨z, r1.str_inv, q _ _ H1 g1 jok_str⟩
  | _ => rw [e] at q; exact q.elim

/-! ### comprehensions -/
theorem wipe_get (σ : L2.St) : ∀ (vs : List Nat) (i : Nat), (wipe σ vs)[i]? = if i ∈ vs then (σ[i]?).map (fun _ => none) else σ[i]?
  | [], i => by simp [wipe]
  | v :: vs, i => by
    unfold wipe
    by_cases hi : v = i
    · subst hi
      rw [if_pos List.mem_cons_self, List.getElem?_set]
      rw [if_pos rfl]
      by_cases hl : v < (wipe σ vs).length
      · rw [if_pos hl]
        rw [wipe_length] at hl
        rw [List.getElem?_eq_getElem hl]
        rfl
      · rw [if_neg hl]
        rw [wipe_length] at hl
        rw [List.getElem?_eq_none (by omega)]
        rfl
    · rw [List.getElem?_set_ne hi, wipe_get σ vs i]
      by_cases hm : i ∈ vs
      · rw [if_pos hm, if_pos (List.mem_cons_of_mem _ hm)]
      · rw [if_neg hm, if_neg (by simp only [List.mem_cons, not_or]; exact ⟨fun e => hi e.symm, hm⟩)]
theorem wipe_set (σ : L2.St) {vs : List Nat} {j : Nat} (hj : j ∈ vs) (x : V) : wipe ((wipe σ vs).set j (some x)) vs = wipe σ vs := by
  refine List.ext_getElem? fun i => ?_
  rw [wipe_get, List.getElem?_set, wipe_get]
  by_cases hi : i ∈ vs
  · rw [if_pos hi, if_pos hi]
    by_cases e : j = i
    · subst e
      rw [if_pos rfl]
      by_cases hl : j < (wipe σ vs).length
      · rw [if_pos hl]
        rw [wipe_length] at hl
        rw [List.getElem?_eq_getElem hl]
        rfl
      · rw [if_neg hl]
        rw [wipe_length] at hl
        rw [List.getElem?_eq_none (by omega)]
    · rw [if_neg e]
      cases σ[i]? <;> rfl
  · have e : j ≠ i := fun e => hi (e ▸ hj)
    simp only [hi, e, if_false]
theorem wipeE_length (e : Env) : ∀ vs : List Nat, (wipeE e vs).length = e.length
  | [] => rfl
  | v :: vs => by unfold wipeE; rw [List.length_set, wipeE_length e vs]
theorem wipeE_get (e : Env) : ∀ (vs : List Nat) (i : Nat), (wipeE e vs)[i]? = if i ∈ vs then (e[i]?).map (fun _ => Sl.no) else e[i]?
  | [], i => by simp [wipeE]
  | v :: vs, i => by
    unfold wipeE
    by_cases hi : v = i
    · subst hi
      rw [if_pos List.mem_cons_self, List.getElem?_set]
      rw [if_pos rfl]
      by_cases hl : v < (wipeE e vs).length
      · rw [if_pos hl]
        rw [wipeE_length] at hl
        rw [List.getElem?_eq_getElem hl]
        rfl
      · rw [if_neg hl]
        rw [wipeE_length] at hl
        rw [List.getElem?_eq_none (by omega)]
        rfl
    · rw [List.getElem?_set_ne hi, wipeE_get e vs i]
      by_cases hm : i ∈ vs
      · rw [if_pos hm, if_pos (List.mem_cons_of_mem _ hm)]
      · rw [if_neg hm, if_neg (by simp only [List.mem_cons, not_or]; exact ⟨fun e => hi e.symm, hm⟩)]
/-- slots set alike -/
theorem EnvR.setVa {H0 Hf H : Hp} {env : Env} {σ : L2.St} (x : EnvR K H0 Hf H env σ) {j : Nat} {d : D} {v : V} (r : Rep K Hf d v) : EnvR K H0 Hf H (env.set j (.va d)) (σ.set j (some v)) := by
  refine ⟨by rw [List.length_set, List.length_set]; exact x.len, fun i s o e1 e2 => ?_, fun a b p h1 h2 => ?_⟩
  · rw [List.getElem?_set] at e1 e2
    by_cases hj : j = i
    · rw [if_pos hj] at e1 e2
      split at e1
      · cases e1
        split at e2
        · cases e2
          exact ⟨v, rfl, r⟩
        · cases e2
      · cases e1
    · rw [if_neg hj] at e1 e2
      exact x.slot i s o e1 e2
  · have back : ∀ a, OwnsAt (env.set j (.va d)) (σ.set j (some v)) a p → OwnsAt env σ a p := fun a ⟨⟨d', e1⟩, e2⟩ => by
      rw [List.getElem?_set] at e1 e2
      by_cases hj : j = a
      · rw [if_pos hj] at e1
        split at e1 <;> cases e1
      · rw [if_neg hj] at e1 e2
        exact ⟨⟨d', e1⟩, e2⟩
    exact x.apart a b p (back a h1) (back b h2)
theorem EnvR.wiped {H0 Hf H : Hp} {env : Env} {σ : L2.St} (x : EnvR K H0 Hf H env σ) (vs : List Nat) : EnvR K H0 Hf H (wipeE env vs) (wipe σ vs) := by
  refine ⟨by rw [wipeE_length, wipe_length]; exact x.len, fun i s o e1 e2 => ?_, fun a b p h1 h2 => ?_⟩
  · rw [wipeE_get] at e1
    rw [wipe_get] at e2
    by_cases hi : i ∈ vs
    · rw [if_pos hi] at e1
      cases q : env[i]? with
      | none => rw [q] at e1; cases e1
      | some s0 => rw [q] at e1; cases e1; trivial
    · rw [if_neg hi] at e1 e2
      exact x.slot i s o e1 e2
  · have back : ∀ a, OwnsAt (wipeE env vs) (wipe σ vs) a p → OwnsAt env σ a p := fun a ⟨⟨d', e1⟩, e2⟩ => by
      rw [wipeE_get] at e1
      rw [wipe_get] at e2
      by_cases hi : a ∈ vs
      · rw [if_pos hi] at e1
        cases q : env[a]? with
        | none => rw [q] at e1; cases e1
        | some s0 => rw [q] at e1; cases e1
      · rw [if_neg hi] at e1 e2
        exact ⟨⟨d', e1⟩, e2⟩
    exact x.apart a b p (back a h1) (back b h2)
abbrev W0 : WX := fun _ _ _ _ => False
/-- a growth whose new list (held by nobody known) changes -/
theorem Grow.upd {Hf H Hf' H' : Hp} {p : Addr} {o : HO} (g : Grow Hf H Hf' H') (hp : H p = none) (hn : Hf' p = none) : Grow Hf H Hf' (L2.upd H' p o) := by
  refine ⟨fun a u e => ?_, g.old, fun a u e n => ?_⟩
  · rw [upd_ne (ne_of_none e hn)]
    exact g.sub a u e
  · rw [upd_ne (ne_of_none e hp)]
    exact g.kept a u e n
theorem de_lc {wi : TI} {fi : FI} {j : Nat} {tt : TT} {fc : FT} {te : TE} {fe : FE} {own : List Nat} (hi : DI K W cls wi fi) (hc : DT K W0 cls tt fc) (he : DE K W0 cls te fe) (hj : j ∈ own) : DE K W cls (tLc wi (gName j) tt te own) (eLc fi j fc fe own) := by
  refine ⟨fun H0 Hf H env σ Q sub x h => ?_⟩
  refine hi.run H0 Hf H env σ _ sub x ?_
  unfold eLc at h
  cases ef : fi env with
  | bad => rw [ef] at h; exact h
  | xc c => rw [ef] at h; exact h
  | ok ds =>
    rw [ef] at h
    intro J Hf1 H1 g1 jk Dl hD
    change PostE K W cls Hf H σ (if ds.length ≤ LIM then _ else R.bad) Q at h
    by_cases hl : ds.length ≤ LIM
    · rw [if_pos hl] at h
      cases el : lcLoop j fc fe (wipeE env own) ds with
      | bad => rw [el] at h; exact h.elim
      | xc c => rw [el] at h; exact h.elim
      | ok zs =>
        rw [el] at h
        have hn1 : Hf1 Dl = none := g1.sub.none_of hD
        have x1 := (x.grow g1).wiped own
        refine ⟨fun i m H' => m = ds.length - i ∧ i ≤ ds.length ∧ ∃ Hf' ys vs rest, Grow Hf1 H1 Hf' H' ∧ Hf' Dl = none ∧ H' Dl = some (.lst vs) ∧ RepL K Hf' ys vs ∧ ys.length ≤ i ∧
          lcLoop j fc fe (wipeE env own) (ds.drop i) = .ok rest ∧ zs = ys ++ rest, ⟨ds.length, by simp, Nat.zero_le _, Hf1, [], [], zs, (Grow.refl g1.sub).upd hD hn1, hn1, upd_same, .nil, Nat.zero_le _, by rw [List.drop_zero]; exact el, rfl⟩, ?_⟩
        rintro i m H' ⟨rfl, hile, Hf', ys, vs, rest, g2, n2, e2, rl, hys, elr, ez⟩
        have lo2 : Lo Hf1 H' := (g2.old.trans g2.sub).lo
        by_cases hlt : i < ds.length
        · refine .inr ⟨jk.go i H' lo2 hlt, fun H'' => ds.length - (i + 1) = ds.length - (i + 1) ∧ i + 1 ≤ ds.length ∧ ∃ Hf' ys vs rest, Grow Hf1 H1 Hf' H'' ∧ Hf' Dl = none ∧ H'' Dl = some (.lst vs) ∧ RepL K Hf' ys vs ∧ ys.length ≤ i + 1 ∧
            lcLoop j fc fe (wipeE env own) (ds.drop (i + 1)) = .ok rest ∧ zs = ys ++ rest, fun H'' hN => ⟨_, by omega, hN⟩, fun v H'' hy => ?_⟩
          obtain ⟨rfl, d, ed, rd⟩ := jk.yld i H' v H'' lo2 hlt hy
          have edr : ds.drop i = d :: ds.drop (i + 1) := by
            rw [List.drop_eq_getElem_cons hlt]
            rw [List.getElem?_eq_getElem hlt] at ed
            cases ed
            rfl
          rw [edr] at elr
          have xj : EnvR K H0 Hf' H'' ((wipeE env own).set j (.va d)) ((wipe σ own).set j (some v)) := (x1.grow g2).setVa (rd.mono g2.lo)
          show wipe ((wipe σ own).set j (some v)) own = wipe σ own ∧ _
          refine ⟨wipe_set σ hj v, ?_⟩
          unfold lcLoop at elr
          refine hc.run H0 Hf' H'' _ _ _ g2.sub xj ?_
          cases ec : fc ((wipeE env own).set j (.va d)) with
          | bad => rw [ec] at elr; cases elr
          | xc c => rw [ec] at elr; cases elr
          | ok b =>
            rw [ec] at elr
            intro Hf3 H3 g3
            obtain ⟨e3, n3⟩ := g3.kept Dl _ e2 n2
            cases b with
            | false =>
              show _ ∧ _
              exact ⟨rfl, hlt, Hf3, ys, vs, rest, g2.trans g3, n3, e3, rl.mono g3.lo, by omega, elr, ez⟩
            | true =>
              show te _ H3 _
              dsimp only at elr
              refine he.run H0 Hf3 H3 _ _ _ g3.sub (xj.grow g3) ?_
              cases ee : fe ((wipeE env own).set j (.va d)) with
              | bad => rw [ee] at elr; cases elr
              | xc c => rw [ee] at elr; cases elr
              | ok s =>
                rw [ee] at elr
                dsimp only at elr
                cases er : lcLoop j fc fe (wipeE env own) (ds.drop (i + 1)) with
                | bad => rw [er] at elr; cases elr
                | xc c => rw [er] at elr; cases elr
                | ok rest' =>
                  rw [er] at elr
                  have e5 : s.d :: rest' = rest := by injection elr
                  intro v4 Hf4 H4 g4 q4
                  obtain ⟨Hf5, g5, r5⟩ := q4.rep g3.sub g4
                  obtain ⟨e6, n6⟩ := g5.kept Dl _ e3 n3
                  have g25 := (g2.trans g3).trans g5
                  refine ⟨vs, e6, lim_lt (by rw [← rl.length]; omega), rfl, hlt, Hf5, ys ++ [s.d], vs ++ [v4], rest', g25.upd hD n6, n6, upd_same, (rl.mono (g3.trans g5).lo).append (.cons r5 .nil), ?_, rfl, ?_⟩
                  · rw [List.length_append]
                    exact Nat.succ_le_succ hys
                  · rw [ez, ← e5, List.append_assoc]
                    rfl
        · refine .inl ⟨jk.stop i H' lo2 (by omega), ?_⟩
          have e0 : ds.drop i = [] := List.drop_eq_nil_of_le (by omega)
          rw [e0] at elr
          have er : [] = rest := by
            unfold lcLoop at elr
            injection elr
          rw [← er, List.append_nil] at ez
          subst ez
          exact h (.ref Dl) Hf' H' (g1.trans g2) ⟨Dl, rfl, g1.fresh sub hD, n2, vs, e2, rl⟩
    · rw [if_neg hl] at h
      exact h.elim
end
end DL
set_option maxRecDepth 100000
namespace DL
open PySem PySem.Spec PyProof.Rows L2
section
variable {K : PySem.W.Frag} {W : WX} {cls : Nat → Addr}
/-! ### statements -/
/-- Hb, H0: what was read, and the heap, at the def's entry; Hf, H: now -/
structure St0 (K : PySem.W.Frag) (Hb H0 Hf H : Hp) (env : Env) (σ : L2.St) : Prop where
  base : Ex Hb H0
  grow : Grow Hb H0 Hf H
  env : EnvR K H0 Hf H env σ
def PostS (K : PySem.W.Frag) (W : WX) (cls : Nat → Addr) (Hb H0 Hs : Hp) (o : Out) (D : Ends) : Prop := match o with
  | .nx e => ∀ Hf H σ, Lo Hs Hf → St0 K Hb H0 Hf H e σ → D.nx σ H
  | .rt s => ∀ v Hf H, Grow Hb H0 Hf H → SlV K H0 Hf H s v → D.rt v H
  | .xc c e => ∀ Hf H σ, Lo Hs Hf → St0 K Hb H0 Hf H e σ → W (.ref (cls c)) none σ H
  | .bad => False
structure DS (K : PySem.W.Frag) (W : WX) (cls : Nat → Addr) (t : TS) (F : FS) : Prop where
  run : ∀ (Hb H0 Hf H : Hp) (env : Env) (σ : L2.St) (D : Ends), St0 K Hb H0 Hf H env σ → PostS K W cls Hb H0 Hf (F env) D → t D σ H
theorem St0.step {Hb H0 Hf H Hf' H' : Hp} {env : Env} {σ : L2.St} (x : St0 K Hb H0 Hf H env σ) (g : Grow Hf H Hf' H') : St0 K Hb H0 Hf' H' env σ := ⟨x.base, x.grow.trans g, x.env.grow g⟩
theorem St0.sub {Hb H0 Hf H : Hp} {env : Env} {σ : L2.St} (x : St0 K Hb H0 Hf H env σ) : Ex Hf H := x.grow.sub
theorem PostS.mono {Hb H0 Hs Hs' : Hp} {o : Out} {D : Ends} (h : PostS K W cls Hb H0 Hs o D) (l : Lo Hs Hs') : PostS K W cls Hb H0 Hs' o D := by
  cases o with
  | nx e => exact fun Hf H σ l' x => h Hf H σ (l.trans l') x
  | rt s => exact h
  | xc c e => exact fun Hf H σ l' x => h Hf H σ (l.trans l') x
  | bad => exact h
/-- an expression of a statement -/
theorem St0.expr {Hb H0 Hf H : Hp} {env : Env} {σ : L2.St} (x : St0 K Hb H0 Hf H env σ) {t : TE} {f : FE} (d : DE K W cls t f) {D : Ends} {k : Sl → Out} {Q : VK} (h : PostS K W cls Hb H0 Hf ((f env).out env k) D)
    (go : ∀ s v Hf' H', Grow Hf H Hf' H' → SlV K H Hf' H' s v → PostS K W cls Hb H0 Hf' (k s) D → Q v H') : t σ H Q := by
  refine d.run H0 Hf H env σ Q x.sub x.env ?_
  cases e : f env with
  | ok s => rw [e] at h; exact fun v Hf' H' g q => go s v Hf' H' g q (h.mono g.lo)
  | xc c => rw [e] at h; exact fun Hf' H' g => h Hf' H' σ g.lo (x.step g)
  | bad => rw [e] at h; exact h
/-- .. by its value -/
theorem St0.exprV {Hb H0 Hf H : Hp} {env : Env} {σ : L2.St} (x : St0 K Hb H0 Hf H env σ) {t : TE} {f : FE} (d : DE K W cls t f) {D : Ends} {k : Sl → Out} {Q : VK} (h : PostS K W cls Hb H0 Hf ((f env).out env k) D)
    (go : ∀ s v Hf' H', Grow Hf H Hf' H' → Rep K Hf' s.d v → PostS K W cls Hb H0 Hf' (k s) D → Q v H') : t σ H Q := by
  refine d.run H0 Hf H env σ Q x.sub x.env ?_
  cases e : f env with
  | ok s =>
    rw [e] at h
    intro v Hf' H' g q
    obtain ⟨Hf2, g2, r⟩ := q.rep x.sub g
    exact go s v Hf2 H' g2 r (PostS.mono h g2.lo)
  | xc c => rw [e] at h; exact fun Hf' H' g => h Hf' H' σ g.lo (x.step g)
  | bad => rw [e] at h; exact h
theorem St0.testX {α : Type} {Hb H0 Hf H : Hp} {env : Env} {σ : L2.St} (x : St0 K Hb H0 Hf H env σ) {r : R α} {D : Ends} {k : α → Out} {P : α → Prop} (h : PostS K W cls Hb H0 Hf (r.out env k) D) (go : ∀ a, PostS K W cls Hb H0 Hf (k a) D → P a) : PostX W cls Hf H σ r P := by
  cases r with
  | ok s => exact go s h
  | xc c => exact fun Hf' H' g => h Hf' H' σ g.lo (x.step g)
  | bad => exact h
theorem ds_next : DS K W cls tNext sNext := ⟨fun Hb H0 Hf H env σ D x h => h Hf H σ (Lo.refl _) x⟩
theorem ds_seq {t u : TS} {F G : FS} (ht : DS K W cls t F) (hu : DS K W cls u G) : DS K W cls (tSeq t u) (sSeq F G) := by
  refine ⟨fun Hb H0 Hf H env σ D x h => ?_⟩
  refine ht.run Hb H0 Hf H env σ _ x ?_
  unfold sSeq at h
  cases e : F env with
  | nx e' => rw [e] at h; exact fun Hf' H' σ' l x' => hu.run Hb H0 Hf' H' e' σ' D x' (PostS.mono h l)
  | rt s => rw [e] at h; exact h
  | xc c e' => rw [e] at h; exact h
  | bad => rw [e] at h; exact h
/-- one statement alone: t = its own reading -/
theorem EnvR.setSl {H0 Hf H Hf' H' : Hp} {env : Env} {σ : L2.St} {j : Nat} {s : Sl} {v : V} (x : EnvR K H0 Hf H env σ) (ex : Ex H0 H) (g : Grow Hf H Hf' H') (q : SlV K H Hf' H' s v) : EnvR K H0 Hf' H' (env.set j s) (σ.set j (some v)) := by
  cases s with
  | no => exact q.elim
  | va d => exact (x.grow g).setVa q
  | ow d =>
    obtain ⟨p, rfl, hp, hn, w⟩ := q
    have y := x.grow g
    refine ⟨by rw [List.length_set, List.length_set]; exact y.len, fun i s o e1 e2 => ?_, fun a b p' h1 h2 => ?_⟩
    · rw [List.getElem?_set] at e1 e2
      by_cases hj : j = i
      · rw [if_pos hj] at e1 e2
        split at e1
        · cases e1
          split at e2
          · cases e2
            exact ⟨p, rfl, ex.none_of hp, hn, w⟩
          · cases e2
        · cases e1
      · rw [if_neg hj] at e1 e2
        exact y.slot i s o e1 e2
    · have back : ∀ a, OwnsAt (env.set j (.ow d)) (σ.set j (some (.ref p))) a p' → a = j ∧ p' = p ∨ a ≠ j ∧ OwnsAt env σ a p' := fun a ⟨⟨d', e1⟩, e2⟩ => by
        rw [List.getElem?_set] at e1 e2
        by_cases hj : j = a
        · rw [if_pos hj] at e2
          split at e2
          · cases e2
            exact .inl ⟨hj.symm, rfl⟩
          · cases e2
        · rw [if_neg hj] at e1 e2
          exact .inr ⟨Ne.symm hj, ⟨d', e1⟩, e2⟩
      have old : ∀ a, OwnsAt env σ a p → False := fun a o => by
        obtain ⟨d', _, _, _, w'⟩ := x.own o
        obtain ⟨u, hu⟩ := w'.some
        rw [hp] at hu
        cases hu
      rcases back a h1 with ⟨ra, rp⟩ | ⟨na, oa⟩
      · rcases back b h2 with ⟨rb, _⟩ | ⟨nb, ob⟩
        · rw [ra, rb]
        · rw [rp] at ob
          exact (old b ob).elim
      · rcases back b h2 with ⟨rb, rp⟩ | ⟨nb, ob⟩
        · rw [rp] at oa
          exact (old a oa).elim
        · exact x.apart a b p' oa ob
theorem St0.ex0 {Hb H0 Hf H : Hp} {env : Env} {σ : L2.St} (x : St0 K Hb H0 Hf H env σ) : Ex H0 H := fun a o e => by
  cases q : Hb a with
  | none => exact (x.grow.kept a o e q).1
  | some u =>
    have e1 := x.base a u q
    rw [e] at e1
    cases e1
    exact x.grow.sub a _ (x.grow.old a _ q)
theorem ds_set {i : Nat} {te : TE} {fe : FE} (he : DE K W cls te fe) : DS K W cls (tAsg te (gName i)) (sSet i fe) := by
  refine ⟨fun Hb H0 Hf H env σ D x h => ?_⟩
  refine x.expr he h fun s v Hf' H' g q k => ?_
  show D.nx (σ.set i (some v)) H'
  exact k Hf' H' _ (Lo.refl _) ⟨x.base, x.grow.trans g, x.env.setSl x.ex0 g q⟩
theorem ds_drop {te : TE} {fe : FE} (he : DE K W cls te fe) : DS K W cls (tDrop te) (sDrop fe) := by
  refine ⟨fun Hb H0 Hf H env σ D x h => ?_⟩
  exact x.expr he h fun s v Hf' H' g q k => k Hf' H' σ (Lo.refl _) (x.step g)
theorem SlV.from0 {H0 H Hf' H' : Hp} {s : Sl} {v : V} (ex : Ex H0 H) (q : SlV K H Hf' H' s v) : SlV K H0 Hf' H' s v := by
  cases s with
  | no => exact q
  | va d => exact q
  | ow d => obtain ⟨p, e, hp, r⟩ := q; exact ⟨p, e, ex.none_of hp, r⟩
theorem ds_ret {te : TE} {fe : FE} (he : DE K W cls te fe) : DS K W cls (tRet te) (sRet fe) := by
  refine ⟨fun Hb H0 Hf H env σ D x h => ?_⟩
  exact x.expr he h fun s v Hf' H' g q k => k v Hf' H' (x.grow.trans g) (q.from0 x.ex0)
theorem ds_if {tc : TT} {fc : FT} {t u : TS} {F G : FS} (hc : DT K W cls tc fc) (ht : DS K W cls t F) (hu : DS K W cls u G) : DS K W cls (tIfS tc t u) (sIf fc F G) := by
  refine ⟨fun Hb H0 Hf H env σ D x h => ?_⟩
  refine hc.run H0 Hf H env σ _ x.sub x.env (x.testX h fun b k Hf' H' g => ?_)
  cases b with
  | true =>
    show t D σ H'
    exact ht.run Hb H0 Hf' H' env σ D (x.step g) (k.mono g.lo)
  | false =>
    show u D σ H'
    exact hu.run Hb H0 Hf' H' env σ D (x.step g) (k.mono g.lo)
/-- an error raised: the class's number -/
theorem ds_raise {c : Nat} : DS K W cls (fun _ σ H => W (.ref (cls c)) none σ H) (sRaise c) := ⟨fun Hb H0 Hf H env σ D x h => h Hf H σ (Lo.refl _) x⟩

/-! ### changes of what a slot holds alone -/
theorem EnvR.put {H0 Hf H : Hp} {env : Env} {σ : L2.St} {i : Nat} {p : Addr} {d d' : D} {o : HO} (x : EnvR K H0 Hf H env σ) (ei : env[i]? = some (.ow d)) (es : σ[i]? = some (some (.ref p))) (w : OwnAt K Hf (upd H p o) d' p) :
    EnvR K H0 Hf (upd H p o) (env.set i (.ow d')) σ := by
  have own : OwnsAt env σ i p := ⟨⟨d, ei⟩, es⟩
  refine ⟨by rw [List.length_set]; exact x.len, fun j s ob e1 e2 => ?_, fun a b q h1 h2 => ?_⟩
  · rw [List.getElem?_set] at e1
    by_cases hj : i = j
    · subst hj
      rw [if_pos rfl] at e1
      split at e1
      · cases e1
        rw [es] at e2
        cases e2
        obtain ⟨_, _, h0, n, _⟩ := x.own own
        exact ⟨p, rfl, h0, n, w⟩
      · cases e1
    · rw [if_neg hj] at e1
      have z := x.slot j s ob e1 e2
      cases s with
      | no => trivial
      | va d => exact z
      | ow d =>
        obtain ⟨p', ep, h0, n, w'⟩ := z
        have ne : p' ≠ p := fun e => hj (x.apart i j p own ⟨⟨d, e1⟩, by rw [e2, ep, e]⟩)
        refine ⟨p', ep, h0, n, ?_⟩
        cases d with
        | lst ds =>
          obtain ⟨vs, hp, r⟩ := w'
          exact ⟨vs, by rw [upd_ne ne]; exact hp, r⟩
        | dic kvs =>
          show upd H p o p' = _
          rw [upd_ne ne]
          exact w'
        | _ => exact w'.elim
  · have back : ∀ a, OwnsAt (env.set i (.ow d')) σ a q → OwnsAt env σ a q := fun a ⟨⟨d2, e1⟩, e2⟩ => by
      rw [List.getElem?_set] at e1
      by_cases hj : i = a
      · subst hj
        exact ⟨⟨d, ei⟩, e2⟩
      · rw [if_neg hj] at e1
        exact ⟨⟨d2, e1⟩, e2⟩
    exact x.apart a b q (back a h1) (back b h2)
theorem St0.put {Hb H0 Hf H : Hp} {env : Env} {σ : L2.St} {i : Nat} {p : Addr} {d d' : D} {o : HO} (x : St0 K Hb H0 Hf H env σ) (ei : env[i]? = some (.ow d)) (es : σ[i]? = some (some (.ref p))) (w : OwnAt K Hf (upd H p o) d' p) :
    St0 K Hb H0 Hf (upd H p o) (env.set i (.ow d')) σ := by
  obtain ⟨_, _, h0, n, _⟩ := x.env.own ⟨⟨d, ei⟩, es⟩
  exact ⟨x.base, x.grow.upd h0 n, x.env.put ei es w⟩
/-- what slot i holds, behind a growth -/
theorem St0.held {Hb H0 Hf H : Hp} {env : Env} {σ : L2.St} {i : Nat} {ds : List D} (x : St0 K Hb H0 Hf H env σ) (ei : env[i]? = some (.ow (.lst ds))) : ∃ p vs, σ[i]? = some (some (.ref p)) ∧ Hf p = none ∧ H p = some (.lst vs) ∧ RepL K Hf ds vs := by
  obtain ⟨o, eo, p, ev, h0, n, vs, hp, r⟩ := x.env.any ei
  subst ev
  exact ⟨p, vs, eo, n, hp, r⟩
theorem ds_app {i : Nat} {te : TE} {fe : FE} (he : DE K W cls te fe) : DS K W cls (tDrop (tBM K "list" rAppend (L2.tVar i) (tCons te tNil))) (sApp i fe) := by
  refine ⟨fun Hb H0 Hf H env σ D x h => ?_⟩
  unfold sApp at h
  split at h
  · rename_i ds ei
    obtain ⟨p, vs, es, n, hp, r⟩ := x.held ei
    refine ⟨.ref p, es, .inl ⟨rfl, vs, SqL.of hp⟩, ?_⟩
    refine x.exprV he h fun s v Hf2 H1 g2 rv k => ?_
    have l2 : Lo Hf2 Hf2 := Lo.refl _
    have x2 := x.step g2
    obtain ⟨p', vs', es', n', hp', r'⟩ := x2.held ei
    rw [es] at es'
    cases es'
    by_cases hl : ds.length < LIM
    · rw [if_pos hl] at k
      refine ⟨p, vs', v, rfl, rfl, hp', lim_lt (by rw [← r'.length]; exact hl), k Hf2 _ σ l2 (x2.put ei es ⟨_, upd_same, r'.append (.cons rv .nil)⟩)⟩
    · rw [if_neg hl] at k
      exact k.elim
  · exact h.elim
theorem ds_put {i : Nat} {te tk : TE} {fe fk : FE} (hk : DE K W cls tk fk) (he : DE K W cls te fe) : DS K W cls (tAsg te (gSub (L2.tVar i) tk rSetL)) (sPut i fk fe) := by
  refine ⟨fun Hb H0 Hf H env σ D x h => ?_⟩
  unfold sPut at h
  split at h
  · rename_i ds ei
    refine x.exprV he h fun s v Hf2 H1 g2 rv k => ?_
    have x2 := x.step g2
    obtain ⟨p, vs, es, n, hp, r⟩ := x2.held ei
    refine ⟨.ref p, es, ?_⟩
    refine x2.exprV hk k fun s2 v2 Hf4 H3 g4 rv2 k3 => ?_
    have l4 : Lo Hf4 Hf4 := Lo.refl _
    have x4 := x2.step g4
    obtain ⟨p', vs', es', n', hp', r'⟩ := x4.held ei
    rw [es] at es'
    cases es'
    cases e2 : s2.d with
    | int j =>
      rw [e2] at k3 rv2
      dsimp only at k3
      by_cases hj : 0 ≤ j ∧ j < ds.length
      · rw [if_pos hj] at k3
        refine ⟨p, vs', j, j.toNat, rfl, rv2.int_inv, hp', ?_, k3 Hf4 _ σ l4 (x4.put ei es ⟨_, upd_same, r'.set (rv.mono g4.lo) j.toNat⟩)⟩
        unfold ixN
        rw [if_pos hj.1, if_pos (by rw [← r'.length]; exact hj.2)]
      · rw [if_neg hj] at k3
        exact k3.elim
    | _ => rw [e2] at k3; exact k3.elim
  · exact h.elim

/-! ### loops -/
theorem for_core {J : It} {ds : List D} {j : Nat} {tb : TS} {F : FS} {Hb H0 Hf1 H1 : Hp} {env : Env} {σ : L2.St} {D : Ends} (hb : DS K W cls tb F) (x1 : St0 K Hb H0 Hf1 H1 env σ) (jk : JOk K J Hf1 ds)
    (k : PostS K W cls Hb H0 Hf1 (forD j F ds env) D) : ∃ W : Nat → Nat → L2.St → Hp → Prop, (∃ m, W 0 m σ H1) ∧ ∀ i m σ H, W i m σ H →
  (J.stop i H ∧ D.nx σ H) ∨ (J.go i H ∧ ∃ N : L2.St → Hp → Prop, (∀ σ' H', N σ' H' → ∃ m', m' < m ∧ W (i + 1) m' σ' H') ∧ ∀ x H', J.yld i H x H' → gName j x σ H' fun σ2 H2 => tb { D with nx := N, ct := N, bk := D.nx } σ2 H2) := by
  refine ⟨fun i m σ' H' => m = ds.length - i ∧ i ≤ ds.length ∧ ∃ Hf' env', St0 K Hb H0 Hf' H' env' σ' ∧ Lo Hf1 Hf' ∧ PostS K W cls Hb H0 Hf' (forD j F (ds.drop i) env') D,
    ⟨ds.length, by simp, Nat.zero_le _, Hf1, env, x1, Lo.refl _, by rw [List.drop_zero]; exact k⟩, ?_⟩
  rintro i m σ' H' ⟨rfl, hile, Hf', env', x', lo, k'⟩
  have lo2 : Lo Hf1 H' := lo.trans x'.sub.lo
  by_cases hlt : i < ds.length
  · refine .inr ⟨jk.go i H' lo2 hlt, fun σ'' H'' => i + 1 ≤ ds.length ∧ ∃ Hf' env', St0 K Hb H0 Hf' H'' env' σ'' ∧ Lo Hf1 Hf' ∧ PostS K W cls Hb H0 Hf' (forD j F (ds.drop (i + 1)) env') D,
      fun σ'' H'' hN => ⟨_, by omega, rfl, hN⟩, fun v H'' hy => ?_⟩
    obtain ⟨rfl, d, ed, rd⟩ := jk.yld i H' v H'' lo2 hlt hy
    have edr : ds.drop i = d :: ds.drop (i + 1) := by
      rw [List.drop_eq_getElem_cons hlt]
      rw [List.getElem?_eq_getElem hlt] at ed
      cases ed
      rfl
    rw [edr] at k'
    show tb _ (σ'.set j (some v)) H''
    refine hb.run Hb H0 Hf' H'' (env'.set j (.va d)) (σ'.set j (some v)) _ ⟨x'.base, x'.grow, x'.env.setVa (rd.mono lo)⟩ ?_
    unfold forD at k'
    cases e : F (env'.set j (.va d)) with
    | nx e' => rw [e] at k'; exact fun Hf2 H2 σ2 l2 x2 => ⟨hlt, Hf2, e', x2, lo.trans l2, PostS.mono k' l2⟩
    | rt s => rw [e] at k'; exact k'
    | xc c e' => rw [e] at k'; exact k'
    | bad => rw [e] at k'; exact k'
  · refine .inl ⟨jk.stop i H' lo2 (by omega), ?_⟩
    have e0 : ds.drop i = [] := List.drop_eq_nil_of_le (by omega)
    rw [e0] at k'
    exact k' Hf' H' σ' (Lo.refl _) x'
theorem ds_for {wi : TI} {fi : FI} {j : Nat} {tb : TS} {F : FS} (hi : DI K W cls wi fi) (hb : DS K W cls tb F) : DS K W cls (tFor wi (gName j) tb) (sFor fi j F) := by
  refine ⟨fun Hb H0 Hf H env σ D x h => ?_⟩
  refine hi.run H0 Hf H env σ _ x.sub x.env (x.testX h fun ds k J Hf1 H1 g1 jk => ?_)
  exact for_core hb (x.step g1) jk (PostS.mono k g1.lo)
/-- the keys of a dict that is locked from then on -/
def iKeysL (td : TE) : TI := fun σ H R => td σ H fun x H1 => ∃ d kvs, x = .ref d ∧ H1 d = some (.dK kvs) ∧ ∀ od, R (Itk d od kvs) (upd H1 d (.frz od (.dK kvs)))
theorem pi_keysL {X : Cx} {tg e : Expr} {td : TE} (he : PE X e td) : PI X tg e (iKeysL td) := by
  refine ⟨fun pins s σ H R I h => ?_⟩
  refine thn (he.run pins s σ H _ I h) fun u s1 ⟨x, H1, I1, rx, d, kvs, ex, hd, q⟩ => ?_
  subst ex
  obtain rfl : u = Value.ref d := rx
  obtain ⟨od, I2⟩ := I1.lock hd trivial
  obtain ⟨hs, hgd, hx, es, ep, vs, hdt, hsz, kv, hm⟩ := I2.frzK upd_same
  refine iter_keys hs hgd hx hdt (pi_one (tk := s1.toks) I2 _ (turn_keys _ hdt) ⟨_, Heap.get?_push_size _ rfl, rfl, ?_⟩ (q od))
  rw [hsz] <;> rfl
theorem jok_keys {Hf : Hp} {d : Addr} {od : Obj} {kvs : List (Int × Fv)} (h : Hf d = some (.frz od (.dK (kvs.map kqV)))) : JOk K (Itk d od (kvs.map kqV)) Hf (kvs.map fun p => .int p.1) := by
  have fz : ∀ H : Hp, Lo Hf H → H d = some (.frz od (.dK (kvs.map kqV))) := fun H l => by
    obtain ⟨o', e, k⟩ := l d _ h
    rcases k with rfl | ⟨_, _, e1, _⟩
    · exact e
    · cases e1
  refine ⟨fun i H l hi => ⟨fz H l, by rw [List.length_map] at hi ⊢; exact hi⟩, fun i H x H' l hi y => ?_, fun i H l hi => ⟨fz H l, by rw [List.length_map] at hi ⊢; exact hi⟩⟩
  obtain ⟨rfl, k, v, e, rfl⟩ := y
  rw [List.getElem?_map] at e
  cases q : kvs[i]? with
  | none => rw [q] at e; cases e
  | some p =>
    rw [q] at e
    have e1 : kqV p = (k, v) := Option.some.inj e
    rw [kqV_eq] at e1
    have e2 := congrArg Prod.fst e1
    dsimp only at e2
    subst e2
    exact ⟨rfl, .int p.1, by rw [List.getElem?_map, q]; rfl, .int _⟩
theorem di_keys {ta : TE} {fa : FE} (ha : DE K W cls ta fa) : DI K W cls (iKeysL ta) (iKeys fa) := by
  refine ⟨fun H0 Hf H env σ Q sub x h => ?_⟩
  refine ha.run H0 Hf H env σ _ sub x ?_
  unfold iKeys at h
  cases e : fa env with
  | bad => rw [e] at h; exact h
  | xc c => rw [e] at h; exact h
  | ok s =>
    rw [e] at h
    intro v Hf1 H1 g1 q
    dsimp only [R.bind] at h
    split at h
    · rename_i kvs
      obtain ⟨p, rfl, hp, hn, w⟩ := q
      have w' : H1 p = some (.dK (kvs.map kqV)) := w
      refine ⟨p, kvs.map kqV, rfl, w', fun od => ?_⟩
      refine h _ (upd Hf1 p (.frz od (.dK (kvs.map kqV)))) _ ?_ (jok_keys upd_same)
      refine ⟨fun a o e => ?_, fun a o e => ?_, fun a o e n => ?_⟩
      · by_cases ha : a = p
        · subst ha
          rw [upd_same] at e ⊢
          exact e
        · rw [upd_ne ha] at e ⊢
          exact g1.sub a o e
      · rw [upd_ne (ne_of_none (sub a o e) hp)]
        exact g1.old a o e
      · have ha := ne_of_none e hp
        rw [upd_ne ha, upd_ne ha]
        exact g1.kept a o e n
    · exact h.elim
/-- slot i's object is laid open, its content as o says -/
theorem St0.lay {Hb H0 Hf H : Hp} {env : Env} {σ : L2.St} {i : Nat} {p : Addr} {d : D} {o : HO} (x : St0 K Hb H0 Hf H env σ) (ei : env[i]? = some (.ow d)) (es : σ[i]? = some (some (.ref p))) (r : Rep K (upd Hf p o) d (.ref p)) :
    St0 K Hb H0 (upd Hf p o) (upd H p o) (env.set i (.va d)) σ ∧ Lo Hf (upd Hf p o) := by
  have own : OwnsAt env σ i p := ⟨⟨d, ei⟩, es⟩
  obtain ⟨_, _, h0, n, _⟩ := x.env.own own
  have lo : Lo Hf (upd Hf p o) := (Ex.new n).lo
  refine ⟨⟨x.base, ⟨fun a u e => ?_, fun a u e => ?_, fun a u e n' => ?_⟩, ⟨by rw [List.length_set]; exact x.env.len, fun j s ob e1 e2 => ?_, fun a b q h1 h2 => ?_⟩⟩, lo⟩
  · by_cases ha : a = p
    · subst ha
      rw [upd_same] at e ⊢
      exact e
    · rw [upd_ne ha] at e ⊢
      exact x.sub a u e
  · rw [upd_ne (ne_of_none (x.base a u e) h0)]
    exact x.grow.old a u e
  · have ha := ne_of_none e h0
    rw [upd_ne ha, upd_ne ha]
    exact x.grow.kept a u e n'
  · rw [List.getElem?_set] at e1
    by_cases hj : i = j
    · subst hj
      rw [if_pos rfl] at e1
      split at e1
      · cases e1
        rw [es] at e2
        cases e2
        exact ⟨_, rfl, r⟩
      · cases e1
    · rw [if_neg hj] at e1
      have z := x.env.slot j s ob e1 e2
      cases s with
      | no => trivial
      | va d => obtain ⟨v, ev, rv⟩ := z; exact ⟨v, ev, rv.mono lo⟩
      | ow d =>
        obtain ⟨p', ep, h0', n', w'⟩ := z
        have ne : p' ≠ p := fun e => hj (x.env.apart i j p own ⟨⟨d, e1⟩, by rw [e2, ep, e]⟩)
        refine ⟨p', ep, h0', by rw [upd_ne ne]; exact n', ?_⟩
        cases d with
        | lst ds =>
          obtain ⟨vs, hp, rl⟩ := w'
          exact ⟨vs, by rw [upd_ne ne]; exact hp, rl.mono lo⟩
        | dic kvs =>
          show upd H p o p' = _
          rw [upd_ne ne]
          exact w'
        | _ => exact w'.elim
  · have back : ∀ a, OwnsAt (env.set i (.va d)) σ a q → OwnsAt env σ a q := fun a ⟨⟨d2, e1⟩, e2⟩ => by
      rw [List.getElem?_set] at e1
      by_cases hj : i = a
      · rw [if_pos hj] at e1
        split at e1 <;> cases e1
      · rw [if_neg hj] at e1
        exact ⟨⟨d2, e1⟩, e2⟩
    exact x.env.apart a b q (back a h1) (back b h2)
theorem upd_id {H : Hp} {p : Addr} {o : HO} (h : H p = some o) : upd H p o = H := by
  funext a
  unfold upd
  split
  · rename_i e
    rw [e, h]
  · rfl
theorem ds_forK {i j : Nat} {tb : TS} {F : FS} (hb : DS K W cls tb F) : DS K W cls (tFor (iKeysL (L2.tVar i)) (gName j) tb) (sForK i j F) := by
  refine ⟨fun Hb H0 Hf H env σ D x h => ?_⟩
  unfold sForK at h
  split at h
  · rename_i kvs ei
    obtain ⟨ob, eo, p, ev, h0, n, w⟩ := x.env.any ei
    subst ev
    have w' : H p = some (.dK (kvs.map kqV)) := w
    refine ⟨.ref p, eo, p, kvs.map kqV, rfl, w', fun od => ?_⟩
    obtain ⟨x', lo⟩ := x.lay (o := .frz od (.dK (kvs.map kqV))) ei eo (.dic (.inr ⟨od, upd_same⟩))
    exact for_core hb x' (jok_keys upd_same) (PostS.mono h lo)
  · exact h.elim
theorem set_same {α : Type} : ∀ {l : List α} {i : Nat} {a : α}, l[i]? = some a → l.set i a = l
  | [], _, _, h => by simp at h
  | x :: l, 0, a, h => by
    have e := Option.some.inj h
    subst e
    rfl
  | x :: l, i + 1, a, h => by
    show x :: l.set i a = x :: l
    rw [set_same (l := l) (i := i) (by simpa using h)]
theorem pub_one {Hb H0 Hf H : Hp} {env : Env} {σ : L2.St} {i : Nat} {s : Sl} (x : St0 K Hb H0 Hf H env σ) (ei : env[i]? = some s) : ∃ Hf', St0 K Hb H0 Hf' H (env.set i s.frz) σ ∧ Lo Hf Hf' := by
  cases s with
  | no => exact ⟨Hf, by show St0 K Hb H0 Hf H (env.set i .no) σ; rw [set_same ei]; exact x, Lo.refl _⟩
  | va d => exact ⟨Hf, by show St0 K Hb H0 Hf H (env.set i (.va d)) σ; rw [set_same ei]; exact x, Lo.refl _⟩
  | ow d =>
    obtain ⟨ob, eo, p, ev, h0, n, w⟩ := x.env.any ei
    subst ev
    obtain ⟨o, ho⟩ := w.some
    have r : Rep K (upd Hf p o) d (.ref p) := by
      cases d with
      | lst ds =>
        obtain ⟨vs, hp, rl⟩ := w
        rw [ho] at hp; cases hp
        exact .lst upd_same (rl.mono (Ex.new n).lo)
      | dic kvs =>
        have w' : H p = some (.dK (kvs.map kqV)) := w
        rw [ho] at w'; cases w'
        exact .dic (.inl upd_same)
      | _ => exact w.elim
    obtain ⟨x', lo⟩ := x.lay ei eo r
    rw [upd_id ho] at x'
    exact ⟨_, x', lo⟩
theorem pub_all {Hb H0 H : Hp} {σ : L2.St} : ∀ (is : List Nat) (Hf : Hp) (env : Env), St0 K Hb H0 Hf H env σ → ∃ Hf', St0 K Hb H0 Hf' H (pubE is env) σ ∧ Lo Hf Hf'
  | [], Hf, env, x => ⟨Hf, x, Lo.refl _⟩
  | i :: is, Hf, env, x => by
    unfold pubE
    rw [List.foldl_cons]
    cases e : env[i]? with
    | none => exact pub_all is Hf env x
    | some s =>
      obtain ⟨Hf1, x1, l1⟩ := pub_one x e
      obtain ⟨Hf2, x2, l2⟩ := pub_all is Hf1 _ x1
      exact ⟨Hf2, x2, l1.trans l2⟩
theorem ds_pub {is : List Nat} {t : TS} {F : FS} (h : DS K W cls t F) : DS K W cls t (sPub is F) := by
  refine ⟨fun Hb H0 Hf H env σ D x k => ?_⟩
  obtain ⟨Hf', x', lo⟩ := pub_all is Hf env x
  exact h.run Hb H0 Hf' H _ σ D x' (PostS.mono k lo)
theorem ds_while {n : Nat} {tc : TT} {fc : FT} {tb : TS} {F : FS} (hc : DT K W cls tc fc) (hb : DS K W cls tb F) : DS K W cls (tWhile tc tb) (sWhile n fc F) := by
  refine ⟨fun Hb H0 Hf H env σ D x h => ?_⟩
  refine ⟨fun m σ' H' => ∃ Hf' env', St0 K Hb H0 Hf' H' env' σ' ∧ PostS K W cls Hb H0 Hf' (whileD fc F m env') D, ⟨n, Hf, env, x, h⟩, ?_⟩
  rintro m σ' H' ⟨Hf', env', x', k⟩
  cases m with
  | zero => exact k.elim
  | succ m =>
    unfold whileD at k
    refine hc.run H0 Hf' H' env' σ' _ x'.sub x'.env (x'.testX k fun b k Hf1 H1 g1 => ?_)
    have x1 := x'.step g1
    cases b with
    | true =>
      show ∃ N : L2.St → Hp → Prop, _
      refine ⟨fun σ'' H'' => ∃ Hf' env', St0 K Hb H0 Hf' H'' env' σ'' ∧ PostS K W cls Hb H0 Hf' (whileD fc F m env') D, fun σ'' H'' hN => ⟨m, Nat.lt_succ_self m, hN⟩, ?_⟩
      have k2 := PostS.mono k g1.lo
      refine hb.run Hb H0 Hf1 H1 env' σ' _ x1 ?_
      rw [if_pos rfl] at k2
      cases e : F env' with
      | nx e' => rw [e] at k2; exact fun Hf2 H2 σ2 l2 x2 => ⟨Hf2, e', x2, PostS.mono k2 l2⟩
      | rt s => rw [e] at k2; exact k2
      | xc c e' => rw [e] at k2; exact k2
      | bad => rw [e] at k2; exact k2
    | false =>
      show D.nx σ' H1
      exact k Hf1 H1 σ' g1.lo x1
/-! ### dicts -/
theorem find_kq (k : Int) : ∀ kvs : List (Int × Fv), ((kvs.map kqV).find? fun kv => decide (kv.1 = (Sum.inl k : Key))) = (kvs.find? fun p => p.1 == k).map kqV
  | [] => rfl
  | p :: r => by
    have e : decide ((kqV p).1 = (Sum.inl k : Key)) = (p.1 == k) := by
      rw [kqV_eq]
      exact key_ll p.1 k
    rw [List.map_cons, List.find?_cons, List.find?_cons, e]
    cases (p.1 == k) with
    | true => rfl
    | false => exact find_kq k r
theorem val_get (kvs : List (Int × Fv)) (k : Int) : valV (kvs.map kqV) (Sum.inl k : Key) = (getA kvs k).map Fv.v := by
  unfold valV getA
  rw [find_kq]
  cases kvs.find? fun p => p.1 == k with
  | none => rfl
  | some p =>
    show some (kqV p).2 = some p.2.v
    rw [kqV_eq]
theorem any_kq (k : Int) : ∀ kvs : List (Int × Fv), ((kvs.map kqV).any fun kv => decide (kv.1 = (Sum.inl k : Key))) = kvs.any fun p => p.1 == k
  | [] => rfl
  | p :: r => by
    have e : decide ((kqV p).1 = (Sum.inl k : Key)) = (p.1 == k) := by
      rw [kqV_eq]
      exact key_ll p.1 k
    rw [List.map_cons, List.any_cons, List.any_cons, e, any_kq k r]
theorem put_kq (kvs : List (Int × Fv)) (k : Int) (v : Fv) : putK (kvs.map kqV) (Sum.inl k : Key) v.v = (putA kvs k v).map kqV := by
  unfold putK putA
  rw [any_kq]
  by_cases h : (kvs.any fun p => p.1 == k) = true
  · rw [if_pos h, if_pos h, List.map_map, List.map_map]
    refine List.map_congr_left fun p _ => ?_
    show (if (kqV p).1 = (Sum.inl k : Key) then ((kqV p).1, v.v) else kqV p) = kqV (if (p.1 == k) = true then (p.1, v) else p)
    rw [kqV_eq]
    by_cases e : p.1 = k
    · rw [if_pos (by rw [e]), if_pos (by simp [e]), kqV_eq]
    · rw [if_neg (fun q => e (Sum.inl.inj q)), if_neg (by simp [e]), kqV_eq]
  · rw [if_neg h, if_neg h, List.map_append]
    congr 1
theorem fv_rep {Hf : Hp} {d : D} {f : Fv} {v : V} (h : d.fv? = some f) (r : Rep K Hf d v) : v = f.v := by
  cases r with
  | int i => cases h; rfl
  | bl b => cases h; rfl
  | _ => cases h
theorem putA_length (kvs : List (Int × Fv)) (k : Int) (v : Fv) : (putA kvs k v).length ≤ kvs.length + 1 := by
  unfold putA
  split
  · rw [List.length_map]; omega
  · rw [List.length_append]; exact Nat.le_refl _
theorem ds_dput {i : Nat} {te tk : TE} {fe fk : FE} (hk : DE K W cls tk fk) (he : DE K W cls te fe) : DS K W cls (L2.sDPut (L2.tVar i) tk te) (sDPut i fk fe) := by
  refine ⟨fun Hb H0 Hf H env σ D x h => ?_⟩
  unfold sDPut at h
  split at h
  · rename_i kvs ei
    refine x.exprV he h fun s v Hf2 H1 g2 rv k => ?_
    have x2 := x.step g2
    obtain ⟨ob, eo, p, ev, h0, n, w⟩ := x2.env.any ei
    subst ev
    refine ⟨.ref p, eo, ?_⟩
    refine x2.exprV hk k fun s2 v2 Hf4 H3 g4 rv2 k3 => ?_
    have x4 := x2.step g4
    obtain ⟨ob', eo', p', ev', h0', n', w'⟩ := x4.env.any ei
    subst ev'
    rw [eo] at eo'
    cases eo'
    have w4 : H3 p = some (.dK (kvs.map kqV)) := w'
    cases e2 : s2.d with
    | int j =>
      rw [e2] at k3 rv2
      cases ef : s.d.fv? with
      | none => rw [ef] at k3; exact k3.elim
      | some f =>
        rw [ef] at k3
        dsimp only at k3
        by_cases hl : kvs.length < LIM
        · rw [if_pos hl] at k3
          have ev4 : v = f.v := fv_rep ef rv
          have ek : v2 = kV (Sum.inl j) := rv2.int_inv
          subst ev4 ek
          refine ⟨p, _, rfl, DPut.k w4 (by rw [List.length_map]; exact lim_lt hl), ?_⟩
          refine k3 Hf4 _ σ (Lo.refl _) (x4.put ei eo ?_)
          show upd H3 p _ p = _
          rw [upd_same, put_kq]
        · rw [if_neg hl] at k3
          exact k3.elim
    | _ => rw [e2] at k3; exact k3.elim
  · exact h.elim
theorem rr_dget {Hf H : Hp} {a b : D} {x y : V} (sub : Ex Hf H) (r1 : Rep K Hf a x) (r2 : Rep K Hf b y) {kvs : List (Int × Fv)} {k : Int} (ea : a = .dic kvs) (eb : b = .int k) : ∃ p, x = .ref p ∧ DGet H p y ((getA kvs k).map Fv.v) := by
  subst ea eb
  obtain ⟨p, rfl, hp⟩ := r1.dic_inv
  rw [r2.int_inv]
  exact ⟨p, rfl, .inl ⟨kvs.map kqV, Sum.inl k, sub.lo.rd hp, rfl, (val_get kvs k).symm⟩⟩
theorem Rep.fv {Hf : Hp} (f : Fv) : Rep K Hf f.d f.v := by
  cases f with
  | int i => exact .int i
  | bl b => exact .bl b
theorem de_dget {ta tb : TE} {fa fb : FE} (ha : DE K W cls ta fa) (hb : DE K W cls tb fb) : DE K W cls (tDGet ta tb) (eOp2 dGetK fa fb) := by
  refine ⟨fun H0 Hf H env σ Q sub x h => ?_⟩
  refine ha.then sub x h.x fun s v Hf1 H1 g1 r1 q => ?_
  refine hb.then g1.sub (x.grow g1) q fun s2 v2 Hf2 H2 g2 r2 q2 => ?_
  have r1' := r1.mono g2.lo
  unfold dGetK at q2
  split at q2
  · rename_i kvs k ea eb
    split at q2
    · rename_i f ef
      obtain ⟨p, rfl, dg⟩ := rr_dget g2.sub r1' r2 ea eb
      rw [ef] at dg
      exact ⟨p, f.v, rfl, dg, q2 _ _ _ (g1.trans g2) (Rep.fv f)⟩
    · exact q2.elim
  · exact q2.elim
theorem de_dnotin {ta tb : TE} {fa fb : FE} (ha : DE K W cls ta fa) (hb : DE K W cls tb fb) : DE K W cls (tDNotIn ta tb) (eOp2 dNotInK fa fb) := by
  refine ⟨fun H0 Hf H env σ Q sub x h => ?_⟩
  refine ha.then sub x h.x fun s v Hf1 H1 g1 r1 q => ?_
  refine hb.then g1.sub (x.grow g1) q fun s2 v2 Hf2 H2 g2 r2 q2 => ?_
  have r1' := r1.mono g2.lo
  unfold dNotInK at q2
  split at q2
  · rename_i k kvs eb ea
    obtain ⟨p, rfl, dg⟩ := rr_dget g2.sub r2 r1' ea eb
    refine ⟨p, _, rfl, dg, ?_⟩
    refine q2 _ _ _ (g1.trans g2) ?_
    have e : ((getA kvs k).map Fv.v).isSome = (getA kvs k).isSome := by cases getA kvs k <;> rfl
    rw [e]
    exact .bl _
  · exact q2.elim
theorem de_dget2 {ta tb tc : TE} {fa fb fc : FE} (ha : DE K W cls ta fa) (hb : DE K W cls tb fb) (hc : DE K W cls tc fc) : DE K W cls (tDGet2 ta tb tc) (eGet2 fa fb fc) := by
  refine ⟨fun H0 Hf H env σ Q sub x h => ?_⟩
  refine ha.then sub x h.x fun s v Hf1 H1 g1 r1 q => ?_
  split at q
  · rename_i kvs ea
    rw [ea] at r1
    obtain ⟨p, rfl, hp⟩ := r1.dic_inv
    refine ⟨p, rfl, .inl ⟨_, g1.sub.lo.rd hp⟩, ?_⟩
    refine hb.then g1.sub (x.grow g1) q fun s2 v2 Hf2 H2 g2 r2 q2 => ?_
    refine hc.then g2.sub (x.grow (g1.trans g2)) q2 fun s3 v3 Hf3 H3 g3 r3 q3 => ?_
    unfold dGet2 at q3
    split at q3
    · rename_i k z eb ec
      have r2' := r2.mono g3.lo
      rw [eb] at r2'
      rw [ec] at r3
      obtain ⟨p', e', dg⟩ := rr_dget g3.sub ((Rep.dic hp : Rep K Hf1 (.dic kvs) (.ref p)).mono (g2.trans g3).lo) r2' rfl rfl
      cases e'
      refine ⟨_, dg, q3 _ Hf3 H3 ((g1.trans g2).trans g3) ?_⟩
      rw [r3.int_inv]
      cases getA kvs k with
      | none => exact .int z
      | some f => exact Rep.fv f
    · exact q3.elim
  · exact q.elim
end
end DL
set_option maxRecDepth 100000
namespace DL
open PySem PySem.Spec PyProof.Rows L2
section
variable {K : PySem.W.Frag} {W : WX} {cls : Nat → Addr}
/-! ### defs and calls -/
def PostF (K : PySem.W.Frag) (cls : Nat → Addr) (Hb H : Hp) (r : R Sl) (Q : VK) (E : XK) : Prop := match r with
  | .ok s => ∀ v Hf' H', Grow Hb H Hf' H' → SlV K H Hf' H' s v → Q v H'
  | .xc c => ∀ Hf' H', Grow Hb H Hf' H' → E (.ref (cls c)) none H'
  | .bad => False
/-- a def's promise: it is the function f of data -/
def spF (K : PySem.W.Frag) (cls : Nat → Addr) (n : Nat) (f : List D → R Sl) : Sp := fun vs H Q E => vs.length = n ∧ ∃ (ds : List D) (Hb : Hp), Ex Hb H ∧ RepL K Hb ds vs ∧ PostF K cls Hb H (f ds) Q E
theorem de_call {n : Nat} {f : List D → R Sl} {ta : TA} {fa : FA} (ha : DA K W cls ta fa) : DE K W cls (tCallS (spF K cls n f) (WE W) ta) (eCall n f fa) := by
  refine ⟨fun H0 Hf H env σ Q sub x h => ?_⟩
  refine ha.then sub x h.x fun ds vs Hf1 H1 g1 r1 q => ?_
  by_cases hn : ds.length = n
  · rw [if_pos hn] at q
    refine ⟨by rw [← r1.length]; exact hn, ds, Hf1, g1.sub, r1, ?_⟩
    cases e : f ds with
    | ok s => rw [e] at q; exact fun v Hf' H' g' k => q v Hf' H' (g1.trans g') (k.back sub g1)
    | xc c => rw [e] at q; exact q
    | bad => rw [e] at q; exact q
  · rw [if_neg hn] at q
    exact q.elim
theorem start_env {Hb H : Hp} (N : List Str) {ds : List D} {vs : List V} (r : RepL K Hb ds vs) (hl : vs.length ≤ N.length) : EnvR K H Hb H (ds.map Sl.va ++ List.replicate (N.length - ds.length) .no) (start N vs) := by
  have el := r.length
  have noown : ∀ (i : Nat) (d : D), (ds.map Sl.va ++ List.replicate (N.length - ds.length) Sl.no)[i]? ≠ some (Sl.ow d) := fun i d e => by
    have m := List.mem_of_getElem? e
    rcases List.mem_append.mp m with m | m
    · obtain ⟨_, _, z⟩ := List.mem_map.mp m
      cases z
    · have := (List.mem_replicate.mp m).2
      cases this
  refine ⟨?_, fun i s o e1 e2 => ?_, fun i j p h1 h2 => ?_⟩
  · unfold L2.start
    rw [List.length_append, List.length_append, List.length_map, List.length_map, List.length_replicate, List.length_replicate, el]
  · unfold L2.start at e2
    by_cases hi : i < ds.length
    · rw [List.getElem?_append_left (by rw [List.length_map]; exact hi), List.getElem?_map, List.getElem?_eq_getElem hi] at e1
      cases e1
      rw [List.getElem?_append_left (by rw [List.length_map]; omega), List.getElem?_map] at e2
      obtain ⟨v, ev, rv⟩ := r.get (List.getElem?_eq_getElem hi)
      rw [ev] at e2
      cases e2
      exact ⟨v, rfl, rv⟩
    · rw [List.getElem?_append_right (by rw [List.length_map]; omega), List.getElem?_replicate] at e1
      split at e1
      · cases e1
        trivial
      · cases e1
  · obtain ⟨⟨d, e⟩, _⟩ := h1
    exact absurd e (noown i d)
/-- THE RULE for a def -/
theorem fn_ok {P : Program} {w : World} {mg : Str → Option Value} {base : Heap} {x qual : Str} {st : Stmt} {f : Addr} {fd : FuncData} {N ps : List Str} {k : Nat} {F : FS} (Fn : Fun K x qual st f fd) (S : FnScope N ps (defScope st))
    (hbody : ∀ (cdv : Value) (A : Around) (outer : List PySem.Env) (s : Shared) (H : Hp) (E : XK), Room k (A.deeper (envOfC qual (defScope st) s.heap.objs.size f cdv)) →
      ∃ t, PSs (cxOf (L2.CX P w) P w K mg base N qual (defScope st) f cdv A outer s H E) (defBody st) t ∧ DS K (fun c d _ H => E c d H) cls t F) :
    FnOk P w K mg base (L2.CX P w) (k + 1) f fd ps (spF K cls ps.length (fnOf N.length F)) := by
  refine Fn.okX S (fun vs H Q E h => h.1) fun cdv A outer s H vs Q E hr h => ?_
  obtain ⟨hl, ds, Hb, sub, r, post⟩ := h
  obtain ⟨t, ht, hd⟩ := hbody cdv A outer s H E hr
  have hpl : ps.length ≤ N.length := by
    have := congrArg List.length S.pre
    rw [List.length_take] at this
    omega
  refine ⟨t, ht, hd.run Hb H Hb H _ (start N vs) _ ⟨sub, Grow.refl sub, start_env N r (by rw [hl]; exact hpl)⟩ ?_⟩
  unfold fnOf at post
  cases e : F (ds.map Sl.va ++ List.replicate (N.length - ds.length) .no) with
  | nx e' => rw [e] at post; exact fun Hf' H' σ l x => post .non Hf' H' x.grow .non
  | rt s => rw [e] at post; exact fun v Hf' H' g q => post v Hf' H' g q
  | xc c e' => rw [e] at post; exact fun Hf' H' σ l x => post Hf' H' x.grow
  | bad => rw [e] at post; exact post
/-- a def that may be called by its name -/
structure Cal (P : Program) (w : World) (K : PySem.W.Frag) (mg : Str → Option Value) (base : Heap) (cls : Nat → Addr) (x : Str) (ps : List Str) (k : Nat) (f : List D → R Sl) : Prop where
  ex : ∃ (fa : Addr) (fd : FuncData), FnOk P w K mg base (L2.CX P w) k fa fd ps (spF K cls ps.length f) ∧ mg x = some (.ref fa) ∧ PySem.W.keepIn K (.ref fa) = true ∧ Binds K fd ps []
theorem pe_cal {X : Cx} {W : WX} {cls : Nat → Addr} {x : Str} {ps : List Str} {k : Nat} {f : List D → R Sl} {p pos : Pos} {e : Expr} {es : List Expr} {t : TA} (C : Cal X.prog X.w X.K X.mg X.base cls x ps k f) (hr : Room k X.A) (hg : Gl X x) (tk : Takes X W) (ha : PA X (e :: es) t)
    (hdb : (x == ("__debug__" : Str)) = false := by decide) (he : starEach (e :: es) X.env = (false, eval e X.env) :: starEach es X.env := by rfl) (hpl : (backTo pos (starEach es X.env)).any (·.1) = false := by rfl) :
    PE X (.Call (.Name x p) (e :: es) [] pos) (tCallS (spF X.K cls ps.length f) (WE W) t) := by
  obtain ⟨fa, fd, F, hm, hk, hb⟩ := C.ex
  exact pe_callS F hr hg hm hk hb (fun σ => passAt tk σ) ha hdb he hpl
theorem Cal.mono {P : Program} {w : World} {mg : Str → Option Value} {base : Heap} {x : Str} {ps : List Str} {j k : Nat} {f : List D → R Sl} (C : Cal P w K mg base cls x ps j f) (h : j ≤ k) : Cal P w K mg base cls x ps k f := by
  obtain ⟨fa, fd, F, r⟩ := C.ex
  exact ⟨fa, fd, F.mono h, r⟩

/-! ### try -/
theorem pss_when {X : Cx} {st : List Stmt} {P : Prop} {t : TS} (h : P → PSs X st t) : PSs X st (fun D σ H => P ∧ t D σ H) := ⟨fun pins s σ H D I q => (h q.1).run pins s σ H D I q.2⟩
/-- except X: a suite that asks nothing of the error -/
theorem ds_try {cE : Value} {tb : WX → TS} {ts : Addr → Value → Option Addr → TS} {F G : FS} (hb : ∀ W, DS K W cls (tb W) F) (hs : ∀ a c d, DS K W0 cls (ts a c d) G) (hx : ∀ c, PySem.W.exmOne K (.ref (cls c)) cE = some true) (hG : ∀ e c e', G e ≠ .xc c e') :
    DS K W cls (fun D σ H => tb (wOnly K cE ts (fun _ _ _ _ => False) D) D σ H) (sTry F fun _ => G) := by
  refine ⟨fun Hb H0 Hf H env σ D x h => ?_⟩
  refine (hb _).run Hb H0 Hf H env σ D x ?_
  unfold sTry at h
  cases e : F env with
  | nx e' => rw [e] at h; exact h
  | rt s => rw [e] at h; exact h
  | bad => rw [e] at h; exact h
  | xc c e' =>
    rw [e] at h
    intro Hf' H' σ' l' x'
    refine ⟨true, hx c, fun _ a ha => ?_, fun z => by cases z⟩
    refine (hs a _ none).run Hb H0 Hf' H' e' σ' D x' ?_
    have h2 : PostS K W cls Hb H0 Hf (G e') D := h
    have h3 := PostS.mono h2 l'
    cases eg : G e' with
    | nx e2 => rw [eg] at h3; exact h3
    | rt s => rw [eg] at h3; exact h3
    | bad => rw [eg] at h3; exact h3
    | xc c2 e2 => exact absurd eg (hG _ _ _)
/-- the six marks -/
def marksOf (c : Nat) : List Bool := [c == 0, c == 1, c == 2, c == 3, c == 4, true]
/-- what the suite of the six marks does: at the slot im a new list of them, whatever stood there -/
def SuiteOk (K : PySem.W.Frag) (cls : Nat → Addr) (ix im : Nat) (ts : Addr → Value → Option Addr → TS) : Prop := ∀ (a : Addr) (c : Nat) (D : Ends) (σ : L2.St) (H : Hp), c < 5 → σ[ix]? = some (some (.ref a)) → im < σ.length →
  (∀ p H', H p = none → Ex H H' → H' p = some (.lst ((marksOf c).map V.bl)) → D.nx (σ.set im (some (.ref p))) H') → ts a (.ref (cls c)) none D σ H
theorem grow_plus {Hf H H' : Hp} (sub : Ex Hf H) (ex : Ex H H') : Grow Hf H Hf H' := ⟨sub.trans ex, Ex.refl _, fun a o e n => ⟨ex a o e, n⟩⟩
theorem ds_told {cE : Value} {ix im : Nat} {tb : WX → TS} {ts : Addr → Value → Option Addr → TS} {F : FS} (hb : ∀ W, DS K W cls (tb W) F) (hs : SuiteOk K cls ix im ts) (hx : ∀ c, c < 5 → PySem.W.exmOne K (.ref (cls c)) cE = some true) (hne : ix ≠ im)
    (hfit : ∀ env c e', F env = .xc c e' → e' = env) :
    DS K W cls (fun D σ H => tb (wAs K cE ix ts (fun _ _ _ _ => False) D) D σ H) (sTold ix im F) := by
  refine ⟨fun Hb H0 Hf H env σ D x h => ?_⟩
  unfold sTold at h
  by_cases hl : ix < env.length ∧ im < env.length
  · rw [if_pos hl] at h
    refine (hb _).run Hb H0 Hf H env σ D x ?_
    cases e : F env with
    | nx e' => rw [e] at h; exact h
    | rt s => rw [e] at h; exact h
    | bad => rw [e] at h; exact h
    | xc c e' =>
      rw [e] at h
      intro Hf' H' σ' l' x'
      have h2 : PostS K W cls Hb H0 Hf (if c < 5 then .nx ((e'.set ix .no).set im (.ow (.lst [.bl (c == 0), .bl (c == 1), .bl (c == 2), .bl (c == 3), .bl (c == 4), .bl true]))) else .bad) D := h
      by_cases hc : c < 5
      · rw [if_pos hc] at h2
        have el : σ'.length = env.length := by rw [← x'.env.len]; rw [hfit env c e' e]
        refine ⟨true, hx c hc, fun _ a ha => ?_, fun z => by cases z⟩
        refine hs a c _ (σ'.set ix (some (.ref a))) H' hc (by rw [List.getElem?_set_self (by rw [el]; exact hl.1)]) (by rw [List.length_set, el]; exact hl.2) fun p H2 hp ex hv => ?_
        have g : Grow Hf' H' Hf' H2 := grow_plus x'.sub ex
        have n : Hf' p = none := x'.sub.none_of hp
        have es : ((σ'.set ix (some (.ref a))).set im (some (.ref p))).set ix none = (σ'.set ix none).set im (some (.ref p)) := by
          rw [List.set_comm _ _ (Ne.symm hne), List.set_set]
        show D.nx (((σ'.set ix (some (.ref a))).set im (some (.ref p))).set ix none) H2
        rw [es]
        refine h2 Hf' H2 _ l' ⟨x'.base, x'.grow.trans g, ?_⟩
        have xno : EnvR K H0 Hf' H' (e'.set ix .no) (σ'.set ix none) := by
          refine ⟨by rw [List.length_set, List.length_set]; exact x'.env.len, fun i s o e1 e2 => ?_, fun i j q h1 h2 => ?_⟩
          · rw [List.getElem?_set] at e1 e2
            by_cases hj : ix = i
            · rw [if_pos hj] at e1
              split at e1
              · cases e1; trivial
              · cases e1
            · rw [if_neg hj] at e1 e2
              exact x'.env.slot i s o e1 e2
          · have back : ∀ i, OwnsAt (e'.set ix .no) (σ'.set ix none) i q → OwnsAt e' σ' i q := fun i ⟨⟨d', e1⟩, e2⟩ => by
              rw [List.getElem?_set] at e1 e2
              by_cases hj : ix = i
              · rw [if_pos hj] at e1
                split at e1 <;> cases e1
              · rw [if_neg hj] at e1 e2
                exact ⟨⟨d', e1⟩, e2⟩
            exact x'.env.apart i j q (back i h1) (back j h2)
        refine xno.setSl x'.ex0 g (s := .ow _) ⟨p, rfl, hp, n, _, hv, ?_⟩
        exact .cons (.bl _) (.cons (.bl _) (.cons (.bl _) (.cons (.bl _) (.cons (.bl _) (.cons (.bl _) .nil)))))
      · rw [if_neg hc] at h2
        exact h2.elim
  · rw [if_neg hl] at h
    exact h.elim
theorem sSet_xc (i : Nat) (a : FE) : ∀ env c e', sSet i a env = .xc c e' → e' = env := by
  intro env c e' h
  unfold sSet at h
  cases q : a env with
  | ok s => rw [q] at h; cases h
  | xc c' => rw [q] at h; cases h; rfl
  | bad => rw [q] at h; cases h
end
end DL
set_option maxRecDepth 100000
namespace DL
open PySem PySem.Spec PyProof.Rows L2
theorem OpR.or {X : Cx} {f : Value → Value → Sem Value} {r r' : R2} (h : OpR X f r) (h' : OpR X f r') : OpR X f (fun x y H Q => r x y H Q ∨ r' x y H Q) := by
  intro pins s σ H x y v u Q I rx ry q
  rcases q with q | q
  · exact h pins s σ H x y v u Q I rx ry q
  · exact h' pins s σ H x y v u Q I rx ry q
section
variable {K : PySem.W.Frag}
theorem nx_of {α β : Type} {g : α → R β} (h : ∀ a c, g a ≠ .xc c) : NoXc g := h

/-! ### + -/
def rAddG (K : PySem.W.Frag) : R2 := fun x y H Q => rI0 (fun i j => .int (i + j)) x y H Q ∨ rCat x y H Q ∨ rCatA K x y H Q ∨ (∃ i j, x = .str i ∧ y = .str j ∧ i.length + j.length ≤ sizeLine ∧ Q (.str (i ++ j)) H)
theorem op_addG {X : Cx} : OpR X (binaryOp .Add) (rAddG X.K) := OpR.or op_add (OpR.or op_cat (OpR.or op_catA op_add_str))
theorem nx_add : ∀ a, NoXc (dAdd a) := by
  intro a b c h
  unfold dAdd at h
  split at h <;> (try split at h) <;> cases h
theorem rr_add : RR K (rAddG K) dAdd := by
  intro Hf H a b x y Q sub r1 r2 h
  unfold dAdd at h
  split at h
  · rename_i i j
    exact .inl ⟨i, j, r1.int_inv, r2.int_inv, h _ Hf H (.refl sub) (.int _)⟩
  · rename_i as bs
    split at h
    · rename_i hl
      obtain ⟨p, vs, rfl, hp, rl⟩ := r1.lst_inv
      obtain ⟨q, us, rfl, hq, rl2⟩ := r2.lst_inv
      refine .inr (.inl ⟨p, q, vs, us, rfl, rfl, sub _ _ hp, sub _ _ hq, by rw [← rl.length, ← rl2.length]; exact lim_le hl, fun z hz => ?_⟩)
      exact h (.ref z) Hf _ (Grow.newO sub hz) ⟨z, rfl, hz, sub.none_of hz, _, upd_same, rl.append rl2⟩
    · exact h.elim
  · rename_i as bs
    split at h
    · rename_i hl
      obtain ⟨p, vs, rfl, hp, rl⟩ := r1.tup_inv
      obtain ⟨q, us, rfl, hq, rl2⟩ := r2.tup_inv
      refine .inr (.inr (.inl ⟨p, q, vs, us, rfl, rfl, SqT.of (sub _ _ hp), SqT.of (sub _ _ hq), by rw [← rl.length, ← rl2.length]; exact lim_le hl, fun e => ?_, fun _ e => ?_, fun _ _ z hz => ?_⟩))
      · subst e
        have e2 : as = [] := List.eq_nil_of_length_eq_zero (by rw [rl.length]; rfl)
        subst e2
        exact h (.ref q) Hf H (.refl sub) (.tup hq rl2)
      · subst e
        have e2 : bs = [] := List.eq_nil_of_length_eq_zero (by rw [rl2.length]; rfl)
        subst e2
        refine h (.ref p) Hf H (.refl sub) (.tup hp ?_)
        rw [List.append_nil]
        exact rl
      · exact h (.ref z) _ _ (Grow.new sub hz) (.tup upd_same ((rl.append rl2).mono (Ex.new (sub.none_of hz)).lo))
    · exact h.elim
  · rename_i as bs
    split at h
    · rename_i hl
      exact .inr (.inr (.inr ⟨as, bs, r1.str_inv, r2.str_inv, lim_le hl, h _ Hf H (.refl sub) (.str _)⟩))
    · exact h.elim
  · exact h.elim
/-! ### numbers -/
theorem rr_int {C : Int → Int → Prop} {g : Int → Int → V} {f : D → D → R Sl} (hf : ∀ (Hf H : Hp) (a b : D) (Q : VK), Ex Hf H → PostE K (fun _ _ _ _ => False) (fun _ => 0) Hf H [] (f a b) Q → ∃ i j, a = .int i ∧ b = .int j ∧ C i j ∧ Q (g i j) H) : RR K (rI C g) f := by
  intro Hf H a b x y Q sub r1 r2 h
  obtain ⟨i, j, rfl, rfl, hc, q⟩ := hf Hf H a b Q sub h
  exact ⟨i, j, r1.int_inv, r2.int_inv, hc, q⟩
theorem rr_int0 {g : Int → Int → V} {f : D → D → R Sl} (hf : ∀ (Hf H : Hp) (a b : D) (Q : VK), Ex Hf H → PostE K (fun _ _ _ _ => False) (fun _ => 0) Hf H [] (f a b) Q → ∃ i j, a = .int i ∧ b = .int j ∧ Q (g i j) H) : RR K (rI0 g) f := by
  intro Hf H a b x y Q sub r1 r2 h
  obtain ⟨i, j, rfl, rfl, q⟩ := hf Hf H a b Q sub h
  exact ⟨i, j, r1.int_inv, r2.int_inv, q⟩
theorem nx_sub : ∀ a, NoXc (dSub a) := by
  intro a b c h
  unfold dSub at h
  split at h <;> cases h
theorem rr_sub : RR K (rI0 fun i j => .int (i - j)) dSub := rr_int0 fun Hf H a b Q sub h => by
  unfold dSub at h
  split at h
  · exact ⟨_, _, rfl, rfl, h _ Hf H (.refl sub) (.int _)⟩
  · exact h.elim
theorem nx_mul : ∀ a, NoXc (dMul a) := by
  intro a b c h
  unfold dMul at h
  split at h <;> (try split at h) <;> cases h
theorem rr_mul : RR K (rI CMul fun i j => .int (i * j)) dMul := rr_int fun Hf H a b Q sub h => by
  unfold dMul at h
  split at h
  · rename_i i j
    split at h
    · rename_i hs
      refine ⟨_, _, rfl, rfl, ?_, h _ Hf H (.refl sub) (.int _)⟩
      rw [Bool.or_eq_true] at hs
      rcases hs with hs | hs
      · exact .inl (of_decide_eq_true hs)
      · exact .inr (of_decide_eq_true hs)
    · exact h.elim
  · exact h.elim
theorem nx_floor : ∀ a, NoXc (dFloor a) := by
  intro a b c h
  unfold dFloor at h
  split at h <;> (try split at h) <;> cases h
theorem rr_floor : RR K (rI CDiv fun i j => .int (i / j)) dFloor := rr_int fun Hf H a b Q sub h => by
  unfold dFloor at h
  split at h
  · split at h
    · rename_i hs
      exact ⟨_, _, rfl, rfl, hs, h _ Hf H (.refl sub) (.int _)⟩
    · exact h.elim
  · exact h.elim
theorem nx_mod : ∀ a, NoXc (dMod a) := by
  intro a b c h
  unfold dMod at h
  split at h <;> (try split at h) <;> cases h
theorem rr_mod : RR K (rI (fun _ j => 0 < j) fun i j => .int (i % j)) dMod := rr_int fun Hf H a b Q sub h => by
  unfold dMod at h
  split at h
  · split at h
    · rename_i hs
      exact ⟨_, _, rfl, rfl, hs, h _ Hf H (.refl sub) (.int _)⟩
    · exact h.elim
  · exact h.elim
theorem nx_pow : ∀ a, NoXc (dPow a) := by
  intro a b c h
  unfold dPow at h
  split at h <;> (try split at h) <;> cases h
theorem rr_pow : RR K (rI CPow fun i j => .int (i ^ j.toNat)) dPow := rr_int fun Hf H a b Q sub h => by
  unfold dPow at h
  split at h
  · split at h
    · rename_i hs
      exact ⟨_, _, rfl, rfl, ⟨hs.1.1, hs.1.2, hs.2⟩, h _ Hf H (.refl sub) (.int _)⟩
    · exact h.elim
  · exact h.elim
theorem nx_neg : NoXc dNeg := by
  intro a c h
  unfold dNeg at h
  split at h <;> cases h
theorem ru_neg : RU1 K (rU fun i => .int (-i)) dNeg := by
  intro Hf H a x Q sub r1 h
  unfold dNeg at h
  split at h
  · exact ⟨_, r1.int_inv, h _ Hf H (.refl sub) (.int _)⟩
  · exact h.elim
theorem nx_lt : ∀ a, NoXc (dLt a) := by
  intro a b c h
  unfold dLt at h
  split at h <;> cases h
theorem rr_lt : RR K (rI0 fun i j => .bl (decide (i < j))) dLt := rr_int0 fun Hf H a b Q sub h => by
  unfold dLt at h
  split at h
  · exact ⟨_, _, rfl, rfl, h _ Hf H (.refl sub) (.bl _)⟩
  · exact h.elim
theorem nx_le : ∀ a, NoXc (dLe a) := by
  intro a b c h
  unfold dLe at h
  split at h <;> cases h
theorem rr_le : RR K (rI0 fun i j => .bl (decide (i ≤ j))) dLe := rr_int0 fun Hf H a b Q sub h => by
  unfold dLe at h
  split at h
  · exact ⟨_, _, rfl, rfl, h _ Hf H (.refl sub) (.bl _)⟩
  · exact h.elim
theorem nx_gt : ∀ a, NoXc (dGt a) := by
  intro a b c h
  unfold dGt at h
  split at h <;> cases h
theorem rr_gt : RR K (rI0 fun i j => .bl (decide (j < i))) dGt := rr_int0 fun Hf H a b Q sub h => by
  unfold dGt at h
  split at h
  · exact ⟨_, _, rfl, rfl, h _ Hf H (.refl sub) (.bl _)⟩
  · exact h.elim
theorem nx_ge : ∀ a, NoXc (dGe a) := by
  intro a b c h
  unfold dGe at h
  split at h <;> cases h
theorem rr_ge : RR K (rI0 fun i j => .bl (decide (j ≤ i))) dGe := rr_int0 fun Hf H a b Q sub h => by
  unfold dGe at h
  split at h
  · exact ⟨_, _, rfl, rfl, h _ Hf H (.refl sub) (.bl _)⟩
  · exact h.elim
/-! ### ==, != -/
def toPy : Nat → D → PyData
  | _, .non => .none
  | _, .bl b => .bool b
  | _, .int i => .int i
  | _, .str x => .str x
  | n + 1, .lst ds => .list (ds.map (toPy n))
  | n + 1, .tup ds => .tuple (ds.map (toPy n))
  | _, _ => .none
theorem strOk_of {x : Str} (h : (x.cps.toList.all (fun c => decide (32 ≤ c ∧ c < 127)) && decide (x.length ≤ 100)) = true) : PyData.strOk x = true := by
  rw [Bool.and_eq_true] at h
  unfold PyData.strOk
  rw [← Array.all_toList]
  refine List.all_eq_true.mpr fun c hc => ?_
  have := of_decide_eq_true (List.all_eq_true.mp h.1 c hc)
  exact decide_eq_true (by omega)
theorem canLay_map (f : D → PyData) : ∀ ds : List D, (∀ d ∈ ds, (f d).canLay0 = true) → PyData.canLayAll0 (ds.map f) = true
  | [], _ => rfl
  | d :: r, h => by
    rw [List.map_cons]
    show ((f d).canLay0 && PyData.canLayAll0 (r.map f)) = true
    rw [Bool.and_eq_true]
    exact ⟨h d List.mem_cons_self, canLay_map f r fun e he => h e (List.mem_cons_of_mem _ he)⟩
theorem depth_map (f : D → PyData) (n : Nat) : ∀ ds : List D, (∀ d ∈ ds, (f d).depth ≤ n) → PyData.depthAll (ds.map f) ≤ n
  | [], _ => Nat.zero_le _
  | d :: r, h => by
    rw [List.map_cons]
    show max (f d).depth (PyData.depthAll (r.map f)) ≤ n
    exact Nat.max_le.mpr ⟨h d List.mem_cons_self, depth_map f n r fun e he => h e (List.mem_cons_of_mem _ he)⟩
theorem lev_ok : ∀ (n : Nat) (d : D), d.lev n = true → (toPy n d).canLay0 = true ∧ (toPy n d).depth ≤ n
  | 0, d, h => by
    cases d with
    | non => exact ⟨rfl, Nat.le_refl _⟩
    | bl b => exact ⟨rfl, Nat.le_refl _⟩
    | int i => exact ⟨rfl, Nat.le_refl _⟩
    | str x => exact ⟨strOk_of h, Nat.le_refl _⟩
    | _ => cases (show false = true from h)
  | n + 1, d, h => by
    cases d with
    | non => exact ⟨rfl, Nat.zero_le _⟩
    | bl b => exact ⟨rfl, Nat.zero_le _⟩
    | int i => exact ⟨rfl, Nat.zero_le _⟩
    | str x => exact ⟨strOk_of h, Nat.zero_le _⟩
    | lst ds =>
      have h' := List.all_eq_true.mp (show ds.all (D.lev n) = true from h)
      exact ⟨canLay_map _ ds fun d hd => (lev_ok n d (h' d hd)).1, Nat.succ_le_succ (depth_map _ n ds fun d hd => (lev_ok n d (h' d hd)).2)⟩
    | tup ds =>
      have h' := List.all_eq_true.mp (show ds.all (D.lev n) = true from h)
      exact ⟨canLay_map _ ds fun d hd => (lev_ok n d (h' d hd)).1, Nat.succ_le_succ (depth_map _ n ds fun d hd => (lev_ok n d (h' d hd)).2)⟩
    | _ => cases (show false = true from h)
theorem lev_shaped {n : Nat} (hn : n ≤ 64) {d : D} (h : d.lev n = true) : SeqAt.shaped (toPy n d) = true := by
  obtain ⟨h1, h2⟩ := lev_ok n d h
  show (_ && _) = true
  rw [Bool.and_eq_true]
  exact ⟨h1, decide_eq_true (Nat.le_trans h2 hn)⟩
theorem eqv_list (f g : D → PyData) (h : D → D → Bool) : ∀ (as bs : List D), (∀ a ∈ as, ∀ b ∈ bs, PyData.eqv (f a) (g b) = h a b) → PyData.eqvAll (as.map f) (bs.map g) = allEq h as bs
  | [], [], _ => rfl
  | [], _ :: _, _ => rfl
  | _ :: _, [], _ => rfl
  | a :: as, b :: bs, k => by
    rw [List.map_cons, List.map_cons]
    show (PyData.eqv (f a) (g b) && PyData.eqvAll (as.map f) (bs.map g)) = (h a b && allEq h as bs)
    rw [k a List.mem_cons_self b List.mem_cons_self, eqv_list f g h as bs fun x hx y hy => k x (List.mem_cons_of_mem _ hx) y (List.mem_cons_of_mem _ hy)]
theorem eqv_beq : ∀ (n : Nat) (a b : D), a.lev n = true → b.lev n = true → PyData.eqv (toPy n a) (toPy n b) = beqL n a b
  | 0, a, b, ha, hb => by
    cases a <;> cases b <;> first
      | rfl
      | (cases (show false = true from ha))
      | (cases (show false = true from hb))
  | n + 1, a, b, ha, hb => by
    cases a with
    | lst as =>
      cases b with
      | lst bs => exact eqv_list _ _ _ as bs fun x hx y hy => eqv_beq n x y (List.all_eq_true.mp (show as.all (D.lev n) = true from ha) x hx) (List.all_eq_true.mp (show bs.all (D.lev n) = true from hb) y hy)
      | dic _ => cases (show false = true from hb)
      | scr _ => cases (show false = true from hb)
      | adr _ => cases (show false = true from hb)
      | _ => rfl
    | tup as =>
      cases b with
      | tup bs => exact eqv_list _ _ _ as bs fun x hx y hy => eqv_beq n x y (List.all_eq_true.mp (show as.all (D.lev n) = true from ha) x hx) (List.all_eq_true.mp (show bs.all (D.lev n) = true from hb) y hy)
      | dic _ => cases (show false = true from hb)
      | scr _ => cases (show false = true from hb)
      | adr _ => cases (show false = true from hb)
      | _ => rfl
    | dic _ => cases (show false = true from ha)
    | scr _ => cases (show false = true from ha)
    | adr _ => cases (show false = true from ha)
    | _ =>
      cases b <;> first
        | rfl
        | (cases (show false = true from hb))
theorem dp_list {H : Hp} (f : D → PyData) : ∀ (ds : List D) (vs : List V), RepL K H ds vs → (∀ d ∈ ds, ∀ v, Rep K H d v → Dp K H v (f d)) → DpAll K H vs (ds.map f)
  | _, _, .nil, _ => .nil
  | _, _, .cons r t, h => .cons (h _ List.mem_cons_self _ r) (dp_list f _ _ t fun d hd => h d (List.mem_cons_of_mem _ hd))
theorem dp_of {H : Hp} : ∀ (n : Nat) (d : D) (v : V), d.lev n = true → Rep K H d v → Dp K H v (toPy n d)
  | 0, d, v, h, r => by
    cases r with
    | non => exact .non
    | bl b => exact .bl b
    | int i => exact .int i
    | str x => exact .str x
    | _ => cases (show false = true from h)
  | n + 1, d, v, h, r => by
    cases r with
    | non => exact .non
    | bl b => exact .bl b
    | int i => exact .int i
    | str x => exact .str x
    | lst hp rl => exact .lst (SqL.of hp) (dp_list _ _ _ rl fun d hd v r => dp_of n d v (List.all_eq_true.mp (show List.all _ (D.lev n) = true from h) d hd) r)
    | tup hp rl => exact .tup (SqT.of hp) (dp_list _ _ _ rl fun d hd v r => dp_of n d v (List.all_eq_true.mp (show List.all _ (D.lev n) = true from h) d hd) r)
    | _ => cases (show false = true from h)
def rEqG (K : PySem.W.Frag) : R2 := fun x y H Q => L2.rEq x y H Q ∨ rEqD K x y H Q
def rNeG (K : PySem.W.Frag) : R2 := fun x y H Q => L2.rNe x y H Q ∨ rNeD K x y H Q
theorem op_eqG {X : Cx} (hu : X.A.units + 64 < cLine) : OpR X (compareOp .Eq) (rEqG X.K) := OpR.or op_eq (op_eqD hu)
theorem op_neG {X : Cx} (hu : X.A.units + 64 < cLine) : OpR X (compareOp .NotEq) (rNeG X.K) := OpR.or op_ne (op_neD hu)
theorem nx_eq : ∀ a, NoXc (dEq a) := by
  intro a b c h
  unfold dEq at h
  split at h <;> cases h
theorem nx_ne : ∀ a, NoXc (dNe a) := by
  intro a b c h
  unfold dNe at h
  split at h <;> cases h
theorem cmp_rel {Hf H : Hp} {a b : D} {x y : V} {k : Bool} (sub : Ex Hf H) (r1 : Rep K Hf a x) (r2 : Rep K Hf b y) (h : cmpD a b = some k) :
    (scal x y = true ∧ decide (x = y) = k) ∨ ∃ d e, Dp K H x d ∧ Dp K H y e ∧ SeqAt.shaped d = true ∧ SeqAt.shaped e = true ∧ PyData.eqv d e = k := by
  unfold cmpD at h
  split at h
  · rename_i i j
    rw [r1.int_inv, r2.int_inv]
    refine .inl ⟨rfl, ?_⟩
    have e := Option.some.inj h
    rw [← e]
    by_cases hij : i = j
    · rw [hij]; simp
    · rw [decide_eq_false hij, decide_eq_false]
      intro z
      exact hij (V.int.inj z)
  · rename_i i j
    rw [r1.bl_inv, r2.bl_inv]
    refine .inl ⟨rfl, ?_⟩
    have e := Option.some.inj h
    rw [← e]
    by_cases hij : i = j
    · rw [hij]; simp
    · rw [decide_eq_false hij, decide_eq_false]
      intro z
      exact hij (V.bl.inj z)
  · rename_i i j
    rw [r1.str_inv, r2.str_inv]
    refine .inl ⟨rfl, ?_⟩
    have e := Option.some.inj h
    rw [← e]
    by_cases hij : i = j
    · rw [hij]; simp
    · rw [decide_eq_false hij, decide_eq_false]
      intro z
      exact hij (V.str.inj z)
  · split at h
    · rename_i hl
      rw [Bool.and_eq_true] at hl
      refine .inr ⟨_, _, dp_of 6 _ _ hl.1 (r1.mono sub.lo), dp_of 6 _ _ hl.2 (r2.mono sub.lo), lev_shaped (by decide) hl.1, lev_shaped (by decide) hl.2, ?_⟩
      rw [eqv_beq 6 _ _ hl.1 hl.2]
      exact Option.some.inj h
    · cases h
theorem rr_eq : RR K (rEqG K) dEq := by
  intro Hf H a b x y Q sub r1 r2 h
  unfold dEq at h
  split at h
  · rename_i k e
    have q := h (.bl k) Hf H (.refl sub) (.bl k)
    rcases cmp_rel sub r1 r2 e with ⟨h1, h2⟩ | ⟨d, e', d1, d2, s1, s2, h2⟩
    · exact .inl ⟨h1, by rw [h2]; exact q⟩
    · exact .inr ⟨d, e', d1, d2, s1, s2, by rw [h2]; exact q⟩
  · exact h.elim
theorem rr_ne : RR K (rNeG K) dNe := by
  intro Hf H a b x y Q sub r1 r2 h
  unfold dNe at h
  split at h
  · rename_i k e
    have q := h (.bl (!k)) Hf H (.refl sub) (.bl (!k))
    rcases cmp_rel sub r1 r2 e with ⟨h1, h2⟩ | ⟨d, e', d1, d2, s1, s2, h2⟩
    · exact .inl ⟨h1, by rw [h2]; exact q⟩
    · exact .inr ⟨d, e', d1, d2, s1, s2, by rw [h2]; exact q⟩
  · exact h.elim
/-! ### is None -/
def rIsN : R2 := fun x y H Q => y = .non ∧ Q (.bl (decide (x = .non))) H
def rNotN : R2 := fun x y H Q => y = .non ∧ Q (.bl (!decide (x = .non))) H
def dIsN2 (x _y : D) : R Sl := dIsN x
theorem isNon_rep {Hf : Hp} {a : D} {x : V} (r : Rep K Hf a x) : decide (x = .non) = a.isNon := by
  cases r <;> simp [D.isNon]
theorem de_isN {W : WX} {cls : Nat → Addr} {ta : TE} {fa : FE} (ha : DE K W cls ta fa) : DE K W cls (tOp rIsN ta (tC .non)) (eOp1 dIsN fa) := by
  refine ⟨fun H0 Hf H env σ Q sub x h => ?_⟩
  refine ha.then sub x h.x fun s v Hf1 H1 g1 r1 q => ?_
  refine ⟨rfl, ?_⟩
  rw [isNon_rep r1]
  exact q _ Hf1 H1 g1 (.bl _)
theorem de_notN {W : WX} {cls : Nat → Addr} {ta : TE} {fa : FE} (ha : DE K W cls ta fa) : DE K W cls (tOp rNotN ta (tC .non)) (eOp1 dNotN fa) := by
  refine ⟨fun H0 Hf H env σ Q sub x h => ?_⟩
  refine ha.then sub x h.x fun s v Hf1 H1 g1 r1 q => ?_
  refine ⟨rfl, ?_⟩
  rw [isNon_rep r1]
  exact q _ Hf1 H1 g1 (.bl _)
theorem op_isN' {X : Cx} : OpR X (compareOp .Is) rIsN := op_isN
theorem op_notN' {X : Cx} : OpR X (compareOp .IsNot) rNotN := op_notN
/-! ### not in -/
theorem nx_notIn : ∀ a, NoXc (dNotIn a) := by
  intro a b c h
  unfold dNotIn at h
  split at h <;> (try split at h) <;> cases h
theorem flat_ints {Hf : Hp} {i : Int} : ∀ {ds : List D} {vs : List V}, RepL K Hf ds vs → allInt ds = true → vs.all flatV = true ∧ inV (.int i) vs = ds.any fun d => flatEq d (.int i)
  | _, _, .nil, _ => ⟨rfl, rfl⟩
  | _, _, .cons r t, h => by
    unfold allInt at h
    rw [List.all_cons, Bool.and_eq_true] at h
    obtain ⟨h1, h2⟩ := flat_ints (i := i) t h.2
    cases r with
    | int k =>
      refine ⟨by rw [List.all_cons, h1]; rfl, ?_⟩
      unfold inV at h2 ⊢
      rw [List.any_cons, List.any_cons, h2]
      rfl
    | _ => exact absurd (show false = true from h.1) Bool.false_ne_true
theorem rr_notIn : RR K (rIn K true) dNotIn := by
  intro Hf H a b x y Q sub r1 r2 h
  unfold dNotIn at h
  split at h
  · rename_i i ds
    split at h
    · rename_i ha
      obtain ⟨p, vs, rfl, hp, rl⟩ := r2.lst_inv
      obtain ⟨h1, h2⟩ := flat_ints (i := i) rl ha
      rw [r1.int_inv]
      refine ⟨p, vs, rfl, .inl (SqL.of (sub _ _ hp)), rfl, h1, ?_⟩
      show Q (.bl (!inV (.int i) vs)) H
      rw [h2]
      exact h _ Hf H (.refl sub) (.bl _)
    · exact h.elim
  · rename_i i ds
    split at h
    · rename_i ha
      obtain ⟨p, vs, rfl, hp, rl⟩ := r2.tup_inv
      obtain ⟨h1, h2⟩ := flat_ints (i := i) rl ha
      rw [r1.int_inv]
      refine ⟨p, vs, rfl, .inr (SqT.of (sub _ _ hp)), rfl, h1, ?_⟩
      show Q (.bl (!inV (.int i) vs)) H
      rw [h2]
      exact h _ Hf H (.refl sub) (.bl _)
    · exact h.elim
  · exact h.elim
def rNotInS : R2 := fun x y H Q => ∃ (c : Nat) (z : Str), x = .str ⟨#[c]⟩ ∧ y = .str z ∧ Q (.bl (!decide (c ∈ z.cps.toList))) H
theorem op_notInS {X : Cx} : OpR X (compareOp .NotIn) rNotInS := op_notIn_sign
theorem nx_notInS : ∀ a, NoXc (dNotInS a) := by
  intro a b c h
  unfold dNotInS at h
  split at h <;> (try split at h) <;> cases h
theorem one_sign {x : Str} (h : x.cps.size = 1) : x = ⟨#[x.cps.getD 0 0]⟩ := by
  obtain ⟨⟨l⟩⟩ := x
  match l, h with
  | [c], _ => rfl
theorem rr_notInS : RR K rNotInS dNotInS := by
  intro Hf H a b x y Q sub r1 r2 h
  unfold dNotInS at h
  split at h
  · rename_i i z
    split at h
    · rename_i ha
      refine ⟨i.cps.getD 0 0, z, ?_, r2.str_inv, h _ Hf H (.refl sub) (.bl _)⟩
      rw [r1.str_inv, ← one_sign ha]
    · exact h.elim
  · exact h.elim
/-! ### slices -/
def rSlG (K : PySem.W.Frag) : V → Option Int → Option Int → Hp → VK → Prop := fun x lo hi H Q => rSlL K x lo hi H Q ∨ rSlA K x lo hi H Q ∨ rSlS x lo hi H Q
theorem sl_G {X : Cx} : SlR X (rSlG X.K) := SlR.or sl_list (SlR.or sl_tupA sl_str)
theorem nx_sl : ∀ a l h c, dSl a l h ≠ .xc c := by
  intro a l h c e
  unfold dSl at e
  split at e <;> (try split at e) <;> cases e
theorem sIx_eq (n d : Nat) (o : Option Int) : HT.sIx n d o = sIxD n d o := by cases o <;> rfl
theorem cut_rep {Hf : Hp} {ds : List D} {vs : List V} (rl : RepL K Hf ds vs) (lo hi : Option Int) : RepL K Hf (cutD ds lo hi) (cutV vs lo hi) := by
  unfold cutD cutV
  rw [← rl.length, sIx_eq, sIx_eq]
  exact (rl.drop _).take _
theorem rr_sl : RSl K (rSlG K) dSl := by
  intro Hf H a x lo hi Q sub r1 h
  unfold dSl at h
  split at h
  · obtain ⟨p, vs, rfl, hp, rl⟩ := r1.lst_inv
    refine .inl ⟨p, vs, rfl, SqL.of (sub _ _ hp), fun z hz => ?_⟩
    exact h (.ref z) Hf _ (Grow.newO sub hz) ⟨z, rfl, hz, sub.none_of hz, _, upd_same, cut_rep rl lo hi⟩
  · rename_i ds
    obtain ⟨p, vs, rfl, hp, rl⟩ := r1.tup_inv
    refine .inr (.inl ⟨p, vs, rfl, SqT.of (sub _ _ hp), fun e => ?_, fun e z hz => ?_⟩)
    · refine h (.ref p) Hf H (.refl sub) (.tup hp ?_)
      have ec : cutD ds lo hi = ds := by
        unfold cutD
        rw [rl.length, ← sIx_eq, ← sIx_eq, e.1, e.2, Nat.sub_zero, List.drop_zero, ← rl.length, List.take_length]
      rw [ec]
      exact rl
    · exact h (.ref z) _ _ (Grow.new sub hz) (.tup upd_same ((cut_rep rl lo hi).mono (Ex.new (sub.none_of hz)).lo))
  · rename_i z
    split at h
    · rename_i hl
      refine .inr (.inr ⟨z, r1.str_inv, lim_le hl, ?_⟩)
      have e : cutS z lo hi = ⟨(cutD z.cps.toList lo hi).toArray⟩ := by
        unfold cutS cutD
        rw [sIx_eq, sIx_eq, Array.length_toList]
        rfl
      rw [e]
      exact h _ Hf H (.refl sub) (.str _)
    · exact h.elim
  · exact h.elim
end
end DL
set_option maxRecDepth 100000
namespace DL
open PySem PySem.Spec PyProof.Rows L2
section
variable {K : PySem.W.Frag}
theorem RepL.nil_inv {Hf : Hp} {vs : List V} (r : RepL K Hf [] vs) : vs = [] := by cases r; rfl
theorem RepL.one {Hf : Hp} {d : D} {vs : List V} (r : RepL K Hf [d] vs) : ∃ v, vs = [v] ∧ Rep K Hf d v := by
  cases r with
  | cons h t => cases t; exact ⟨_, rfl, h⟩
theorem RepL.two {Hf : Hp} {d e : D} {vs : List V} (r : RepL K Hf [d, e] vs) : ∃ v u, vs = [v, u] ∧ Rep K Hf d v ∧ Rep K Hf e u := by
  cases r with
  | cons h t =>
    obtain ⟨u, rfl, h2⟩ := t.one
    exact ⟨_, _, rfl, h, h2⟩
theorem Rep.scr_inv {Hf : Hp} {ns : List Int} {v : V} (r : Rep K Hf (.scr ns) v) : ∃ a, v = .ref a ∧ SqL K Hf a (ns.map V.int) := by
  cases r with
  | scr h => exact ⟨_, rfl, h⟩
/-! ### len -/
def rLenG (K : PySem.W.Frag) : List V → Hp → VK → Prop := fun xs H Q => ∃ x n, xs = [x] ∧ LenV K x H n ∧ Q (.int n) H
theorem call_lenG {X : Cx} : CallR X (.builtin "len") (rLenG X.K) := call_len
theorem nx_len : NoXc bLen := by
  intro a c h
  unfold bLen at h
  split at h <;> (try split at h) <;> cases h
theorem rc_len : RCB K (rLenG K) bLen := by
  intro Hf H as xs Q sub r h
  unfold bLen at h
  split at h
  · obtain ⟨v, rfl, r1⟩ := r.one
    obtain ⟨p, vs, rfl, hp, rl⟩ := r1.lst_inv
    exact ⟨_, vs.length, rfl, .inl ⟨vs, SqL.of (sub _ _ hp), rfl⟩, by rw [← rl.length]; exact h _ Hf H (.refl sub) (.int _)⟩
  · obtain ⟨v, rfl, r1⟩ := r.one
    obtain ⟨p, vs, rfl, hp, rl⟩ := r1.tup_inv
    exact ⟨_, vs.length, rfl, .inr ⟨vs, SqT.of (sub _ _ hp), rfl⟩, by rw [← rl.length]; exact h _ Hf H (.refl sub) (.int _)⟩
  · rename_i ns
    obtain ⟨v, rfl, r1⟩ := r.one
    obtain ⟨p, rfl, hp⟩ := r1.scr_inv
    exact ⟨_, ns.length, rfl, .inl ⟨_, sub.lo.sql hp, by rw [List.length_map]⟩, h _ Hf H (.refl sub) (.int _)⟩
  · rename_i z
    split at h
    · rename_i hl
      obtain ⟨v, rfl, r1⟩ := r.one
      exact ⟨_, z.length, rfl, by rw [r1.str_inv]; exact ⟨lim_le hl, rfl⟩, h _ Hf H (.refl sub) (.int _)⟩
    · exact h.elim
  · exact h.elim
def rLenD : List V → Hp → VK → Prop := fun xs H Q => ∃ a kvs, xs = [V.ref a] ∧ Rd H a (.dK kvs) ∧ Q (.int kvs.length) H
theorem call_lenDG {X : Cx} : CallR X (.builtin "len") rLenD := by
  intro pins s σ H xs us Q I r h
  obtain ⟨a, kvs, rfl, ha, q⟩ := h
  obtain ⟨u, rfl, ru⟩ := vals1 r
  cases ru
  exact d_len I ha fun t s' I' => ⟨.int kvs.length, H, I', ⟨t, rfl⟩, q⟩
theorem nx_lenD : NoXc bLenD := by
  intro a c h
  unfold bLenD at h
  split at h <;> cases h
theorem rc_lenD : RCB K rLenD bLenD := by
  intro Hf H as xs Q sub r h
  unfold bLenD at h
  split at h
  · obtain ⟨v, rfl, r1⟩ := r.one
    obtain ⟨p, rfl, hp⟩ := r1.dic_inv
    exact ⟨p, _, rfl, sub.lo.rd hp, by rw [List.length_map]; exact h _ Hf H (.refl sub) (.int _)⟩
  · exact h.elim
/-! ### list, tuple -/
def rListG (K : PySem.W.Frag) : List V → Hp → VK → Prop := fun xs H Q => ∃ p ys, xs = [.ref p] ∧ (SqL K H p ys ∨ SqT K H p ys) ∧ ∀ l, H l = none → Q (.ref l) (upd H l (.lst ys))
theorem call_listG {X : Cx} : CallR X (.type "list") (rListG X.K) := call_list_of
theorem nx_list : NoXc bList := by
  intro a c h
  unfold bList at h
  split at h <;> cases h
theorem rc_list : RCB K (rListG K) bList := by
  intro Hf H as xs Q sub r h
  unfold bList at h
  split at h
  · obtain ⟨v, rfl, r1⟩ := r.one
    obtain ⟨p, vs, rfl, hp, rl⟩ := r1.lst_inv
    refine ⟨p, vs, rfl, .inl (SqL.of (sub _ _ hp)), fun z hz => ?_⟩
    exact h (.ref z) Hf _ (Grow.newO sub hz) ⟨z, rfl, hz, sub.none_of hz, _, upd_same, rl⟩
  · obtain ⟨v, rfl, r1⟩ := r.one
    obtain ⟨p, vs, rfl, hp, rl⟩ := r1.tup_inv
    refine ⟨p, vs, rfl, .inr (SqT.of (sub _ _ hp)), fun z hz => ?_⟩
    exact h (.ref z) Hf _ (Grow.newO sub hz) ⟨z, rfl, hz, sub.none_of hz, _, upd_same, rl⟩
  · exact h.elim
def rTupleG (K : PySem.W.Frag) : List V → Hp → VK → Prop := fun xs H Q => ∃ p ys, xs = [.ref p] ∧ ((SqL K H p ys ∧ ∀ l, H l = none → Q (.ref l) (upd H l (.tup ys))) ∨ (SqT K H p ys ∧ Q (.ref p) H))
theorem call_tupleG {X : Cx} : CallR X (.type "tuple") (rTupleG X.K) := call_tuple_of
theorem nx_tuple : NoXc bTuple := by
  intro a c h
  unfold bTuple at h
  split at h <;> cases h
theorem rc_tuple : RCB K (rTupleG K) bTuple := by
  intro Hf H as xs Q sub r h
  unfold bTuple at h
  split at h
  · obtain ⟨v, rfl, r1⟩ := r.one
    obtain ⟨p, vs, rfl, hp, rl⟩ := r1.lst_inv
    refine ⟨p, vs, rfl, .inl ⟨SqL.of (sub _ _ hp), fun z hz => ?_⟩⟩
    exact h (.ref z) _ _ (Grow.new sub hz) (.tup upd_same (rl.mono (Ex.new (sub.none_of hz)).lo))
  · obtain ⟨v, rfl, r1⟩ := r.one
    obtain ⟨p, vs, rfl, hp, rl⟩ := r1.tup_inv
    exact ⟨p, vs, rfl, .inr ⟨SqT.of (sub _ _ hp), h (.ref p) Hf H (.refl sub) (.tup hp rl)⟩⟩
  · exact h.elim
/-! ### max, min, sum, int -/
def rMax2 : List V → Hp → VK → Prop := fun xs H Q => ∃ i j, xs = [.int i, .int j] ∧ Q (.int (if j > i then j else i)) H
def rMin2 : List V → Hp → VK → Prop := fun xs H Q => ∃ i j, xs = [.int i, .int j] ∧ Q (.int (if j < i then j else i)) H
theorem call_max2G {X : Cx} (hc : X.calm = true) : CallR X (.builtin "max") rMax2 := call_max2 hc
theorem call_min2G {X : Cx} (hc : X.calm = true) : CallR X (.builtin "min") rMin2 := call_min2 hc
theorem nx_max2 : NoXc bMax2 := by
  intro a c h
  unfold bMax2 at h
  split at h <;> cases h
theorem nx_min2 : NoXc bMin2 := by
  intro a c h
  unfold bMin2 at h
  split at h <;> cases h
theorem rc_max2 : RCB K rMax2 bMax2 := by
  intro Hf H as xs Q sub r h
  unfold bMax2 at h
  split at h
  · obtain ⟨v, u, rfl, r1, r2⟩ := r.two
    exact ⟨_, _, by rw [r1.int_inv, r2.int_inv], h _ Hf H (.refl sub) (.int _)⟩
  · exact h.elim
theorem rc_min2 : RCB K rMin2 bMin2 := by
  intro Hf H as xs Q sub r h
  unfold bMin2 at h
  split at h
  · obtain ⟨v, u, rfl, r1, r2⟩ := r.two
    exact ⟨_, _, by rw [r1.int_inv, r2.int_inv], h _ Hf H (.refl sub) (.int _)⟩
  · exact h.elim
def rInt1 : List V → Hp → VK → Prop := fun xs H Q => (∃ i, xs = [.int i] ∧ Q (.int i) H) ∨ ∃ k, xs = [.bl k] ∧ Q (.int (if k then 1 else 0)) H
theorem call_int1G {X : Cx} : CallR X (.type "int") rInt1 := call_int1
theorem nx_int : NoXc bInt := by
  intro a c h
  unfold bInt at h
  split at h <;> cases h
theorem rc_int : RCB K rInt1 bInt := by
  intro Hf H as xs Q sub r h
  unfold bInt at h
  split at h
  · obtain ⟨v, rfl, r1⟩ := r.one
    exact .inl ⟨_, by rw [r1.int_inv], h _ Hf H (.refl sub) (.int _)⟩
  · obtain ⟨v, rfl, r1⟩ := r.one
    exact .inr ⟨_, by rw [r1.bl_inv], h _ Hf H (.refl sub) (.int _)⟩
  · exact h.elim
theorem nx_sum : NoXc bSum := by
  intro a c h
  unfold bSum at h
  split at h <;> (try split at h) <;> cases h
theorem rc_sum : RCB K (rSum K) bSum := by
  intro Hf H as xs Q sub r h
  unfold bSum at h
  split at h
  · split at h
    · rename_i e
      obtain ⟨v, rfl, r1⟩ := r.one
      obtain ⟨p, vs, rfl, hp, rl⟩ := r1.lst_inv
      have ev := rl.ints e
      subst ev
      exact ⟨p, _, rfl, SqL.of (sub _ _ hp), h _ Hf H (.refl sub) (.int _)⟩
    · exact h.elim
  · exact h.elim
theorem foldmax_mem : ∀ (xs : List Int) (x : Int), (xs.foldl (fun a b => if a < b then b else a) x) ∈ x :: xs ∧ ∀ y, y ∈ x :: xs → y ≤ xs.foldl (fun a b => if a < b then b else a) x
  | [], x => ⟨List.mem_cons_self, fun y hy => by
    rcases List.mem_cons.mp hy with rfl | hy
    · exact Int.le_refl _
    · cases hy⟩
  | b :: r, x => by
    rw [List.foldl_cons]
    obtain ⟨h1, h2⟩ := foldmax_mem r (if x < b then b else x)
    by_cases hb : x < b
    · rw [if_pos hb] at h1 h2 ⊢
      refine ⟨List.mem_cons_of_mem _ h1, fun y hy => ?_⟩
      rcases List.mem_cons.mp hy with rfl | hy
      · exact Int.le_trans (Int.le_of_lt hb) (h2 b List.mem_cons_self)
      · exact h2 y hy
    · rw [if_neg hb] at h1 h2 ⊢
      refine ⟨?_, fun y hy => ?_⟩
      · rcases List.mem_cons.mp h1 with e | h1
        · rw [e]; exact List.mem_cons_self
        · exact List.mem_cons_of_mem _ (List.mem_cons_of_mem _ h1)
      · rcases List.mem_cons.mp hy with rfl | hy
        · exact h2 _ List.mem_cons_self
        · rcases List.mem_cons.mp hy with rfl | hy
          · exact Int.le_trans (by omega) (h2 x List.mem_cons_self)
          · exact h2 y (List.mem_cons_of_mem _ hy)
theorem foldmin_mem : ∀ (xs : List Int) (x : Int), (xs.foldl (fun a b => if b < a then b else a) x) ∈ x :: xs ∧ ∀ y, y ∈ x :: xs → xs.foldl (fun a b => if b < a then b else a) x ≤ y
  | [], x => ⟨List.mem_cons_self, fun y hy => by
    rcases List.mem_cons.mp hy with rfl | hy
    · exact Int.le_refl _
    · cases hy⟩
  | b :: r, x => by
    rw [List.foldl_cons]
    obtain ⟨h1, h2⟩ := foldmin_mem r (if b < x then b else x)
    by_cases hb : b < x
    · rw [if_pos hb] at h1 h2 ⊢
      refine ⟨List.mem_cons_of_mem _ h1, fun y hy => ?_⟩
      rcases List.mem_cons.mp hy with rfl | hy
      · exact Int.le_trans (h2 b List.mem_cons_self) (Int.le_of_lt hb)
      · exact h2 y hy
    · rw [if_neg hb] at h1 h2 ⊢
      refine ⟨?_, fun y hy => ?_⟩
      · rcases List.mem_cons.mp h1 with e | h1
        · rw [e]; exact List.mem_cons_self
        · exact List.mem_cons_of_mem _ (List.mem_cons_of_mem _ h1)
      · rcases List.mem_cons.mp hy with rfl | hy
        · exact h2 _ List.mem_cons_self
        · rcases List.mem_cons.mp hy with rfl | hy
          · exact Int.le_trans (h2 x List.mem_cons_self) (by omega)
          · exact h2 y (List.mem_cons_of_mem _ hy)
theorem nx_maxL : NoXc bMaxL := by
  intro a c h
  unfold bMaxL at h
  split at h <;> (try split at h) <;> cases h
theorem nx_minL : NoXc bMinL := by
  intro a c h
  unfold bMinL at h
  split at h <;> (try split at h) <;> cases h
theorem rc_maxL : RCB K (rMax K) bMaxL := by
  intro Hf H as xs Q sub r h
  unfold bMaxL at h
  split at h
  · split at h
    · rename_i x ys e
      obtain ⟨v, rfl, r1⟩ := r.one
      obtain ⟨p, vs, rfl, hp, rl⟩ := r1.lst_inv
      have ev := rl.ints e
      subst ev
      refine ⟨p, _, rfl, SqL.of (sub _ _ hp), Nat.succ_pos _, fun m hm hle => ?_⟩
      obtain ⟨h1, h2⟩ := foldmax_mem ys x
      have e1 : m = maxL (x :: ys) := Int.le_antisymm (h2 m hm) (hle _ h1)
      rw [e1]
      exact h _ Hf H (.refl sub) (.int _)
    · exact h.elim
  · exact h.elim
theorem rc_minL : RCB K (rMin K) bMinL := by
  intro Hf H as xs Q sub r h
  unfold bMinL at h
  split at h
  · split at h
    · rename_i x ys e
      obtain ⟨v, rfl, r1⟩ := r.one
      obtain ⟨p, vs, rfl, hp, rl⟩ := r1.lst_inv
      have ev := rl.ints e
      subst ev
      refine ⟨p, _, rfl, SqL.of (sub _ _ hp), Nat.succ_pos _, fun m hm hle => ?_⟩
      obtain ⟨h1, h2⟩ := foldmin_mem ys x
      have e1 : m = minL (x :: ys) := Int.le_antisymm (hle _ h1) (h2 m hm)
      rw [e1]
      exact h _ Hf H (.refl sub) (.int _)
    · exact h.elim
  · exact h.elim
/-! ### sorted(d) -/
theorem insI_mem (x : Int) : ∀ ys : List Int, (insI x ys).Perm (x :: ys)
  | [] => .refl _
  | y :: ys => by
    unfold insI
    split
    · exact .refl _
    · exact ((insI_mem x ys).cons y).trans (.swap x y ys)
theorem sortI_perm : ∀ xs : List Int, (sortI xs).Perm xs
  | [] => .refl _
  | x :: xs => (insI_mem x (sortI xs)).trans ((sortI_perm xs).cons x)
theorem insI_sorted (x : Int) : ∀ ys : List Int, ys.Pairwise (· ≤ ·) → (insI x ys).Pairwise (· ≤ ·)
  | [], _ => List.pairwise_singleton _ _
  | y :: ys, h => by
    unfold insI
    rw [List.pairwise_cons] at h
    split
    · rename_i hx
      refine List.pairwise_cons.mpr ⟨fun z hz => ?_, List.pairwise_cons.mpr h⟩
      rcases List.mem_cons.mp hz with rfl | hz
      · exact hx
      · exact Int.le_trans hx (h.1 z hz)
    · rename_i hx
      refine List.pairwise_cons.mpr ⟨fun z hz => ?_, insI_sorted x ys h.2⟩
      have hz' := (insI_mem x ys).mem_iff.mp hz
      rcases List.mem_cons.mp hz' with rfl | hz'
      · omega
      · exact h.1 z hz'
theorem sortI_sorted : ∀ xs : List Int, (sortI xs).Pairwise (· ≤ ·)
  | [] => .nil
  | x :: xs => insI_sorted x _ (sortI_sorted xs)
theorem sorted_uniq : ∀ {xs ys : List Int}, xs.Perm ys → xs.Pairwise (· ≤ ·) → ys.Pairwise (· ≤ ·) → xs = ys
  | [], ys, p, _, _ => (List.nil_perm.mp p).symm
  | x :: xs, [], p, _, _ => absurd p.length_eq (by simp)
  | x :: xs, y :: ys, p, h1, h2 => by
    rw [List.pairwise_cons] at h1 h2
    have e : x = y := by
      have hx : x ∈ y :: ys := p.mem_iff.mp List.mem_cons_self
      have hy : y ∈ x :: xs := p.mem_iff.mpr List.mem_cons_self
      rcases List.mem_cons.mp hx with e | hx
      · exact e
      · rcases List.mem_cons.mp hy with e | hy
        · exact e.symm
        · exact Int.le_antisymm (h1.1 y hy) (h2.1 x hx)
    subst e
    rw [sorted_uniq (p.cons_inv) h1.2 h2.2]
def rSortD : List V → Hp → VK → Prop := fun xs H Q => ∃ (a : Addr) (kvs : List (Key × V)) (ks : List Int), xs = [.ref a] ∧ Rd H a (.dK kvs) ∧ kvs.map (·.1) = ks.map Sum.inl ∧ ks.length < 64 ∧
    ∀ (ys : List Int) (p : Addr), ys.Perm ks → ys.Pairwise (· ≤ ·) → H p = none → Q (.ref p) (upd H p (.lst (ys.map V.int)))
theorem call_sortD {X : Cx} (hc : X.calm = true) : CallR X (.builtin "sorted") rSortD := call_sortedDI hc
theorem nx_sortD : NoXc bSortedD := by
  intro a c h
  unfold bSortedD at h
  split at h <;> (try split at h) <;> cases h
theorem rc_sortD : RCB K rSortD bSortedD := by
  intro Hf H as xs Q sub r h
  unfold bSortedD at h
  split at h
  · rename_i kvs
    split at h
    · rename_i hl
      obtain ⟨v, rfl, r1⟩ := r.one
      obtain ⟨p, rfl, hp⟩ := r1.dic_inv
      refine ⟨p, _, kvs.map (·.1), rfl, sub.lo.rd hp, ?_, by rw [List.length_map]; exact hl, fun ys z hp hs hz => ?_⟩
      · rw [List.map_map, List.map_map]
        refine List.map_congr_left fun q _ => ?_
        show (kqV q).1 = _
        rw [kqV_eq]
        rfl
      · have e : ys = sortI (kvs.map (·.1)) := sorted_uniq (hp.trans (sortI_perm _).symm) hs (sortI_sorted _)
        subst e
        exact h (.ref z) Hf _ (Grow.newO sub hz) ⟨z, rfl, hz, sub.none_of hz, _, upd_same, RepL.ofInts _⟩
    · exact h.elim
  · exact h.elim
/-! ### isinstance of plain values -/
def tyName : D → Option String
  | .non => some "NoneType"
  | .bl _ => some "bool"
  | .int _ => some "int"
  | .str _ => some "str"
  | .lst _ => some "list"
  | .tup _ => some "tuple"
  | _ => none
theorem tyx_of {Hf H : Hp} {d : D} {v : V} {T : String} (sub : Ex Hf H) (r : Rep K Hf d v) (h : tyName d = some T) : TyX K H v (.type T) := by
  cases r with
  | non => cases h; exact .base .non
  | bl b => cases h; exact .base (.bl b)
  | int i => cases h; exact .base (.int i)
  | str x => cases h; exact .base (.str x)
  | lst hp rl => cases h; exact .base (.lst (sub _ _ hp))
  | tup hp rl => cases h; exact .base (.tup (sub _ _ hp))
  | dic _ => cases h
  | scr _ => cases h
  | adr _ => cases h
theorem kit_all : ∀ a ∈ ["NoneType", "bool", "int", "str", "list", "tuple"], ∀ b ∈ ["int", "bool", "str", "list", "tuple"], kitB a b = some (decide (a = b ∨ (a = "bool" ∧ b = "int"))) := by decide +kernel
theorem isTy_kit {T : String} (hT : T ∈ ["int", "bool", "str", "list", "tuple"]) {d : D} {b : Bool} (h : isTy T d = some b) : ∃ a, tyName d = some a ∧ kitB a T = some b := by
  have k := fun a ha => kit_all a ha T hT
  simp only [List.mem_cons, List.not_mem_nil, or_false] at hT
  rcases hT with rfl | rfl | rfl | rfl | rfl <;> cases d <;> cases h <;> exact ⟨_, rfl, by rw [k _ (by simp)]; decide⟩
def dIsi (T : String) (x : D) : R Sl := bIsi T [x]
theorem de_isi {W : WX} {cls : Nat → Addr} {T : String} {te : TE} {fe : FE} (he : DE K W cls te fe) (hT : T ∈ ["int", "bool", "str", "list", "tuple"] := by decide) : DE K W cls (tCB (rIsi K) (tCons te (tCons (tC (.ty T)) tNil))) (eOp1 (fun x => bIsi T [x]) fe) := by
  refine ⟨fun H0 Hf H env σ Q sub x h => ?_⟩
  refine he.then sub x h.x fun s v Hf1 H1 g1 r1 q => ?_
  unfold bIsi at q
  dsimp only at q
  split at q
  · rename_i b e
    obtain ⟨a, e1, e2⟩ := isTy_kit hT e
    exact ⟨v, .ty T, .type a, .type T, b, rfl, .ty T, tyx_of g1.sub r1 e1, kit_ty e2, q _ _ H1 g1 (.bl b)⟩
  · exact q.elim
/-! ### methods of lists of ints -/
theorem de_bmL {W : WX} {cls : Nat → Addr} {r : V → List V → Hp → VK → Prop} {g : List D → D → R Sl} {ta tb : TE} {fa fb : FE}
    (hr : ∀ (Hf H : Hp) (ds : List D) (d : D) (p : Addr) (vs : List V) (v : V) (Q : VK), Ex Hf H → Hf p = some (.lst vs) → RepL K Hf ds vs → Rep K Hf d v → PostE K (fun _ _ _ _ => False) (fun _ => 0) Hf H [] (g ds d) Q → r (.ref p) [v] H Q)
    (hn : ∀ a, NoXc (g a)) (ha : DE K W cls ta fa) (hb : DE K W cls tb fb) : DE K W cls (tBM K "list" r ta (tCons tb tNil)) (eBm g fa fb) := by
  refine ⟨fun H0 Hf H env σ Q sub x h => ?_⟩
  refine ha.then sub x h.x fun s v Hf1 H1 g1 r1 q => ?_
  split at q
  · rename_i ds e
    rw [e] at r1
    obtain ⟨p, vs, rfl, hp, rl⟩ := r1.lst_inv
    refine ⟨.inl ⟨rfl, vs, SqL.of (g1.sub _ _ hp)⟩, ?_⟩
    refine hb.then g1.sub (x.grow g1) q fun s2 v2 Hf2 H2 g2 r2 q2 => ?_
    exact hr Hf2 H2 ds s2.d p vs v2 Q g2.sub (g2.lo.lst hp) (rl.mono g2.lo) r2 ((q2.behind sub (g1.trans g2)).noxc (hn _ _))
  · exact q.elim
theorem nx_count : ∀ a, NoXc (dCount a) := by
  intro a b c h
  unfold dCount at h
  split at h <;> (try split at h) <;> cases h
theorem nx_index : ∀ a, NoXc (dIndex a) := by
  intro a b c h
  unfold dIndex at h
  split at h <;> (try split at h) <;> (try split at h) <;> cases h
theorem de_count {W : WX} {cls : Nat → Addr} {ta tb : TE} {fa fb : FE} (ha : DE K W cls ta fa) (hb : DE K W cls tb fb) : DE K W cls (tBM K "list" (rCntI K) ta (tCons tb tNil)) (eBm dCount fa fb) := by
  refine de_bmL (fun Hf H ds d p vs v Q sub hp rl r h => ?_) nx_count ha hb
  unfold dCount at h
  split at h
  · split at h
    · rename_i e
      have ev := rl.ints e
      subst ev
      exact ⟨p, _, _, rfl, by rw [r.int_inv], SqL.of (sub _ _ hp), h _ Hf H (.refl sub) (.int _)⟩
    · exact h.elim
  · exact h.elim
theorem de_index {W : WX} {cls : Nat → Addr} {ta tb : TE} {fa fb : FE} (ha : DE K W cls ta fa) (hb : DE K W cls tb fb) : DE K W cls (tBM K "list" (rIndex K) ta (tCons tb tNil)) (eBm dIndex fa fb) := by
  refine de_bmL (fun Hf H ds d p vs v Q sub hp rl r h => ?_) nx_index ha hb
  unfold dIndex at h
  split at h
  · rename_i k
    split at h
    · rename_i ns e
      split at h
      · rename_i hm
        have ev := rl.ints e
        subst ev
        have hlt : ns.idxOf k < ns.length := List.idxOf_lt_length_of_mem hm
        have hflat : (ns.map V.int).all flatV = true := by
          refine List.all_eq_true.mpr fun y hy => ?_
          obtain ⟨n, _, rfl⟩ := List.mem_map.mp hy
          rfl
        refine ⟨p, _, .int k, ns.idxOf k, .int k, rfl, by rw [r.int_inv], SqL.of (sub _ _ hp), rfl, hflat, ?_, ?_, fun m z hm2 hz => ?_, h _ Hf H (.refl sub) (.int _)⟩
        · rw [List.getElem?_map, List.getElem?_eq_getElem hlt, List.getElem_idxOf]
          rfl
        · show (k == k) = true
          exact beq_self_eq_true k
        · rw [List.getElem?_map] at hz
          cases q : ns[m]? with
          | none => rw [q] at hz; cases hz
          | some n =>
            rw [q] at hz
            have ez : V.int n = z := Option.some.inj hz
            subst ez
            show (n == k) = false
            refine beq_eq_false_iff_ne.mpr fun e => ?_
            subst e
            have hl := (List.getElem?_eq_some_iff.mp q).1
            have e2 : ns[m] = n := (List.getElem?_eq_some_iff.mp q).2
            have := List.not_of_lt_findIdx (p := fun x => x == n) (xs := ns) hm2
            rw [e2] at this
            simp at this
      · exact h.elim
    · exact h.elim
  · exact h.elim
end
end DL
set_option maxRecDepth 100000
namespace DL
open PySem PySem.Spec PyProof.Rows L2
/-! ### the program's error classes -/
def vChain : List Value := [.type "ValueError", .type "Exception", .type "BaseException", .type "object"]
/-- a class that the program raises -/
structure ErrC (K : PySem.W.Frag) (mg : Str → Option Value) (x : Str) (C : Addr) : Prop where
  g : mg x = some (.ref C)
  k : PySem.W.keepIn K (.ref C) = true
  x : PySem.W.excIn K C vChain "ValueError.__new__" = true
  b : PySem.W.subIn K (.ref C) (.type "BaseException") = some true
  t : PySem.W.typeIn K (.ref C) = some (.type "type")
theorem ErrC.raises {X : Cx} {x : Str} {C : Addr} (e : ErrC X.K X.mg x C) : Raises X (.ref C) := raises_own e.b e.t
/-- raise X('m') -/
theorem ps_raiseD {X : Cx} {W : WX} {x m : Str} {C : Addr} {j : Nat} {p p2 pos pos' : Pos} (hc : X.calm = true) (tk : Takes X W) (e : ErrC X.K X.mg x C) (hg : Gl X x) (hdb : (x == ("__debug__" : Str)) = false := by decide) :
    PS X (.Raise (some (.Call (.Name x p) [.Constant (.str m) j p2] [] pos)) none pos') (fun _ σ H => W (.ref C) none σ H) :=
  ps_raise (t := fun _ H Q => Q (.ref C) none H) hc tk (pmk_own PySem.F.excBase_ValueError e.x e.g e.k e.raises hg hdb)
/-- what is asked of the classes for the six marks; n: their names' addresses -/
structure ErrK (K : PySem.W.Frag) (mg : Str → Option Value) (cls : Nat → Addr) (cE : Addr) : Prop where
  gE : mg "CordError" = some (.ref cE)
  names : ∀ c, c < 5 → mg (["Crowded", "NoSheet", "NoPlace", "NoMove", "NoNote"].getD c "") = some (.ref (cls c))
  exm : ∀ c, c < 5 → PySem.W.exmOne K (.ref (cls c)) (.ref cE) = some true
  kit : ∀ c, c < 5 → ∀ j, j < 5 → PySem.W.kitOne K (.ref (cls c)) (.ref (cls j)) = some (c == j)
  kitV : ∀ c, c < 5 → PySem.W.kitOne K (.ref (cls c)) (.type "ValueError") = some true
  exc : ∀ c, c < 5 → ExcC K (cls c)
def tIsE (K : PySem.W.Frag) (Dx a : Addr) (ix : Nat) (v : V) : TE := tCB (rIsE K Dx a) (tCons (L2.tVar ix) (tCons (tC v) tNil))
/-- the suite's reading: the class of the error comes as Dx -/
def tSuiteR (K : PySem.W.Frag) (cs : List V) (ix im : Nat) (a Dx : Addr) : TS :=
  tSeq (tAsg (tLst (tCons (tIsE K Dx a ix (cs.getD 0 .non)) (tCons (tIsE K Dx a ix (cs.getD 1 .non)) (tCons (tIsE K Dx a ix (cs.getD 2 .non)) tNil)))) (gName im))
      (tSeq (tAsg (tOp (rAddG K) (L2.tVar im) (tLst (tCons (tIsE K Dx a ix (cs.getD 3 .non)) (tCons (tIsE K Dx a ix (cs.getD 4 .non)) (tCons (tIsE K Dx a ix (cs.getD 5 .non)) tNil))))) (gName im)) tNext)
def tSuite (K : PySem.W.Frag) (cs : List V) (ix im : Nat) (a : Addr) (cl : Value) (d : Option Addr) : TS := match cl with
  | .ref Dx => fun D σ H => (d = none ∧ ExcC K Dx) ∧ tSuiteR K cs ix im a Dx D σ H
  | _ => fun _ _ _ => False
theorem pss_suite {X : Cx} {b : List Stmt} {cs : List V} {ix im : Nat} {a : Addr} {c : Value} {d : Option Addr} (h : ∀ Dx, c = .ref Dx → d = none → ExcC X.K Dx → PSs X b (tSuiteR X.K cs ix im a Dx)) : PSs X b (tSuite X.K cs ix im a c d) := by
  unfold tSuite
  split
  · rename_i Dx
    exact pss_when fun q => h Dx rfl q.1 q.2
  · exact ⟨fun pins s σ H D I q => q.elim⟩
def csOf (cls : Nat → Addr) : List V := [.ref (cls 0), .ref (cls 1), .ref (cls 2), .ref (cls 3), .ref (cls 4), .ty "ValueError"]
theorem isE_ok {K : PySem.W.Frag} {Dx a : Addr} {ix : Nat} {v : V} {cv : Value} {b : Bool} {σ : L2.St} {H : Hp} {Q : VK} (hσ : σ[ix]? = some (some (.ref a))) (hv : ∀ u, RelV v u → u = cv) (hk : PySem.W.kitOne K (.ref Dx) cv = some b) (h : Q (.bl b) H) : tIsE K Dx a ix v σ H Q :=
  ⟨.ref a, hσ, v, cv, b, rfl, hv, hk, h⟩
theorem suite_ok {K : PySem.W.Frag} {mg : Str → Option Value} {cls : Nat → Addr} {cE : Addr} (E : ErrK K mg cls cE) {ix im : Nat} (hne : ix ≠ im) : SuiteOk K cls ix im (tSuite K (csOf cls) ix im) := by
  intro a c D σ H hc hσ him k
  refine ⟨⟨rfl, E.exc c hc⟩, ?_⟩
  have one : ∀ j, j < 5 → ∀ {σ : L2.St} {H : Hp} {Q : VK}, σ[ix]? = some (some (.ref a)) → Q (.bl (c == j)) H → tIsE K (cls c) a ix (.ref (cls j)) σ H Q := fun j hj {σ H Q} hs h =>
    isE_ok hs (fun u r => r) (E.kit c hc j hj) h
  have two : ∀ {σ : L2.St} {H : Hp} {Q : VK}, σ[ix]? = some (some (.ref a)) → Q (.bl true) H → tIsE K (cls c) a ix (.ty "ValueError") σ H Q := fun {σ H Q} hs h =>
    isE_ok hs (fun u r => r) (E.kitV c hc) h
  refine one 0 (by decide) hσ (one 1 (by decide) hσ (one 2 (by decide) hσ ⟨by show 3 ≤ sizeLine; decide, fun p hp => ?_⟩))
  have hσ2 : (σ.set im (some (.ref p)))[ix]? = some (some (.ref a)) := by rw [List.getElem?_set_ne (Ne.symm hne)]; exact hσ
  refine ⟨.ref p, by rw [List.getElem?_set_self him], one 3 (by decide) hσ2 (one 4 (by decide) hσ2 (two hσ2 ⟨by show 3 ≤ sizeLine; decide, fun q hq => ?_⟩))⟩
  have hpq : p ≠ q := fun e => by
    rw [← e, upd_same] at hq
    cases hq
  refine .inr (.inl ⟨p, q, _, _, rfl, rfl, by rw [upd_ne hpq, upd_same], upd_same, by show 3 + 3 ≤ sizeLine; decide, fun z hz => ?_⟩)
  have hzq : q ≠ z := fun e => by
    rw [← e, upd_same] at hz
    cases hz
  have hz1 : (upd H p (.lst [V.bl (c == 0), V.bl (c == 1), V.bl (c == 2)])) z = none := by
    rw [upd_ne (Ne.symm hzq)] at hz
    exact hz
  have hz0 : H z = none := by
    have hzp : z ≠ p := fun e => by
      rw [e, upd_same] at hz1
      cases hz1
    rw [upd_ne hzp] at hz1
    exact hz1
  have fin := k z (upd (upd (upd H p (.lst [V.bl (c == 0), V.bl (c == 1), V.bl (c == 2)])) q (.lst [V.bl (c == 3), V.bl (c == 4), V.bl true])) z (.lst ([V.bl (c == 0), V.bl (c == 1), V.bl (c == 2)] ++ [V.bl (c == 3), V.bl (c == 4), V.bl true]))) hz0
    (((Ex.new hp).trans (Ex.new hq)).trans (Ex.new hz)) upd_same
  show D.nx ((σ.set im (some (.ref p))).set im (some (.ref z))) _
  rw [List.set_set]
  exact fin
end DL
set_option maxRecDepth 100000
namespace DL
open PySem PySem.Spec PyProof.Rows L2
section
variable {K : PySem.W.Frag} {W : WX} {cls : Nat → Addr}
theorem de_fz {ta : TE} {fa : FE} (ha : DE K W cls ta fa) : DE K W cls ta (eFz fa) := by
  refine ⟨fun H0 Hf H env σ Q sub x h => ?_⟩
  refine ha.run H0 Hf H env σ Q sub x ?_
  unfold eFz at h
  cases e : fa env with
  | ok s =>
    rw [e] at h
    intro v Hf' H' g q
    obtain ⟨Hf2, g2, r⟩ := q.rep sub g
    exact h v Hf2 H' g2 r
  | xc c => rw [e] at h; exact h
  | bad => rw [e] at h; exact h
theorem ds_retO {i : Nat} : DS K W cls (tRet (L2.tVar i)) (sRetO i) := by
  refine ⟨fun Hb H0 Hf H env σ D x h => ?_⟩
  unfold sRetO at h
  cases e : env[i]? with
  | none => rw [e] at h; exact h.elim
  | some s =>
    rw [e] at h
    cases s with
    | no => exact h.elim
    | va d =>
      obtain ⟨o, eo, v, ev, r⟩ := x.env.any e
      subst ev
      exact ⟨v, eo, h v Hf H x.grow r⟩
    | ow d =>
      obtain ⟨o, eo, r⟩ := x.env.any e
      obtain ⟨p, ev, q⟩ := r
      subst ev
      exact ⟨_, eo, h _ Hf H x.grow ⟨p, rfl, q⟩⟩
theorem de_dnew : DE K W cls tDNewK eDNew := by
  refine ⟨fun H0 Hf H env σ Q sub x h => ?_⟩
  refine fun p hp => h (.ref p) Hf _ (Grow.newO sub hp) ⟨p, rfl, hp, sub.none_of hp, upd_same⟩
theorem de_d1 {k v : Int} : DE K W cls (tDisp [(tC (.int k), tC (.int v))]) (eD1 k v) := by
  refine ⟨fun H0 Hf H env σ Q sub x h => ?_⟩
  refine fun p hp => ?_
  show upd H p (.dK []) p = _ ∧ _
  refine ⟨upd_same, [(Sum.inl k, V.int v)], rfl, by show 1 ≤ 15; decide, ?_⟩
  rw [upd_upd]
  exact h (.ref p) Hf _ (Grow.newO sub hp) ⟨p, rfl, hp, sub.none_of hp, upd_same⟩
end
end DL
set_option maxRecDepth 100000
namespace DL
open PySem PySem.Spec PyProof.Rows L2
theorem boot_VE : bootBuiltins "ValueError" = some (.type "ValueError") := by decide +kernel
/-- an error of the class at C is what 'except E' names, E a class above it -/
theorem exm_of {K : PySem.W.Frag} {S C : Addr} (h1 : PySem.W.subIn K (.ref C) (.type "BaseException") = some true) (h2 : PySem.W.isClsIn K C = true) (h3 : PySem.W.typeIn K (.ref C) = some (.type "type")) (h4 : PySem.W.subIn K (.ref S) (.ref C) = some true) :
    PySem.W.exmOne K (.ref S) (.ref C) = some true := by
  have e1 : (PySem.W.subIn K (.ref C) (.type "BaseException") == some true) = true := by rw [h1] <;> rfl
  have e2 : ((PySem.W.clsIn K C).isSome && PySem.W.typeIn K (.ref C) == some (.type "type")) = true := by
    have h2' : (PySem.W.clsIn K C).isSome = true := h2
    rw [h2', h3] <;> rfl
  show (if (PySem.W.subIn K (.ref C) (.type "BaseException") == some true) = true then (if ((PySem.W.clsIn K C).isSome && PySem.W.typeIn K (.ref C) == some (.type "type")) = true then PySem.W.subIn K (.ref S) (.ref C) else none) else none) = some true
  rw [if_pos e1, if_pos e2]
  exact h4
/-- the built-in names that the module leaves alone -/
structure Bo (mg : Str → Option Value) : Prop where
  len : mg "len" = none
  isi : mg "isinstance" = none
  range : mg "range" = none
  list : mg "list" = none
  tuple : mg "tuple" = none
  max : mg "max" = none
  min : mg "min" = none
  int : mg "int" = none
  bool : mg "bool" = none
  str : mg "str" = none
  sum : mg "sum" = none
  sorted : mg "sorted" = none
  set : mg "set" = none
  ve : mg "ValueError" = none
/-- the program's error classes, and what the marks ask of them -/
structure Et (K : PySem.W.Frag) (mg : Str → Option Value) (cls : Nat → Addr) (cE : Addr) : Prop where
  e0 : ErrC K mg "Crowded" (cls 0)
  e1 : ErrC K mg "NoSheet" (cls 1)
  e2 : ErrC K mg "NoPlace" (cls 2)
  e3 : ErrC K mg "NoMove" (cls 3)
  e4 : ErrC K mg "NoNote" (cls 4)
  K : ErrK K mg cls cE
def clsOf (c0 c1 c2 c3 c4 : Addr) : Nat → Addr
  | 0 => c0
  | 1 => c1
  | 2 => c2
  | 3 => c3
  | _ => c4
/-- the law's promise -/
def spLaw (K : PySem.W.Frag) (f : List D → R Sl) : Sp := fun vs H Q _ => ∃ (a : Addr) (ns : List Int), vs = [.ref a] ∧ SqL K H a (ns.map V.int) ∧ ns.length ≤ 63 ∧ ∀ H', Q (.bl true) H'
theorem law_imp {K : PySem.W.Frag} {cls : Nat → Addr} {f : List D → R Sl} (hf : ∀ ns : List Int, ns.length ≤ 63 → f [.scr ns] = .ok (.va (.bl true))) : ∀ vs H Q E, spLaw K f vs H Q E → spF K cls 1 f vs H Q E := by
  rintro vs H Q E ⟨a, ns, rfl, hs, hl, k⟩
  refine ⟨rfl, [.scr ns], H, Ex.refl _, .cons (.scr hs) .nil, ?_⟩
  rw [hf ns hl]
  intro v Hf' H' g q
  have q : Rep K Hf' (.bl true) v := q
  rw [q.bl_inv]
  exact k H'
theorem cx_no {P : Program} {w : World} {outer : List PySem.Env} {H : Hp} {s s' : Shared} {u : Value} (h : L2.CX P w outer H s (fun _ _ _ => False) u s') : False := by
  obtain ⟨_, _, _, _, _, _, _, _, _, _, _, _, h⟩ := h
  exact h
/-! ### rules with the fragment told: for blocks of comprehensions -/
section
variable {X : Cx} {K : PySem.W.Frag}
theorem op_addK (h : X.K = K) : OpR X (binaryOp .Add) (rAddG K) := by subst h; exact op_addG
theorem op_eqK (h : X.K = K) (hu : X.A.units + 64 < cLine) : OpR X (compareOp .Eq) (rEqG K) := by subst h; exact op_eqG hu
theorem op_neK (h : X.K = K) (hu : X.A.units + 64 < cLine) : OpR X (compareOp .NotEq) (rNeG K) := by subst h; exact op_neG hu
theorem op_notInK (h : X.K = K) : OpR X (compareOp .NotIn) (rIn K true) := by subst h; exact op_notIn_seq
theorem ix_seqK (h : X.K = K) : IxR X (rIx K) := by subst h; exact ix_seq
theorem sl_K (h : X.K = K) : SlR X (rSlG K) := by subst h; exact sl_G
theorem call_lenK (h : X.K = K) : CallR X (.builtin "len") (rLenG K) := by subst h; exact call_lenG
theorem call_listK (h : X.K = K) : CallR X (.type "list") (rListG K) := by subst h; exact call_listG
theorem call_tupleK (h : X.K = K) : CallR X (.type "tuple") (rTupleG K) := by subst h; exact call_tupleG
theorem call_sumK (h : X.K = K) (hc : X.calm = true) : CallR X (.builtin "sum") (rSum K) := by subst h; exact cr_sum hc
theorem call_maxK (h : X.K = K) (hc : X.calm = true) : CallR X (.builtin "max") (rMax K) := by subst h; exact cr_max hc
theorem call_minK (h : X.K = K) (hc : X.calm = true) : CallR X (.builtin "min") (rMin K) := by subst h; exact cr_min hc
theorem call_isiW (h : X.K = K) : CallR X (.builtin "isinstance") (rIsi K) := by subst h; exact call_isi
theorem pi_bothK {tg l : Expr} {tl : TE} (h : X.K = K) (hl : PE X l tl) : PI X tg l (iBoth K tl) := by subst h; exact pi_both hl
theorem mt_indexK (h : X.K = K) : MtR X "list.index" (rIndex K) := by subst h; exact mt_index
theorem mt_countK (h : X.K = K) : MtR X "list.count" (rCntI K) := by subst h; exact mt_lcount
theorem pe_bmK {T name id : String} {r : V → List V → Hp → VK → Prop} {o e : Expr} {es : List Expr} {to : TE} {t : TA} {apos cpos : Pos} (h : X.K = K) (pa : PlainAttrs T) (slot : Slot T name id) (hty : typeOf (.builtin id) = pure (.type "method_descriptor")) (hm : MtR X id r) (ho : PE X o to) (ha : PA X (e :: es) t)
    (hbase : attributeBase o name X.env (eval o X.env) = eval o X.env := by rfl)
    (hfew : ((backTo cpos (starEach (e :: es) X.env)).all (fun x => !x.1) && (backToKw cpos (keywordEach [] X.env)).all (fun x => x.1.isSome)
      && decide ((e :: es).length + ([] : List Keyword).length + (if ([] : List Keyword).isEmpty then 0 else 1) < 30)) = true := by rfl)
    (hline : (apos.endLine == cpos.line) = true := by rfl) (hs : starEach (e :: es) X.env = (false, eval e X.env) :: starEach es X.env := by rfl) (hplain : (backTo cpos (starEach es X.env)).any (·.1) = false := by rfl) :
    PE X (.Call (.Attribute o name apos) (e :: es) [] cpos) (tBM K T r to t) := by
  subst h
  exact pe_bm pa slot hty hm ho ha hbase hfew hline hs hplain
theorem pe_calK {P : Program} {w : World} {mg : Str → Option Value} {base : Heap} {W : WX} {cls : Nat → Addr} {x : Str} {ps : List Str} {k : Nat} {f : List D → R Sl} {p pos : Pos} {e : Expr} {es : List Expr} {t : TA} (C : Cal P w K mg base cls x ps k f)
    (h1 : X.prog = P) (h2 : X.w = w) (h3 : X.K = K) (h4 : X.mg = mg) (h5 : X.base = base) (hr : Room k X.A) (hg : Gl X x) (tk : Takes X W) (ha : PA X (e :: es) t)
    (hdb : (x == ("__debug__" : Str)) = false := by decide) (he : starEach (e :: es) X.env = (false, eval e X.env) :: starEach es X.env := by rfl) (hpl : (backTo pos (starEach es X.env)).any (·.1) = false := by rfl) :
    PE X (.Call (.Name x p) (e :: es) [] pos) (tCallS (spF K cls ps.length f) (WE W) t) := by
  subst h1 h2 h3 h4 h5
  exact pe_cal C hr hg tk ha hdb he hpl
end
end DL
set_option maxRecDepth 100000
namespace DL
open PySem PySem.Spec PyProof.Rows L2
/-! ### lists of lists that change: told over the reading -/
section
variable {K : PySem.W.Frag} {cls : Nat → Addr}
theorem intsD_rep {Hf : Hp} {d : D} {r : List Int} {v : V} (h : intsD d = some r) (rep : Rep K Hf d v) : ∃ p, v = .ref p ∧ (Hf p = some (.lst (r.map V.int)) ∨ Hf p = some (.tup (r.map V.int))) := by
  cases d with
  | lst es =>
    obtain ⟨p, vs, rfl, hp, rl⟩ := rep.lst_inv
    rw [rl.ints h] at hp
    exact ⟨p, rfl, .inl hp⟩
  | tup es =>
    obtain ⟨p, vs, rfl, hp, rl⟩ := rep.tup_inv
    rw [rl.ints h] at hp
    exact ⟨p, rfl, .inr hp⟩
  | _ => cases h
theorem rowsL_get : ∀ {ds : List D} {rs : List (List Int)}, rowsL ds = some rs → ds.length = rs.length ∧ ∀ (n : Nat) (d : D), ds[n]? = some d → ∃ r, rs[n]? = some r ∧ intsD d = some r
  | [], rs, h => by
    have : [] = rs := Option.some.inj h
    subst this
    exact ⟨rfl, fun n d e => by simp at e⟩
  | d :: ds, rs, h => by
    unfold rowsL at h
    cases e1 : intsD d with
    | none => rw [e1] at h; cases h
    | some r =>
      rw [e1] at h
      cases e2 : rowsL ds with
      | none => rw [e2] at h; cases h
      | some rr =>
        rw [e2] at h
        have : r :: rr = rs := Option.some.inj h
        subst this
        obtain ⟨hl, hg⟩ := rowsL_get e2
        refine ⟨by rw [List.length_cons, List.length_cons, hl], fun n d' e => ?_⟩
        cases n with
        | zero =>
          have : d = d' := by simpa using e
          subst this
          exact ⟨r, rfl, e1⟩
        | succ n => exact hg n d' (by simpa using e)
theorem set_sameI {xs : List Int} {i : Nat} {x : Int} (h : xs[i]? = some x) : xs.set i x = xs := by
  apply List.ext_getElem?
  intro j
  rw [List.getElem?_set]
  by_cases e : i = j
  · subst e
    rw [if_pos rfl, if_pos (List.getElem?_eq_some_iff.mp h).1, h]
  · rw [if_neg e]
/-- copies of the sequences in a sequence, in a new list -/
theorem lc_copies {Hf H : Hp} {σ : L2.St} {i j : Nat} {own : List Nat} {d : D} {v : V} {rs : List (List Int)} {Q : VK} (sub : Ex Hf H) (hj : j ∈ own) (hjl : j < σ.length) (hσ : σ[i]? = some (some v)) (rep : Rep K Hf d v) (hd : rowsD d = some rs) (hl : rs.length < 1000)
    (k : ∀ (L : Addr) (ps : List Addr) (H' : Hp), Ex H H' → H L = none → H' L = some (.lst (ps.map V.ref)) → ps.length = rs.length → (∀ (n : Nat) (p : Addr) (r : List Int), ps[n]? = some p → rs[n]? = some r → H' p = some (.lst (r.map V.int))) → (∀ p ∈ ps, H p = none) → (L :: ps).Nodup → Q (.ref L) H') :
    tLc (iBoth K (L2.tVar i)) (gName j) L2.tYes (tCB (rListG K) (tCons (L2.tVar j) tNil)) own σ H Q := by
  have core : ∀ (J : It) (ds : List D), rowsL ds = some rs → JOk K J Hf ds → ∀ D, H D = none → ∃ W : Nat → Nat → Hp → Prop, (∃ m, W 0 m (upd H D (.lst []))) ∧ ∀ i m H, W i m H →
      (J.stop i H ∧ Q (.ref D) H) ∨ (J.go i H ∧ ∃ Nx : Hp → Prop, (∀ H', Nx H' → ∃ m', m' < m ∧ W (i + 1) m' H') ∧ ∀ x H', J.yld i H x H' → gName j x (wipe σ own) H' fun σ2 H2 => wipe σ2 own = wipe σ own ∧ L2.tYes σ2 H2 fun b H3 =>
        if b = true then tCB (rListG K) (tCons (L2.tVar j) tNil) σ2 H3 fun y H4 => ∃ acc, H4 D = some (.lst acc) ∧ acc.length < sizeLine ∧ Nx (upd H4 D (.lst (acc ++ [y]))) else Nx H3) := by
    intro J ds hds jk L hL
    obtain ⟨hlen, hget⟩ := rowsL_get hds
    refine ⟨fun i m H' => m = rs.length - i ∧ i ≤ rs.length ∧ ∃ ps : List Addr, ps.length = i ∧ Ex H H' ∧ H' L = some (.lst (ps.map V.ref)) ∧ (∀ (n : Nat) (p : Addr) (r : List Int), ps[n]? = some p → rs[n]? = some r → H' p = some (.lst (r.map V.int))) ∧ (∀ p ∈ ps, H p = none) ∧ (L :: ps).Nodup,
      ⟨rs.length, by simp, Nat.zero_le _, [], rfl, Ex.new hL, upd_same, (fun n p r e1 e2 => by simp at e1), (fun p m => by cases m), by simp⟩, ?_⟩
    rintro i m H' ⟨rfl, hi, ps, hps, ex, hLp, hc, hn, nd⟩
    have lo : Lo Hf H' := (sub.trans ex).lo
    by_cases hlt : i < rs.length
    · refine .inr ⟨jk.go i H' lo (by rw [hlen]; exact hlt), fun H'' => rs.length - (i + 1) = rs.length - (i + 1) ∧ i + 1 ≤ rs.length ∧ ∃ ps : List Addr, ps.length = i + 1 ∧ Ex H H'' ∧ H'' L = some (.lst (ps.map V.ref)) ∧ (∀ (n : Nat) (p : Addr) (r : List Int), ps[n]? = some p → rs[n]? = some r → H'' p = some (.lst (r.map V.int))) ∧ (∀ p ∈ ps, H p = none) ∧ (L :: ps).Nodup,
        fun H'' q => ⟨_, by omega, q⟩, fun x H'' hy => ?_⟩
      obtain ⟨rfl, d', ed, rd⟩ := jk.yld i H' x H'' lo (by rw [hlen]; exact hlt) hy
      obtain ⟨r, er, hr⟩ := hget i d' ed
      obtain ⟨q, rfl, hq⟩ := intsD_rep hr rd
      show wipe ((wipe σ own).set j (some (V.ref q))) own = wipe σ own ∧ _
      refine ⟨wipe_set σ hj _, ?_⟩
      show tCB (rListG K) (tCons (L2.tVar j) tNil) _ _ _
      refine ⟨V.ref q, by rw [List.getElem?_set_self (by rw [wipe_length]; exact hjl)], q, r.map V.int, rfl, ?_, fun l hl => ?_⟩
      · rcases hq with hq | hq
        · exact .inl (SqL.of (sub.trans ex _ _ hq))
        · exact .inr (SqT.of (sub.trans ex _ _ hq))
      · have hlL : L ≠ l := ne_of_none hLp hl
        have hl0 : H l = none := ex.none_of hl
        refine ⟨ps.map V.ref, by rw [upd_ne hlL]; exact hLp, lim_lt (by rw [List.length_map, hps]; show i < 1000000; omega), rfl, hlt, ps ++ [l], by rw [List.length_append, hps]; rfl, fun a o e => ?_, by rw [upd_same, List.map_append]; rfl, fun n p r' e1 e2 => ?_, fun p m => ?_, ?_⟩
        · have h1 : a ≠ L := ne_of_none e hL
          have h2 : a ≠ l := ne_of_none e hl0
          rw [upd_ne h1, upd_ne h2]
          exact ex a o e
        · by_cases hni : n < ps.length
          · rw [List.getElem?_append_left hni] at e1
            have hpm := List.mem_of_getElem? e1
            have hp := hc n p r' e1 e2
            have h1 : p ≠ L := fun e => by
              rw [e] at hpm
              exact (List.nodup_cons.mp nd).1 hpm
            have h2 : p ≠ l := ne_of_none hp hl
            rw [upd_ne h1, upd_ne h2]
            exact hp
          · rw [List.getElem?_append_right (by omega)] at e1
            have hn0 : n - ps.length = 0 := by
              cases q2 : n - ps.length with
              | zero => rfl
              | succ z => rw [q2] at e1; simp at e1
            rw [hn0] at e1
            have : l = p := by simpa using e1
            subst this
            have hni2 : n = i := by omega
            subst hni2
            rw [er] at e2
            cases e2
            rw [upd_ne hlL.symm, upd_same]
        · rcases List.mem_append.mp m with m | m
          · exact hn p m
          · rw [List.mem_singleton] at m
            subst m
            exact hl0
        · rw [← List.cons_append]
          refine List.nodup_append.mpr ⟨nd, by simp, fun a ha b hb e => ?_⟩
          rw [List.mem_singleton] at hb
          subst hb; subst e
          rcases List.mem_cons.mp ha with z | z
          · exact hlL z.symm
          · obtain ⟨n, hn1, hn2⟩ := List.mem_iff_getElem.mp z
            have hr1 : rs[n]? = some rs[n] := List.getElem?_eq_getElem (by omega)
            have := hc n a _ (by rw [List.getElem?_eq_getElem hn1, hn2]) hr1
            rw [hl] at this
            cases this
    · have : i = rs.length := by omega
      subst this
      exact .inl ⟨jk.stop _ H' lo (by rw [hlen]; exact Nat.le_refl _), k L ps H' ex hL hLp hps hc hn nd⟩
  cases d with
  | lst ds =>
    obtain ⟨p, vs, rfl, hp, rl⟩ := rep.lst_inv
    exact ⟨_, hσ, .inl ⟨p, rfl, ⟨vs, SqL.of (sub _ _ hp)⟩, core _ ds hd (jok_list hp rl)⟩⟩
  | tup ds =>
    obtain ⟨p, vs, rfl, hp, rl⟩ := rep.tup_inv
    exact ⟨_, hσ, .inr ⟨p, rfl, ⟨vs, SqT.of (sub _ _ hp)⟩, core _ ds hd (jok_tup hp rl)⟩⟩
  | _ => cases hd
theorem at_ints {xs : List Int} {i : Nat} {x : Int} (h : xs[i]? = some x) : atI (xs.map V.int) (i : Int) = some (.int x) := by
  obtain ⟨hl, hv⟩ := List.getElem?_eq_some_iff.mp h
  unfold atI ixN
  rw [if_pos (by omega), if_pos (by rw [List.length_map]; omega)]
  show (xs.map V.int)[((i : Nat) : Int).toNat]? = _
  rw [Int.toNat_natCast, List.getElem?_map, h]
  rfl
theorem at_refs {ps : List Addr} {i : Nat} {p : Addr} (h : ps[i]? = some p) : atI (ps.map V.ref) (i : Int) = some (.ref p) := by
  obtain ⟨hl, hv⟩ := List.getElem?_eq_some_iff.mp h
  unfold atI ixN
  rw [if_pos (by omega), if_pos (by rw [List.length_map]; omega)]
  show (ps.map V.ref)[((i : Nat) : Int).toNat]? = _
  rw [Int.toNat_natCast, List.getElem?_map, h]
  rfl
/-- for e in ..: if row[e] == old: row[e] = new -/
theorem ren_loop {wi : TI} {tO tN : TE} {r je : Nat} {σ : L2.St} {H : Hp} {p : Addr} {xs : List Int} {old new : Int} {D : Ends} (hr : r ≠ je) (hjl : je < σ.length) (hσ : σ[r]? = some (some (.ref p))) (hp : H p = some (.lst (xs.map V.int)))
    (hwi : ∀ R : It → Hp → Prop, R (Itr 0 xs.length) H → wi σ H R)
    (hO : ∀ (σ' : L2.St) (ys : List V) (Q : VK), (∀ i, i ≠ je → σ'[i]? = σ[i]?) → Q (.int old) (upd H p (.lst ys)) → tO σ' (upd H p (.lst ys)) Q)
    (hN : ∀ (σ' : L2.St) (ys : List V) (Q : VK), (∀ i, i ≠ je → σ'[i]? = σ[i]?) → Q (.int new) (upd H p (.lst ys)) → tN σ' (upd H p (.lst ys)) Q)
    (hD : ∀ σ', σ'.length = σ.length → (∀ i, i ≠ je → σ'[i]? = σ[i]?) → D.nx σ' (upd H p (.lst ((xs.map (ren old new)).map V.int)))) :
    tFor wi (gName je) (tIfS (tTest (tOp (rEqG K) (tOp (rIx K) (L2.tVar r) (L2.tVar je)) tO)) (tAsg tN (gSub (L2.tVar r) (L2.tVar je) rSetL)) tNext) D σ H := by
  refine hwi _ ?_
  refine for_range (lo := 0) (n := xs.length) (fun i σ' H' => σ'.length = σ.length ∧ (∀ z, z ≠ je → σ'[z]? = σ[z]?) ∧ H' = upd H p (.lst ((((xs.take i).map (ren old new)) ++ xs.drop i).map V.int))) ⟨rfl, fun _ _ => rfl, ?_⟩ ?_ ?_
  · rw [List.take_zero, List.map_nil, List.drop_zero, List.nil_append, upd_id hp]
  · rintro i σ' H' hi ⟨hl, hs, rfl⟩
    rw [Int.zero_add]
    have hx : xs[i]? = some xs[i] := List.getElem?_eq_getElem hi
    have hlen : (((xs.take i).map (ren old new)) ++ xs.drop i).length = xs.length := by
      rw [List.length_append, List.length_map, List.length_take, List.length_drop]
      omega
    have hcur : (((xs.take i).map (ren old new)) ++ xs.drop i)[i]? = some xs[i] := by
      rw [List.getElem?_append_right (by rw [List.length_map, List.length_take]; omega), List.length_map, List.length_take, Nat.min_eq_left (Nat.le_of_lt hi), Nat.sub_self, List.getElem?_drop, Nat.add_zero, hx]
    have hnxt : (((xs.take i).map (ren old new)) ++ xs.drop i).set i (ren old new xs[i]) = ((xs.take (i + 1)).map (ren old new)) ++ xs.drop (i + 1) := by
      rw [List.take_succ_eq_append_getElem hi, List.map_append, List.append_assoc, List.drop_eq_getElem_cons hi]
      rw [List.set_append_right _ _ (by rw [List.length_map, List.length_take]; omega), List.length_map, List.length_take, Nat.min_eq_left (Nat.le_of_lt hi), Nat.sub_self]
      rfl
    generalize ((xs.take i).map (ren old new)) ++ xs.drop i = cur at *
    have s1 : (σ'.set je (some (V.int (i : Nat))))[r]? = some (some (.ref p)) := by rw [List.getElem?_set_ne hr.symm, hs r hr, hσ]
    have s2 : (σ'.set je (some (V.int (i : Nat))))[je]? = some (some (.int (i : Nat))) := by rw [List.getElem?_set_self (by rw [hl]; exact hjl)]
    have s3 : ∀ z, z ≠ je → (σ'.set je (some (V.int (i : Nat))))[z]? = σ[z]? := fun z hz => by rw [List.getElem?_set_ne hz.symm, hs z hz]
    have hul : (upd H p (.lst (cur.map V.int))) p = some (.lst (cur.map V.int)) := upd_same
    refine ⟨_, s1, _, s2, .inl ⟨p, _, _, _, rfl, rfl, SqL.of hul, at_ints hcur, ?_⟩⟩
    refine hO _ _ _ s3 (.inl ⟨rfl, _, rfl, ?_⟩)
    by_cases c : xs[i] = old
    · rw [decide_eq_true (by rw [c])]
      refine iteT ?_
      refine hN _ _ _ s3 ⟨_, s1, _, s2, p, _, _, i, rfl, rfl, hul, ?_, ?_⟩
      · unfold ixN
        rw [if_pos (by omega), if_pos (by rw [List.length_map, hlen]; omega), Int.toNat_natCast]
      · refine ⟨by rw [List.length_set, hl], s3, ?_⟩
        rw [upd_upd, ← hnxt]
        have : ren old new xs[i] = new := if_pos c
        rw [this]
        congr 2
        exact List.map_set.symm
    · rw [decide_eq_false (fun z => c (V.int.inj z))]
      refine iteF ?_
      refine ⟨by rw [List.length_set, hl], s3, ?_⟩
      rw [← hnxt]
      have : ren old new xs[i] = xs[i] := if_neg c
      rw [this]
      congr 3
      exact (set_sameI hcur).symm
  · rintro σ' H' ⟨hl, hs, rfl⟩
    rw [List.take_length, List.drop_length, List.append_nil]
    exact hD σ' hl hs
end
end DL
set_option maxRecDepth 100000
namespace DL
open PySem PySem.Spec PyProof.Rows L2
section
variable {K : PySem.W.Frag} {cls : Nat → Addr}
/-- what a cell of ints holds -/
def unInt : V → Option Int
  | .int i => some i
  | _ => none
def cellOf (H : Hp) (p : Addr) : List Int := match H p with
  | some (.lst vs) => vs.filterMap unInt
  | _ => []
theorem filterMap_id : ∀ (r : List Int), (r.map V.int).filterMap unInt = r
  | [] => rfl
  | x :: r => by
    rw [List.map_cons, List.filterMap_cons]
    show x :: (r.map V.int).filterMap unInt = _
    rw [filterMap_id r]
theorem cellOf_eq {H : Hp} {p : Addr} {r : List Int} (h : H p = some (.lst (r.map V.int))) : cellOf H p = r := by
  unfold cellOf
  rw [h]
  exact filterMap_id r
theorem cells_map {H : Hp} {ps : List Addr} {rs : List (List Int)} (hl : ps.length = rs.length) (hc : ∀ (n : Nat) (p : Addr) (r : List Int), ps[n]? = some p → rs[n]? = some r → H p = some (.lst (r.map V.int))) : ps.map (cellOf H) = rs := by
  apply List.ext_getElem
  · rw [List.length_map, hl]
  · intro n h1 h2
    rw [List.getElem_map]
    rw [List.length_map] at h1
    exact cellOf_eq (hc n _ _ (List.getElem?_eq_getElem h1) (List.getElem?_eq_getElem h2))
theorem cutV_from {xs : List V} {k : Nat} (h : k ≤ xs.length) : cutV xs (some (k : Int)) none = xs.drop k := by
  unfold cutV
  rw [sIx_eq, sIx_eq]
  exact cut_to h
def t_lawJoined (K : PySem.W.Frag) (cls : Nat → Addr) (num : List D → R Sl) (W : WX) : TS :=
  tSeq (tAsg (tLc (iBoth K (L2.tVar 0)) (gName 6) L2.tYes (tCB (rListG K) (tCons (L2.tVar 6) tNil)) [6]) (gName 3))
  (tSeq (tAsg (tLc (iBoth K (L2.tVar 2)) (gName 8) L2.tYes (tCB (rListG K) (tCons (L2.tVar 8) tNil)) [8]) (gName 2))
  (tSeq (tFor (iRng1 (tCons (tCB (rLenG K) (tCons (L2.tVar 2) tNil)) tNil)) (gName 4)
    (tSeq (tAsg (tOp (rIx K) (tOp (rIx K) (L2.tVar 2) (L2.tVar 4)) (tC (.int 1))) (gName 5))
    (tSeq (tIfS (tTest (tOp (rEqG K) (tOp (rIx K) (tOp (rIx K) (L2.tVar 2) (L2.tVar 4)) (tC (.int 0))) (L2.tVar 5))) (tAsg (tOp (rAddG K) (L2.tVar 1) (tC (.int 1))) (gName 1)) tNext)
      (tFor (iBoth K (tOp (rAddG K) (L2.tVar 3) (tSl (rSlG K) (L2.tVar 2) (tPart (tOp (rAddG K) (L2.tVar 4) (tC (.int 1)))) tNoPart))) (gName 6)
        (tFor (iRng1 (tCons (tCB (rLenG K) (tCons (L2.tVar 6) tNil)) tNil)) (gName 7)
          (tIfS (tTest (tOp (rEqG K) (tOp (rIx K) (L2.tVar 6) (L2.tVar 7)) (L2.tVar 5)))
            (tAsg (tOp (rIx K) (tOp (rIx K) (L2.tVar 2) (L2.tVar 4)) (tC (.int 0))) (gSub (L2.tVar 6) (L2.tVar 7) rSetL)) tNext))))))
   (tRet (tTup (tCons (tCallS (spF K cls 1 num) (WE W) (tCons (L2.tVar 3) tNil)) (tCons (L2.tVar 1) tNil))))))
/-- cells at the places qs -/
def Cells (H : Hp) (qs : List Addr) : Prop := ∀ p ∈ qs, H p = some (.lst ((cellOf H p).map V.int))
theorem Cells.at {H : Hp} {qs : List Addr} (c : Cells H qs) {n : Nat} {p : Addr} (h : qs[n]? = some p) : H p = some (.lst ((cellOf H p).map V.int)) := c p (List.mem_of_getElem? h)
/-- the walk over row's items, for every row of a list -/
theorem ren_rows {a : Addr} {A : List Addr} {H : Hp} {σ : L2.St} {old new : Int} {tO tN : TE} {D : Ends} {rj je : Nat} (hrj : rj ≠ je) (hlr : rj < σ.length) (hle : je < σ.length) (ha : H a = some (.lst (A.map V.ref))) (haA : a ∉ A) (nd : A.Nodup) (hc : Cells H A) (hsz : ∀ p ∈ A, (cellOf H p).length < 1000000)
    (hO : ∀ (σ' : L2.St) (H' : Hp) (Q : VK), (∀ i, i ≠ je → i ≠ rj → σ'[i]? = σ[i]?) → (∀ b, b ∉ A → H' b = H b) → Q (.int old) H' → tO σ' H' Q)
    (hN : ∀ (σ' : L2.St) (H' : Hp) (Q : VK), (∀ i, i ≠ je → i ≠ rj → σ'[i]? = σ[i]?) → (∀ b, b ∉ A → H' b = H b) → Q (.int new) H' → tN σ' H' Q)
    (hD : ∀ σ' H', σ'.length = σ.length → (∀ i, i ≠ je → i ≠ rj → σ'[i]? = σ[i]?) → (∀ b, b ∉ A → H' b = H b) → (∀ p ∈ A, H' p = some (.lst (((cellOf H p).map (ren old new)).map V.int))) → D.nx σ' H') :
    ∃ W : Nat → Nat → L2.St → Hp → Prop, (∃ m, W 0 m σ H) ∧ ∀ i m σ H, W i m σ H →
      ((Itl K a).stop i H ∧ D.nx σ H) ∨ ((Itl K a).go i H ∧ ∃ N : L2.St → Hp → Prop, (∀ σ' H', N σ' H' → ∃ m', m' < m ∧ W (i + 1) m' σ' H') ∧ ∀ x H', (Itl K a).yld i H x H' → gName rj x σ H' fun σ2 H2 => tFor (iRng1 (tCons (tCB (rLenG K) (tCons (L2.tVar rj) tNil)) tNil)) (gName je) (tIfS (tTest (tOp (rEqG K) (tOp (rIx K) (L2.tVar rj) (L2.tVar je)) tO)) (tAsg tN (gSub (L2.tVar rj) (L2.tVar je) rSetL)) tNext) { D with nx := N, ct := N, bk := D.nx } σ2 H2) := by
  refine for_list (K := K) (a := a) (xs := A.map V.ref) (fun i σ' H' => σ'.length = σ.length ∧ (∀ z, z ≠ je → z ≠ rj → σ'[z]? = σ[z]?) ∧ (∀ b, b ∉ A → H' b = H b) ∧ ∀ (n : Nat) (p : Addr), A[n]? = some p → H' p = some (.lst ((if n < i then (cellOf H p).map (ren old new) else cellOf H p).map V.int)))
    ⟨rfl, fun _ _ _ => rfl, fun _ _ => rfl, fun n p e => by rw [if_neg (Nat.not_lt_zero n)]; exact hc.at e⟩ ?_ ?_ ?_
  · intro i σ' H' _ ⟨_, _, h3, _⟩
    exact SqL.of (by rw [h3 a haA]; exact ha)
  · rintro i x σ' H' hx ⟨hl, hs, hb, hcc⟩
    rw [List.getElem?_map] at hx
    cases e : A[i]? with
    | none => rw [e] at hx; cases hx
    | some p =>
      rw [e] at hx
      have ex : V.ref p = x := Option.some.inj hx
      subst ex
      have hp := hcc i p e
      rw [if_neg (Nat.lt_irrefl i)] at hp
      have hpm := List.mem_of_getElem? e
      have hA : ∀ ys, ∀ b, b ∉ A → (upd H' p (.lst ys)) b = H b := fun ys b hb2 => by
        have : b ≠ p := fun z => hb2 (z ▸ hpm)
        rw [upd_ne this, hb b hb2]
      have hss : ∀ σ'' : L2.St, (∀ z, z ≠ je → σ''[z]? = (σ'.set rj (some (V.ref p)))[z]?) → ∀ z, z ≠ je → z ≠ rj → σ''[z]? = σ[z]? := fun σ'' h z h1 h2 => by
        rw [h z h1, List.getElem?_set_ne h2.symm, hs z h1 h2]
      show tFor _ _ _ _ (σ'.set rj (some (V.ref p))) H'
      refine ren_loop hrj (by rw [List.length_set, hl]; exact hle) (by rw [List.getElem?_set_self (by rw [hl]; exact hlr)]) hp ?_ (fun σ'' ys Q h q => hO σ'' _ Q (hss σ'' h) (hA ys) q) (fun σ'' ys Q h q => hN σ'' _ Q (hss σ'' h) (hA ys) q) ?_
      · intro R hR
        refine ⟨V.ref p, by rw [List.getElem?_set_self (by rw [hl]; exact hlr)], V.ref p, (cellOf H p).length, rfl, .inl ⟨_, SqL.of hp, by rw [List.length_map]⟩, ((cellOf H p).length : Nat), rfl, by omega, by have := hsz p hpm; omega, ?_⟩
        rw [Int.toNat_natCast]
        exact hR
      · intro σ'' hl2 h
        refine ⟨by rw [hl2, List.length_set, hl], hss σ'' h, hA _, fun n q e2 => ?_⟩
        by_cases hq : q = p
        · subst hq
          have hni : n = i := by
            have h1 := (List.getElem?_eq_some_iff.mp e)
            have h2 := (List.getElem?_eq_some_iff.mp e2)
            obtain ⟨l1, v1⟩ := h1
            obtain ⟨l2, v2⟩ := h2
            exact nodup_inj nd (v2.trans v1.symm)
          subst hni
          rw [upd_same, if_pos (Nat.lt_succ_self n)]
        · have hni : n ≠ i := fun z => by
            rw [z, e] at e2
            exact hq (Option.some.inj e2).symm
          rw [upd_ne hq, hcc n q e2]
          by_cases c : n < i
          · rw [if_pos c, if_pos (by omega)]
          · rw [if_neg c, if_neg (by omega)]
  · rintro σ' H' ⟨hl, hs, hb, hcc⟩
    rw [List.length_map] at hcc
    refine hD σ' H' hl hs hb fun p hp => ?_
    obtain ⟨n, hn, e⟩ := List.mem_iff_getElem.mp hp
    have := hcc n p (by rw [List.getElem?_eq_getElem hn, e])
    rw [if_pos hn] at this
    exact this
/-- the pairs stay pairs, and as many -/
theorem joinStep_inv {s : List (List Int) × List (List Int) × Int} {k : Nat} (h : ∀ p ∈ s.2.1, p.length = 2) : (∀ p ∈ (joinStep s k).2.1, p.length = 2) ∧ (joinStep s k).2.1.length = s.2.1.length ∧ (joinStep s k).1.length = s.1.length := by
  refine ⟨fun p hp => ?_, ?_, ?_⟩
  · unfold joinStep at hp
    rcases List.mem_append.mp hp with m | m
    · exact h p (List.mem_of_mem_take m)
    · obtain ⟨q, hq, rfl⟩ := List.mem_map.mp m
      rw [List.length_map]
      exact h q (List.mem_of_mem_drop hq)
  · unfold joinStep
    simp only [List.length_append, List.length_take, List.length_map, List.length_drop]
    omega
  · unfold joinStep
    simp only [List.length_map]
theorem joinStep_small {s : List (List Int) × List (List Int) × Int} {k : Nat} (h : ∀ p ∈ s.1, p.length < 1000) : ∀ p ∈ (joinStep s k).1, p.length < 1000 := fun p hp => by
  unfold joinStep at hp
  obtain ⟨q, hq, rfl⟩ := List.mem_map.mp hp
  rw [List.length_map]
  exact h q hq
theorem seq_asg {te : TE} {g : TG} {u : TS} {D : Ends} {σ : L2.St} {H : Hp} (h : te σ H fun x H1 => g x σ H1 (u D)) : tSeq (tAsg te g) u D σ H := h
theorem joined_reading {num : List D → R Sl} {vs : List V} {H : Hp} {Q : VK} {E : XK} (h : spF K cls 3 (joinedF num) vs H Q E) :
    t_lawJoined K cls num (fun c d _ H => E c d H) { nx := fun _ H' => Q .non H', rt := Q } (start ["rows", "rings", "pairs", "left", "k", "old", "row", "e", "two"] vs) H := by
  obtain ⟨hl, ds, Hb, sub, r, post⟩ := h
  unfold joinedF at post
  split at post
  case h_2 => exact post.elim
  rename_i a rg b
  split at post
  case h_2 => exact post.elim
  rename_i rs ps hra hrb
  split at post
  case isFalse => exact post.elim
  rename_i hsz
  obtain ⟨⟨hrs, hps⟩, hrow, hpair⟩ := hsz
  cases r with
  | cons r0 r =>
  cases r with
  | cons r1 r =>
  cases r with
  | cons r2 r =>
  cases r with
  | nil =>
  rename_i v0 v1 v2
  have e1 := r1.int_inv
  subst e1
  have hst : start ["rows", "rings", "pairs", "left", "k", "old", "row", "e", "two"] [v0, .int rg, v2] = [some v0, some (.int rg), some v2, none, none, none, none, none, none] := rfl
  rw [hst]
  -- left
  unfold t_lawJoined
  refine seq_asg ?_
  refine lc_copies (i := 0) (j := 6) (own := [6]) (σ := [some v0, some (.int rg), some v2, none, none, none, none, none, none]) sub (by simp) (by simp) rfl r0 hra (by omega) fun L pl H1 ex1 hL0 hL hpl hcl hnl ndl => ?_
  show tSeq _ _ _ ([some v0, some (.int rg), some v2, some (.ref L), none, none, none, none, none] : L2.St) H1
  -- pairs
  refine seq_asg ?_
  refine lc_copies (i := 2) (j := 8) (own := [8]) (σ := [some v0, some (.int rg), some v2, some (.ref L), none, none, none, none, none]) (sub.trans ex1) (by simp) (by simp) rfl r2 hrb (by omega) fun P pp H2 ex2 hP0 hP hpp hcp hnp ndp => ?_
  show tSeq _ _ _ ([some v0, some (.int rg), some (.ref P), some (.ref L), none, none, none, none, none] : L2.St) H2
  have hml : pl.map (cellOf H2) = rs := cells_map hpl fun n p r e1 e2 => ex2 _ _ (hcl n p r e1 e2)
  have hmp : pp.map (cellOf H2) = ps := cells_map hpp hcp
  have hsome : ∀ p ∈ L :: pl, ∃ o, H1 p = some o := fun p hp => by
    rcases List.mem_cons.mp hp with z | z
    · exact ⟨_, z ▸ hL⟩
    · obtain ⟨n, hn, e⟩ := List.mem_iff_getElem.mp z
      exact ⟨_, hcl n p _ (by rw [List.getElem?_eq_getElem hn, e]) (List.getElem?_eq_getElem (by omega))⟩
  have hnone : ∀ p ∈ P :: pp, H1 p = none := fun p hp => by
    rcases List.mem_cons.mp hp with z | z
    · exact z ▸ hP0
    · exact hnp p z
  have hdis : ∀ p ∈ L :: pl, ∀ q ∈ P :: pp, p ≠ q := fun p hp q hq e => by
    obtain ⟨o, ho⟩ := hsome p hp
    rw [e, hnone q hq] at ho
    cases ho
  have hnd : (pl ++ pp).Nodup := List.nodup_append.mpr ⟨(List.nodup_cons.mp ndl).2, (List.nodup_cons.mp ndp).2, fun p hp q hq => hdis p (List.mem_cons_of_mem _ hp) q (List.mem_cons_of_mem _ hq)⟩
  have hLn : L ∉ pl ++ pp := fun m => by
    rcases List.mem_append.mp m with z | z
    · exact (List.nodup_cons.mp ndl).1 z
    · exact hdis L List.mem_cons_self L (List.mem_cons_of_mem _ z) rfl
  have hPn : P ∉ pl ++ pp := fun m => by
    rcases List.mem_append.mp m with z | z
    · exact hdis P (List.mem_cons_of_mem _ z) P List.mem_cons_self rfl
    · exact (List.nodup_cons.mp ndp).1 z
  have hfree : ∀ p ∈ pl ++ pp, H p = none := fun p hp => by
    rcases List.mem_append.mp hp with z | z
    · exact hnl p z
    · exact ex1.none_of (hnp p z)
  have hcells : Cells H2 (pl ++ pp) := fun p hp => by
    rcases List.mem_append.mp hp with z | z
    · obtain ⟨n, hn, e⟩ := List.mem_iff_getElem.mp z
      have h0 : H2 p = some (.lst ((rs[n]'(by omega)).map V.int)) := ex2 _ _ (hcl n p _ (by rw [List.getElem?_eq_getElem hn, e]) (List.getElem?_eq_getElem (by omega)))
      rw [cellOf_eq h0]
      exact h0
    · obtain ⟨n, hn, e⟩ := List.mem_iff_getElem.mp z
      have h0 : H2 p = some (.lst ((ps[n]'(by omega)).map V.int)) := hcp n p _ (by rw [List.getElem?_eq_getElem hn, e]) (List.getElem?_eq_getElem (by omega))
      rw [cellOf_eq h0]
      exact h0
  -- for k in range(len(pairs))
  refine ⟨V.ref P, rfl, V.ref P, pp.length, rfl, .inl ⟨_, SqL.of hP, by rw [List.length_map]⟩, (pp.length : Nat), rfl, by omega, by omega, ?_⟩
  rw [Int.toNat_natCast]
  have hfold : ∀ n, n ≤ ps.length → (∀ p ∈ ((List.range n).foldl joinStep (rs, ps, rg)).2.1, p.length = 2) ∧ ((List.range n).foldl joinStep (rs, ps, rg)).2.1.length = ps.length ∧ ((List.range n).foldl joinStep (rs, ps, rg)).1.length = rs.length ∧ ∀ p ∈ ((List.range n).foldl joinStep (rs, ps, rg)).1, p.length < 1000 := by
    intro n
    induction n with
    | zero => exact fun _ => ⟨hpair, rfl, rfl, hrow⟩
    | succ n ih =>
      intro hn
      obtain ⟨i1, i2, i3, i4⟩ := ih (by omega)
      rw [List.range_succ, List.foldl_append]
      show (∀ p ∈ (joinStep _ n).2.1, _) ∧ (joinStep _ n).2.1.length = _ ∧ (joinStep _ n).1.length = _ ∧ ∀ p ∈ (joinStep _ n).1, p.length < 1000
      obtain ⟨j1, j2, j3⟩ := joinStep_inv (k := n) i1
      exact ⟨j1, by rw [j2, i2], by rw [j3, i3], joinStep_small i4⟩
  refine for_range (lo := 0) (n := pp.length) (fun k σ' H' => ∃ (rg' : Int) (x4 x5 x6 x7 x8 : Option V), σ' = [some v0, some (.int rg'), some (.ref P), some (.ref L), x4, x5, x6, x7, x8] ∧ Ex H H' ∧ H' L = some (.lst (pl.map V.ref)) ∧ H' P = some (.lst (pp.map V.ref)) ∧ Cells H' (pl ++ pp) ∧ (pl.map (cellOf H'), pp.map (cellOf H'), rg') = (List.range k).foldl joinStep (rs, ps, rg))
    ⟨rg, none, none, none, none, none, rfl, ex1.trans ex2, ex2 _ _ hL, hP, hcells, by rw [hml, hmp]; rfl⟩ ?_ ?_
  · rintro k σ' H' hk ⟨rg', x4, x5, x6, x7, x8, rfl, exH, hL', hP', hc', hf'⟩
    rw [Int.zero_add]
    show tSeq _ _ _ ([some v0, some (.int rg'), some (.ref P), some (.ref L), some (.int (k : Nat)), x5, x6, x7, x8] : L2.St) H'
    obtain ⟨i1, i2, i3, i4⟩ := hfold k (by omega)
    rw [← hf'] at i1 i2 i3 i4
    simp only at i1 i2 i3 i4
    have hq : pp[k]? = some pp[k] := List.getElem?_eq_getElem hk
    have hqm : pp[k] ∈ pl ++ pp := List.mem_append_right _ (List.getElem_mem _)
    have hqc := hc' _ hqm
    obtain ⟨x, y, hxy⟩ : ∃ x y, cellOf H' pp[k] = [x, y] := by
      have := i1 (cellOf H' pp[k]) (List.mem_map.mpr ⟨_, List.getElem_mem _, rfl⟩)
      match e : cellOf H' pp[k], this with
      | [x, y], _ => exact ⟨x, y, rfl⟩
    rw [hxy] at hqc
    have hgd : (pp.map (cellOf H')).getD k [] = [x, y] := by
      rw [List.getD_eq_getElem?_getD, List.getElem?_map, hq]
      exact hxy
    have at0 : atI (([x, y] : List Int).map V.int) 0 = some (.int x) := at_ints (i := 0) rfl
    have at1 : atI (([x, y] : List Int).map V.int) 1 = some (.int y) := at_ints (i := 1) rfl
    -- old = pairs[k][1]
    refine ⟨V.ref P, rfl, V.int k, rfl, .inl ⟨P, _, _, _, rfl, rfl, SqL.of hP', at_refs hq, .inl ⟨_, _, _, _, rfl, rfl, SqL.of hqc, at1, ?_⟩⟩⟩
    show tSeq _ _ _ ([some v0, some (.int rg'), some (.ref P), some (.ref L), some (.int (k : Nat)), some (.int y), x6, x7, x8] : L2.St) H'
    -- what comes behind the count of the rings
    have rest : ∀ rg2 : Int, rg2 = (if x = y then rg' + 1 else rg') → tFor (iBoth K (tOp (rAddG K) (L2.tVar 3) (tSl (rSlG K) (L2.tVar 2) (tPart (tOp (rAddG K) (L2.tVar 4) (tC (.int 1)))) tNoPart))) (gName 6)
        (tFor (iRng1 (tCons (tCB (rLenG K) (tCons (L2.tVar 6) tNil)) tNil)) (gName 7)
          (tIfS (tTest (tOp (rEqG K) (tOp (rIx K) (L2.tVar 6) (L2.tVar 7)) (L2.tVar 5)))
            (tAsg (tOp (rIx K) (tOp (rIx K) (L2.tVar 2) (L2.tVar 4)) (tC (.int 0))) (gSub (L2.tVar 6) (L2.tVar 7) rSetL)) tNext))
        { nx := fun σ' H' => ∃ (rg' : Int) (x4 x5 x6 x7 x8 : Option V), σ' = [some v0, some (.int rg'), some (.ref P), some (.ref L), x4, x5, x6, x7, x8] ∧ Ex H H' ∧ H' L = some (.lst (pl.map V.ref)) ∧ H' P = some (.lst (pp.map V.ref)) ∧ Cells H' (pl ++ pp) ∧ (pl.map (cellOf H'), pp.map (cellOf H'), rg') = (List.range (k + 1)).foldl joinStep (rs, ps, rg),
          ct := fun σ' H' => ∃ (rg' : Int) (x4 x5 x6 x7 x8 : Option V), σ' = [some v0, some (.int rg'), some (.ref P), some (.ref L), x4, x5, x6, x7, x8] ∧ Ex H H' ∧ H' L = some (.lst (pl.map V.ref)) ∧ H' P = some (.lst (pp.map V.ref)) ∧ Cells H' (pl ++ pp) ∧ (pl.map (cellOf H'), pp.map (cellOf H'), rg') = (List.range (k + 1)).foldl joinStep (rs, ps, rg),
          bk := fun σ H => (tRet (tTup (tCons (tCallS (spF K cls 1 num) (WE (fun c d _ H => E c d H)) (tCons (L2.tVar 3) tNil)) (tCons (L2.tVar 1) tNil)))) { nx := fun _ H' => Q .non H', rt := Q } σ H, rt := Q }
        ([some v0, some (.int rg2), some (.ref P), some (.ref L), some (.int (k : Nat)), some (.int y), x6, x7, x8] : L2.St) H' := by
      intro rg2 hrg2
      refine ⟨V.ref L, rfl, V.ref P, rfl, V.int k, rfl, .inl ⟨k, 1, rfl, rfl, _, rfl, .inl ⟨P, _, rfl, SqL.of hP', fun T hT => ?_⟩⟩⟩
      have eT : cutV (pp.map V.ref) (some ((k : Int) + 1)) none = (pp.drop (k + 1)).map V.ref := by
        rw [show some ((k : Int) + 1) = some ((k + 1 : Nat) : Int) from rfl, cutV_from (by rw [List.length_map]; omega), List.map_drop]
      rw [eT]
      have hLT : L ≠ T := ne_of_none hL' hT
      refine .inr (.inl ⟨L, T, _, _, rfl, rfl, by rw [upd_ne hLT]; exact hL', upd_same, lim_le (by rw [List.length_map, List.length_map, List.length_drop]; show _ ≤ 1000000; omega), fun B hB => ?_⟩)
      have hTB : T ≠ B := fun z => by rw [← z, upd_same] at hB; cases hB
      have hB' : H' B = none := by rw [upd_ne hTB.symm] at hB; exact hB
      obtain ⟨H3, hH3⟩ : ∃ H3, H3 = upd (upd H' T (.lst ((pp.drop (k + 1)).map V.ref))) B (.lst (pl.map V.ref ++ (pp.drop (k + 1)).map V.ref)) := ⟨_, rfl⟩
      rw [← hH3]
      have ex3 : Ex H' H3 := by rw [hH3]; exact (Ex.new hT).trans (Ex.new hB)
      have hBv : H3 B = some (.lst ((pl ++ pp.drop (k + 1)).map V.ref)) := by rw [hH3, upd_same, List.map_append]
      have hsubA : ∀ p ∈ pl ++ pp.drop (k + 1), p ∈ pl ++ pp := fun p hp => by
        rcases List.mem_append.mp hp with z | z
        · exact List.mem_append_left _ z
        · exact List.mem_append_right _ (List.mem_of_mem_drop z)
      have ndA : (pl ++ pp.drop (k + 1)).Nodup := hnd.sublist ((List.Sublist.refl _).append (List.drop_sublist _ _))
      have hc3 : Cells H3 (pl ++ pp) := fun p hp => by
        have h0 := ex3 _ _ (hc' p hp)
        rw [cellOf_eq h0]
        exact h0
      have heq : ∀ p ∈ pl ++ pp, cellOf H3 p = cellOf H' p := fun p hp => cellOf_eq (ex3 _ _ (hc' p hp))
      have hBn : B ∉ pl ++ pp.drop (k + 1) := fun m => by
        have := hc' B (hsubA B m)
        rw [hB'] at this
        cases this
      have hqn : pp[k] ∉ pl ++ pp.drop (k + 1) := fun m => by
        rcases List.mem_append.mp m with z | z
        · exact (List.nodup_append.mp hnd).2.2 _ z _ (List.getElem_mem _) rfl
        · obtain ⟨j, hj, e⟩ := List.mem_iff_getElem.mp z
          rw [List.getElem_drop] at e
          have := nodup_inj (List.nodup_append.mp hnd).2.1 e
          omega
      have hPA : P ∉ pl ++ pp.drop (k + 1) := fun m => hPn (hsubA P m)
      refine .inl ⟨B, rfl, ⟨_, SqL.of hBv⟩, ren_rows (K := K) (A := pl ++ pp.drop (k + 1)) (old := y) (new := x) (rj := 6) (je := 7) (by decide) (by show 6 < 9; decide) (by show 7 < 9; decide) hBv hBn ndA (fun p hp => hc3 p (hsubA p hp)) ?_ ?_ ?_ ?_⟩
      · intro p hp
        rw [heq p (hsubA p hp)]
        rcases List.mem_append.mp (hsubA p hp) with z | z
        · have := i4 _ (List.mem_map.mpr ⟨p, z, rfl⟩)
          omega
        · have := i1 _ (List.mem_map.mpr ⟨p, z, rfl⟩)
          omega
      · intro σ'' H'' Q'' hs hb q
        exact ⟨V.int y, by rw [hs 5 (by decide) (by decide)]; rfl, q⟩
      · intro σ'' H'' Q'' hs hb q
        refine ⟨V.ref P, by rw [hs 2 (by decide) (by decide)]; rfl, V.int k, by rw [hs 4 (by decide) (by decide)]; rfl, .inl ⟨P, _, _, _, rfl, rfl, SqL.of (by rw [hb P hPA]; exact ex3 _ _ hP'), at_refs hq, .inl ⟨_, _, _, _, rfl, rfl, SqL.of (by rw [hb _ hqn]; exact ex3 _ _ hqc), at0, q⟩⟩⟩
      · intro σ'' H'' hlen hs hb hcc
        have hg : ∀ i : Nat, i ≠ 7 → i ≠ 6 → σ''[i]? = ([some v0, some (.int rg2), some (.ref P), some (.ref L), some (.int (k : Nat)), some (.int y), x6, x7, x8] : L2.St)[i]? := fun i h1 h2 => hs i h1 h2
        have hLA : L ∉ pl ++ pp.drop (k + 1) := fun m => hLn (hsubA L m)
        have hcell2 : ∀ p ∈ pl ++ pp, H'' p = some (.lst ((if p ∈ pl ++ pp.drop (k + 1) then (cellOf H' p).map (ren y x) else cellOf H' p).map V.int)) := fun p hp => by
          by_cases m : p ∈ pl ++ pp.drop (k + 1)
          · rw [if_pos m, hcc p m, heq p hp]
          · rw [if_neg m, hb p m]
            exact ex3 _ _ (hc' p hp)
        have hc2 : ∀ p ∈ pl ++ pp, cellOf H'' p = (if p ∈ pl ++ pp.drop (k + 1) then (cellOf H' p).map (ren y x) else cellOf H' p) := fun p hp => cellOf_eq (hcell2 p hp)
        refine ⟨rg2, some (.int (k : Nat)), some (.int y), (σ''[6]?).getD none, (σ''[7]?).getD none, x8, ?_, ?_, by rw [hb L hLA]; exact ex3 _ _ hL', by rw [hb P hPA]; exact ex3 _ _ hP', fun p hp => by rw [hc2 p hp]; exact hcell2 p hp, ?_⟩
        · have hlen9 : σ''.length = 9 := hlen
          apply List.ext_getElem?
          intro i
          by_cases h6 : i = 6
          · subst h6
            rw [List.getElem?_eq_getElem (by omega)]
            rfl
          · by_cases h7 : i = 7
            · subst h7
              rw [List.getElem?_eq_getElem (by omega)]
              rfl
            · rw [hg i h7 h6]
              match i, h6, h7 with
              | 0, _, _ => rfl
              | 1, _, _ => rfl
              | 2, _, _ => rfl
              | 3, _, _ => rfl
              | 4, _, _ => rfl
              | 5, _, _ => rfl
              | 8, _, _ => rfl
              | n + 9, _, _ => rfl
        · intro p o e
          have hpn : p ∉ pl ++ pp.drop (k + 1) := fun m => by
            rw [hfree p (hsubA p m)] at e
            cases e
          rw [hb p hpn]
          exact ex3 _ _ (exH p o e)
        · rw [List.range_succ, List.foldl_append, ← hf']
          show _ = joinStep (pl.map (cellOf H'), pp.map (cellOf H'), rg') k
          unfold joinStep
          simp only
          rw [hgd]
          refine Prod.ext ?_ (Prod.ext ?_ ?_)
          · show pl.map (cellOf H'') = (pl.map (cellOf H')).map fun r => r.map (ren y x)
            rw [List.map_map]
            apply List.map_congr_left
            intro p hp
            rw [hc2 p (List.mem_append_left _ hp), if_pos (List.mem_append_left _ hp)]
            rfl
          · show pp.map (cellOf H'') = (pp.map (cellOf H')).take (k + 1) ++ ((pp.map (cellOf H')).drop (k + 1)).map fun r => r.map (ren y x)
            conv => lhs; rw [← List.take_append_drop (k + 1) pp]
            rw [List.map_append, ← List.map_take, ← List.map_drop, List.map_map]
            congr 1
            · apply List.map_congr_left
              intro p hp
              have hpm : p ∈ pl ++ pp := List.mem_append_right _ (List.mem_of_mem_take hp)
              have hpn : p ∉ pl ++ pp.drop (k + 1) := fun m => by
                rcases List.mem_append.mp m with z | z
                · exact (List.nodup_append.mp hnd).2.2 _ z _ (List.mem_of_mem_take hp) rfl
                · have ndpp := (List.nodup_append.mp hnd).2.1
                  rw [← List.take_append_drop (k + 1) pp] at ndpp
                  exact (List.nodup_append.mp ndpp).2.2 _ hp _ z rfl
              rw [hc2 p hpm, if_neg hpn]
            · apply List.map_congr_left
              intro p hp
              rw [hc2 p (List.mem_append_right _ (List.mem_of_mem_drop hp)), if_pos (List.mem_append_right _ hp)]
              rfl
          · show rg2 = _
            rw [hrg2]
            rfl
    -- if pairs[k][0] == old: rings = rings + 1
    refine ⟨V.ref P, rfl, V.int k, rfl, .inl ⟨P, _, _, _, rfl, rfl, SqL.of hP', at_refs hq, .inl ⟨_, _, _, _, rfl, rfl, SqL.of hqc, at0, V.int y, rfl, .inl ⟨rfl, _, rfl, ?_⟩⟩⟩⟩
    by_cases c : x = y
    · rw [decide_eq_true (by rw [c])]
      refine iteT ?_
      refine ⟨V.int rg', rfl, .inl ⟨rg', 1, rfl, rfl, ?_⟩⟩
      exact rest (rg' + 1) (by rw [if_pos c])
    · rw [decide_eq_false (fun z => c (V.int.inj z))]
      refine iteF ?_
      exact rest rg' (by rw [if_neg c])
  · rintro σ' H' ⟨rg', x4, x5, x6, x7, x8, rfl, exH, hL', hP', hc', hf'⟩
    -- return (_law_numbered(left), rings)
    rw [hpp] at hf'
    have hja : joinAll rs ps rg = (pl.map (cellOf H'), pp.map (cellOf H'), rg') := hf'.symm
    rw [hja] at post
    simp only at post
    obtain ⟨Hf2, hHf2⟩ : ∃ Hf2 : Hp, Hf2 = fun a => if a ∈ L :: pl then H' a else Hb a := ⟨_, rfl⟩
    have hfr : ∀ a ∈ L :: pl, H a = none := fun a ha => by
      rcases List.mem_cons.mp ha with z | z
      · exact z ▸ hL0
      · exact hnl a z
    have sub2 : Ex Hf2 H' := fun a o e => by
      rw [hHf2] at e
      simp only at e
      split at e
      · exact e
      · exact exH a o (sub a o e)
    have old2 : Ex Hb Hf2 := fun a o e => by
      rw [hHf2]
      simp only
      have : a ∉ L :: pl := fun m => by
        have h1 := hfr a m
        rw [sub a o e] at h1
        cases h1
      rw [if_neg this]
      exact e
    have hgrow : Grow Hb H Hf2 H' := by
      refine ⟨sub2, old2, fun a o e n => ⟨exH a o e, ?_⟩⟩
      rw [hHf2]
      simp only
      have : a ∉ L :: pl := fun m => by
        have h1 := hfr a m
        rw [e] at h1
        cases h1
      rw [if_neg this]
      exact n
    have hrepl : RepL K Hf2 ((pl.map (cellOf H')).map fun r => D.lst (r.map D.int)) (pl.map V.ref) := by
      have : ∀ qs : List Addr, (∀ p ∈ qs, p ∈ pl) → RepL K Hf2 ((qs.map (cellOf H')).map fun r => D.lst (r.map D.int)) (qs.map V.ref) := by
        intro qs
        induction qs with
        | nil => exact fun _ => .nil
        | cons q qs ih =>
          intro hq
          refine .cons ?_ (ih fun p hp => hq p (List.mem_cons_of_mem _ hp))
          have hm := hq q List.mem_cons_self
          refine .lst (vs := (cellOf H' q).map V.int) ?_ (RepL.ofInts _)
          rw [hHf2]
          simp only
          rw [if_pos (List.mem_cons_of_mem _ hm)]
          exact hc' q (List.mem_append_left _ hm)
      exact this pl fun p hp => hp
    have hLr : Rep K Hf2 (.lst ((pl.map (cellOf H')).map fun r => D.lst (r.map D.int))) (.ref L) := by
      refine .lst (vs := pl.map V.ref) ?_ hrepl
      rw [hHf2]
      simp only
      rw [if_pos List.mem_cons_self]
      exact hL'
    refine ⟨V.ref L, rfl, rfl, [_], Hf2, sub2, .cons hLr .nil, ?_⟩
    cases en : num [.lst ((pl.map (cellOf H')).map fun r => D.lst (r.map D.int))] with
    | bad => rw [en] at post; exact post.elim
    | xc c =>
      rw [en] at post
      intro Hf' H'' g
      exact post Hf' H'' (hgrow.trans g)
    | ok s =>
      rw [en] at post
      intro v Hf' H'' g q
      obtain ⟨Hf3, g3, r3⟩ := q.rep sub2 g
      refine ⟨V.int rg', rfl, by show 2 ≤ sizeLine; decide, fun p hp => ?_⟩
      have gn := Grow.new (o := .tup [v, V.int rg']) g3.sub hp
      have hn3 : Hf3 p = none := g3.sub.none_of hp
      refine post _ _ _ ((hgrow.trans g3).trans gn) ?_
      exact .tup upd_same (.cons (r3.mono (Ex.new hn3).lo) (.cons (.int _) .nil))
end
end DL
set_option maxRecDepth 100000
namespace DL
open PySem PySem.Spec PyProof.Rows L2
section
variable {K : PySem.W.Frag} {cls : Nat → Addr}
/-! ### len(set(xs)), xs a list of ints -/
def tLenSetD (K : PySem.W.Frag) (ta : TE) : TE := fun σ H Q => ta σ H fun x H1 => ∃ (l : Addr) (ns : List Int), x = .ref l ∧ SqL K H1 l (ns.map V.int) ∧ ns.length ≤ 1000 ∧ Q (.int (ns.foldl diff1 []).length) H1
theorem firstMet_diff (ns : List Int) : ∀ i, i ≤ ns.length → PyProof.Rows.firstMet (fun k => ns.getD k 0) i = (ns.take i).foldl diff1 []
  | 0, _ => rfl
  | i + 1, hi => by
    have hlt : i < ns.length := hi
    rw [PyProof.Rows.firstMet_succ, firstMet_diff ns i (Nat.le_of_lt hlt), List.take_succ_eq_append_getElem hlt, List.foldl_append, getD_eq hlt]
    rfl
theorem diff_le (ns : List Int) : (ns.foldl diff1 []).length ≤ ns.length := by
  have key : ∀ (l s : List Int), (l.foldl diff1 s).length ≤ s.length + l.length := by
    intro l
    induction l with
    | nil => intro s; exact Nat.le_refl _
    | cons x l ih =>
      intro s
      have h1 := ih (diff1 s x)
      have h2 : (diff1 s x).length ≤ s.length + 1 := by
        unfold diff1
        split
        · omega
        · rw [List.length_append]; exact Nat.le_refl _
      rw [List.foldl_cons, List.length_cons]
      omega
  have := key ns []
  rwa [List.length_nil, Nat.zero_add] at this
theorem ints_of_vals : ∀ {ns : List Int} {us : List Value}, Vals (ns.map V.int) us → PyProof.Rows.IntsAre us ns
  | [], _, .nil => .nil
  | n :: ns, _, .cons r t => by
    obtain ⟨z, rfl⟩ := r
    exact .cons n z (ints_of_vals t)
theorem pe_lenSetD {X : Cx} {a : Expr} {ta : TE} {p p2 q pos : Pos} (hK : X.K = K) (g1 : Gl X "len") (b1 : X.mg "len" = none) (g2 : Gl X "set") (b2 : X.mg "set" = none) (ha : PE X a ta) (quiet : X.calm = true := by rfl)
    (st : starEach [a] X.env = (false, eval a X.env) :: starEach [] X.env := by rfl) : PE X (.Call (.Name "len" p) [.Call (.Name "set" p2) [a] [] q] [] pos) (tLenSetD K ta) := by
  subst hK
  refine ⟨fun pins s σ H Q I hyp => ?_⟩
  refine Call_ (ld_blt I g1 b1 boot_len ?_)
  refine (PyProof.Rows.callWith_builtin1 (PyProof.Rows.args_cons ?_ rfl) rfl rfl)
  refine Call_ (ld_blt I g2 b2 PyProof.Rows.boot_set ?_)
  refine PyProof.Rows.callWith_type1 (PyProof.Rows.args_cons (thn (ha.run pins s σ H _ I hyp) fun v s1 ⟨x, H1, I1, r1, q1⟩ => PyProof.Rows.args_nil ?_) st) st rfl
  obtain ⟨l, ns, rfl, sq, small, fin⟩ := q1
  cases r1
  obtain ⟨items, rv, il, _⟩ := I1.list sq
  have size : items.toArray.size = ns.length := by rw [List.size_toArray, ← rv.length, List.length_map]
  refine call_set_list (I1.ok.hd quiet) il.isList (by simpa using ints_of_vals rv) (by rw [size]; unfold scanBound; omega) fun heap tok made kept => ?_
  refine (PyProof.Rows.args_nil ?_)
  rw [size, firstMet_diff ns ns.length (Nat.le_refl _), List.take_length] at made
  obtain ⟨o, es, ep, t, ho, hex, hd, _, _, _, hf, hn⟩ := made
  have I2 : Inv X pins σ H1 { s1 with heap := heap, toks := tok } := I1.kept fun b o e => kept b o (Heap.lt_size e) e
  have few := diff_le ns
  exact call_len_set ho hex hd hf (by rw [hn]; omega) ⟨.int (ns.foldl diff1 []).length, H1, I2.tok _, ⟨_, by rw [hn]⟩, fin⟩
theorem de_lenSet {W : WX} {ta : TE} {fa : FE} (ha : DE K W cls ta fa) : DE K W cls (tLenSetD K ta) (eOp1 dLenSet fa) := by
  refine ⟨fun H0 Hf H env σ Q sub x h => ?_⟩
  refine ha.then sub x h.x fun s v Hf1 H1 g1 r1 q => ?_
  unfold dLenSet at q
  split at q
  case h_2 => exact q.elim
  rename_i ds e0
  split at q
  case h_2 => exact q.elim
  rename_i ns e1
  split at q
  case isFalse => exact q.elim
  rename_i hl
  rw [e0] at r1
  obtain ⟨l, vs, rfl, hp, rl⟩ := r1.lst_inv
  rw [rl.ints e1] at hp
  exact ⟨l, ns, rfl, SqL.of (g1.sub _ _ hp), hl, q _ _ H1 g1 (.int _)⟩
/-! ### a cell of a list of cells -/
abbrev t_cell (K : PySem.W.Frag) (k : Int) : TE := tOp (rIx K) (L2.tVar 10) (tC (.int k))
abbrev t_far (K : PySem.W.Frag) (i : Nat) : TE := tOp (rI (fun _ j => 0 < j) fun i j => .int (i % j)) (tOp (rAddG K) (L2.tVar i) (tC (.int 2))) (tC (.int 4))
abbrev t_asg (K : PySem.W.Frag) (k : Int) (ti te : TE) : TS := tAsg te (gSub (t_cell K k) ti rSetL)
theorem ix_nat {α : Type} {n : Nat} {k : Int} (h : 0 ≤ k ∧ k < n) : ixN n k = some k.toNat := by
  unfold ixN
  rw [if_pos h.1, if_pos h.2]
theorem nest_step {σ : L2.St} {H : Hp} {N A : Addr} {as : List Addr} {n : List Int} {kk : Nat} {k z : Int} {ti te : TE} {D : Ends} {u : TS}
    (hσ : σ[10]? = some (some (.ref N))) (hN : H N = some (.lst (as.map V.ref))) (hA : as[kk]? = some A) (hn : H A = some (.lst (n.map V.int))) (hk : 0 ≤ k ∧ k < n.length)
    (hte : ∀ Q : VK, Q (.int z) H → te σ H Q) (hti : ∀ Q : VK, Q (.int k) H → ti σ H Q)
    (next : u D σ (upd H A (.lst ((put4 n k z).map V.int)))) : tSeq (t_asg K (kk : Int) ti te) u D σ H := by
  refine seq_asg ?_
  refine hte _ ?_
  refine ⟨_, hσ, .inl ⟨N, _, _, _, rfl, rfl, SqL.of hN, at_refs hA, hti _ ⟨A, _, k, k.toNat, rfl, rfl, hn, ix_nat (α := Nat) (by rw [List.length_map]; exact hk), ?_⟩⟩⟩
  have e : (n.map V.int).set k.toNat (V.int z) = (put4 n k z).map V.int := List.map_set.symm
  rw [e]
  exact next
def HasI (H : Hp) (v : V) (xs : List Int) : Prop := ∃ p, v = .ref p ∧ (H p = some (.lst (xs.map V.int)) ∨ H p = some (.tup (xs.map V.int)))
theorem src_at {σ : L2.St} {H : Hp} {v : V} {xs : List Int} {s : Nat} {j : Int} {tix : TE} (hσ : σ[s]? = some (some v)) (hv : HasI H v xs) (hj : 0 ≤ j ∧ j < xs.length) (hix : ∀ Q : VK, Q (.int j) H → tix σ H Q) (Q : VK) (q : Q (.int (at4 xs j)) H) : tOp (rIx K) (L2.tVar s) tix σ H Q := by
  obtain ⟨p, rfl, hp⟩ := hv
  have hx : xs[j.toNat]? = some (at4 xs j) := by
    unfold at4
    rw [List.getElem?_eq_getElem (by omega), getD_eq (by omega)]
  have ha := at_ints hx
  rw [Int.toNat_of_nonneg hj.1] at ha
  refine ⟨_, hσ, hix _ ?_⟩
  rcases hp with hp | hp
  · exact .inl ⟨_, _, _, _, rfl, rfl, SqL.of hp, ha, q⟩
  · exact .inr (.inl ⟨_, _, _, _, rfl, rfl, SqT.of hp, ha, q⟩)
theorem var_at {σ : L2.St} {H : Hp} {s : Nat} {k : Int} (hσ : σ[s]? = some (some (.int k))) (Q : VK) (q : Q (.int k) H) : L2.tVar s σ H Q := ⟨_, hσ, q⟩
theorem far_at {σ : L2.St} {H : Hp} {s : Nat} {k : Int} (hσ : σ[s]? = some (some (.int k))) (Q : VK) (q : Q (.int (far4 k)) H) : t_far K s σ H Q :=
  ⟨_, hσ, .inl ⟨k, 2, rfl, rfl, k + 2, 4, rfl, rfl, (show (0 : Int) < 4 by decide), q⟩⟩
theorem far_rng (k : Int) : 0 ≤ far4 k ∧ far4 k < 4 := by unfold far4; omega
theorem put_len (r : List Int) (k v : Int) : (put4 r k v).length = r.length := List.length_set
def t_lawSlid (K : PySem.W.Frag) : TS :=
  tSeq (tAsg (tOp (rIx K) (L2.tVar 3) (tC (.int 0))) (gName 4))
  (tSeq (tAsg (tOp (rIx K) (L2.tVar 3) (tC (.int 1))) (gName 5))
  (tSeq (tAsg (tOp (rIx K) (L2.tVar 3) (tC (.int 2))) (gName 6))
  (tSeq (tAsg (tOp (rIx K) (L2.tVar 3) (tC (.int 3))) (gName 7))
  (tSeq (tAsg (tOp (rIx K) (L2.tVar 3) (tC (.int 4))) (gName 8))
  (tSeq (tAsg (tOp (rIx K) (L2.tVar 3) (tC (.int 5))) (gName 9))
  (tSeq (tAsg (tLst (tCons (tCB (rListG K) (tCons (L2.tVar 0) tNil)) (tCons (tCB (rListG K) (tCons (L2.tVar 1) tNil)) (tCons (tCB (rListG K) (tCons (L2.tVar 2) tNil)) tNil)))) (gName 10))
  (tSeq (t_asg K 0 (t_far K 5) (tOp (rIx K) (L2.tVar 0) (L2.tVar 5)))
  (tSeq (t_asg K 0 (L2.tVar 5) (tOp (rIx K) (L2.tVar 1) (t_far K 6)))
  (tSeq (t_asg K 0 (t_far K 4) (tOp (rIx K) (L2.tVar 0) (L2.tVar 4)))
  (tSeq (t_asg K 0 (L2.tVar 4) (tOp (rIx K) (L2.tVar 2) (t_far K 9)))
  (tSeq (t_asg K 1 (L2.tVar 6) (tOp (rIx K) (L2.tVar 0) (t_far K 5)))
  (tSeq (t_asg K 1 (t_far K 6) (tOp (rIx K) (L2.tVar 0) (L2.tVar 5)))
  (tSeq (t_asg K 1 (t_far K 7) (tOp (rIx K) (L2.tVar 1) (L2.tVar 7)))
  (tSeq (t_asg K 1 (L2.tVar 7) (tOp (rIx K) (L2.tVar 2) (t_far K 8)))
  (tSeq (t_asg K 2 (L2.tVar 9) (tOp (rIx K) (L2.tVar 0) (t_far K 4)))
  (tSeq (t_asg K 2 (t_far K 9) (tOp (rIx K) (L2.tVar 0) (L2.tVar 4)))
  (tSeq (t_asg K 2 (L2.tVar 8) (tOp (rIx K) (L2.tVar 1) (t_far K 7)))
  (tSeq (t_asg K 2 (t_far K 8) (tOp (rIx K) (L2.tVar 1) (L2.tVar 7)))
   (tRet (tLst (tCons (tCB (rTupleG K) (tCons (t_cell K 0) tNil)) (tCons (tCB (rTupleG K) (tCons (t_cell K 1) tNil)) (tCons (tCB (rTupleG K) (tCons (t_cell K 2) tNil)) tNil)))))))))))))))))))))))
/-- a list of the items of a sequence of ints -/
theorem list_of {σ : L2.St} {H : Hp} {v : V} {xs : List Int} {s : Nat} {tr : TA} {Q : List V → Hp → Prop} (hσ : σ[s]? = some (some v)) (hv : HasI H v xs) (hl : xs.length ≤ 4) (k : ∀ l, H l = none → tr σ (upd H l (.lst (xs.map V.int))) fun ys H2 => Q (.ref l :: ys) H2) : tCons (tCB (rListG K) (tCons (L2.tVar s) tNil)) tr σ H Q := by
  obtain ⟨p, rfl, hp⟩ := hv
  refine ⟨_, hσ, p, xs.map V.int, rfl, ?_, k⟩
  rcases hp with hp | hp
  · exact .inl (SqL.of hp)
  · exact .inr (SqT.of hp)
theorem tuple_of {σ : L2.St} {H : Hp} {N A : Addr} {as : List Addr} {xs : List Int} {kk : Nat} {tr : TA} {Q : List V → Hp → Prop} (hσ : σ[10]? = some (some (.ref N))) (hN : H N = some (.lst (as.map V.ref))) (hA : as[kk]? = some A) (hn : H A = some (.lst (xs.map V.int))) (k : ∀ l, H l = none → tr σ (upd H l (.tup (xs.map V.int))) fun ys H2 => Q (.ref l :: ys) H2) : tCons (tCB (rTupleG K) (tCons (t_cell K (kk : Int)) tNil)) tr σ H Q := by
  refine ⟨_, hσ, .inl ⟨N, _, _, _, rfl, rfl, SqL.of hN, at_refs hA, A, xs.map V.int, rfl, .inl ⟨SqL.of hn, k⟩⟩⟩
theorem HasI.ex {H H' : Hp} {v : V} {xs : List Int} (h : HasI H v xs) (e : Ex H H') : HasI H' v xs := by
  obtain ⟨p, rfl, hp⟩ := h
  refine ⟨p, rfl, ?_⟩
  rcases hp with hp | hp
  · exact .inl (e _ _ hp)
  · exact .inr (e _ _ hp)
theorem slid_reading {vs : List V} {H : Hp} {Q : VK} {E : XK} (h : spF K cls 4 slidF vs H Q E) :
    t_lawSlid K { nx := fun _ H' => Q .non H', rt := Q } (start ["c", "g", "h", "parts", "p", "i", "j", "r", "q", "o", "new"] vs) H := by
  obtain ⟨hl, ds, Hb, sub, r, post⟩ := h
  unfold slidF at post
  split at post
  case h_2 => exact post.elim
  rename_i da db dd de
  split at post
  case h_2 => exact post.elim
  rename_i c g h p i j r' q o ea eb ed ee
  split at post
  case isFalse => exact post.elim
  rename_i hsz
  obtain ⟨⟨lc, lg, lh⟩, hr6⟩ := hsz
  cases r with
  | cons r0 r =>
  cases r with
  | cons r1 r =>
  cases r with
  | cons r2 r =>
  cases r with
  | cons r3 r =>
  cases r with
  | nil =>
  rename_i v0 v1 v2 v3
  have hasI : ∀ {d : D} {xs : List Int} {v : V}, intsD d = some xs → Rep K Hb d v → HasI H v xs := fun e rp => by
    obtain ⟨a, rfl, ha⟩ := intsD_rep e rp
    refine ⟨a, rfl, ?_⟩
    rcases ha with ha | ha
    · exact .inl (sub _ _ ha)
    · exact .inr (sub _ _ ha)
  have Hc := hasI ea r0
  have Hg := hasI eb r1
  have Hh := hasI ed r2
  have Hp6 := hasI ee r3
  have bp := hr6 p (by simp)
  have bi := hr6 i (by simp)
  have bj := hr6 j (by simp)
  have br := hr6 r' (by simp)
  have bq := hr6 q (by simp)
  have bo := hr6 o (by simp)
  have hst : start ["c", "g", "h", "parts", "p", "i", "j", "r", "q", "o", "new"] [v0, v1, v2, v3] = [some v0, some v1, some v2, some v3, none, none, none, none, none, none, none] := rfl
  rw [hst]
  unfold t_lawSlid
  refine seq_asg (src_at (s := 3) (j := 0) rfl Hp6 (by simp) (fun Q q => q) _ ?_)
  refine seq_asg (src_at (s := 3) (j := 1) rfl Hp6 (by simp) (fun Q q => q) _ ?_)
  refine seq_asg (src_at (s := 3) (j := 2) rfl Hp6 (by simp) (fun Q q => q) _ ?_)
  refine seq_asg (src_at (s := 3) (j := 3) rfl Hp6 (by simp) (fun Q q => q) _ ?_)
  refine seq_asg (src_at (s := 3) (j := 4) rfl Hp6 (by simp) (fun Q q => q) _ ?_)
  refine seq_asg (src_at (s := 3) (j := 5) rfl Hp6 (by simp) (fun Q q => q) _ ?_)
  refine seq_asg ?_
  refine list_of (s := 0) rfl Hc (by omega) fun a0 n0 => ?_
  have x1 : Ex H (upd H a0 (.lst (c.map V.int))) := Ex.new n0
  refine list_of (s := 1) rfl (Hg.ex x1) (by omega) fun a1 n1 => ?_
  have x2 := x1.trans (Ex.new (o := .lst (g.map V.int)) n1)
  refine list_of (s := 2) rfl (Hh.ex x2) (by omega) fun a2 n2 => ?_
  have x3 := x2.trans (Ex.new (o := .lst (h.map V.int)) n2)
  refine ⟨by show 3 ≤ sizeLine; decide, fun N nN => ?_⟩
  have h01 : a0 ≠ a1 := fun e => by rw [← e, upd_same] at n1; cases n1
  have m1 : H a1 = none := x1.none_of n1
  have h12 : a1 ≠ a2 := fun e => by rw [← e, upd_same] at n2; cases n2
  have h02 : a0 ≠ a2 := fun e => by rw [← e, upd_ne h01, upd_same] at n2; cases n2
  have m2 : H a2 = none := x2.none_of n2
  have hN2 : a2 ≠ N := fun e => by rw [← e, upd_same] at nN; cases nN
  have hN1 : a1 ≠ N := fun e => by rw [← e, upd_ne h12, upd_same] at nN; cases nN
  have hN0 : a0 ≠ N := fun e => by rw [← e, upd_ne h02, upd_ne h01, upd_same] at nN; cases nN
  have mN : H N = none := x3.none_of nN
  have x4 := x3.trans (Ex.new (o := .lst [.ref a0, .ref a1, .ref a2]) nN)
  obtain ⟨H4, e4⟩ : ∃ H4, H4 = upd (upd (upd (upd H a0 (.lst (c.map V.int))) a1 (.lst (g.map V.int))) a2 (.lst (h.map V.int))) N (.lst [.ref a0, .ref a1, .ref a2]) := ⟨_, rfl⟩
  have I4 : Ex H H4 ∧ H4 N = some (.lst ([a0, a1, a2].map V.ref)) ∧ H4 a0 = some (.lst (c.map V.int)) ∧ H4 a1 = some (.lst (g.map V.int)) ∧ H4 a2 = some (.lst (h.map V.int)) := by
    rw [e4]
    exact ⟨x4, upd_same, by rw [upd_ne hN0, upd_ne h02, upd_ne h01, upd_same], by rw [upd_ne hN1, upd_ne h12, upd_same], by rw [upd_ne hN2, upd_same]⟩
  show tSeq _ _ _ ([some v0, some v1, some v2, some v3, some (.int p), some (.int i), some (.int j), some (.int r'), some (.int q), some (.int o), some (.ref N)] : L2.St) (upd (upd (upd (upd H a0 (.lst (c.map V.int))) a1 (.lst (g.map V.int))) a2 (.lst (h.map V.int))) N (.lst [.ref a0, .ref a1, .ref a2]))
  rw [← e4]
  clear e4
  -- one more change of a cell
  have up0 : ∀ {G : Hp} {x y z w : List Int}, (Ex H G ∧ G N = some (.lst ([a0, a1, a2].map V.ref)) ∧ G a0 = some (.lst (x.map V.int)) ∧ G a1 = some (.lst (y.map V.int)) ∧ G a2 = some (.lst (z.map V.int))) →
      (Ex H (upd G a0 (.lst (w.map V.int))) ∧ (upd G a0 (.lst (w.map V.int))) N = some (.lst ([a0, a1, a2].map V.ref)) ∧ (upd G a0 (.lst (w.map V.int))) a0 = some (.lst (w.map V.int)) ∧ (upd G a0 (.lst (w.map V.int))) a1 = some (.lst (y.map V.int)) ∧ (upd G a0 (.lst (w.map V.int))) a2 = some (.lst (z.map V.int))) := fun {G x y z w} ⟨q1, q2, q3, q4, q5⟩ =>
    ⟨fun a u e => by rw [upd_ne (ne_of_none e n0)]; exact q1 a u e, by rw [upd_ne hN0.symm]; exact q2, upd_same, by rw [upd_ne h01.symm]; exact q4, by rw [upd_ne h02.symm]; exact q5⟩
  have up1' : ∀ {G : Hp} {x y z w : List Int}, (Ex H G ∧ G N = some (.lst ([a0, a1, a2].map V.ref)) ∧ G a0 = some (.lst (x.map V.int)) ∧ G a1 = some (.lst (y.map V.int)) ∧ G a2 = some (.lst (z.map V.int))) →
      (Ex H (upd G a1 (.lst (w.map V.int))) ∧ (upd G a1 (.lst (w.map V.int))) N = some (.lst ([a0, a1, a2].map V.ref)) ∧ (upd G a1 (.lst (w.map V.int))) a0 = some (.lst (x.map V.int)) ∧ (upd G a1 (.lst (w.map V.int))) a1 = some (.lst (w.map V.int)) ∧ (upd G a1 (.lst (w.map V.int))) a2 = some (.lst (z.map V.int))) := fun {G x y z w} ⟨q1, q2, q3, q4, q5⟩ =>
    ⟨fun a u e => by rw [upd_ne (ne_of_none e m1)]; exact q1 a u e, by rw [upd_ne hN1.symm]; exact q2, by rw [upd_ne h01]; exact q3, upd_same, by rw [upd_ne h12.symm]; exact q5⟩
  have up2 : ∀ {G : Hp} {x y z w : List Int}, (Ex H G ∧ G N = some (.lst ([a0, a1, a2].map V.ref)) ∧ G a0 = some (.lst (x.map V.int)) ∧ G a1 = some (.lst (y.map V.int)) ∧ G a2 = some (.lst (z.map V.int))) →
      (Ex H (upd G a2 (.lst (w.map V.int))) ∧ (upd G a2 (.lst (w.map V.int))) N = some (.lst ([a0, a1, a2].map V.ref)) ∧ (upd G a2 (.lst (w.map V.int))) a0 = some (.lst (x.map V.int)) ∧ (upd G a2 (.lst (w.map V.int))) a1 = some (.lst (y.map V.int)) ∧ (upd G a2 (.lst (w.map V.int))) a2 = some (.lst (w.map V.int))) := fun {G x y z w} ⟨q1, q2, q3, q4, q5⟩ =>
    ⟨fun a u e => by rw [upd_ne (ne_of_none e m2)]; exact q1 a u e, by rw [upd_ne hN2.symm]; exact q2, by rw [upd_ne h02]; exact q3, by rw [upd_ne h12]; exact q4, upd_same⟩
  obtain ⟨ex, dN, d0, d1, d2⟩ := I4
  refine nest_step (K := K) (kk := 0) (k := far4 i) (z := at4 c i) rfl dN rfl d0 (by rw [lc]; exact far_rng i) (src_at rfl (Hc.ex ex) (by omega) (var_at rfl)) (far_at rfl) ?_
  obtain ⟨ex, dN, d0, d1, d2⟩ := up0 (w := put4 c (far4 i) (at4 c i)) ⟨ex, dN, d0, d1, d2⟩
  refine nest_step (K := K) (kk := 0) (k := i) (z := at4 g (far4 j)) rfl dN rfl d0 (by rw [put_len]; omega) (src_at rfl (Hg.ex ex) (by rw [lg]; exact far_rng j) (far_at rfl)) (var_at rfl) ?_
  obtain ⟨ex, dN, d0, d1, d2⟩ := up0 (w := put4 (put4 c (far4 i) (at4 c i)) i (at4 g (far4 j))) ⟨ex, dN, d0, d1, d2⟩
  refine nest_step (K := K) (kk := 0) (k := far4 p) (z := at4 c p) rfl dN rfl d0 (by rw [put_len, put_len, lc]; exact far_rng p) (src_at rfl (Hc.ex ex) (by omega) (var_at rfl)) (far_at rfl) ?_
  obtain ⟨ex, dN, d0, d1, d2⟩ := up0 (w := put4 (put4 (put4 c (far4 i) (at4 c i)) i (at4 g (far4 j))) (far4 p) (at4 c p)) ⟨ex, dN, d0, d1, d2⟩
  refine nest_step (K := K) (kk := 0) (k := p) (z := at4 h (far4 o)) rfl dN rfl d0 (by rw [put_len, put_len, put_len]; omega) (src_at rfl (Hh.ex ex) (by rw [lh]; exact far_rng o) (far_at rfl)) (var_at rfl) ?_
  obtain ⟨ex, dN, d0, d1, d2⟩ := up0 (w := slidC c g h p i j o) ⟨ex, dN, d0, d1, d2⟩
  refine nest_step (K := K) (kk := 1) (k := j) (z := at4 c (far4 i)) rfl dN rfl d1 (by omega) (src_at rfl (Hc.ex ex) (by rw [lc]; exact far_rng i) (far_at rfl)) (var_at rfl) ?_
  obtain ⟨ex, dN, d0, d1, d2⟩ := up1' (w := put4 g j (at4 c (far4 i))) ⟨ex, dN, d0, d1, d2⟩
  refine nest_step (K := K) (kk := 1) (k := far4 j) (z := at4 c i) rfl dN rfl d1 (by rw [put_len, lg]; exact far_rng j) (src_at rfl (Hc.ex ex) (by omega) (var_at rfl)) (far_at rfl) ?_
  obtain ⟨ex, dN, d0, d1, d2⟩ := up1' (w := put4 (put4 g j (at4 c (far4 i))) (far4 j) (at4 c i)) ⟨ex, dN, d0, d1, d2⟩
  refine nest_step (K := K) (kk := 1) (k := far4 r') (z := at4 g r') rfl dN rfl d1 (by rw [put_len, put_len, lg]; exact far_rng r') (src_at rfl (Hg.ex ex) (by omega) (var_at rfl)) (far_at rfl) ?_
  obtain ⟨ex, dN, d0, d1, d2⟩ := up1' (w := put4 (put4 (put4 g j (at4 c (far4 i))) (far4 j) (at4 c i)) (far4 r') (at4 g r')) ⟨ex, dN, d0, d1, d2⟩
  refine nest_step (K := K) (kk := 1) (k := r') (z := at4 h (far4 q)) rfl dN rfl d1 (by rw [put_len, put_len, put_len]; omega) (src_at rfl (Hh.ex ex) (by rw [lh]; exact far_rng q) (far_at rfl)) (var_at rfl) ?_
  obtain ⟨ex, dN, d0, d1, d2⟩ := up1' (w := slidG c g h i j r' q) ⟨ex, dN, d0, d1, d2⟩
  refine nest_step (K := K) (kk := 2) (k := o) (z := at4 c (far4 p)) rfl dN rfl d2 (by omega) (src_at rfl (Hc.ex ex) (by rw [lc]; exact far_rng p) (far_at rfl)) (var_at rfl) ?_
  obtain ⟨ex, dN, d0, d1, d2⟩ := up2 (w := put4 h o (at4 c (far4 p))) ⟨ex, dN, d0, d1, d2⟩
  refine nest_step (K := K) (kk := 2) (k := far4 o) (z := at4 c p) rfl dN rfl d2 (by rw [put_len, lh]; exact far_rng o) (src_at rfl (Hc.ex ex) (by omega) (var_at rfl)) (far_at rfl) ?_
  obtain ⟨ex, dN, d0, d1, d2⟩ := up2 (w := put4 (put4 h o (at4 c (far4 p))) (far4 o) (at4 c p)) ⟨ex, dN, d0, d1, d2⟩
  refine nest_step (K := K) (kk := 2) (k := q) (z := at4 g (far4 r')) rfl dN rfl d2 (by rw [put_len, put_len]; omega) (src_at rfl (Hg.ex ex) (by rw [lg]; exact far_rng r') (far_at rfl)) (var_at rfl) ?_
  obtain ⟨ex, dN, d0, d1, d2⟩ := up2 (w := put4 (put4 (put4 h o (at4 c (far4 p))) (far4 o) (at4 c p)) q (at4 g (far4 r'))) ⟨ex, dN, d0, d1, d2⟩
  refine nest_step (K := K) (kk := 2) (k := far4 q) (z := at4 g r') rfl dN rfl d2 (by rw [put_len, put_len, put_len, lh]; exact far_rng q) (src_at rfl (Hg.ex ex) (by omega) (var_at rfl)) (far_at rfl) ?_
  obtain ⟨ex, dN, d0, d1, d2⟩ := up2 (w := slidH c g h p r' q o) ⟨ex, dN, d0, d1, d2⟩
  -- return [tuple(new[0]), tuple(new[1]), tuple(new[2])]
  have grow0 : ∀ {G : Hp}, Ex H G → Grow Hb H Hb G := fun {G} e => ⟨sub.trans e, .refl Hb, fun a u e1 n => ⟨e a u e1, n⟩⟩
  unfold tRet tLst
  dsimp only
  refine tuple_of (kk := 0) rfl dN rfl d0 fun b0 f0 => ?_
  have g0 := (grow0 ex).trans (Grow.new (o := .tup ((slidC c g h p i j o).map V.int)) (sub.trans ex) f0)
  have y0 := Ex.new (o := .tup ((slidC c g h p i j o).map V.int)) f0
  refine tuple_of (kk := 1) rfl (y0 _ _ dN) rfl (y0 _ _ d1) fun b1 f1 => ?_
  have g1 := g0.trans (Grow.new (o := .tup ((slidG c g h i j r' q).map V.int)) g0.sub f1)
  have y1 := y0.trans (Ex.new (o := .tup ((slidG c g h i j r' q).map V.int)) f1)
  refine tuple_of (kk := 2) rfl (y1 _ _ dN) rfl (y1 _ _ d2) fun b2 f2 => ?_
  have g2 := g1.trans (Grow.new (o := .tup ((slidH c g h p r' q o).map V.int)) g1.sub f2)
  refine ⟨by show 3 ≤ sizeLine; decide, fun T fT => ?_⟩
  have g3 := g2.trans (Grow.new (o := .lst [.ref b0, .ref b1, .ref b2]) g2.sub fT)
  have s2 := Ex.new (o := .tup ((slidH c g h p r' q o).map V.int)) (g1.sub.none_of f2)
  have s1 := Ex.new (o := .tup ((slidG c g h i j r' q).map V.int)) (g0.sub.none_of f1)
  have sT := Ex.new (o := .lst [.ref b0, .ref b1, .ref b2]) (g2.sub.none_of fT)
  refine post _ _ _ g3 ?_
  refine .lst upd_same (.cons (.tup (vs := (slidC c g h p i j o).map V.int) (sT _ _ (s2 _ _ (s1 _ _ upd_same))) (RepL.ofInts _)) (.cons (.tup (vs := (slidG c g h i j r' q).map V.int) (sT _ _ (s2 _ _ upd_same)) (RepL.ofInts _)) (.cons (.tup (vs := (slidH c g h p r' q o).map V.int) (sT _ _ upd_same) (RepL.ofInts _)) .nil)))
/-! ### try .. except, the class told -/
structure ErrE (K : PySem.W.Frag) (mg : Str → Option Value) (cls : Nat → Addr) (cE : Addr) : Prop where
  gE : mg "CordError" = some (.ref cE)
  exm : ∀ c, c < 5 → PySem.W.exmOne K (.ref (cls c)) (.ref cE) = some true
theorem ds_try5 {cE : Value} {tb : WX → TS} {ts : Addr → Value → Option Addr → TS} {F G : FS} (hb : ∀ W, DS K W cls (tb W) F) (hs : ∀ a c d, DS K W0 cls (ts a c d) G) (hx : ∀ c, c < 5 → PySem.W.exmOne K (.ref (cls c)) cE = some true) (hG : ∀ e c e', G e ≠ .xc c e') :
    DS K W cls (fun D σ H => tb (wOnly K cE ts (fun _ _ _ _ => False) D) D σ H) (sTry5 F G) := by
  refine ⟨fun Hb H0 Hf H env σ D x h => ?_⟩
  refine (hb _).run Hb H0 Hf H env σ D x ?_
  unfold sTry5 at h
  cases e : F env with
  | nx e' => rw [e] at h; exact h
  | rt s => rw [e] at h; exact h
  | bad => rw [e] at h; exact h
  | xc c e' =>
    rw [e] at h
    intro Hf' H' σ' l' x'
    have h1 : PostS K W cls Hb H0 Hf (if c < 5 then G e' else .bad) D := h
    by_cases hc : c < 5
    · rw [if_pos hc] at h1
      refine ⟨true, hx c hc, fun _ a ha => ?_, fun z => by cases z⟩
      refine (hs a _ none).run Hb H0 Hf' H' e' σ' D x' ?_
      have h3 := PostS.mono h1 l'
      cases eg : G e' with
      | nx e2 => rw [eg] at h3; exact h3
      | rt s => rw [eg] at h3; exact h3
      | bad => rw [eg] at h3; exact h3
      | xc c2 e2 => exact absurd eg (hG _ _ _)
    · rw [if_neg hc] at h1
      exact h1.elim
theorem sSetVar_xc {i j : Nat} {e : Env} {c : Nat} {e' : Env} (h : sSet i (eVar j) e = .xc c e') : False := by
  unfold sSet eVar at h
  split at h
  · cases h
  · cases h
end
end DL
set_option maxRecDepth 100000
namespace DL
open PySem PySem.Spec PyProof.Rows L2
/-! DS4: dicts of whole numbers that a def fills for its caller -/
/-- a def that may be called by its name, by any promise -/
structure CalS (P : Program) (w : World) (K : PySem.W.Frag) (mg : Str → Option Value) (base : Heap) (x : Str) (ps : List Str) (k : Nat) (sp : Sp) : Prop where
  ex : ∃ (fa : Addr) (fd : FuncData), FnOk P w K mg base (L2.CX P w) k fa fd ps sp ∧ mg x = some (.ref fa) ∧ PySem.W.keepIn K (.ref fa) = true ∧ Binds K fd ps []
theorem pe_calS {X : Cx} {W : WX} {x : Str} {ps : List Str} {k : Nat} {sp : Sp} {p pos : Pos} {e : Expr} {es : List Expr} {t : TA} (C : CalS X.prog X.w X.K X.mg X.base x ps k sp) (hr : Room k X.A) (hg : Gl X x) (tk : Takes X W) (ha : PA X (e :: es) t)
    (hdb : (x == ("__debug__" : Str)) = false := by decide) (he : starEach (e :: es) X.env = (false, eval e X.env) :: starEach es X.env := by rfl) (hpl : (backTo pos (starEach es X.env)).any (·.1) = false := by rfl) :
    PE X (.Call (.Name x p) (e :: es) [] pos) (tCallS sp (WE W) t) := by
  obtain ⟨fa, fd, F, hm, hk, hb⟩ := C.ex
  exact pe_callS F hr hg hm hk hb (fun σ => passAt tk σ) ha hdb he hpl
theorem pe_calSK {X : Cx} {P : Program} {w : World} {K : PySem.W.Frag} {mg : Str → Option Value} {base : Heap} {W : WX} {x : Str} {ps : List Str} {k : Nat} {sp : Sp} {p pos : Pos} {e : Expr} {es : List Expr} {t : TA} (C : CalS P w K mg base x ps k sp)
    (h1 : X.prog = P) (h2 : X.w = w) (h3 : X.K = K) (h4 : X.mg = mg) (h5 : X.base = base) (hr : Room k X.A) (hg : Gl X x) (tk : Takes X W) (ha : PA X (e :: es) t)
    (hdb : (x == ("__debug__" : Str)) = false := by decide) (he : starEach (e :: es) X.env = (false, eval e X.env) :: starEach es X.env := by rfl) (hpl : (backTo pos (starEach es X.env)).any (·.1) = false := by rfl) :
    PE X (.Call (.Name x p) (e :: es) [] pos) (tCallS sp (WE W) t) := by
  subst h1 h2 h3 h4 h5
  exact pe_calS C hr hg tk ha hdb he hpl
/-- code that is never come to -/
theorem pe_dead {X : Cx} (e : Expr) : PE X e (fun _ _ _ => False) := ⟨fun _ _ _ _ _ _ h => h.elim⟩
theorem de_dead {K : PySem.W.Frag} {W : WX} {cls : Nat → Addr} {e : FE} (h : ∀ env, e env = .bad := by intro env; rfl) : DE K W cls (fun _ _ _ => False) e := ⟨fun H0 Hf H env σ Q sub x p => by
  rw [h env] at p
  exact p⟩
/-! ### the keys of a dict, locked or not -/
def iKeysE (td : TE) : TI := fun σ H R => td σ H fun x H1 => ∃ d kvs, x = .ref d ∧ ((H1 d = some (.dK kvs) ∧ ∀ od, R (Itk d od kvs) (upd H1 d (.frz od (.dK kvs)))) ∨ ∃ od, H1 d = some (.frz od (.dK kvs)) ∧ R (Itk d od kvs) H1)
theorem pi_keysE {X : Cx} {tg e : Expr} {td : TE} (he : PE X e td) : PI X tg e (iKeysE td) := by
  refine ⟨fun pins s σ H R I h => ?_⟩
  refine thn (he.run pins s σ H _ I h) fun u s1 ⟨x, H1, I1, rx, d, kvs, ex, q⟩ => ?_
  subst ex
  obtain rfl : u = Value.ref d := rx
  rcases q with ⟨hd, q⟩ | ⟨od, hd, q⟩
  · obtain ⟨od, I2⟩ := I1.lock hd trivial
    obtain ⟨hs, hgd, hx, es, ep, vs, hdt, hsz, kv, hm⟩ := I2.frzK upd_same
    refine iter_keys hs hgd hx hdt (pi_one (tk := s1.toks) I2 _ (turn_keys _ hdt) ⟨_, Heap.get?_push_size _ rfl, rfl, ?_⟩ (q od))
    rw [hsz] <;> rfl
  · obtain ⟨hs, hgd, hx, es, ep, vs, hdt, hsz, kv, hm⟩ := I1.frzK hd
    refine iter_keys hs hgd hx hdt (pi_one (tk := s1.toks) I1 _ (turn_keys _ hdt) ⟨_, Heap.get?_push_size _ rfl, rfl, ?_⟩ q)
    rw [hsz] <;> rfl
/-! ### sums by power in a heap -/
def kI (l : IK) : List (Key × V) := (toF l).map kqV
theorem getA_toF (l : IK) (k : Int) : ((getA (toF l) k).map Fv.v).getD (.int 0) = .int (getZ l k) := by
  unfold getA toF getZ
  rw [List.find?_map]
  have e : ((fun p : Int × Fv => p.1 == k) ∘ fun p : Int × Int => (p.1, Fv.int p.2)) = fun p => p.1 == k := rfl
  rw [e]
  cases l.find? fun p => p.1 == k with
  | none => rfl
  | some p => rfl
theorem val_kI (l : IK) (k : Int) : (valV (kI l) (Sum.inl k : Key)).getD (.int 0) = .int (getZ l k) := by
  unfold kI
  rw [val_get]
  exact getA_toF l k
theorem val_kI_some {l : IK} {p : Int × Int} (h : p ∈ l) : valV (kI l) (Sum.inl p.1 : Key) = some (.int (getZ l p.1)) := by
  have h1 := val_kI l p.1
  have h2 : (valV (kI l) (Sum.inl p.1 : Key)).isSome = true := by
    unfold kI
    rw [val_get, Option.isSome_map]
    unfold getA toF
    rw [List.find?_map, Option.isSome_map, Option.isSome_map]
    have e : ((fun q : Int × Fv => q.1 == p.1) ∘ fun q : Int × Int => (q.1, Fv.int q.2)) = fun q => q.1 == p.1 := rfl
    rw [e, List.find?_isSome]
    exact ⟨p, h, by simp⟩
  cases q : valV (kI l) (Sum.inl p.1 : Key) with
  | none => rw [q] at h2; cases h2
  | some v =>
    rw [q] at h1
    exact congrArg some h1
theorem put_kI (l : IK) (k v : Int) : putK (kI l) (Sum.inl k : Key) (.int v) = kI (putZ l k v) := by
  unfold kI
  have h := put_kq (toF l) k (.int v)
  rw [show (Fv.int v).v = V.int v from rfl] at h
  rw [h]
  congr 1
  unfold putA putZ toF
  rw [List.any_map]
  have e : ((fun p : Int × Fv => p.1 == k) ∘ fun p : Int × Int => (p.1, Fv.int p.2)) = fun p => p.1 == k := rfl
  rw [e]
  by_cases c : (l.any fun p => p.1 == k) = true
  · rw [if_pos c, if_pos c, List.map_map, List.map_map]
    refine List.map_congr_left fun p _ => ?_
    show (if (p.1 == k) = true then (p.1, Fv.int v) else (p.1, Fv.int p.2)) = ((if (p.1 == k) = true then (p.1, v) else p).1, Fv.int (if (p.1 == k) = true then (p.1, v) else p).2)
    by_cases q : (p.1 == k) = true
    · rw [if_pos q, if_pos q]
    · rw [if_neg q, if_neg q]
  · rw [if_neg c, if_neg c, List.map_append]
    rfl
theorem putZ_len (l : IK) (k v : Int) : (putZ l k v).length ≤ l.length + 1 := by
  unfold putZ
  split
  · rw [List.length_map]; omega
  · rw [List.length_append]; exact Nat.le_refl _
theorem kI_len (l : IK) : (kI l).length = l.length := by
  unfold kI toF
  rw [List.length_map, List.length_map]
/-! ### add_to -/
/-- at p a dict that is filled, at q another one, maybe locked already -/
def spAddTo (K : PySem.W.Frag) : Sp := fun vs H Q E => vs.length = 4 ∧ ∃ (p q : Addr) (l o : IK) (sh sg : Int), vs = [.ref p, .ref q, .int sh, .int sg] ∧ p ≠ q ∧ H p = some (.dK (kI l)) ∧ (H q = some (.dK (kI o)) ∨ ∃ od, H q = some (.frz od (.dK (kI o)))) ∧
  (l.length + o.length < LIM ∧ -(2 ^ 64) < sg ∧ sg < 2 ^ 64) ∧ ∀ H', (∀ a, a ≠ p → a ≠ q → H' a = H a) → H' p = some (.dK (kI (addTo l o sh sg))) → (∃ od, H' q = some (.frz od (.dK (kI o)))) → Q .non H'
theorem spAddTo.len {K : PySem.W.Frag} {vs : List V} {H : Hp} {Q : VK} {E : XK} (h : spAddTo K vs H Q E) : vs.length = 4 := h.1
def t_addTo (K : PySem.W.Frag) : TS := tFor (iKeysE (L2.tVar 1)) (gName 4)
  (tSeq (tAsg (tOp (rAddG K) (L2.tVar 4) (L2.tVar 2)) (gName 5))
    (L2.sDPut (L2.tVar 0) (L2.tVar 5) (tOp (rAddG K) (tDGet2 (L2.tVar 0) (L2.tVar 5) (tC (.int 0))) (tOp (rI CMul fun i j => .int (i * j)) (L2.tVar 3) (tDGet (L2.tVar 1) (L2.tVar 4))))))
theorem addTo_reading {K : PySem.W.Frag} {vs : List V} {H : Hp} {Q : VK} {E : XK} (h : spAddTo K vs H Q E) :
    t_addTo K { nx := fun _ H' => Q .non H', rt := Q } (start ["found", "other", "shift", "sign", "power", "at"] vs) H := by
  obtain ⟨_, p, q, l, o, sh, sg, rfl, hpq, hp, hq, ⟨hsz, hs1, hs2⟩, post⟩ := h
  have hst : start ["found", "other", "shift", "sign", "power", "at"] [V.ref p, .ref q, .int sh, .int sg] = [some (.ref p), some (.ref q), some (.int sh), some (.int sg), none, none] := rfl
  rw [hst]
  -- the loop, the other dict being locked
  have loop : ∀ (od : Obj) (H1 : Hp), H1 q = some (.frz od (.dK (kI o))) → H1 p = some (.dK (kI l)) → (∀ a, a ≠ q → H1 a = H a) →
      ∃ W : Nat → Nat → L2.St → Hp → Prop, (∃ m, W 0 m [some (.ref p), some (.ref q), some (.int sh), some (.int sg), none, none] H1) ∧ ∀ i m σ H, W i m σ H →
        ((Itk q od (kI o)).stop i H ∧ Q .non H) ∨ ((Itk q od (kI o)).go i H ∧ ∃ N : L2.St → Hp → Prop, (∀ σ' H', N σ' H' → ∃ m', m' < m ∧ W (i + 1) m' σ' H') ∧ ∀ x H', (Itk q od (kI o)).yld i H x H' → gName 4 x σ H' fun σ2 H2 =>
          (tSeq (tAsg (tOp (rAddG K) (L2.tVar 4) (L2.tVar 2)) (gName 5)) (L2.sDPut (L2.tVar 0) (L2.tVar 5) (tOp (rAddG K) (tDGet2 (L2.tVar 0) (L2.tVar 5) (tC (.int 0))) (tOp (rI CMul fun i j => .int (i * j)) (L2.tVar 3) (tDGet (L2.tVar 1) (L2.tVar 4)))))) { nx := N, rt := Q, ct := N, bk := fun _ H' => Q .non H' } σ2 H2) := by
    intro od H1 h1q h1p h1o
    refine ⟨fun i m σ' H' => m = o.length - i ∧ i ≤ o.length ∧ (∃ a b, σ' = [some (.ref p), some (.ref q), some (.int sh), some (.int sg), a, b]) ∧ (∀ a, a ≠ p → H' a = H1 a) ∧ ∃ l', l' = (o.take i).foldl (fun f p => addZ f (p.1 + sh) (sg * getZ o p.1)) l ∧ l'.length ≤ l.length + i ∧ H' p = some (.dK (kI l')),
      ⟨o.length, by simp, Nat.zero_le _, ⟨none, none, rfl⟩, fun _ _ => rfl, l, by rw [List.take_zero]; rfl, by omega, h1p⟩, ?_⟩
    rintro i m σ' H' ⟨rfl, hi, ⟨a, b, rfl⟩, hk, l', el, hl', hp'⟩
    have hq' : H' q = some (.frz od (.dK (kI o))) := by rw [hk q (Ne.symm hpq)]; exact h1q
    by_cases hlt : i < o.length
    · refine .inr ⟨⟨hq', by rw [kI_len]; exact hlt⟩, fun σ'' H'' => o.length - (i + 1) = o.length - (i + 1) ∧ i + 1 ≤ o.length ∧ (∃ a b, σ'' = [some (.ref p), some (.ref q), some (.int sh), some (.int sg), a, b]) ∧ (∀ a, a ≠ p → H'' a = H1 a) ∧ ∃ l', l' = (o.take (i + 1)).foldl (fun f p => addZ f (p.1 + sh) (sg * getZ o p.1)) l ∧ l'.length ≤ l.length + (i + 1) ∧ H'' p = some (.dK (kI l')),
        fun σ'' H'' w => ⟨_, by omega, w⟩, fun x H'' hy => ?_⟩
      obtain ⟨rfl, k, v, ek, rfl⟩ := hy
      have ek2 : (kI o)[i]? = some (kqV (o[i].1, Fv.int o[i].2)) := by
        unfold kI toF
        rw [List.getElem?_map, List.getElem?_map, List.getElem?_eq_getElem hlt]
        rfl
      rw [ek2, kqV_eq] at ek
      have hk1 := congrArg Prod.fst (Option.some.inj ek)
      dsimp only at hk1
      subst hk1
      have hmem : o[i] ∈ o := List.getElem_mem hlt
      have e3 : (o.take (i + 1)).foldl (fun f p => addZ f (p.1 + sh) (sg * getZ o p.1)) l = addZ l' (o[i].1 + sh) (sg * getZ o o[i].1) := by
        rw [List.take_succ_eq_append_getElem hlt, List.foldl_append, ← el]
        rfl
      generalize o[i] = pr at *
      show tSeq _ _ _ ([some (.ref p), some (.ref q), some (.int sh), some (.int sg), some (.int pr.1), b] : L2.St) H''
      refine seq_asg ⟨_, rfl, _, rfl, .inl ⟨_, _, rfl, rfl, ?_⟩⟩
      show L2.sDPut _ _ _ _ ([some (.ref p), some (.ref q), some (.int sh), some (.int sg), some (.int pr.1), some (.int (pr.1 + sh))] : L2.St) H''
      refine ⟨_, rfl, p, rfl, .inl ⟨_, .inl hp'⟩, _, rfl, _, DGet.k (k := Sum.inl (pr.1 + sh)) hp', ?_⟩
      rw [val_kI]
      refine ⟨_, rfl, _, rfl, _, rfl, q, .int (getZ o pr.1), rfl, .inl ⟨_, Sum.inl pr.1, .inr ⟨od, hq'⟩, rfl, (val_kI_some hmem).symm⟩, ?_⟩
      refine ⟨_, _, rfl, rfl, .inl ⟨hs1, hs2⟩, .inl ⟨_, _, rfl, rfl, ?_⟩⟩
      refine ⟨_, rfl, _, rfl, p, _, rfl, DPut.k (k := Sum.inl (pr.1 + sh)) hp' (lim_lt (by rw [kI_len]; omega)), ?_⟩
      rw [put_kI]
      refine ⟨rfl, hlt, ⟨_, _, rfl⟩, fun a ha => by rw [upd_ne ha]; exact hk a ha, _, e3.symm, ?_, upd_same⟩
      have := putZ_len l' (pr.1 + sh) (getZ l' (pr.1 + sh) + sg * getZ o pr.1)
      unfold addZ
      omega
    · have hi2 : i = o.length := by omega
      refine .inl ⟨⟨hq', by rw [kI_len]; omega⟩, ?_⟩
      rw [hi2, List.take_length] at el
      refine post H' (fun a h1 h2 => by rw [hk a h1, h1o a h2]) ?_ ⟨od, hq'⟩
      rw [hp', el]
      rfl
  refine ⟨_, rfl, q, kI o, rfl, ?_⟩
  rcases hq with hq | ⟨od, hq⟩
  · exact .inl ⟨hq, fun od => loop od _ upd_same (by rw [upd_ne hpq]; exact hp) fun a ha => upd_ne ha⟩
  · exact .inr ⟨od, hq, loop od H hq hp fun _ _ => rfl⟩
theorem addTo_len (o0 : IK) (sh sg : Int) : ∀ (o l : IK), (o.foldl (fun f p => addZ f (p.1 + sh) (sg * getZ o0 p.1)) l).length ≤ l.length + o.length
  | [], l => by simp
  | p :: o, l => by
    rw [List.foldl_cons]
    have h1 := addTo_len o0 sh sg o (addZ l (p.1 + sh) (sg * getZ o0 p.1))
    have h2 := putZ_len l (p.1 + sh) (getZ l (p.1 + sh) + sg * getZ o0 p.1)
    have h3 : (addZ l (p.1 + sh) (sg * getZ o0 p.1)).length ≤ l.length + 1 := h2
    rw [List.length_cons]
    omega
/-! ### of_rings -/
abbrev t_neg (k : Int) : TE := tUn (rU fun i => .int (-i)) (tC (.int k))
def t_ofRings (K : PySem.W.Frag) (W : WX) : TS :=
  tSeq (tAsg (tDisp [(tC (.int 0), tC (.int 1))]) (gName 1))
  (tSeq (tFor (iRng1 (tCons (L2.tVar 0) tNil)) (gName 2)
    (tSeq (tAsg tDNewK (gName 3))
    (tSeq (tDrop (tCallS (spAddTo K) (WE W) (tCons (L2.tVar 3) (tCons (L2.tVar 1) (tCons (tC (.int 2)) (tCons (t_neg 1) tNil))))))
    (tSeq (tDrop (tCallS (spAddTo K) (WE W) (tCons (L2.tVar 3) (tCons (L2.tVar 1) (tCons (t_neg 2) (tCons (t_neg 1) tNil))))))
      (tAsg (L2.tVar 3) (gName 1))))))
   (tRet (L2.tVar 1)))
theorem ofRings_reading {K : PySem.W.Frag} {cls : Nat → Addr} {vs : List V} {H : Hp} {Q : VK} {E : XK} (h : spF K cls 1 ofRingsF vs H Q E) :
    t_ofRings K (fun c d _ H => E c d H) { nx := fun _ H' => Q .non H', rt := Q } (start ["rings", "found", "k", "more"] vs) H := by
  obtain ⟨hl, ds, Hb, sub, r, post⟩ := h
  unfold ofRingsF at post
  split at post
  case h_2 => exact post.elim
  rename_i n
  split at post
  case isFalse => exact post.elim
  rename_i hc
  obtain ⟨⟨h0, h1⟩, hlen⟩ := hc
  have hlen' : ∀ i, i ≤ n.toNat → (ringsD i).length ≤ 2000 := fun i hi => of_decide_eq_true (List.all_eq_true.mp hlen i (List.mem_range.mpr (by omega)))
  cases r with
  | cons r0 r =>
  cases r with
  | nil =>
  have e1 := r0.int_inv
  subst e1
  have hst : start ["rings", "found", "k", "more"] [V.int n] = [some (.int n), none, none, none] := rfl
  rw [hst]
  unfold t_ofRings
  refine seq_asg fun p hp => ?_
  show upd H p (.dK []) p = _ ∧ _
  refine ⟨upd_same, [(Sum.inl 0, V.int 1)], rfl, by show 1 ≤ 15; decide, ?_⟩
  rw [upd_upd]
  show tSeq _ _ _ ([some (.int n), some (.ref p), none, none] : L2.St) (upd H p (.dK (kI (ringsD 0))))
  refine ⟨V.int n, rfl, n, rfl, by omega, by omega, ?_⟩
  refine for_range (lo := 0) (n := n.toNat) (fun i σ' H' => ∃ (F : Addr) (a b : Option V), σ' = [some (.int n), some (.ref F), a, b] ∧ H F = none ∧ H' F = some (.dK (kI (ringsD i))) ∧ ∀ a o, H a = some o → H' a = some o)
    ⟨p, none, none, rfl, hp, upd_same, fun a o e => by rw [upd_ne (ne_of_none e hp)]; exact e⟩ ?_ ?_
  · rintro i σ' H' hi ⟨F, a, b, rfl, hF0, hF, hk⟩
    rw [Int.zero_add]
    show tSeq _ _ _ ([some (.int n), some (.ref F), some (.int (i : Nat)), b] : L2.St) H'
    refine seq_asg fun M hM => ?_
    show tSeq _ _ _ ([some (.int n), some (.ref F), some (.int (i : Nat)), some (.ref M)] : L2.St) (upd H' M (.dK (kI [])))
    have hMF : M ≠ F := fun e => by rw [e, hF] at hM; cases hM
    have hM0 : H M = none := by
      cases e : H M with
      | none => rfl
      | some o => rw [hk M o e] at hM; cases hM
    have li := hlen' i (by omega)
    have l1 : (addTo [] (ringsD i) 2 (-1)).length ≤ 0 + (ringsD i).length := addTo_len (ringsD i) 2 (-1) (ringsD i) []
    refine ⟨_, rfl, _, rfl, _, rfl, rfl, M, F, [], ringsD i, 2, -1, rfl, hMF, upd_same, .inl (by rw [upd_ne (Ne.symm hMF)]; exact hF), ⟨by show ([] : IK).length + _ < 1000000; simp; omega, by decide, by decide⟩, fun H2 k2 m2 ⟨od, f2⟩ => ?_⟩
    show tSeq _ _ _ ([some (.int n), some (.ref F), some (.int (i : Nat)), some (.ref M)] : L2.St) H2
    refine ⟨_, rfl, _, rfl, _, rfl, _, rfl, rfl, M, F, addTo [] (ringsD i) 2 (-1), ringsD i, -2, -1, rfl, hMF, m2, .inr ⟨od, f2⟩, ⟨by show (addTo [] (ringsD i) 2 (-1)).length + _ < 1000000; omega, by decide, by decide⟩, fun H3 k3 m3 _ => ?_⟩
    refine ⟨_, rfl, ?_⟩
    refine ⟨M, some (.int (i : Nat)), some (.ref M), rfl, hM0, m3, fun a o e => ?_⟩
    have ha1 : a ≠ M := ne_of_none e hM0
    have ha2 : a ≠ F := ne_of_none e hF0
    rw [k3 a ha1 ha2, k2 a ha1 ha2, upd_ne ha1]
    exact hk a o e
  · rintro σ' H' ⟨F, a, b, rfl, hF0, hF, hk⟩
    refine ⟨_, rfl, ?_⟩
    have hFb : Hb F = none := by
      cases e : Hb F with
      | none => rfl
      | some o => rw [sub F o e] at hF0; cases hF0
    exact post (.ref F) Hb H' ⟨fun a o e => hk a o (sub a o e), Ex.refl _, fun a o e n => ⟨hk a o e, n⟩⟩ ⟨F, rfl, hF0, hFb, hF⟩
/-! ### a law's own adding -/
def spLawAdd (K : PySem.W.Frag) (cls : Nat → Addr) (ch : List D → R Sl) : Sp := fun vs H Q E => vs.length = 3 ∧ ∃ (p : Addr) (l l' : IK) (pw rg : Int), vs = [.ref p, .int pw, .int rg] ∧ H p = some (.dK (kI l)) ∧ lawAddL ch l pw rg = some l' ∧
  ∀ H', (∀ a o, a ≠ p → H a = some o → H' a = some o) → H' p = some (.dK (kI l')) → Q .non H'
theorem spLawAdd.len {K : PySem.W.Frag} {cls : Nat → Addr} {ch : List D → R Sl} {vs : List V} {H : Hp} {Q : VK} {E : XK} (h : spLawAdd K cls ch vs H Q E) : vs.length = 3 := h.1
abbrev t_mul (a b : TE) : TE := tOp (rI CMul fun i j => .int (i * j)) a b
abbrev t_sub (a b : TE) : TE := tOp (rI0 fun i j => .int (i - j)) a b
abbrev t_mod (a b : TE) : TE := tOp (rI (fun _ j => 0 < j) fun i j => .int (i % j)) a b
def t_lawAdd (K : PySem.W.Frag) (cls : Nat → Addr) (ch : List D → R Sl) (W : WX) : TS :=
  tSeq (tAsg (tCallS (spF K cls 1 ch) (WE W) (tCons (L2.tVar 2) tNil)) (gName 3))
  (tFor (iRng1 (tCons (tCB (rLenG K) (tCons (L2.tVar 3) tNil)) tNil)) (gName 4)
    (tSeq (tAsg (t_sub (tOp (rAddG K) (L2.tVar 1) (t_mul (tC (.int 2)) (L2.tVar 2))) (t_mul (tC (.int 4)) (L2.tVar 4))) (gName 5))
      (L2.sDPut (L2.tVar 0) (L2.tVar 5) (tOp (rAddG K) (tDGet2 (L2.tVar 0) (L2.tVar 5) (tC (.int 0))) (t_mul (tOp (rIx K) (L2.tVar 3) (L2.tVar 4)) (t_sub (tC (.int 1)) (t_mul (tC (.int 2)) (t_mod (L2.tVar 2) (tC (.int 2))))))))))
theorem lawAdd_reading {K : PySem.W.Frag} {cls : Nat → Addr} {ch : List D → R Sl} {vs : List V} {H : Hp} {Q : VK} {E : XK} (h : spLawAdd K cls ch vs H Q E) :
    t_lawAdd K cls ch (fun c d _ H => E c d H) { nx := fun _ H' => Q .non H', rt := Q } (start ["found", "power", "rings", "row", "e", "at"] vs) H := by
  obtain ⟨_, p, l, l', pw, rg, rfl, hp, hl', post⟩ := h
  have hst : start ["found", "power", "rings", "row", "e", "at"] [V.ref p, .int pw, .int rg] = [some (.ref p), some (.int pw), some (.int rg), none, none, none] := rfl
  rw [hst]
  unfold lawAddL at hl'
  split at hl'
  case h_2 => cases hl'
  rename_i ds hch
  split at hl'
  case h_2 => cases hl'
  rename_i row hrow
  split at hl'
  case isFalse => cases hl'
  rename_i hsz
  have hl2 := Option.some.inj hl'
  unfold t_lawAdd
  refine seq_asg ⟨_, rfl, rfl, [.int rg], fun _ => none, (show Ex (fun _ => none) H from fun a o e => by cases e), RepL.cons (.int rg) .nil, ?_⟩
  rw [hch]
  intro v Hf' H1 g rep
  obtain ⟨c, vs', rfl, hcv0, rl⟩ := (show Rep K Hf' (.lst ds) v from rep).lst_inv
  rw [rl.ints hrow] at hcv0
  have hcv : H1 c = some (.lst (row.map V.int)) := g.sub _ _ hcv0
  have hk1 : ∀ a o, H a = some o → H1 a = some o := fun a o e => (g.kept a o e rfl).1
  have hpc : p ≠ c := fun e => by rw [← e, hk1 _ _ hp] at hcv; cases hcv
  show tFor _ _ _ _ ([some (.ref p), some (.int pw), some (.int rg), some (.ref c), none, none] : L2.St) H1
  refine ⟨V.ref c, rfl, V.ref c, row.length, rfl, .inl ⟨_, SqL.of hcv, by rw [List.length_map]⟩, (row.length : Nat), rfl, by omega, by have : l.length + row.length < 1000000 := hsz; omega, ?_⟩
  rw [Int.toNat_natCast]
  refine for_range (lo := 0) (n := row.length) (fun i σ' H' => (∃ a b, σ' = [some (.ref p), some (.int pw), some (.int rg), some (.ref c), a, b]) ∧ (∀ a, a ≠ p → H' a = H1 a) ∧ ∃ l2, l2 = (List.range i).foldl (fun f (e : Nat) => addZ f (pw + 2 * rg - 4 * (e : Int)) (row.getD e 0 * (1 - 2 * (rg % 2)))) l ∧ l2.length ≤ l.length + i ∧ H' p = some (.dK (kI l2)))
    ⟨⟨none, none, rfl⟩, fun _ _ => rfl, l, rfl, Nat.le_refl _, hk1 _ _ hp⟩ ?_ ?_
  · rintro i σ' H' hi ⟨⟨a, b, rfl⟩, hk, l2, el, hll, hp2⟩
    rw [Int.zero_add]
    show tSeq _ _ _ ([some (.ref p), some (.int pw), some (.int rg), some (.ref c), some (.int (i : Nat)), b] : L2.St) H'
    have hcv' : H' c = some (.lst (row.map V.int)) := by rw [hk c (Ne.symm hpc)]; exact hcv
    have hx : row[i]? = some (row.getD i 0) := by rw [List.getElem?_eq_getElem hi, List.getD_eq_getElem?_getD, List.getElem?_eq_getElem hi]; rfl
    have m1 : 0 ≤ rg % 2 := Int.emod_nonneg _ (by decide)
    have m2 : rg % 2 < 2 := Int.emod_lt_of_pos _ (by decide)
    refine seq_asg ⟨_, rfl, _, rfl, ⟨_, _, rfl, rfl, .inl ⟨by decide, by decide⟩, .inl ⟨_, _, rfl, rfl, _, rfl, ⟨_, _, rfl, rfl, .inl ⟨by decide, by decide⟩, _, _, rfl, rfl, ?_⟩⟩⟩⟩
    show L2.sDPut _ _ _ _ ([some (.ref p), some (.int pw), some (.int rg), some (.ref c), some (.int (i : Nat)), some (.int (pw + 2 * rg - 4 * (i : Int)))] : L2.St) H'
    refine ⟨_, rfl, p, rfl, .inl ⟨_, .inl hp2⟩, _, rfl, _, DGet.k (k := Sum.inl (pw + 2 * rg - 4 * (i : Int))) hp2, ?_⟩
    rw [val_kI]
    refine ⟨_, rfl, _, rfl, .inl ⟨c, _, _, _, rfl, rfl, SqL.of hcv', at_ints hx, ?_⟩⟩
    refine ⟨_, rfl, _, _, rfl, rfl, (show (0 : Int) < 2 by decide), _, _, rfl, rfl, .inl ⟨by decide, by decide⟩, _, _, rfl, rfl, _, _, rfl, rfl, .inr ⟨by omega, by omega⟩, .inl ⟨_, _, rfl, rfl, ?_⟩⟩
    have hsz2 : l.length + row.length < 1000000 := hsz
    refine ⟨_, rfl, _, rfl, p, _, rfl, DPut.k (k := Sum.inl (pw + 2 * rg - 4 * (i : Int))) hp2 (lim_lt (by rw [kI_len]; show _ < 1000000; omega)), ?_⟩
    rw [put_kI]
    refine ⟨⟨_, _, rfl⟩, fun a ha => by rw [upd_ne ha]; exact hk a ha, addZ l2 (pw + 2 * rg - 4 * (i : Int)) (row.getD i 0 * (1 - 2 * (rg % 2))), ?_, ?_, upd_same⟩
    · rw [List.range_succ, List.foldl_append, ← el]
      rfl
    · have := putZ_len l2 (pw + 2 * rg - 4 * (i : Int)) (getZ l2 (pw + 2 * rg - 4 * (i : Int)) + row.getD i 0 * (1 - 2 * (rg % 2)))
      unfold addZ
      omega
  · rintro σ' H' ⟨_, hk, l2, el, _, hp2⟩
    refine post H' (fun a o ha e => by rw [hk a ha]; exact hk1 a o e) ?_
    rw [hp2, el, hl2]
/-! ### the statements -/
section
variable {K : PySem.W.Frag} {W : WX} {cls : Nat → Addr}
theorem ofF_toF : ∀ {kvs : List (Int × Fv)} {l : IK}, ofF kvs = some l → kvs = toF l
  | [], l, h => by
    have : [] = l := Option.some.inj h
    rw [← this]
    rfl
  | (k, .int i) :: r, l, h => by
    unfold ofF at h
    cases q : ofF r with
    | none => rw [q] at h; cases h
    | some l2 =>
      rw [q] at h
      have : (k, i) :: l2 = l := Option.some.inj h
      rw [← this, ofF_toF q]
      rfl
  | (k, .bl b) :: r, l, h => by cases h
/-- slot i's object told anew; what else is changed is held by no slot and read by none -/
theorem St0.fill {Hb H0 Hf H H' : Hp} {env : Env} {σ : L2.St} {i : Nat} {p : Addr} {d d' : D} {C : Addr → Prop} (x : St0 K Hb H0 Hf H env σ) (ei : env[i]? = some (.ow d)) (es : σ[i]? = some (some (.ref p))) (w : OwnAt K Hf H' d' p)
    (hk : ∀ a o, H a = some o → ¬ C a → H' a = some o) (hC : ∀ a, C a → a = p ∨ (Hf a = none ∧ H0 a = none ∧ ∀ j, ¬ OwnsAt env σ j a)) (hCp : ∀ a, a = p → C a) : St0 K Hb H0 Hf H' (env.set i (.ow d')) σ := by
  have own : OwnsAt env σ i p := ⟨⟨d, ei⟩, es⟩
  obtain ⟨_, _, h0, n, _⟩ := x.env.own own
  have hf : ∀ a, C a → Hf a = none ∧ H0 a = none := fun a ha => by
    rcases hC a ha with rfl | ⟨h1, h2, _⟩
    · exact ⟨n, h0⟩
    · exact ⟨h1, h2⟩
  refine ⟨x.base, ⟨fun a o e => ?_, x.grow.old, fun a o e na => ?_⟩, ⟨by rw [List.length_set]; exact x.env.len, fun j s ob e1 e2 => ?_, fun a b q h1 h2 => ?_⟩⟩
  · exact hk a o (x.grow.sub a o e) fun c => by rw [(hf a c).1] at e; cases e
  · obtain ⟨e1, n1⟩ := x.grow.kept a o e na
    exact ⟨hk a o e1 fun c => (by rw [(hf a c).2] at e; cases e), n1⟩
  · rw [List.getElem?_set] at e1
    by_cases hj : i = j
    · subst hj
      rw [if_pos rfl] at e1
      split at e1
      · cases e1
        rw [es] at e2
        cases e2
        exact ⟨p, rfl, h0, n, w⟩
      · cases e1
    · rw [if_neg hj] at e1
      have z := x.env.slot j s ob e1 e2
      cases s with
      | no => trivial
      | va d => exact z
      | ow d2 =>
        obtain ⟨p', ep, h0', n', w'⟩ := z
        have ow' : OwnsAt env σ j p' := ⟨⟨d2, e1⟩, by rw [e2, ep]⟩
        have nc : ¬ C p' := fun c => by
          rcases hC p' c with e | ⟨_, _, h3⟩
          · subst e
            exact hj (x.env.apart i j _ own ow')
          · exact h3 j ow'
        refine ⟨p', ep, h0', n', ?_⟩
        cases d2 with
        | lst ds =>
          obtain ⟨vs, hp, r⟩ := w'
          exact ⟨vs, hk _ _ hp nc, r⟩
        | dic kvs => exact hk _ _ w' nc
        | _ => exact w'.elim
  · have back : ∀ a, OwnsAt (env.set i (.ow d')) σ a q → OwnsAt env σ a q := fun a ⟨⟨d2, e1⟩, e2⟩ => by
      rw [List.getElem?_set] at e1
      by_cases hj : i = a
      · subst hj
        exact ⟨⟨d, ei⟩, e2⟩
      · rw [if_neg hj] at e1
        exact ⟨⟨d2, e1⟩, e2⟩
    exact x.env.apart a b q (back a h1) (back b h2)
theorem ds_lawAdd {ch : List D → R Sl} {i : Nat} {tp tr : TE} {fp fr : FE} (hp : DE K W cls tp fp) (hr : DE K W cls tr fr) : DS K W cls (tDrop (tCallS (spLawAdd K cls ch) (WE W) (tCons (L2.tVar i) (tCons tp (tCons tr tNil))))) (sLawAdd ch i fp fr) := by
  refine ⟨fun Hb H0 Hf H env σ D x h => ?_⟩
  unfold sLawAdd at h
  split at h
  case h_2 => exact h.elim
  rename_i kvs ei
  obtain ⟨ob, eo, p, ev, h0, n, w⟩ := x.env.any ei
  subst ev
  refine ⟨.ref p, eo, ?_⟩
  refine x.exprV hp h fun s v Hf2 H1 g2 rv k => ?_
  have x2 := x.step g2
  refine x2.exprV hr k fun s2 v2 Hf4 H3 g4 rv2 k3 => ?_
  have x4 := x2.step g4
  obtain ⟨ob', eo', p', ev', h0', n', w'⟩ := x4.env.any ei
  subst ev'
  rw [eo] at eo'
  cases eo'
  have rv4 := rv.mono g4.lo
  split at k3
  case h_2 => exact k3.elim
  rename_i l pw rg el ea eb
  split at k3
  case h_2 => exact k3.elim
  rename_i l' hl'
  rw [ea] at rv4
  rw [eb] at rv2
  have e1 := rv4.int_inv
  have e2 := rv2.int_inv
  subst e1 e2
  have ek := ofF_toF el
  subst ek
  refine ⟨rfl, p, l, l', pw, rg, rfl, w', hl', fun H' hk hp' => ?_⟩
  exact k3 Hf4 H' σ (Lo.refl _) (x4.fill (C := fun a => a = p) ei eo hp' (fun a o e c => hk a o c e) (fun a c => .inl c) (fun a c => c))
theorem ds_addT {i : Nat} {tx tsh tsg : TE} {fx fsh fsg : FE} (hx : DE K W cls tx fx) (hs : DE K W cls tsh fsh) (hg : DE K W cls tsg fsg) : DS K W cls (tDrop (tCallS (spAddTo K) (WE W) (tCons (L2.tVar i) (tCons tx (tCons tsh (tCons tsg tNil)))))) (sAddT i fx fsh fsg) := by
  refine ⟨fun Hb H0 Hf H env σ D x h => ?_⟩
  unfold sAddT at h
  split at h
  case h_2 => exact h.elim
  rename_i kvs ei
  obtain ⟨ob, eo, p, ev, h0, n, w⟩ := x.env.any ei
  subst ev
  refine ⟨.ref p, eo, ?_⟩
  refine x.expr hx h fun s v Hf2 H1 g2 rv k => ?_
  split at k
  case h_2 => exact k.elim
  rename_i ovs
  obtain ⟨q, rfl, hq0, hqf, wq⟩ := rv
  have x2 := x.step g2
  refine x2.exprV hs k fun s3 v3 Hf3 H3 g3 rv3 k3 => ?_
  have x3 := x2.step g3
  refine x3.exprV hg k3 fun s4 v4 Hf4 H4 g4 rv4 k4 => ?_
  have x4 := x3.step g4
  obtain ⟨ob', eo', p', ev', h0', n', w'⟩ := x4.env.any ei
  subst ev'
  rw [eo] at eo'
  cases eo'
  have rv3' := rv3.mono g4.lo
  split at k4
  case h_2 => exact k4.elim
  rename_i l o sh sg el eq' ea eb
  split at k4
  case isFalse => exact k4.elim
  rename_i hsz
  rw [ea] at rv3'
  rw [eb] at rv4
  have e1 := rv3'.int_inv
  have e2 := rv4.int_inv
  subst e1 e2
  have ek := ofF_toF el
  have eok := ofF_toF eq'
  subst ek eok
  have hq4 : H4 q = some (.dK (kI o)) ∧ Hf4 q = none := by
    have g := g3.trans g4
    have wq' : H1 q = some (.dK (kI o)) := wq
    exact g.kept q _ wq' hqf
  have hpq : p ≠ q := fun e => by
    have w0 : H p = some (.dK ((toF l).map kqV)) := w
    rw [e, hq0] at w0
    cases w0
  have hq00 : H0 q = none := x.grow.fresh x.base hq0
  refine ⟨rfl, p, q, l, o, sh, sg, rfl, hpq, w', .inl hq4.1, hsz, fun H' hk hp' _ => ?_⟩
  refine k4 Hf4 H' σ (Lo.refl _) (x4.fill (C := fun a => a = p ∨ a = q) ei eo hp' (fun a ob e c => ?_) (fun a c => ?_) (fun a c => .inl c))
  · rw [hk a (fun z => c (.inl z)) (fun z => c (.inr z))]
    exact e
  · rcases c with rfl | rfl
    · exact .inl rfl
    · refine .inr ⟨hq4.2, hq00, fun j ow => ?_⟩
      obtain ⟨d2, e5, _, _, w5⟩ := x.env.own ow
      obtain ⟨ob5, e6⟩ := w5.some
      rw [hq0] at e6
      cases e6
end
/-! ### a law's own rings -/
section
variable {K : PySem.W.Frag} {cls : Nat → Addr}
theorem ren_pairs {a : Addr} {A : List Addr} {H : Hp} {σ : L2.St} {old new : Int} {tO tN : TE} {D : Ends} {rj je : Nat} (hrj : rj ≠ je) (hlr : rj < σ.length) (hle : je < σ.length) (ha : H a = some (.lst (A.map V.ref))) (haA : a ∉ A) (nd : A.Nodup) (hc : Cells H A) (hsz : ∀ p ∈ A, (cellOf H p).length = 2)
    (hO : ∀ (σ' : L2.St) (H' : Hp) (Q : VK), (∀ i, i ≠ je → i ≠ rj → σ'[i]? = σ[i]?) → (∀ b, b ∉ A → H' b = H b) → Q (.int old) H' → tO σ' H' Q)
    (hN : ∀ (σ' : L2.St) (H' : Hp) (Q : VK), (∀ i, i ≠ je → i ≠ rj → σ'[i]? = σ[i]?) → (∀ b, b ∉ A → H' b = H b) → Q (.int new) H' → tN σ' H' Q)
    (hD : ∀ σ' H', σ'.length = σ.length → (∀ i, i ≠ je → i ≠ rj → σ'[i]? = σ[i]?) → (∀ b, b ∉ A → H' b = H b) → (∀ p ∈ A, H' p = some (.lst (((cellOf H p).map (ren old new)).map V.int))) → D.nx σ' H') :
    ∃ W : Nat → Nat → L2.St → Hp → Prop, (∃ m, W 0 m σ H) ∧ ∀ i m σ H, W i m σ H →
      ((Itl K a).stop i H ∧ D.nx σ H) ∨ ((Itl K a).go i H ∧ ∃ N : L2.St → Hp → Prop, (∀ σ' H', N σ' H' → ∃ m', m' < m ∧ W (i + 1) m' σ' H') ∧ ∀ x H', (Itl K a).yld i H x H' → gName rj x σ H' fun σ2 H2 => tFor (iRng1 (tCons (tC (.int 2)) tNil)) (gName je) (tIfS (tTest (tOp (rEqG K) (tOp (rIx K) (L2.tVar rj) (L2.tVar je)) tO)) (tAsg tN (gSub (L2.tVar rj) (L2.tVar je) rSetL)) tNext) { D with nx := N, ct := N, bk := D.nx } σ2 H2) := by
  refine for_list (K := K) (a := a) (xs := A.map V.ref) (fun i σ' H' => σ'.length = σ.length ∧ (∀ z, z ≠ je → z ≠ rj → σ'[z]? = σ[z]?) ∧ (∀ b, b ∉ A → H' b = H b) ∧ ∀ (n : Nat) (p : Addr), A[n]? = some p → H' p = some (.lst ((if n < i then (cellOf H p).map (ren old new) else cellOf H p).map V.int)))
    ⟨rfl, fun _ _ _ => rfl, fun _ _ => rfl, fun n p e => by rw [if_neg (Nat.not_lt_zero n)]; exact hc.at e⟩ ?_ ?_ ?_
  · intro i σ' H' _ ⟨_, _, h3, _⟩
    exact SqL.of (by rw [h3 a haA]; exact ha)
  · rintro i x σ' H' hx ⟨hl, hs, hb, hcc⟩
    rw [List.getElem?_map] at hx
    cases e : A[i]? with
    | none => rw [e] at hx; cases hx
    | some p =>
      rw [e] at hx
      have ex : V.ref p = x := Option.some.inj hx
      subst ex
      have hp := hcc i p e
      rw [if_neg (Nat.lt_irrefl i)] at hp
      have hpm := List.mem_of_getElem? e
      have hA : ∀ ys, ∀ b, b ∉ A → (upd H' p (.lst ys)) b = H b := fun ys b hb2 => by
        have : b ≠ p := fun z => hb2 (z ▸ hpm)
        rw [upd_ne this, hb b hb2]
      have hss : ∀ σ'' : L2.St, (∀ z, z ≠ je → σ''[z]? = (σ'.set rj (some (V.ref p)))[z]?) → ∀ z, z ≠ je → z ≠ rj → σ''[z]? = σ[z]? := fun σ'' h z h1 h2 => by
        rw [h z h1, List.getElem?_set_ne h2.symm, hs z h1 h2]
      show tFor _ _ _ _ (σ'.set rj (some (V.ref p))) H'
      refine ren_loop hrj (by rw [List.length_set, hl]; exact hle) (by rw [List.getElem?_set_self (by rw [hl]; exact hlr)]) hp ?_ (fun σ'' ys Q h q => hO σ'' _ Q (hss σ'' h) (hA ys) q) (fun σ'' ys Q h q => hN σ'' _ Q (hss σ'' h) (hA ys) q) ?_
      · intro R hR
        rw [hsz p hpm] at hR
        exact ⟨2, rfl, by omega, by omega, hR⟩
      · intro σ'' hl2 h
        refine ⟨by rw [hl2, List.length_set, hl], hss σ'' h, hA _, fun n q e2 => ?_⟩
        by_cases hq : q = p
        · subst hq
          have hni : n = i := by
            have h1 := (List.getElem?_eq_some_iff.mp e)
            have h2 := (List.getElem?_eq_some_iff.mp e2)
            obtain ⟨l1, v1⟩ := h1
            obtain ⟨l2, v2⟩ := h2
            exact nodup_inj nd (v2.trans v1.symm)
          subst hni
          rw [upd_same, if_pos (Nat.lt_succ_self n)]
        · have hni : n ≠ i := fun z => by
            rw [z, e] at e2
            exact hq (Option.some.inj e2).symm
          rw [upd_ne hq, hcc n q e2]
          by_cases c : n < i
          · rw [if_pos c, if_pos (by omega)]
          · rw [if_neg c, if_neg (by omega)]
  · rintro σ' H' ⟨hl, hs, hb, hcc⟩
    rw [List.length_map] at hcc
    refine hD σ' H' hl hs hb fun p hp => ?_
    obtain ⟨n, hn, e⟩ := List.mem_iff_getElem.mp hp
    have := hcc n p (by rw [List.getElem?_eq_getElem hn, e])
    rw [if_pos hn] at this
    exact this

def t_lawRings (K : PySem.W.Frag) : TS :=
  tSeq (tAsg (tLc (iBoth K (L2.tVar 0)) (gName 3) L2.tYes (tCB (rListG K) (tCons (L2.tVar 3) tNil)) [3]) (gName 1))
  (tSeq (tAsg (tC (.int 0)) (gName 2))
  (tSeq (tWhile (tTest (tOp (rI0 fun i j => .bl (decide (j < i))) (tCB (rLenG K) (tCons (L2.tVar 1) tNil)) (tC (.int 0))))
    (tSeq (tAsg (tOp (rIx K) (L2.tVar 1) (tC (.int 0))) (gName 3))
    (tSeq (tAsg (tSl (rSlG K) (L2.tVar 1) (tPart (tC (.int 1))) tNoPart) (gName 1))
    (tSeq (tIfS (tTest (tOp (rEqG K) (tOp (rIx K) (L2.tVar 3) (tC (.int 0))) (tOp (rIx K) (L2.tVar 3) (tC (.int 1))))) (tAsg (tOp (rAddG K) (L2.tVar 2) (tC (.int 1))) (gName 2)) tNext)
      (tFor (iBoth K (L2.tVar 1)) (gName 4)
        (tFor (iRng1 (tCons (tC (.int 2)) tNil)) (gName 5)
          (tIfS (tTest (tOp (rEqG K) (tOp (rIx K) (L2.tVar 4) (L2.tVar 5)) (tOp (rIx K) (L2.tVar 3) (tC (.int 1)))))
            (tAsg (tOp (rIx K) (L2.tVar 3) (tC (.int 0))) (gSub (L2.tVar 4) (L2.tVar 5) rSetL)) tNext)))))))
   (tRet (L2.tVar 2))))
theorem rings_reading {vs : List V} {H : Hp} {Q : VK} {E : XK} (h : spF K cls 1 ringsF vs H Q E) :
    t_lawRings K { nx := fun _ H' => Q .non H', rt := Q } (start ["pairs", "left", "found", "two", "other", "e"] vs) H := by
  obtain ⟨hl, ds, Hb, sub, r, post⟩ := h
  unfold ringsF at post
  split at post
  case h_2 => exact post.elim
  rename_i a
  split at post
  case h_2 => exact post.elim
  rename_i ps hps
  split at post
  case isFalse => exact post.elim
  rename_i hc
  obtain ⟨hsz, hpair⟩ := hc
  cases r with
  | cons r0 r =>
  cases r with
  | nil =>
  rename_i v0
  have hst : start ["pairs", "left", "found", "two", "other", "e"] [v0] = [some v0, none, none, none, none, none] := rfl
  rw [hst]
  unfold t_lawRings
  refine seq_asg ?_
  refine lc_copies (i := 0) (j := 3) (own := [3]) (σ := [some v0, none, none, none, none, none]) sub (by simp) (by simp) rfl r0 hps (by omega) fun L pl H1 ex1 hL0 hL hpl hcl hnl ndl => ?_
  show tSeq _ _ _ ([some v0, some (.ref L), none, none, none, none] : L2.St) H1
  refine seq_asg ?_
  show tSeq _ _ _ ([some v0, some (.ref L), some (.int 0), none, none, none] : L2.St) H1
  have hm0 : pl.map (cellOf H1) = ps := cells_map hpl hcl
  have hc0 : Cells H1 pl := fun p hp => by
    obtain ⟨n, hn, e⟩ := List.mem_iff_getElem.mp hp
    have := hcl n p _ (by rw [List.getElem?_eq_getElem hn, e]) (List.getElem?_eq_getElem (by omega))
    rw [cellOf_eq this]
    exact this
  -- the walk
  refine ⟨fun m σ' H' => ∃ (L' : Addr) (A : List Addr) (f : Nat) (x3 x4 x5 : Option V), σ' = [some v0, some (.ref L'), some (.int (f : Nat)), x3, x4, x5] ∧ A.length = m ∧ m < 500 ∧ Ex H H' ∧ H' L' = some (.lst (A.map V.ref)) ∧ Cells H' A ∧ (∀ p ∈ A, H p = none) ∧ (L' :: A).Nodup ∧ (∀ p ∈ A.map (cellOf H'), p.length = 2) ∧ f + rngL (A.map (cellOf H')) = rngL ps,
    ⟨pl.length, L, pl, 0, none, none, none, rfl, rfl, by omega, ex1, hL, hc0, hnl, ndl, by rw [hm0]; exact hpair, by rw [hm0]; omega⟩, ?_⟩
  rintro m σ' H' ⟨L', A, f, x3, x4, x5, rfl, hA, hm5, exH, hL', hcc, hn0, nd, h2, hf⟩
  refine ⟨V.ref L', rfl, V.ref L', A.length, rfl, .inl ⟨_, SqL.of hL', by rw [List.length_map]⟩, ?_⟩
  refine ⟨_, _, rfl, rfl, ?_⟩
  refine ⟨_, rfl, ?_⟩
  cases A with
  | nil =>
    rw [decide_eq_false (by simp)]
    refine iteF ?_
    refine ⟨_, rfl, ?_⟩
    simp only [List.map_nil] at hf
    have e0 : rngL [] = 0 := by rw [rngL]
    rw [e0, Nat.add_zero] at hf
    rw [hf]
    exact post _ Hb H' ⟨sub.trans exH, Ex.refl _, fun a o e n => ⟨exH a o e, n⟩⟩ (.int _)
  | cons p A =>
    rw [decide_eq_true (by simp only [List.length_cons]; omega)]
    refine iteT ?_
    refine ⟨fun σ'' H'' => ∃ (L' : Addr) (A2 : List Addr) (f : Nat) (x3 x4 x5 : Option V), σ'' = [some v0, some (.ref L'), some (.int (f : Nat)), x3, x4, x5] ∧ A2.length = A.length ∧ A.length < 500 ∧ Ex H H'' ∧ H'' L' = some (.lst (A2.map V.ref)) ∧ Cells H'' A2 ∧ (∀ p ∈ A2, H p = none) ∧ (L' :: A2).Nodup ∧ (∀ p ∈ A2.map (cellOf H''), p.length = 2) ∧ f + rngL (A2.map (cellOf H'')) = rngL ps,
      fun σ'' H'' w => ⟨A.length, by rw [← hA]; exact Nat.lt_succ_self _, w⟩, ?_⟩
    rw [List.length_cons] at hA
    have hpc := hcc p List.mem_cons_self
    obtain ⟨x, y, hxy⟩ : ∃ x y, cellOf H' p = [x, y] := by
      have := h2 (cellOf H' p) (by rw [List.map_cons]; exact List.mem_cons_self)
      match e : cellOf H' p, this with
      | [x, y], _ => exact ⟨x, y, rfl⟩
    rw [hxy] at hpc
    have at0 : atI (([x, y] : List Int).map V.int) 0 = some (.int x) := at_ints (i := 0) rfl
    have at1 : atI (([x, y] : List Int).map V.int) 1 = some (.int y) := at_ints (i := 1) rfl
    -- two = left[0]
    refine seq_asg ⟨V.ref L', rfl, .inl ⟨L', _, _, _, rfl, rfl, SqL.of hL', at_refs (i := 0) rfl, ?_⟩⟩
    show tSeq _ _ _ ([some v0, some (.ref L'), some (.int (f : Nat)), some (.ref p), x4, x5] : L2.St) H'
    -- left = left[1:]
    refine seq_asg ⟨V.ref L', rfl, _, rfl, .inl ⟨L', _, rfl, SqL.of hL', fun T hT => ?_⟩⟩
    have eT : cutV ((p :: A).map V.ref) (some (1 : Int)) none = A.map V.ref := by
      rw [show some (1 : Int) = some ((1 : Nat) : Int) from rfl, cutV_from (by rw [List.length_map, List.length_cons]; omega)]
      rfl
    rw [eT]
    show tSeq _ _ _ ([some v0, some (.ref T), some (.int (f : Nat)), some (.ref p), x4, x5] : L2.St) (upd H' T (.lst (A.map V.ref)))
    obtain ⟨H3, hH3⟩ : ∃ H3, H3 = upd H' T (.lst (A.map V.ref)) := ⟨_, rfl⟩
    rw [← hH3]
    have ex3 : Ex H' H3 := by rw [hH3]; exact Ex.new hT
    have hT3 : H3 T = some (.lst (A.map V.ref)) := by rw [hH3]; exact upd_same
    have nd2 := (List.nodup_cons.mp nd).2
    have hpA : p ∉ A := (List.nodup_cons.mp nd2).1
    have ndA : A.Nodup := (List.nodup_cons.mp nd2).2
    have hTA : T ∉ A := fun z => by
      have := hcc T (List.mem_cons_of_mem _ z)
      rw [hT] at this
      cases this
    have hp3 : H3 p = some (.lst (([x, y] : List Int).map V.int)) := ex3 _ _ hpc
    have heq : ∀ q ∈ A, cellOf H3 q = cellOf H' q := fun q hq => cellOf_eq (ex3 _ _ (hcc q (List.mem_cons_of_mem _ hq)))
    have hc3 : Cells H3 A := fun q hq => by
      rw [heq q hq]
      exact ex3 _ _ (hcc q (List.mem_cons_of_mem _ hq))
    have hl2 : ∀ q ∈ A, (cellOf H3 q).length = 2 := fun q hq => by
      rw [heq q hq]
      exact h2 _ (by rw [List.map_cons]; exact List.mem_cons_of_mem _ (List.mem_map.mpr ⟨q, hq, rfl⟩))
    have hrg : rngL ((p :: A).map (cellOf H')) = (if x = y then 1 else 0) + rngL (A.map fun q => (cellOf H3 q).map (ren y x)) := by
      rw [List.map_cons, hxy, rngL]
      simp only [List.getD_cons_zero, List.getD_cons_succ]
      congr 2
      rw [List.map_map]
      refine List.map_congr_left fun q hq => ?_
      show (cellOf H' q).map (ren y x) = _
      rw [heq q hq]
    -- what comes behind the count
    have rest : ∀ f2 : Nat, f2 = (if x = y then f + 1 else f) → tFor (iBoth K (L2.tVar 1)) (gName 4)
        (tFor (iRng1 (tCons (tC (.int 2)) tNil)) (gName 5)
          (tIfS (tTest (tOp (rEqG K) (tOp (rIx K) (L2.tVar 4) (L2.tVar 5)) (tOp (rIx K) (L2.tVar 3) (tC (.int 1)))))
            (tAsg (tOp (rIx K) (L2.tVar 3) (tC (.int 0))) (gSub (L2.tVar 4) (L2.tVar 5) rSetL)) tNext))
        { nx := fun σ'' H'' => ∃ (L' : Addr) (A2 : List Addr) (f : Nat) (x3 x4 x5 : Option V), σ'' = [some v0, some (.ref L'), some (.int (f : Nat)), x3, x4, x5] ∧ A2.length = A.length ∧ A.length < 500 ∧ Ex H H'' ∧ H'' L' = some (.lst (A2.map V.ref)) ∧ Cells H'' A2 ∧ (∀ p ∈ A2, H p = none) ∧ (L' :: A2).Nodup ∧ (∀ p ∈ A2.map (cellOf H''), p.length = 2) ∧ f + rngL (A2.map (cellOf H'')) = rngL ps,
          ct := fun σ'' H'' => ∃ (L' : Addr) (A2 : List Addr) (f : Nat) (x3 x4 x5 : Option V), σ'' = [some v0, some (.ref L'), some (.int (f : Nat)), x3, x4, x5] ∧ A2.length = A.length ∧ A.length < 500 ∧ Ex H H'' ∧ H'' L' = some (.lst (A2.map V.ref)) ∧ Cells H'' A2 ∧ (∀ p ∈ A2, H p = none) ∧ (L' :: A2).Nodup ∧ (∀ p ∈ A2.map (cellOf H''), p.length = 2) ∧ f + rngL (A2.map (cellOf H'')) = rngL ps,
          bk := fun σ H => (tRet (L2.tVar 2)) { nx := fun _ H' => Q .non H', rt := Q } σ H, rt := Q }
        ([some v0, some (.ref T), some (.int (f2 : Nat)), some (.ref p), x4, x5] : L2.St) H3 := by
      intro f2 hf2
      refine ⟨V.ref T, rfl, .inl ⟨T, rfl, ⟨_, SqL.of hT3⟩, ren_pairs (K := K) (A := A) (old := y) (new := x) (rj := 4) (je := 5) (by decide) (by show 4 < 6; decide) (by show 5 < 6; decide) hT3 hTA ndA hc3 hl2 ?_ ?_ ?_⟩⟩
      · intro σ'' H'' Q'' hs hb q
        exact ⟨V.ref p, by rw [hs 3 (by decide) (by decide)]; rfl, .inl ⟨p, _, _, _, rfl, rfl, SqL.of (by rw [hb p hpA]; exact hp3), at1, q⟩⟩
      · intro σ'' H'' Q'' hs hb q
        exact ⟨V.ref p, by rw [hs 3 (by decide) (by decide)]; rfl, .inl ⟨p, _, _, _, rfl, rfl, SqL.of (by rw [hb p hpA]; exact hp3), at0, q⟩⟩
      · intro σ'' H'' hlen hs hb hcc2
        have hg : ∀ i : Nat, i ≠ 5 → i ≠ 4 → σ''[i]? = ([some v0, some (.ref T), some (.int (f2 : Nat)), some (.ref p), x4, x5] : L2.St)[i]? := fun i h1 h2 => hs i h1 h2
        have hσ : ∃ y4 y5, σ'' = [some v0, some (.ref T), some (.int (f2 : Nat)), some (.ref p), y4, y5] := by
          have l6 : σ''.length = 6 := hlen
          match σ'', l6, hg with
          | [b0, b1, b2, b3, b4, b5], _, hg =>
            have g0 := hg 0 (by decide) (by decide)
            have g1 := hg 1 (by decide) (by decide)
            have g2 := hg 2 (by decide) (by decide)
            have g3 := hg 3 (by decide) (by decide)
            simp only [List.getElem?_cons_zero, List.getElem?_cons_succ, Option.some.injEq] at g0 g1 g2 g3
            exact ⟨b4, b5, by rw [g0, g1, g2, g3]⟩
        obtain ⟨y4, y5, rfl⟩ := hσ
        have hcell : ∀ q ∈ A, cellOf H'' q = (cellOf H3 q).map (ren y x) := fun q hq => cellOf_eq (hcc2 q hq)
        have hmap : A.map (cellOf H'') = A.map fun q => (cellOf H3 q).map (ren y x) := List.map_congr_left hcell
        refine ⟨T, A, f2, some (.ref p), y4, y5, rfl, rfl, by omega, fun a o e => ?_, by rw [hb T hTA]; exact hT3, fun q hq => ?_, fun q hq => hn0 q (List.mem_cons_of_mem _ hq), List.nodup_cons.mpr ⟨hTA, ndA⟩, fun q hq => ?_, ?_⟩
        · have hna : a ∉ A := fun z => by
            have := hn0 a (List.mem_cons_of_mem _ z)
            rw [e] at this
            cases this
          rw [hb a hna]
          exact ex3 _ _ (exH a o e)
        · rw [hcell q hq]
          exact hcc2 q hq
        · rw [hmap] at hq
          obtain ⟨q0, hq0, rfl⟩ := List.mem_map.mp hq
          rw [List.length_map]
          exact hl2 q0 hq0
        · rw [hmap, ← hf, hrg, hf2]
          split <;> omega
    -- if two[0] == two[1]
    refine ⟨V.ref p, rfl, .inl ⟨p, _, _, _, rfl, rfl, SqL.of hp3, at0, V.ref p, rfl, .inl ⟨p, _, _, _, rfl, rfl, SqL.of hp3, at1, .inl ⟨rfl, _, rfl, ?_⟩⟩⟩⟩
    by_cases c : x = y
    · rw [decide_eq_true (by rw [c])]
      refine iteT ?_
      refine ⟨_, rfl, .inl ⟨_, _, rfl, rfl, ?_⟩⟩
      exact rest (f + 1) (by rw [if_pos c])
    · rw [decide_eq_false (fun z => c (V.int.inj z))]
      refine iteF ?_
      exact rest f (by rw [if_neg c])
end
/-! ### sorted(d), up to 1000 keys -/
def rSortA : List V → Hp → VK → Prop := fun xs H Q => ∃ (a : Addr) (kvs : List (Key × V)) (ks : List Int), xs = [.ref a] ∧ Rd H a (.dK kvs) ∧ kvs.map (·.1) = ks.map Sum.inl ∧ ks.length ≤ 1000 ∧
    ∀ (ys : List Int) (p : Addr), ys.Perm ks → ys.Pairwise (· ≤ ·) → H p = none → Q (.ref p) (upd H p (.lst (ys.map V.int)))
/-- what stands in a list of the keys of a dict of ints -/
theorem keys_ints {ks : List Int} {vs : List (Key × Value)} {acc : List Value} (hkeys : vs.map (·.1) = ks.map Sum.inl) (hal : acc.length = ks.length) (hacc : ∀ (j : Nat) (v : Value), acc[j]? = some v → ∃ k x, vs[j]? = some (k, x) ∧ keyIs k v = true) : IntsAre acc ks := by
  refine ints_each hal fun j v e => ?_
  obtain ⟨k, x, e1, e2⟩ := hacc j v e
  have e3 : (ks.map (Sum.inl : Int → Key))[j]? = some k := by rw [← hkeys, List.getElem?_map, e1]; rfl
  rw [List.getElem?_map] at e3
  cases e4 : ks[j]? with
  | none => rw [e4] at e3; cases e3
  | some y =>
    rw [e4] at e3
    have e5 : Sum.inl y = k := Option.some.inj e3
    subst e5
    rcases keyIs_shape e2 with ⟨i, t, ek, ev⟩ | ⟨z, t, ek, ev⟩
    · cases ek
      exact ⟨y, t, rfl, ev⟩
    · cases ek
theorem call_sortA {X : Cx} (hc : X.calm = true) : CallR X (.builtin "sorted") rSortA := by
  intro pins s σ H xs us Q I r q
  obtain ⟨a, kvs, ks, ex, hd, hks, few, q⟩ := q
  subst ex
  obtain ⟨u, eu, rx⟩ := vals1 r
  subst eu
  cases rx
  obtain ⟨z, lo, vs, rel, dd⟩ := dk_rd I.hok hd
  obtain ⟨ep, hat⟩ := dd.dictAt
  have hkeys : vs.map (·.1) = ks.map Sum.inl := rel.keys.symm.trans hks
  have hl : vs.length = ks.length := by simpa using congrArg List.length hkeys
  have h16 : vs.length ≤ sizeLine := by rw [hl, sizeLine_eq]; omega
  refine Calls.call_function_entry PyProof.Rows.kind_sorted PyProof.Rows.plain_sorted PyProof.Rows.entry_sorted (PyProof.Rows.args_sorted1 _) ?_
  unfold Builtin.«sorted»
  refine wpAny_bind (m := checkCount "sorted" 1 1 _) (wpAny_pure ?_)
  refine wpAny_bind (PySem.W.kdu_collect (A := X.A.in1) (PySem.W.kdl_dict (knd := mixKind X.prog X.w) (kvs := vs) (ep := ep) lo) (I.ok.hd hc) hat h16 fun h' tk acc hk hacc => ?_)
  have hal : acc.toList.length = ks.length := by rw [Array.length_toList, hacc.1, hl]
  have hS : IntsAre acc.toList ks := keys_ints hkeys hal fun j v e => hacc.2 j v (by rw [← Array.getElem?_toList]; exact e)
  have I1 : Inv X pins σ H { s with heap := h', toks := tk } := I.kept hk
  refine wpAny_bind (wpAny_newList ?_ (by rw [hal, sizeLine_eq]; omega))
  have hoL : (h'.push (seqObj "list" acc.toList.toArray 0)).get? h'.objs.size = some (seqObj "list" acc.toList.toArray 0) := Heap.get?_push_size _ rfl
  show wpAny _ _ _ _ _ { s with heap := h'.push (seqObj "list" acc.toList.toArray 0), toks := tk }
  refine wpAny_bind (wpAny_holding (wpAny_call_entry PyProof.Rows.slot_list_sort ⟨_, hoL, rfl⟩ PyProof.Rows.entry_list_sort
    (PyProof.Rows.list_sort_treeAny (s := { s with heap := h'.push (seqObj "list" acc.toList.toArray 0), toks := tk }) hoL hS (by rw [hal, sizeLine_eq]; omega) fun out ys g1 g2 g3 => ⟨_, rfl, ?_⟩) (PyProof.Rows.args_list_sort _)))
  obtain ⟨e', he'⟩ := PyProof.Rows.sortedHeap_at (vs := acc.toList) (out := out) hoL
  have hlen : (ys.map V.int).length ≤ sizeLine := by rw [List.length_map, g2.length_eq, sizeLine_eq]; omega
  refine wpAny_pure ⟨_, rfl, .ref h'.objs.size, upd H h'.objs.size (.lst (ys.map V.int)), I1.laid (t' := tk) (fun b u e => ?_) (Nat.le_refl _)
    (show ObjOk X.prog X.w _ _ _ (.lst (ys.map V.int)) from ⟨hlen, out.toList, e', vals_of_ints g1, by rw [Array.toArray_toList]; exact he'⟩), rfl, q ys _ g2 g3 (I1.hok.fresh (Nat.le_refl _))⟩
  have hb : b < h'.objs.size := Heap.lt_size e
  rw [PyProof.Rows.sortedHeap_old (Nat.ne_of_lt hb) (by rw [size_push']; exact Nat.lt_succ_of_lt hb)]
  exact Heap.get?_push_of_some _ e
theorem nx_sortA : NoXc bSortedA := by
  intro a c h
  unfold bSortedA at h
  split at h <;> (try split at h) <;> cases h
theorem rc_sortA {K : PySem.W.Frag} : RCB K rSortA bSortedA := by
  intro Hf H as xs Q sub r h
  unfold bSortedA at h
  split at h
  · rename_i kvs
    split at h
    · rename_i hl
      obtain ⟨v, rfl, r1⟩ := r.one
      obtain ⟨p, rfl, hp⟩ := r1.dic_inv
      refine ⟨p, _, kvs.map (·.1), rfl, sub.lo.rd hp, ?_, by rw [List.length_map]; exact hl, fun ys z hp hs hz => ?_⟩
      · rw [List.map_map, List.map_map]
        refine List.map_congr_left fun q _ => ?_
        show (kqV q).1 = _
        rw [kqV_eq]
        rfl
      · have e : ys = sortI (kvs.map (·.1)) := sorted_uniq (hp.trans (sortI_perm _).symm) hs (sortI_sorted _)
        subst e
        exact h (.ref z) Hf _ (Grow.newO sub hz) ⟨z, rfl, hz, sub.none_of hz, _, upd_same, RepL.ofInts _⟩
    · exact h.elim
  · exact h.elim
end DL
set_option maxRecDepth 100000
namespace DL
open PySem PySem.Spec PyProof.Rows L2
/-! DS5: texts -/
section
variable {K : PySem.W.Frag} {W : WX} {cls : Nat → Addr}
def rStrI : List V → Hp → VK → Prop := fun xs H Q => ∃ i, xs = [.int i] ∧ i.natAbs.log2 < 1920 ∧ Q (.str (toString i)) H
theorem call_strI {X : Cx} : CallR X (.type "str") rStrI := call_str_int
theorem nx_strI : NoXc bStrI := by
  intro a c h
  unfold bStrI at h
  split at h <;> (try split at h) <;> cases h
theorem rc_strI : RCB K rStrI bStrI := by
  intro Hf H as xs Q sub r h
  unfold bStrI at h
  split at h
  · split at h
    · rename_i hl
      obtain ⟨v, rfl, r1⟩ := r.one
      exact ⟨_, by rw [r1.int_inv], hl, h _ Hf H (.refl sub) (.str _)⟩
    · exact h.elim
  · exact h.elim
def rIntS : List V → Hp → VK → Prop := fun xs H Q => ∃ a n, xs = [.str a] ∧ PySem.intText? a = some n ∧ a.length ≤ 640 ∧ Q (.int n) H
theorem call_intS {X : Cx} : CallR X (.type "int") rIntS := call_int_str
theorem nx_intS : NoXc bIntS := by
  intro a c h
  unfold bIntS at h
  split at h <;> (try split at h) <;> (try split at h) <;> cases h
theorem rc_intS : RCB K rIntS bIntS := by
  intro Hf H as xs Q sub r h
  unfold bIntS at h
  split at h
  · split at h
    · rename_i n e
      split at h
      · rename_i hl
        obtain ⟨v, rfl, r1⟩ := r.one
        exact ⟨_, n, by rw [r1.str_inv], e, hl, h _ Hf H (.refl sub) (.int _)⟩
      · exact h.elim
    · exact h.elim
  · exact h.elim
theorem de_m1 {r : V → List V → Hp → VK → Prop} {g : Str → D → R Sl} {ta tb : TE} {fa fb : FE}
    (hr : ∀ (Hf H : Hp) (z : Str) (d : D) (v : V) (Q : VK), Ex Hf H → Rep K Hf d v → PostE K (fun _ _ _ _ => False) (fun _ => 0) Hf H [] (g z d) Q → r (.str z) [v] H Q)
    (hn : ∀ a, NoXc (g a)) (ha : DE K W cls ta fa) (hb : DE K W cls tb fb) : DE K W cls (tM1 r ta tb) (eM1 g fa fb) := by
  refine ⟨fun H0 Hf H env σ Q sub x h => ?_⟩
  refine ha.then sub x h.x fun s v Hf1 H1 g1 r1 q => ?_
  split at q
  · rename_i z e
    rw [e] at r1
    have ev := r1.str_inv
    subst ev
    refine ⟨⟨z, rfl⟩, ?_⟩
    refine hb.then g1.sub (x.grow g1) q fun s2 v2 Hf2 H2 g2 r2 q2 => ?_
    exact hr Hf2 H2 z s2.d v2 Q g2.sub r2 ((q2.behind sub (g1.trans g2)).noxc (hn _ _))
  · exact q.elim
def rJoin (K : PySem.W.Frag) : V → List V → Hp → VK → Prop := fun x xs H Q => ∃ a p, ∃ ys : List Str, x = .str a ∧ xs = [.ref p] ∧ (SqL K H p (ys.map V.str) ∨ SqT K H p (ys.map V.str)) ∧ (ys.map (·.length)).sum + ys.length * a.length ≤ 16777216 ∧ Q (.str (Txt.join a ys)) H
theorem pe_joinK {X : Cx} {K : PySem.W.Frag} (hK : X.K = K) {o e : Expr} {to te : TE} {apos pos : Pos} (ho : PE X o to) (he : PE X e te) (hs : starEach [e] X.env = [(false, eval e X.env)] := by rfl) (hbase : attributeBase o "join" X.env (eval o X.env) = eval o X.env := by rfl) (hline : (apos.endLine == pos.line) = true := by rfl) :
    PE X (.Call (.Attribute o "join" apos) [e] [] pos) (tM1 (rJoin K) to te) := by
  subst hK
  exact pe_m1 PySem.F.slot_str_join PySem.F.type_str_join mt_join ho he hs hbase hline
theorem RepL.strs {H : Hp} : ∀ {ds : List D} {vs : List V} {ys : List Str}, RepL K H ds vs → strsOf ds = some ys → vs = ys.map V.str
  | [], _, _, .nil, e => by
    cases e
    rfl
  | d :: ds, _, ys, .cons r1 r2, e => by
    cases d with
    | str s =>
      unfold strsOf at e
      cases q : strsOf ds with
      | none => rw [q] at e; cases e
      | some zs =>
        rw [q] at e
        have e2 : s :: zs = ys := Option.some.inj e
        subst e2
        rw [r1.str_inv, RepL.strs r2 q]
        rfl
    | _ => cases e
theorem nx_join : ∀ a, NoXc (dJoin a) := by
  intro a b c h
  unfold dJoin at h
  split at h <;> (try split at h) <;> (try split at h) <;> cases h
theorem de_join {ta tb : TE} {fa fb : FE} (ha : DE K W cls ta fa) (hb : DE K W cls tb fb) : DE K W cls (tM1 (rJoin K) ta tb) (eM1 dJoin fa fb) := by
  refine de_m1 (fun Hf H z d v Q sub r h => ?_) nx_join ha hb
  unfold dJoin at h
  split at h
  · split at h
    · rename_i ys e
      split at h
      · rename_i hl
        obtain ⟨p, vs, rfl, hp, rl⟩ := r.lst_inv
        have ev := rl.strs e
        subst ev
        exact ⟨z, p, ys, rfl, rfl, .inl (SqL.of (sub _ _ hp)), hl, h _ Hf H (.refl sub) (.str _)⟩
      · exact h.elim
    · exact h.elim
  · exact h.elim
def rSplit : V → List V → Hp → VK → Prop := fun x xs H Q => ∃ a b, x = .str a ∧ xs = [.str b] ∧ (b.length == 0) = false ∧ a.length + 2 ≤ sizeLine ∧ rNewStrs (Txt.split a b) H Q
theorem pe_splitG {X : Cx} {o e : Expr} {to te : TE} {apos pos : Pos} (ho : PE X o to) (he : PE X e te) (hs : starEach [e] X.env = [(false, eval e X.env)] := by rfl) (hbase : attributeBase o "split" X.env (eval o X.env) = eval o X.env := by rfl) (hline : (apos.endLine == pos.line) = true := by rfl) :
    PE X (.Call (.Attribute o "split" apos) [e] [] pos) (tM1 rSplit to te) := pe_m1 PySem.F.slot_str_split PySem.F.type_str_split mt_split ho he hs hbase hline
theorem nx_split : ∀ a, NoXc (dSplit a) := by
  intro a b c h
  unfold dSplit at h
  split at h <;> (try split at h) <;> cases h
theorem RepL.ofStrs {H : Hp} (ys : List Str) : RepL K H (ys.map D.str) (ys.map V.str) := by
  induction ys with
  | nil => exact .nil
  | cons y ys ih => exact .cons (.str y) ih
theorem de_split {ta tb : TE} {fa fb : FE} (ha : DE K W cls ta fa) (hb : DE K W cls tb fb) : DE K W cls (tM1 rSplit ta tb) (eM1 dSplit fa fb) := by
  refine de_m1 (fun Hf H z d v Q sub r h => ?_) nx_split ha hb
  unfold dSplit at h
  split at h
  · rename_i b
    split at h
    · rename_i hl
      refine ⟨z, b, rfl, by rw [r.str_inv], hl.1, ?_, fun p hp => ?_⟩
      · have := hl.2
        rw [show LIM = 1000000 from rfl] at this
        show z.length + 2 ≤ sizeLine
        exact Nat.le_trans (Nat.add_le_add_right this 2) (by decide)
      · exact h (.ref p) Hf _ (Grow.newO sub hp) ⟨p, rfl, hp, sub.none_of hp, _, upd_same, RepL.ofStrs _⟩
    · exact h.elim
  · exact h.elim
end
end DL
set_option maxHeartbeats 4000000
namespace DL
open PySem PySem.Spec PyProof.Rows L2
def topS (i : Nat) : Stmt := PySem.Challenge.pw_cordbook_k17_shown.main.body.getD i (.Pass ⟨0, 0, 0, 0⟩)
abbrev s_counted : Stmt := topS 7
abbrev s_numbered : Stmt := topS 8
abbrev s_drawn : Stmt := topS 9
abbrev s_shown : Stmt := topS 12
abbrev s_number_of : Stmt := topS 13
abbrev s_read : Stmt := topS 14
abbrev s_law_cell_at : Stmt := topS 16
abbrev s_law_pick : Stmt := topS 17
abbrev s_law_rows : Stmt := topS 18
abbrev s_law_numbered : Stmt := topS 19
abbrev s_law_whole : Stmt := topS 20
abbrev s_law_same : Stmt := topS 21
abbrev s_law_k17 : Stmt := topS 22
section
variable {P : Program} {w : World} {K : PySem.W.Frag} {mg : Str → Option Value} {base : Heap} {cls : Nat → Addr} {cE : Addr} {tL tF : Nat}
theorem sc_counted : FnScope ["crossings", "found", "row", "name"] ["crossings"] (defScope s_counted) := ⟨rfl, rfl, rfl, by decide +kernel, rfl, by decide +kernel, by decide +kernel⟩
theorem cal_counted (B : Bo mg) {f : Addr} {fd : FuncData} (Fn : Fun K "counted" "counted" s_counted f fd) (hm : mg "counted" = some (.ref f)) : Cal P w K mg base cls "counted" ["crossings"] 1 f_counted := by
  refine ⟨f, fd, fn_ok Fn sc_counted fun cdv A outer s H E hr => ?_, hm, Fn.kp, Fn.binds (ps := ["crossings"]) fun _ _ _ _ _ _ us hl => match us, hl with | [_], _ => rfl⟩
  have hu := hr.units
  have hu1 := hu_of hr
  refine ⟨_, (pss_cons (ps_set (i := 1) sc_counted.nd rfl (Or.inl rfl) pe_dnewK)
  (pss_cons (ps_for (passes_of rfl) rfl (pi_bothK (K := K) rfl (pv 0)) (pg_name (i := 2) sc_counted.nd rfl (Or.inl rfl)) (pss_one (ps_for (passes_of rfl) rfl (pi_bothK (K := K) rfl (pv 2)) (pg_name (i := 3) sc_counted.nd rfl (Or.inl rfl)) (pss_one (ps_dput hu1 (pv 1) (pv 3) (pe_op (op_addK (K := K) rfl) (pe_dget2 hu1 (pv 1) (pv 3) pe_int ⟨rfl, rfl, rfl, rfl⟩) pe_int) rfl)))))
  (pss_one (ps_ret (pv 1))))), ?_⟩
  exact (ds_seq (ds_set de_dnew)
  (ds_seq (ds_for (di_seq de_var) (ds_for (di_seq de_var) (ds_dput de_var (de_op2 rr_add nx_add (de_lend (de_dget2 de_var de_var de_int)) de_int))))
  ds_retO))
theorem sc_numbered : FnScope ["crossings", "numbers", "name", "rows", "row"] ["crossings"] (defScope s_numbered) := ⟨rfl, rfl, rfl, by decide +kernel, rfl, by decide +kernel, by decide +kernel⟩
theorem cal_numbered (B : Bo mg) (c_counted : Cal P w K mg base cls "counted" ["crossings"] 1 f_counted) {f : Addr} {fd : FuncData} (Fn : Fun K "numbered" "numbered" s_numbered f fd) (hm : mg "numbered" = some (.ref f)) : Cal P w K mg base cls "numbered" ["crossings"] 2 f_numbered := by
  refine ⟨f, fd, fn_ok Fn sc_numbered fun cdv A outer s H E hr => ?_, hm, Fn.kp, Fn.binds (ps := ["crossings"]) fun _ _ _ _ _ _ us hl => match us, hl with | [_], _ => rfl⟩
  have hu := hr.units
  have hu1 := hu_of hr
  refine ⟨_, (pss_cons (ps_set (i := 1) sc_numbered.nd rfl (Or.inr rfl) pe_dnewK)
  (pss_cons (ps_for (passes_of rfl) rfl (pi_keysL (pe_calK c_counted rfl rfl rfl rfl rfl (hr.mono (by decide)) (by rfl) (takes_of rfl rfl rfl rfl) (pa_cons (pv 0) pa_nil))) (pg_name (i := 2) sc_numbered.nd rfl (Or.inl rfl)) (pss_one (ps_dput hu1 (pv 1) (pv 2) (pe_callB call_lenDG (by rfl) B.len boot_len (pa_cons (pv 1) pa_nil)) rfl)))
  (pss_cons (ps_set (i := 3) sc_numbered.nd rfl (Or.inl rfl) (pe_lst pa_nil))
  (pss_cons (ps_for (passes_of rfl) rfl (pi_bothK (K := K) rfl (pv 0)) (pg_name (i := 4) sc_numbered.nd rfl (Or.inl rfl)) (pss_one (ps_expr (pe_bmK (K := K) rfl PySem.F.plainAttrs_list PySem.F.slot_list_append PySem.F.type_list_append mt_append (pv 3) (pa_cons (pe_callTy (call_tupleK (K := K) rfl) (by rfl) B.tuple boot_tuple (pa_cons (pe_lc (own := [("name", 2)]) (g := gName 2) rfl sc_numbered.nd (pi_bothK (K := K) rfl (pv 4)) (blkOk_by (N := ["crossings", "numbers", "name", "rows", "row"]) (sc := defScope s_numbered) (by decide +kernel)) (fun _ _ _ _ _ => pg_name (i := 2) sc_numbered.nd rfl (Or.inl rfl)) (fun _ _ _ _ _ => pts_nil) (fun _ _ _ _ _ => (pe_dget hu1 (pv 1) (pv 2) (fun _ _ => rfl)))) pa_nil)) pa_nil)))))
  (pss_one (ps_ret (pe_callTy (call_tupleK (K := K) rfl) (by rfl) B.tuple boot_tuple (pa_cons (pv 3) pa_nil)))))))), ?_⟩
  exact (ds_seq (ds_set de_dnew)
  (ds_seq (ds_for (di_keys (de_call (da_cons de_var da_nil))) (ds_dput de_var (de_lend (de_cb rc_lenD nx_lenD (da_cons de_var da_nil)))))
  (ds_seq (ds_set (de_lst da_nil))
  (ds_seq (ds_for (di_seq de_var) (ds_pub (ds_app (de_cb rc_tuple nx_tuple (da_cons (de_lc (di_seq de_var) dt_yes (de_dget de_var de_var) (by decide)) da_nil)))))
  (ds_pub (ds_ret (de_cb rc_tuple nx_tuple (da_cons de_var da_nil))))))))
theorem sc_drawn : FnScope ["crossings", "rings", "times", "name"] ["crossings", "rings"] (defScope s_drawn) := ⟨rfl, rfl, rfl, by decide +kernel, rfl, by decide +kernel, by decide +kernel⟩
theorem cal_drawn (B : Bo mg) (e0 : ErrC K mg "Crowded" (cls 0)) (e1 : ErrC K mg "NoSheet" (cls 1)) (gLimit : mg "LIMIT" = some (.int 10 tL)) (c_counted : Cal P w K mg base cls "counted" ["crossings"] 1 f_counted) (c_numbered : Cal P w K mg base cls "numbered" ["crossings"] 2 f_numbered) {f : Addr} {fd : FuncData} (Fn : Fun K "drawn" "drawn" s_drawn f fd) (hm : mg "drawn" = some (.ref f)) : Cal P w K mg base cls "drawn" ["crossings", "rings"] 3 f_drawn := by
  refine ⟨f, fd, fn_ok Fn sc_drawn fun cdv A outer s H E hr => ?_, hm, Fn.kp, Fn.binds (ps := ["crossings", "rings"]) fun _ _ _ _ _ _ us hl => match us, hl with | [_, _], _ => rfl⟩
  have hu := hr.units
  have hu1 := hu_of hr
  refine ⟨_, (pss_cons (ps_if (pt_cmpR op_gt (pe_callB (call_lenK (K := K) rfl) (by rfl) B.len boot_len (pa_cons (pv 0) pa_nil)) (pe_glob (v := .int 10) rfl gLimit ⟨_, rfl⟩) (nomark _)) (pss_one (ps_raiseD rfl (takes_of rfl rfl rfl rfl) e0 rfl)) pss_nil)
  (pss_cons (ps_set (i := 2) sc_drawn.nd rfl (Or.inl rfl) (pe_calK c_counted rfl rfl rfl rfl rfl (hr.mono (by decide)) (by rfl) (takes_of rfl rfl rfl rfl) (pa_cons (pv 0) pa_nil)))
  (pss_cons (ps_for (passes_of rfl) rfl (pi_keysL (pv 2)) (pg_name (i := 3) sc_drawn.nd rfl (Or.inl rfl)) (pss_one (ps_if (pt_cmpR (op_neK (K := K) rfl hu) (pe_dget hu1 (pv 2) (pv 3) (fun _ _ => rfl)) pe_int (nomark _)) (pss_one (ps_raiseD rfl (takes_of rfl rfl rfl rfl) e1 rfl)) pss_nil)))
  (pss_one (ps_ret (pe_tup (pa_cons (pe_calK c_numbered rfl rfl rfl rfl rfl (hr.mono (by decide)) (by rfl) (takes_of rfl rfl rfl rfl) (pa_cons (pv 0) pa_nil)) (pa_cons (pv 1) pa_nil)))))))), ?_⟩
  exact (ds_seq (ds_if (dt_val (de_op2 rr_gt nx_gt (de_cb rc_len nx_len (da_cons de_var da_nil)) de_int)) ds_raise ds_next)
  (ds_seq (ds_set (de_call (da_cons de_var da_nil)))
  (ds_seq (ds_forK (ds_pub (ds_if (dt_val (de_op2 rr_ne nx_ne (de_dget de_var de_var) de_int)) ds_raise ds_next)))
  (ds_ret (de_tup (da_cons (de_call (da_cons de_var da_nil)) (da_cons de_var da_nil)))))))
theorem sc_shown : FnScope ["sheet", "found", "row", "line"] ["sheet"] (defScope s_shown) := ⟨rfl, rfl, rfl, by decide +kernel, rfl, by decide +kernel, by decide +kernel⟩
theorem cal_shown (B : Bo mg) {f : Addr} {fd : FuncData} (Fn : Fun K "shown" "shown" s_shown f fd) (hm : mg "shown" = some (.ref f)) : Cal P w K mg base cls "shown" ["sheet"] 1 f_shown := by
  refine ⟨f, fd, fn_ok Fn sc_shown fun cdv A outer s H E hr => ?_, hm, Fn.kp, Fn.binds (ps := ["sheet"]) fun _ _ _ _ _ _ us hl => match us, hl with | [_], _ => rfl⟩
  have hu := hr.units
  have hu1 := hu_of hr
  refine ⟨_, (pss_cons (ps_set (i := 1) sc_shown.nd rfl (Or.inl rfl) (pe_callTy call_strI (by rfl) B.str boot_str (pa_cons (pe_ix (ix_seqK (K := K) rfl) (pv 0) pe_int (fun _ _ => rfl)) pa_nil)))
  (pss_cons (ps_for (passes_of rfl) rfl (pi_bothK (K := K) rfl (pe_ix (ix_seqK (K := K) rfl) (pv 0) pe_int (fun _ _ => rfl))) (pg_name (i := 2) sc_shown.nd rfl (Or.inl rfl)) (pss_one (ps_set (i := 1) sc_shown.nd rfl (Or.inl rfl) (pe_op (op_addK (K := K) rfl) (pe_op (op_addK (K := K) rfl) (pv 1) pe_str) (pe_joinK (K := K) rfl pe_str (pe_lc (own := [("line", 3)]) (g := gName 3) rfl sc_shown.nd (pi_bothK (K := K) rfl (pv 2)) (blkOk_by (N := ["sheet", "found", "row", "line"]) (sc := defScope s_shown) (by decide +kernel)) (fun _ _ _ _ _ => pg_name (i := 3) sc_shown.nd rfl (Or.inl rfl)) (fun _ _ _ _ _ => pts_nil) (fun _ _ _ _ _ => (pe_callTy call_strI (by rfl) B.str boot_str (pa_cons (pv 3) pa_nil)))))))))
  (pss_one (ps_ret (pv 1))))), ?_⟩
  exact (ds_seq (ds_set (de_cb rc_strI nx_strI (da_cons (de_ix de_var de_int) da_nil)))
  (ds_seq (ds_for (di_seq (de_ix de_var de_int)) (ds_set (de_fz (de_op2 rr_add nx_add (de_op2 rr_add nx_add de_var de_str) (de_join de_str (de_lc (di_seq de_var) dt_yes (de_cb rc_strI nx_strI (da_cons de_var da_nil)) (by decide)))))))
  (ds_ret de_var)))
theorem sc_number_of : FnScope ["figures", "sign"] ["figures"] (defScope s_number_of) := ⟨rfl, rfl, rfl, by decide +kernel, rfl, by decide +kernel, by decide +kernel⟩
theorem cal_number_of (B : Bo mg) (e4 : ErrC K mg "NoNote" (cls 4)) (gFigures : mg "FIGURES" = some (.str "0123456789" tF)) {f : Addr} {fd : FuncData} (Fn : Fun K "number_of" "number_of" s_number_of f fd) (hm : mg "number_of" = some (.ref f)) : Cal P w K mg base cls "number_of" ["figures"] 1 f_number_of := by
  refine ⟨f, fd, fn_ok Fn sc_number_of fun cdv A outer s H E hr => ?_, hm, Fn.kp, Fn.binds (ps := ["figures"]) fun _ _ _ _ _ _ us hl => match us, hl with | [_], _ => rfl⟩
  have hu := hr.units
  have hu1 := hu_of hr
  refine ⟨_, (pss_cons (ps_for (passes_of rfl) rfl (pi_str (pv 0)) (pg_name (i := 1) sc_number_of.nd rfl (Or.inl rfl)) (pss_one (ps_if (pt_cmpR op_notInS (pv 1) (pe_glob (v := .str "0123456789") rfl gFigures ⟨_, rfl⟩) (by first | rfl | with_unfolding_all rfl)) (pss_one (ps_raiseD rfl (takes_of rfl rfl rfl rfl) e4 rfl)) pss_nil)))
  (pss_cons (ps_if (PW.pt (pw_or (pt_cmpR (op_eqK (K := K) rfl hu) (pv 0) pe_str (nomark _)) (pw_or (pt_cmpR op_gt (pe_callB (call_lenK (K := K) rfl) (by rfl) B.len boot_len (pa_cons (pv 0) pa_nil)) pe_int (nomark _)) (pw_or1 (PW.pt (pw_and (pt_cmpR (op_eqK (K := K) rfl hu) (pe_ix (ix_seqK (K := K) rfl) (pv 0) pe_int (fun _ _ => rfl)) pe_str (nomark _)) (pw_and1 (pt_cmpR op_gt (pe_callB (call_lenK (K := K) rfl) (by rfl) B.len boot_len (pa_cons (pv 0) pa_nil)) pe_int (nomark _))))))))) (pss_one (ps_raiseD rfl (takes_of rfl rfl rfl rfl) e4 rfl)) pss_nil)
  (pss_one (ps_ret (pe_callTy call_intS (by rfl) B.int boot_int (pa_cons (pv 0) pa_nil)))))), ?_⟩
  exact (ds_seq (ds_for (di_str de_var) (ds_if (dt_val (de_op2 rr_notInS nx_notInS de_var de_str)) ds_raise ds_next))
  (ds_seq (ds_if (dt_or (dt_val (de_op2 rr_eq nx_eq de_var de_str)) (dt_or (dt_val (de_op2 rr_gt nx_gt (de_cb rc_len nx_len (da_cons de_var da_nil)) de_int)) (dt_and (dt_val (de_op2 rr_eq nx_eq (de_ix de_var de_int) de_str)) (dt_val (de_op2 rr_gt nx_gt (de_cb rc_len nx_len (da_cons de_var da_nil)) de_int))))) ds_raise ds_next)
  (ds_ret (de_cb rc_intS nx_intS (da_cons de_var da_nil)))))
theorem sc_read : FnScope ["text", "parts", "rows", "part", "names", "name"] ["text"] (defScope s_read) := ⟨rfl, rfl, rfl, by decide +kernel, rfl, by decide +kernel, by decide +kernel⟩
theorem cal_read (B : Bo mg) (e4 : ErrC K mg "NoNote" (cls 4)) (c_drawn : Cal P w K mg base cls "drawn" ["crossings", "rings"] 3 f_drawn) (c_number_of : Cal P w K mg base cls "number_of" ["figures"] 1 f_number_of) {f : Addr} {fd : FuncData} (Fn : Fun K "read" "read" s_read f fd) (hm : mg "read" = some (.ref f)) : Cal P w K mg base cls "read" ["text"] 4 f_read := by
  refine ⟨f, fd, fn_ok Fn sc_read fun cdv A outer s H E hr => ?_, hm, Fn.kp, Fn.binds (ps := ["text"]) fun _ _ _ _ _ _ us hl => match us, hl with | [_], _ => rfl⟩
  have hu := hr.units
  have hu1 := hu_of hr
  refine ⟨_, (pss_cons (ps_set (i := 1) sc_read.nd rfl (Or.inl rfl) (pe_splitG (pv 0) pe_str))
  (pss_cons (ps_set (i := 2) sc_read.nd rfl (Or.inl rfl) (pe_lst pa_nil))
  (pss_cons (ps_for (passes_of rfl) rfl (pi_bothK (K := K) rfl (pe_slice (sl_K (K := K) rfl) (pv 1) (po_some pe_int) po_none)) (pg_name (i := 3) sc_read.nd rfl (Or.inl rfl)) (pss_cons (ps_set (i := 4) sc_read.nd rfl (Or.inl rfl) (pe_splitG (pv 3) pe_str))
  (pss_cons (ps_if (pt_cmpR (op_neK (K := K) rfl hu) (pe_callB (call_lenK (K := K) rfl) (by rfl) B.len boot_len (pa_cons (pv 4) pa_nil)) pe_int (nomark _)) (pss_one (ps_raiseD rfl (takes_of rfl rfl rfl rfl) e4 rfl)) pss_nil)
  (pss_one (ps_expr (pe_bmK (K := K) rfl PySem.F.plainAttrs_list PySem.F.slot_list_append PySem.F.type_list_append mt_append (pv 2) (pa_cons (pe_callTy (call_tupleK (K := K) rfl) (by rfl) B.tuple boot_tuple (pa_cons (pe_lc (own := [("name", 5)]) (g := gName 5) rfl sc_read.nd (pi_bothK (K := K) rfl (pv 4)) (blkOk_by (N := ["text", "parts", "rows", "part", "names", "name"]) (sc := defScope s_read) (by decide +kernel)) (fun _ _ _ _ _ => pg_name (i := 5) sc_read.nd rfl (Or.inl rfl)) (fun _ _ _ _ _ => pts_nil) (fun _ _ _ _ _ => (pe_calK c_number_of rfl rfl rfl rfl rfl (hr.mono (by decide)) (by rfl) takes0 (pa_cons (pv 5) pa_nil)))) pa_nil)) pa_nil)))))))
  (pss_one (ps_ret (pe_calK c_drawn rfl rfl rfl rfl rfl (hr.mono (by decide)) (by rfl) (takes_of rfl rfl rfl rfl) (pa_cons (pv 2) (pa_cons (pe_calK c_number_of rfl rfl rfl rfl rfl (hr.mono (by decide)) (by rfl) (takes_of rfl rfl rfl rfl) (pa_cons (pe_ix (ix_seqK (K := K) rfl) (pv 1) pe_int (fun _ _ => rfl)) pa_nil)) pa_nil)))))))), ?_⟩
  exact (ds_seq (ds_set (de_fz (de_split de_var de_str)))
  (ds_seq (ds_set (de_lst da_nil))
  (ds_seq (ds_for (di_seq (de_sl rr_sl nx_sl de_var (do_some de_int) do_none)) (ds_seq (ds_set (de_fz (de_split de_var de_str)))
  (ds_seq (ds_if (dt_val (de_op2 rr_ne nx_ne (de_cb rc_len nx_len (da_cons de_var da_nil)) de_int)) ds_raise ds_next)
  (ds_app (de_cb rc_tuple nx_tuple (da_cons (de_lc (di_seq de_var) dt_yes (de_call (da_cons de_var da_nil)) (by decide)) da_nil))))))
  (ds_pub (ds_ret (de_call (da_cons de_var (da_cons (de_call (da_cons (de_ix de_var de_int) da_nil)) da_nil))))))))
theorem sc_law_cell_at : FnScope ["script", "k"] ["script", "k"] (defScope s_law_cell_at) := ⟨rfl, rfl, rfl, by decide +kernel, rfl, by decide +kernel, by decide +kernel⟩
theorem cal_law_cell_at (B : Bo mg) {f : Addr} {fd : FuncData} (Fn : Fun K "_law_cell_at" "_law_cell_at" s_law_cell_at f fd) (hm : mg "_law_cell_at" = some (.ref f)) : Cal P w K mg base cls "_law_cell_at" ["script", "k"] 1 f_law_cell_at := by
  refine ⟨f, fd, fn_ok Fn sc_law_cell_at fun cdv A outer s H E hr => ?_, hm, Fn.kp, Fn.binds (ps := ["script", "k"]) fun _ _ _ _ _ _ us hl => match us, hl with | [_, _], _ => rfl⟩
  have hu := hr.units
  have hu1 := hu_of hr
  refine ⟨_, (pss_cons (ps_if (pt_cmpR op_lt (pv 1) (pe_callB (call_lenK (K := K) rfl) (by rfl) B.len boot_len (pa_cons (pv 0) pa_nil)) (nomark _)) (pss_one (ps_ret (pe_ix (ix_seqK (K := K) rfl) (pv 0) (pv 1) (fun _ _ => rfl)))) pss_nil)
  (pss_one (ps_ret pe_int))), ?_⟩
  exact (ds_seq (ds_if (dt_val (de_op2 rr_lt nx_lt de_var (de_cb rc_len nx_len (da_cons de_var da_nil)))) (ds_ret (de_ix de_var de_var)) ds_next)
  (ds_ret de_int))
theorem sc_law_pick : FnScope ["script", "k"] ["script", "k"] (defScope s_law_pick) := ⟨rfl, rfl, rfl, by decide +kernel, rfl, by decide +kernel, by decide +kernel⟩
theorem cal_law_pick (B : Bo mg) (c_law_cell_at : Cal P w K mg base cls "_law_cell_at" ["script", "k"] 1 f_law_cell_at) {f : Addr} {fd : FuncData} (Fn : Fun K "_law_pick" "_law_pick" s_law_pick f fd) (hm : mg "_law_pick" = some (.ref f)) : Cal P w K mg base cls "_law_pick" ["script", "k"] 2 f_law_pick := by
  refine ⟨f, fd, fn_ok Fn sc_law_pick fun cdv A outer s H E hr => ?_, hm, Fn.kp, Fn.binds (ps := ["script", "k"]) fun _ _ _ _ _ _ us hl => match us, hl with | [_, _], _ => rfl⟩
  have hu := hr.units
  have hu1 := hu_of hr
  refine ⟨_, (pss_cons (ps_if (pt_cmpR op_lt (pv 1) (pe_callB (call_lenK (K := K) rfl) (by rfl) B.len boot_len (pa_cons (pv 0) pa_nil)) (nomark _)) (pss_one (ps_ret (pe_ix (ix_seqK (K := K) rfl) (pv 0) (pv 1) (fun _ _ => rfl)))) pss_nil)
  (pss_one (ps_ret (pe_op op_fdiv (pe_op op_mod (pe_op op_mul (pe_op (op_addK (K := K) rfl) (pe_op (op_addK (K := K) rfl) (pe_calK c_law_cell_at rfl rfl rfl rfl rfl (hr.mono (by decide)) (by rfl) (takes_of rfl rfl rfl rfl) (pa_cons (pv 0) (pa_cons pe_int pa_nil))) (pe_op op_mul pe_int (pv 1))) pe_int) pe_int) pe_int) pe_int)))), ?_⟩
  exact (ds_seq (ds_if (dt_val (de_op2 rr_lt nx_lt de_var (de_cb rc_len nx_len (da_cons de_var da_nil)))) (ds_ret (de_ix de_var de_var)) ds_next)
  (ds_ret (de_op2 rr_floor nx_floor (de_op2 rr_mod nx_mod (de_op2 rr_mul nx_mul (de_op2 rr_add nx_add (de_op2 rr_add nx_add (de_call (da_cons de_var (da_cons de_int da_nil))) (de_op2 rr_mul nx_mul de_int de_var)) de_int) de_int) de_int) de_int)))
theorem sc_law_rows : FnScope ["script", "start", "many", "fixed", "owner", "k", "left", "name", "at"] ["script", "start", "many", "fixed"] (defScope s_law_rows) := ⟨rfl, rfl, rfl, by decide +kernel, rfl, by decide +kernel, by decide +kernel⟩
theorem cal_law_rows (B : Bo mg) (c_law_pick : Cal P w K mg base cls "_law_pick" ["script", "k"] 2 f_law_pick) {f : Addr} {fd : FuncData} (Fn : Fun K "_law_rows" "_law_rows" s_law_rows f fd) (hm : mg "_law_rows" = some (.ref f)) : Cal P w K mg base cls "_law_rows" ["script", "start", "many", "fixed"] 3 f_law_rows := by
  refine ⟨f, fd, fn_ok Fn sc_law_rows fun cdv A outer s H E hr => ?_, hm, Fn.kp, Fn.binds (ps := ["script", "start", "many", "fixed"]) fun _ _ _ _ _ _ us hl => match us, hl with | [_, _, _, _], _ => rfl⟩
  have hu := hr.units
  have hu1 := hu_of hr
  refine ⟨_, (pss_cons (ps_set (i := 4) sc_law_rows.nd rfl (Or.inr rfl) (pe_lc (own := [("k", 5)]) (g := gName 5) rfl sc_law_rows.nd (pi_range1 rfl B.range (pa_cons (pe_op op_mul pe_int (pv 2)) pa_nil)) (blkOk_by (N := ["script", "start", "many", "fixed", "owner", "k", "left", "name", "at"]) (sc := defScope s_law_rows) (by decide +kernel)) (fun _ _ _ _ _ => pg_name (i := 5) sc_law_rows.nd rfl (Or.inl rfl)) (fun _ _ _ _ _ => pts_nil) (fun _ _ _ _ _ => (pe_un un_neg pe_int))))
  (pss_cons (ps_for (passes_of rfl) rfl (pi_range1 rfl B.range (pa_cons (pe_callB (call_lenK (K := K) rfl) (by rfl) B.len boot_len (pa_cons (pv 3) pa_nil)) pa_nil)) (pg_name (i := 5) sc_law_rows.nd rfl (Or.inl rfl)) (pss_cons (ps_asg (pv 5) (pg_sub (pv 4) (pe_ix (ix_seqK (K := K) rfl) (pe_ix (ix_seqK (K := K) rfl) (pv 3) (pv 5) (fun _ _ => rfl)) pe_int (fun _ _ => rfl)) set_list))
  (pss_one (ps_asg (pv 5) (pg_sub (pv 4) (pe_ix (ix_seqK (K := K) rfl) (pe_ix (ix_seqK (K := K) rfl) (pv 3) (pv 5) (fun _ _ => rfl)) pe_int (fun _ _ => rfl)) set_list)))))
  (pss_cons (ps_setLc (i := 6) (own := [("k", 5)]) (g := gName 5) rfl sc_law_rows.nd rfl rfl (sw_true rfl rfl rfl (by decide +kernel)) (pi_range1 rfl B.range (pa_cons (pe_op op_mul pe_int (pv 2)) pa_nil)) (blkOk_by (N := ["script", "start", "many", "fixed", "owner", "k", "left", "name", "at"]) (sc := defScope s_law_rows) (by decide +kernel)) (fun _ _ _ _ _ => pg_name (i := 5) sc_law_rows.nd rfl (Or.inl rfl)) (fun _ _ _ _ _ => (pts_one (pt_cmpR op_lt (pe_ix (ix_seqK (K := K) rfl) (pv 4) (pv 5) (fun _ _ => rfl)) pe_int (nomark _)))) (fun _ _ _ _ _ => (pv 5)))
  (pss_cons (ps_set (i := 7) sc_law_rows.nd rfl (Or.inl rfl) (pe_callB (call_lenK (K := K) rfl) (by rfl) B.len boot_len (pa_cons (pv 3) pa_nil)))
  (pss_cons (ps_while (passes_of rfl) (pt_cmpR op_gt (pe_callB (call_lenK (K := K) rfl) (by rfl) B.len boot_len (pa_cons (pv 6) pa_nil)) pe_int (nomark _)) (pss_cons (ps_set (i := 8) sc_law_rows.nd rfl (Or.inl rfl) (pe_op (op_addK (K := K) rfl) pe_int (pe_op op_mod (pe_calK c_law_pick rfl rfl rfl rfl rfl (hr.mono (by decide)) (by rfl) (takes_of rfl rfl rfl rfl) (pa_cons (pv 0) (pa_cons (pe_op (op_addK (K := K) rfl) (pv 1) (pv 7)) pa_nil))) (pe_op op_sub (pe_callB (call_lenK (K := K) rfl) (by rfl) B.len boot_len (pa_cons (pv 6) pa_nil)) pe_int))))
  (pss_cons (ps_asg (pv 7) (pg_sub (pv 4) (pe_ix (ix_seqK (K := K) rfl) (pv 6) pe_int (fun _ _ => rfl)) set_list))
  (pss_cons (ps_asg (pv 7) (pg_sub (pv 4) (pe_ix (ix_seqK (K := K) rfl) (pv 6) (pv 8) (fun _ _ => rfl)) set_list))
  (pss_cons (ps_set (i := 6) sc_law_rows.nd rfl (Or.inl rfl) (pe_op (op_addK (K := K) rfl) (pe_slice (sl_K (K := K) rfl) (pv 6) (po_some pe_int) (po_some (pv 8))) (pe_slice (sl_K (K := K) rfl) (pv 6) (po_some (pe_op (op_addK (K := K) rfl) (pv 8) pe_int)) po_none)))
  (pss_one (ps_set (i := 7) sc_law_rows.nd rfl (Or.inl rfl) (pe_op (op_addK (K := K) rfl) (pv 7) pe_int))))))))
  (pss_one (ps_ret (pe_lc (own := [("k", 5)]) (g := gName 5) rfl sc_law_rows.nd (pi_range1 rfl B.range (pa_cons (pv 2) pa_nil)) (blkOk_by (N := ["script", "start", "many", "fixed", "owner", "k", "left", "name", "at"]) (sc := defScope s_law_rows) (by decide +kernel)) (fun _ _ _ _ _ => pg_name (i := 5) sc_law_rows.nd rfl (Or.inl rfl)) (fun _ _ _ _ _ => pts_nil) (fun _ _ _ _ _ => (pe_callTy (call_tupleK (K := K) rfl) (by rfl) B.tuple boot_tuple (pa_cons (pe_slice (sl_K (K := K) rfl) (pv 4) (po_some (pe_op op_mul pe_int (pv 5))) (po_some (pe_op (op_addK (K := K) rfl) (pe_op op_mul pe_int (pv 5)) pe_int))) pa_nil))))))))))), ?_⟩
  exact (ds_seq (ds_set (de_lc (di_range1 (de_op2 rr_mul nx_mul de_int de_var)) dt_yes (de_op1 ru_neg nx_neg de_int) (by decide)))
  (ds_seq (ds_for (di_range1 (de_cb rc_len nx_len (da_cons de_var da_nil))) (ds_seq (ds_put (de_ix (de_ix de_var de_var) de_int) de_var)
  (ds_put (de_ix (de_ix de_var de_var) de_int) de_var)))
  (ds_seq (ds_set (de_fz (de_lc (di_range1 (de_op2 rr_mul nx_mul de_int de_var)) (dt_val (de_op2 rr_lt nx_lt (de_ixO de_var) de_int)) de_var (by decide))))
  (ds_seq (ds_set (de_cb rc_len nx_len (da_cons de_var da_nil)))
  (ds_seq (ds_while (dt_val (de_op2 rr_gt nx_gt (de_cb rc_len nx_len (da_cons de_var da_nil)) de_int)) (ds_seq (ds_set (de_op2 rr_add nx_add de_int (de_op2 rr_mod nx_mod (de_call (da_cons de_var (da_cons (de_op2 rr_add nx_add de_var de_var) da_nil))) (de_op2 rr_sub nx_sub (de_cb rc_len nx_len (da_cons de_var da_nil)) de_int))))
  (ds_seq (ds_put (de_ix de_var de_int) de_var)
  (ds_seq (ds_put (de_ix de_var de_var) de_var)
  (ds_seq (ds_set (de_fz (de_op2 rr_add nx_add (de_sl rr_sl nx_sl de_var (do_some de_int) (do_some de_var)) (de_sl rr_sl nx_sl de_var (do_some (de_op2 rr_add nx_add de_var de_int)) do_none))))
  (ds_set (de_op2 rr_add nx_add de_var de_int)))))))
  (ds_pub (ds_ret (de_lc (di_range1 de_var) dt_yes (de_cb rc_tuple nx_tuple (da_cons (de_sl rr_sl nx_sl de_var (do_some (de_op2 rr_mul nx_mul de_int de_var)) (do_some (de_op2 rr_add nx_add (de_op2 rr_mul nx_mul de_int de_var) de_int))) da_nil)) (by decide)))))))))
theorem sc_law_numbered : FnScope ["rows", "names", "row", "name", "found"] ["rows"] (defScope s_law_numbered) := ⟨rfl, rfl, rfl, by decide +kernel, rfl, by decide +kernel, by decide +kernel⟩
theorem cal_law_numbered (B : Bo mg) {f : Addr} {fd : FuncData} (Fn : Fun K "_law_numbered" "_law_numbered" s_law_numbered f fd) (hm : mg "_law_numbered" = some (.ref f)) : Cal P w K mg base cls "_law_numbered" ["rows"] 1 f_law_numbered := by
  refine ⟨f, fd, fn_ok Fn sc_law_numbered fun cdv A outer s H E hr => ?_, hm, Fn.kp, Fn.binds (ps := ["rows"]) fun _ _ _ _ _ _ us hl => match us, hl with | [_], _ => rfl⟩
  have hu := hr.units
  have hu1 := hu_of hr
  refine ⟨_, (pss_cons (ps_set (i := 1) sc_law_numbered.nd rfl (Or.inr rfl) (pe_lst pa_nil))
  (pss_cons (ps_for (passes_of rfl) rfl (pi_bothK (K := K) rfl (pv 0)) (pg_name (i := 2) sc_law_numbered.nd rfl (Or.inl rfl)) (pss_one (ps_for (passes_of rfl) rfl (pi_bothK (K := K) rfl (pv 2)) (pg_name (i := 3) sc_law_numbered.nd rfl (Or.inl rfl)) (pss_one (ps_if (pt_cmpR (op_notInK (K := K) rfl) (pv 3) (pv 1) (by first | rfl | with_unfolding_all rfl)) (pss_one (ps_expr (pe_bmK (K := K) rfl PySem.F.plainAttrs_list PySem.F.slot_list_append PySem.F.type_list_append mt_append (pv 1) (pa_cons (pv 3) pa_nil)))) pss_nil)))))
  (pss_cons (ps_set (i := 4) sc_law_numbered.nd rfl (Or.inl rfl) (pe_lst pa_nil))
  (pss_cons (ps_for (passes_of rfl) rfl (pi_bothK (K := K) rfl (pv 0)) (pg_name (i := 2) sc_law_numbered.nd rfl (Or.inl rfl)) (pss_one (ps_expr (pe_bmK (K := K) rfl PySem.F.plainAttrs_list PySem.F.slot_list_append PySem.F.type_list_append mt_append (pv 4) (pa_cons (pe_callTy (call_tupleK (K := K) rfl) (by rfl) B.tuple boot_tuple (pa_cons (pe_lc (own := [("name", 3)]) (g := gName 3) rfl sc_law_numbered.nd (pi_bothK (K := K) rfl (pv 2)) (blkOk_by (N := ["rows", "names", "row", "name", "found"]) (sc := defScope s_law_numbered) (by decide +kernel)) (fun _ _ _ _ _ => pg_name (i := 3) sc_law_numbered.nd rfl (Or.inl rfl)) (fun _ _ _ _ _ => pts_nil) (fun _ _ _ _ _ => (pe_bmK (K := K) rfl PySem.F.plainAttrs_list PySem.F.slot_list_index PySem.F.type_list_index (mt_indexK (K := K) rfl) (pv 1) (pa_cons (pv 3) pa_nil)))) pa_nil)) pa_nil)))))
  (pss_one (ps_ret (pe_callTy (call_tupleK (K := K) rfl) (by rfl) B.tuple boot_tuple (pa_cons (pv 4) pa_nil)))))))), ?_⟩
  exact (ds_seq (ds_set (de_lst da_nil))
  (ds_seq (ds_for (di_seq de_var) (ds_for (di_seq de_var) (ds_if (dt_val (de_lend (de_op2 rr_notIn nx_notIn de_var de_var))) (ds_app de_var) ds_next)))
  (ds_seq (ds_set (de_lst da_nil))
  (ds_seq (ds_for (di_seq de_var) (ds_pub (ds_app (de_cb rc_tuple nx_tuple (da_cons (de_lc (di_seq de_var) dt_yes (de_index de_var de_var) (by decide)) da_nil)))))
  (ds_pub (ds_ret (de_cb rc_tuple nx_tuple (da_cons de_var da_nil))))))))
theorem sc_law_whole : FnScope ["x"] ["x"] (defScope s_law_whole) := ⟨rfl, rfl, rfl, by decide +kernel, rfl, by decide +kernel, by decide +kernel⟩
theorem cal_law_whole (B : Bo mg) {f : Addr} {fd : FuncData} (Fn : Fun K "_law_whole" "_law_whole" s_law_whole f fd) (hm : mg "_law_whole" = some (.ref f)) : Cal P w K mg base cls "_law_whole" ["x"] 1 f_law_whole := by
  refine ⟨f, fd, fn_ok Fn sc_law_whole fun cdv A outer s H E hr => ?_, hm, Fn.kp, Fn.binds (ps := ["x"]) fun _ _ _ _ _ _ us hl => match us, hl with | [_], _ => rfl⟩
  have hu := hr.units
  have hu1 := hu_of hr
  refine ⟨_, (pss_one (ps_ret (pe_and (pe_callB (call_isiW (K := K) rfl) (by rfl) B.isi boot_isinstance (pa_cons (pv 0) (pa_cons (pe_bltn (v := .ty "int") (by rfl) B.int boot_int rfl) pa_nil))) (pe_one (pe_not (pe_callB (call_isiW (K := K) rfl) (by rfl) B.isi boot_isinstance (pa_cons (pv 0) (pa_cons (pe_bltn (v := .ty "bool") (by rfl) B.bool boot_bool rfl) pa_nil)))))))), ?_⟩
  exact (ds_ret (de_andV (de_isi de_var) (de_notV (de_isi de_var))))
theorem sc_law_same : FnScope ["found", "due", "k", "row", "e"] ["found", "due"] (defScope s_law_same) := ⟨rfl, rfl, rfl, by decide +kernel, rfl, by decide +kernel, by decide +kernel⟩
theorem cal_law_same (B : Bo mg) (c_law_whole : Cal P w K mg base cls "_law_whole" ["x"] 1 f_law_whole) {f : Addr} {fd : FuncData} (Fn : Fun K "_law_same" "_law_same" s_law_same f fd) (hm : mg "_law_same" = some (.ref f)) : Cal P w K mg base cls "_law_same" ["found", "due"] 2 f_law_same := by
  refine ⟨f, fd, fn_ok Fn sc_law_same fun cdv A outer s H E hr => ?_, hm, Fn.kp, Fn.binds (ps := ["found", "due"]) fun _ _ _ _ _ _ us hl => match us, hl with | [_, _], _ => rfl⟩
  have hu := hr.units
  have hu1 := hu_of hr
  refine ⟨_, (pss_cons (ps_if (PW.pt (pw_or (pt_not (pt_val (pe_callB (call_isiW (K := K) rfl) (by rfl) B.isi boot_isinstance (pa_cons (pv 0) (pa_cons (pe_bltn (v := .ty "tuple") (by rfl) B.tuple boot_tuple rfl) pa_nil))))) (pw_or (pt_cmpR (op_neK (K := K) rfl hu) (pe_callB (call_lenK (K := K) rfl) (by rfl) B.len boot_len (pa_cons (pv 0) pa_nil)) pe_int (nomark _)) (pw_or1 (pt_not (pt_val (pe_callB (call_isiW (K := K) rfl) (by rfl) B.isi boot_isinstance (pa_cons (pe_ix (ix_seqK (K := K) rfl) (pv 0) pe_int (fun _ _ => rfl)) (pa_cons (pe_bltn (v := .ty "tuple") (by rfl) B.tuple boot_tuple rfl) pa_nil))))))))) (pss_one (ps_ret pe_bl)) pss_nil)
  (pss_cons (ps_if (PW.pt (pw_or (pt_not (pt_val (pe_calK c_law_whole rfl rfl rfl rfl rfl (hr.mono (by decide)) (by rfl) (takes_of rfl rfl rfl rfl) (pa_cons (pe_ix (ix_seqK (K := K) rfl) (pv 0) pe_int (fun _ _ => rfl)) pa_nil)))) (pw_or (pt_cmpR (op_neK (K := K) rfl hu) (pe_ix (ix_seqK (K := K) rfl) (pv 0) pe_int (fun _ _ => rfl)) (pe_ix (ix_seqK (K := K) rfl) (pv 1) pe_int (fun _ _ => rfl)) (nomark _)) (pw_or1 (pt_cmpR (op_neK (K := K) rfl hu) (pe_callB (call_lenK (K := K) rfl) (by rfl) B.len boot_len (pa_cons (pe_ix (ix_seqK (K := K) rfl) (pv 0) pe_int (fun _ _ => rfl)) pa_nil)) (pe_callB (call_lenK (K := K) rfl) (by rfl) B.len boot_len (pa_cons (pe_ix (ix_seqK (K := K) rfl) (pv 1) pe_int (fun _ _ => rfl)) pa_nil)) (nomark _)))))) (pss_one (ps_ret pe_bl)) pss_nil)
  (pss_cons (ps_for (passes_of rfl) rfl (pi_range1 rfl B.range (pa_cons (pe_callB (call_lenK (K := K) rfl) (by rfl) B.len boot_len (pa_cons (pe_ix (ix_seqK (K := K) rfl) (pv 1) pe_int (fun _ _ => rfl)) pa_nil)) pa_nil)) (pg_name (i := 2) sc_law_same.nd rfl (Or.inl rfl)) (pss_cons (ps_set (i := 3) sc_law_same.nd rfl (Or.inl rfl) (pe_ix (ix_seqK (K := K) rfl) (pe_ix (ix_seqK (K := K) rfl) (pv 0) pe_int (fun _ _ => rfl)) (pv 2) (fun _ _ => rfl)))
  (pss_cons (ps_if (PW.pt (pw_or (pt_not (pt_val (pe_callB (call_isiW (K := K) rfl) (by rfl) B.isi boot_isinstance (pa_cons (pv 3) (pa_cons (pe_bltn (v := .ty "tuple") (by rfl) B.tuple boot_tuple rfl) pa_nil))))) (pw_or1 (pt_cmpR (op_neK (K := K) rfl hu) (pe_callB (call_lenK (K := K) rfl) (by rfl) B.len boot_len (pa_cons (pv 3) pa_nil)) pe_int (nomark _))))) (pss_one (ps_ret pe_bl)) pss_nil)
  (pss_one (ps_for (passes_of rfl) rfl (pi_range1 rfl B.range (pa_cons pe_int pa_nil)) (pg_name (i := 4) sc_law_same.nd rfl (Or.inl rfl)) (pss_one (ps_if (PW.pt (pw_or (pt_not (pt_val (pe_calK c_law_whole rfl rfl rfl rfl rfl (hr.mono (by decide)) (by rfl) (takes_of rfl rfl rfl rfl) (pa_cons (pe_ix (ix_seqK (K := K) rfl) (pv 3) (pv 4) (fun _ _ => rfl)) pa_nil)))) (pw_or1 (pt_cmpR (op_neK (K := K) rfl hu) (pe_ix (ix_seqK (K := K) rfl) (pv 3) (pv 4) (fun _ _ => rfl)) (pe_ix (ix_seqK (K := K) rfl) (pe_ix (ix_seqK (K := K) rfl) (pe_ix (ix_seqK (K := K) rfl) (pv 1) pe_int (fun _ _ => rfl)) (pv 2) (fun _ _ => rfl)) (pv 4) (fun _ _ => rfl)) (nomark _))))) (pss_one (ps_ret pe_bl)) pss_nil)))))))
  (pss_one (ps_ret pe_bl))))), ?_⟩
  exact (ds_seq (ds_if (dt_or (dt_not (dt_valB (de_isi de_var))) (dt_or (dt_val (de_op2 rr_ne nx_ne (de_cb rc_len nx_len (da_cons de_var da_nil)) de_int)) (dt_not (dt_valB (de_isi (de_ix de_var de_int)))))) (ds_ret de_bl) ds_next)
  (ds_seq (ds_if (dt_or (dt_not (dt_valB (de_call (da_cons (de_ix de_var de_int) da_nil)))) (dt_or (dt_val (de_op2 rr_ne nx_ne (de_ix de_var de_int) (de_ix de_var de_int))) (dt_val (de_op2 rr_ne nx_ne (de_cb rc_len nx_len (da_cons (de_ix de_var de_int) da_nil)) (de_cb rc_len nx_len (da_cons (de_ix de_var de_int) da_nil)))))) (ds_ret de_bl) ds_next)
  (ds_seq (ds_for (di_range1 (de_cb rc_len nx_len (da_cons (de_ix de_var de_int) da_nil))) (ds_seq (ds_set (de_ix (de_ix de_var de_int) de_var))
  (ds_seq (ds_if (dt_or (dt_not (dt_valB (de_isi de_var))) (dt_val (de_op2 rr_ne nx_ne (de_cb rc_len nx_len (da_cons de_var da_nil)) de_int))) (ds_ret de_bl) ds_next)
  (ds_for (di_range1 de_int) (ds_if (dt_or (dt_not (dt_valB (de_call (da_cons (de_ix de_var de_var) da_nil)))) (dt_val (de_op2 rr_ne nx_ne (de_ix de_var de_var) (de_ix (de_ix (de_ix de_var de_int) de_var) de_var)))) (ds_ret de_bl) ds_next)))))
  (ds_ret de_bl))))
theorem sc_law_k17 : FnScope ["script", "many", "rows", "rings", "due", "row", "line", "found"] ["script"] (defScope s_law_k17) := ⟨rfl, rfl, rfl, by decide +kernel, rfl, by decide +kernel, by decide +kernel⟩
theorem ok_law (B : Bo mg) (c_law_numbered : Cal P w K mg base cls "_law_numbered" ["rows"] 1 f_law_numbered) (c_shown : Cal P w K mg base cls "shown" ["sheet"] 1 f_shown) (c_law_same : Cal P w K mg base cls "_law_same" ["found", "due"] 2 f_law_same) (c_law_cell_at : Cal P w K mg base cls "_law_cell_at" ["script", "k"] 1 f_law_cell_at) (c_law_rows : Cal P w K mg base cls "_law_rows" ["script", "start", "many", "fixed"] 3 f_law_rows) (c_read : Cal P w K mg base cls "read" ["text"] 4 f_read) {f : Addr} {fd : FuncData} (Fn : Fun K "law" "law" s_law_k17 f fd) : FnOk P w K mg base (L2.CX P w) 5 f fd ["script"] (spF K cls 1 f_law_k17) := by
  refine fn_ok Fn sc_law_k17 fun cdv A outer s H E hr => ?_
  have hu := hr.units
  have hu1 := hu_of hr
  refine ⟨_, (pss_cons (ps_set (i := 1) sc_law_k17.nd rfl (Or.inl rfl) (pe_op op_mod (pe_calK c_law_cell_at rfl rfl rfl rfl rfl (hr.mono (by decide)) (by rfl) (takes_of rfl rfl rfl rfl) (pa_cons (pv 0) (pa_cons pe_int pa_nil))) pe_int))
  (pss_cons (ps_set (i := 2) sc_law_k17.nd rfl (Or.inl rfl) (pe_calK c_law_numbered rfl rfl rfl rfl rfl (hr.mono (by decide)) (by rfl) (takes_of rfl rfl rfl rfl) (pa_cons (pe_calK c_law_rows rfl rfl rfl rfl rfl (hr.mono (by decide)) (by rfl) (takes_of rfl rfl rfl rfl) (pa_cons (pv 0) (pa_cons pe_int (pa_cons (pv 1) (pa_cons (pe_lst pa_nil) pa_nil))))) pa_nil)))
  (pss_cons (ps_set (i := 3) sc_law_k17.nd rfl (Or.inl rfl) (pe_op op_mod (pe_calK c_law_cell_at rfl rfl rfl rfl rfl (hr.mono (by decide)) (by rfl) (takes_of rfl rfl rfl rfl) (pa_cons (pv 0) (pa_cons pe_int pa_nil))) pe_int))
  (pss_cons (ps_set (i := 4) sc_law_k17.nd rfl (Or.inl rfl) (pe_callTy call_strI (by rfl) B.str boot_str (pa_cons (pv 3) pa_nil)))
  (pss_cons (ps_for (passes_of rfl) rfl (pi_bothK (K := K) rfl (pv 2)) (pg_name (i := 5) sc_law_k17.nd rfl (Or.inl rfl)) (pss_cons (ps_set (i := 4) sc_law_k17.nd rfl (Or.inl rfl) (pe_op (op_addK (K := K) rfl) (pv 4) pe_str))
  (pss_one (ps_for (passes_of rfl) rfl (pi_bothK (K := K) rfl (pv 5)) (pg_name (i := 6) sc_law_k17.nd rfl (Or.inl rfl)) (pss_one (ps_set (i := 4) sc_law_k17.nd rfl (Or.inl rfl) (pe_op (op_addK (K := K) rfl) (pe_op (op_addK (K := K) rfl) (pv 4) pe_str) (pe_callTy call_strI (by rfl) B.str boot_str (pa_cons (pv 6) pa_nil)))))))))
  (pss_cons (ps_set (i := 7) sc_law_k17.nd rfl (Or.inl rfl) (pe_calK c_shown rfl rfl rfl rfl rfl (hr.mono (by decide)) (by rfl) (takes_of rfl rfl rfl rfl) (pa_cons (pe_tup (pa_cons (pv 2) (pa_cons (pv 3) pa_nil))) pa_nil)))
  (pss_cons (ps_if (PW.pt (pw_or (pt_not (pt_val (pe_callB (call_isiW (K := K) rfl) (by rfl) B.isi boot_isinstance (pa_cons (pv 7) (pa_cons (pe_bltn (v := .ty "str") (by rfl) B.str boot_str rfl) pa_nil))))) (pw_or1 (pt_cmpR (op_neK (K := K) rfl hu) (pv 7) (pv 4) (nomark _))))) (pss_one (ps_ret pe_bl)) pss_nil)
  (pss_one (ps_ret (pe_calK c_law_same rfl rfl rfl rfl rfl (hr.mono (by decide)) (by rfl) (takes_of rfl rfl rfl rfl) (pa_cons (pe_calK c_read rfl rfl rfl rfl rfl (hr.mono (by decide)) (by rfl) (takes_of rfl rfl rfl rfl) (pa_cons (pv 4) pa_nil)) (pa_cons (pe_tup (pa_cons (pv 2) (pa_cons (pv 3) pa_nil))) pa_nil)))))))))))), ?_⟩
  exact (ds_seq (ds_set (de_op2 rr_mod nx_mod (de_call (da_cons de_var (da_cons de_int da_nil))) de_int))
  (ds_seq (ds_set (de_fz (de_call (da_cons (de_call (da_cons de_var (da_cons de_int (da_cons de_var (da_cons (de_lst da_nil) da_nil))))) da_nil))))
  (ds_seq (ds_set (de_op2 rr_mod nx_mod (de_call (da_cons de_var (da_cons de_int da_nil))) de_int))
  (ds_seq (ds_set (de_cb rc_strI nx_strI (da_cons de_var da_nil)))
  (ds_seq (ds_for (di_seq de_var) (ds_seq (ds_set (de_fz (de_op2 rr_add nx_add de_var de_str)))
  (ds_for (di_seq de_var) (ds_set (de_fz (de_op2 rr_add nx_add (de_op2 rr_add nx_add de_var de_str) (de_cb rc_strI nx_strI (da_cons de_var da_nil))))))))
  (ds_seq (ds_set (de_fz (de_call (da_cons (de_tup (da_cons de_var (da_cons de_var da_nil))) da_nil))))
  (ds_seq (ds_if (dt_or (dt_not (dt_valB (de_isi de_var))) (dt_val (de_op2 rr_ne nx_ne de_var de_var))) (ds_ret de_bl) ds_next)
  (ds_ret (de_call (da_cons (de_call (da_cons de_var da_nil)) (da_cons (de_tup (da_cons de_var (da_cons de_var da_nil))) da_nil)))))))))))
end
theorem all_mk {P : Program} {w : World} {K : PySem.W.Frag} {h : Heap} {mg : Str → Option Value} {fa : Addr} (X : K.In h) (G : h.Ns mainGlobals mg) (hfa : mg "law" = some (.ref fa))
    {fa_counted : Addr} {od_counted an_counted : Option Addr} {sl_counted : Array (Option Value)} {oc_counted kV_counted dc_counted pm_counted cd_counted ct_counted : Value}
    {fa_numbered : Addr} {od_numbered an_numbered : Option Addr} {sl_numbered : Array (Option Value)} {oc_numbered kV_numbered dc_numbered pm_numbered cd_numbered ct_numbered : Value}
    {fa_drawn : Addr} {od_drawn an_drawn : Option Addr} {sl_drawn : Array (Option Value)} {oc_drawn kV_drawn dc_drawn pm_drawn cd_drawn ct_drawn : Value}
    {fa_shown : Addr} {od_shown an_shown : Option Addr} {sl_shown : Array (Option Value)} {oc_shown kV_shown dc_shown pm_shown cd_shown ct_shown : Value}
    {fa_number_of : Addr} {od_number_of an_number_of : Option Addr} {sl_number_of : Array (Option Value)} {oc_number_of kV_number_of dc_number_of pm_number_of cd_number_of ct_number_of : Value}
    {fa_read : Addr} {od_read an_read : Option Addr} {sl_read : Array (Option Value)} {oc_read kV_read dc_read pm_read cd_read ct_read : Value}
    {fa_law_cell_at : Addr} {od_law_cell_at an_law_cell_at : Option Addr} {sl_law_cell_at : Array (Option Value)} {oc_law_cell_at kV_law_cell_at dc_law_cell_at pm_law_cell_at cd_law_cell_at ct_law_cell_at : Value}
    {fa_law_pick : Addr} {od_law_pick an_law_pick : Option Addr} {sl_law_pick : Array (Option Value)} {oc_law_pick kV_law_pick dc_law_pick pm_law_pick cd_law_pick ct_law_pick : Value}
    {fa_law_rows : Addr} {od_law_rows an_law_rows : Option Addr} {sl_law_rows : Array (Option Value)} {oc_law_rows kV_law_rows dc_law_rows pm_law_rows cd_law_rows ct_law_rows : Value}
    {fa_law_numbered : Addr} {od_law_numbered an_law_numbered : Option Addr} {sl_law_numbered : Array (Option Value)} {oc_law_numbered kV_law_numbered dc_law_numbered pm_law_numbered cd_law_numbered ct_law_numbered : Value}
    {fa_law_whole : Addr} {od_law_whole an_law_whole : Option Addr} {sl_law_whole : Array (Option Value)} {oc_law_whole kV_law_whole dc_law_whole pm_law_whole cd_law_whole ct_law_whole : Value}
    {fa_law_same : Addr} {od_law_same an_law_same : Option Addr} {sl_law_same : Array (Option Value)} {oc_law_same kV_law_same dc_law_same pm_law_same cd_law_same ct_law_same : Value}
    {fa_law : Addr} {od_law an_law : Option Addr} {sl_law : Array (Option Value)} {oc_law kV_law dc_law pm_law cd_law ct_law : Value}
    {c0 c1 c2 c3 c4 cE : Addr}
    {tGLIMIT : Nat}
    {tGFIGURES : Nat}
    (q_a_counted : PySem.W.nsIn K mainGlobals "counted" = some (some (.ref fa_counted)))
    (q_l_counted : K.lookup fa_counted = some ⟨oc_counted, od_counted, .func (PySem.W.fnOf "counted" "counted" (defArgs s_counted) (defBody s_counted) (defScope s_counted) .none kV_counted dc_counted pm_counted an_counted cd_counted ct_counted), sl_counted⟩)
    (q_o_counted : PySem.W.codeIn K cd_counted "counted" = true)
    (q_k_counted : PySem.W.keepIn K (.ref fa_counted) = true)
    (q_a_numbered : PySem.W.nsIn K mainGlobals "numbered" = some (some (.ref fa_numbered)))
    (q_l_numbered : K.lookup fa_numbered = some ⟨oc_numbered, od_numbered, .func (PySem.W.fnOf "numbered" "numbered" (defArgs s_numbered) (defBody s_numbered) (defScope s_numbered) .none kV_numbered dc_numbered pm_numbered an_numbered cd_numbered ct_numbered), sl_numbered⟩)
    (q_o_numbered : PySem.W.codeIn K cd_numbered "numbered" = true)
    (q_k_numbered : PySem.W.keepIn K (.ref fa_numbered) = true)
    (q_a_drawn : PySem.W.nsIn K mainGlobals "drawn" = some (some (.ref fa_drawn)))
    (q_l_drawn : K.lookup fa_drawn = some ⟨oc_drawn, od_drawn, .func (PySem.W.fnOf "drawn" "drawn" (defArgs s_drawn) (defBody s_drawn) (defScope s_drawn) .none kV_drawn dc_drawn pm_drawn an_drawn cd_drawn ct_drawn), sl_drawn⟩)
    (q_o_drawn : PySem.W.codeIn K cd_drawn "drawn" = true)
    (q_k_drawn : PySem.W.keepIn K (.ref fa_drawn) = true)
    (q_a_shown : PySem.W.nsIn K mainGlobals "shown" = some (some (.ref fa_shown)))
    (q_l_shown : K.lookup fa_shown = some ⟨oc_shown, od_shown, .func (PySem.W.fnOf "shown" "shown" (defArgs s_shown) (defBody s_shown) (defScope s_shown) .none kV_shown dc_shown pm_shown an_shown cd_shown ct_shown), sl_shown⟩)
    (q_o_shown : PySem.W.codeIn K cd_shown "shown" = true)
    (q_k_shown : PySem.W.keepIn K (.ref fa_shown) = true)
    (q_a_number_of : PySem.W.nsIn K mainGlobals "number_of" = some (some (.ref fa_number_of)))
    (q_l_number_of : K.lookup fa_number_of = some ⟨oc_number_of, od_number_of, .func (PySem.W.fnOf "number_of" "number_of" (defArgs s_number_of) (defBody s_number_of) (defScope s_number_of) .none kV_number_of dc_number_of pm_number_of an_number_of cd_number_of ct_number_of), sl_number_of⟩)
    (q_o_number_of : PySem.W.codeIn K cd_number_of "number_of" = true)
    (q_k_number_of : PySem.W.keepIn K (.ref fa_number_of) = true)
    (q_a_read : PySem.W.nsIn K mainGlobals "read" = some (some (.ref fa_read)))
    (q_l_read : K.lookup fa_read = some ⟨oc_read, od_read, .func (PySem.W.fnOf "read" "read" (defArgs s_read) (defBody s_read) (defScope s_read) .none kV_read dc_read pm_read an_read cd_read ct_read), sl_read⟩)
    (q_o_read : PySem.W.codeIn K cd_read "read" = true)
    (q_k_read : PySem.W.keepIn K (.ref fa_read) = true)
    (q_a_law_cell_at : PySem.W.nsIn K mainGlobals "_law_cell_at" = some (some (.ref fa_law_cell_at)))
    (q_l_law_cell_at : K.lookup fa_law_cell_at = some ⟨oc_law_cell_at, od_law_cell_at, .func (PySem.W.fnOf "_law_cell_at" "_law_cell_at" (defArgs s_law_cell_at) (defBody s_law_cell_at) (defScope s_law_cell_at) .none kV_law_cell_at dc_law_cell_at pm_law_cell_at an_law_cell_at cd_law_cell_at ct_law_cell_at), sl_law_cell_at⟩)
    (q_o_law_cell_at : PySem.W.codeIn K cd_law_cell_at "_law_cell_at" = true)
    (q_k_law_cell_at : PySem.W.keepIn K (.ref fa_law_cell_at) = true)
    (q_a_law_pick : PySem.W.nsIn K mainGlobals "_law_pick" = some (some (.ref fa_law_pick)))
    (q_l_law_pick : K.lookup fa_law_pick = some ⟨oc_law_pick, od_law_pick, .func (PySem.W.fnOf "_law_pick" "_law_pick" (defArgs s_law_pick) (defBody s_law_pick) (defScope s_law_pick) .none kV_law_pick dc_law_pick pm_law_pick an_law_pick cd_law_pick ct_law_pick), sl_law_pick⟩)
    (q_o_law_pick : PySem.W.codeIn K cd_law_pick "_law_pick" = true)
    (q_k_law_pick : PySem.W.keepIn K (.ref fa_law_pick) = true)
    (q_a_law_rows : PySem.W.nsIn K mainGlobals "_law_rows" = some (some (.ref fa_law_rows)))
    (q_l_law_rows : K.lookup fa_law_rows = some ⟨oc_law_rows, od_law_rows, .func (PySem.W.fnOf "_law_rows" "_law_rows" (defArgs s_law_rows) (defBody s_law_rows) (defScope s_law_rows) .none kV_law_rows dc_law_rows pm_law_rows an_law_rows cd_law_rows ct_law_rows), sl_law_rows⟩)
    (q_o_law_rows : PySem.W.codeIn K cd_law_rows "_law_rows" = true)
    (q_k_law_rows : PySem.W.keepIn K (.ref fa_law_rows) = true)
    (q_a_law_numbered : PySem.W.nsIn K mainGlobals "_law_numbered" = some (some (.ref fa_law_numbered)))
    (q_l_law_numbered : K.lookup fa_law_numbered = some ⟨oc_law_numbered, od_law_numbered, .func (PySem.W.fnOf "_law_numbered" "_law_numbered" (defArgs s_law_numbered) (defBody s_law_numbered) (defScope s_law_numbered) .none kV_law_numbered dc_law_numbered pm_law_numbered an_law_numbered cd_law_numbered ct_law_numbered), sl_law_numbered⟩)
    (q_o_law_numbered : PySem.W.codeIn K cd_law_numbered "_law_numbered" = true)
    (q_k_law_numbered : PySem.W.keepIn K (.ref fa_law_numbered) = true)
    (q_a_law_whole : PySem.W.nsIn K mainGlobals "_law_whole" = some (some (.ref fa_law_whole)))
    (q_l_law_whole : K.lookup fa_law_whole = some ⟨oc_law_whole, od_law_whole, .func (PySem.W.fnOf "_law_whole" "_law_whole" (defArgs s_law_whole) (defBody s_law_whole) (defScope s_law_whole) .none kV_law_whole dc_law_whole pm_law_whole an_law_whole cd_law_whole ct_law_whole), sl_law_whole⟩)
    (q_o_law_whole : PySem.W.codeIn K cd_law_whole "_law_whole" = true)
    (q_k_law_whole : PySem.W.keepIn K (.ref fa_law_whole) = true)
    (q_a_law_same : PySem.W.nsIn K mainGlobals "_law_same" = some (some (.ref fa_law_same)))
    (q_l_law_same : K.lookup fa_law_same = some ⟨oc_law_same, od_law_same, .func (PySem.W.fnOf "_law_same" "_law_same" (defArgs s_law_same) (defBody s_law_same) (defScope s_law_same) .none kV_law_same dc_law_same pm_law_same an_law_same cd_law_same ct_law_same), sl_law_same⟩)
    (q_o_law_same : PySem.W.codeIn K cd_law_same "_law_same" = true)
    (q_k_law_same : PySem.W.keepIn K (.ref fa_law_same) = true)
    (q_a_law : PySem.W.nsIn K mainGlobals "law" = some (some (.ref fa_law)))
    (q_l_law : K.lookup fa_law = some ⟨oc_law, od_law, .func (PySem.W.fnOf "law" "law" (defArgs s_law_k17) (defBody s_law_k17) (defScope s_law_k17) .none kV_law dc_law pm_law an_law cd_law ct_law), sl_law⟩)
    (q_o_law : PySem.W.codeIn K cd_law "law" = true)
    (q_k_law : PySem.W.keepIn K (.ref fa_law) = true)
    (q_x0 : PySem.W.nsIn K mainGlobals "Crowded" = some (some (.ref c0)))
    (q_xk0 : PySem.W.keepIn K (.ref c0) = true)
    (q_xx0 : PySem.W.excIn K c0 [.type "ValueError", .type "Exception", .type "BaseException", .type "object"] "ValueError.__new__" = true)
    (q_xb0 : PySem.W.subIn K (.ref c0) (.type "BaseException") = some true)
    (q_xt0 : PySem.W.typeIn K (.ref c0) = some (.type "type"))
    (q_x1 : PySem.W.nsIn K mainGlobals "NoSheet" = some (some (.ref c1)))
    (q_xk1 : PySem.W.keepIn K (.ref c1) = true)
    (q_xx1 : PySem.W.excIn K c1 [.type "ValueError", .type "Exception", .type "BaseException", .type "object"] "ValueError.__new__" = true)
    (q_xb1 : PySem.W.subIn K (.ref c1) (.type "BaseException") = some true)
    (q_xt1 : PySem.W.typeIn K (.ref c1) = some (.type "type"))
    (q_x4 : PySem.W.nsIn K mainGlobals "NoNote" = some (some (.ref c4)))
    (q_xk4 : PySem.W.keepIn K (.ref c4) = true)
    (q_xx4 : PySem.W.excIn K c4 [.type "ValueError", .type "Exception", .type "BaseException", .type "object"] "ValueError.__new__" = true)
    (q_xb4 : PySem.W.subIn K (.ref c4) (.type "BaseException") = some true)
    (q_xt4 : PySem.W.typeIn K (.ref c4) = some (.type "type"))
    (q_vLIMIT : PySem.W.nsIn K mainGlobals "LIMIT" = some (some (.int 10 tGLIMIT)))
    (q_vFIGURES : PySem.W.nsIn K mainGlobals "FIGURES" = some (some (.str "0123456789" tGFIGURES)))
    (q_z_len : PySem.W.nsIn K mainGlobals "len" = some none)
    (q_z_isinstance : PySem.W.nsIn K mainGlobals "isinstance" = some none)
    (q_z_range : PySem.W.nsIn K mainGlobals "range" = some none)
    (q_z_list : PySem.W.nsIn K mainGlobals "list" = some none)
    (q_z_tuple : PySem.W.nsIn K mainGlobals "tuple" = some none)
    (q_z_max : PySem.W.nsIn K mainGlobals "max" = some none)
    (q_z_min : PySem.W.nsIn K mainGlobals "min" = some none)
    (q_z_int : PySem.W.nsIn K mainGlobals "int" = some none)
    (q_z_bool : PySem.W.nsIn K mainGlobals "bool" = some none)
    (q_z_str : PySem.W.nsIn K mainGlobals "str" = some none)
    (q_z_sum : PySem.W.nsIn K mainGlobals "sum" = some none)
    (q_z_sorted : PySem.W.nsIn K mainGlobals "sorted" = some none)
    (q_z_set : PySem.W.nsIn K mainGlobals "set" = some none)
    (q_z_ValueError : PySem.W.nsIn K mainGlobals "ValueError" = some none) :
    ∃ fd : FuncData, (∀ (s : Shared) (v : Value), BindsTo s fd ⟨[v], []⟩ [("script", v)]) ∧ ∀ base : Heap, K.In base → base.Ns mainGlobals mg → FnOk P w K mg base (L2.CX P w) 5 fa fd ["script"] (spLaw K f_law_k17) := by
  have e := hfa.symm.trans (PySem.W.mg_of X G q_a_law)
  cases e
  have B : Bo mg := ⟨PySem.W.mg_none_of X G q_z_len, PySem.W.mg_none_of X G q_z_isinstance, PySem.W.mg_none_of X G q_z_range, PySem.W.mg_none_of X G q_z_list, PySem.W.mg_none_of X G q_z_tuple, PySem.W.mg_none_of X G q_z_max, PySem.W.mg_none_of X G q_z_min, PySem.W.mg_none_of X G q_z_int, PySem.W.mg_none_of X G q_z_bool, PySem.W.mg_none_of X G q_z_str, PySem.W.mg_none_of X G q_z_sum, PySem.W.mg_none_of X G q_z_sorted, PySem.W.mg_none_of X G q_z_set, PySem.W.mg_none_of X G q_z_ValueError⟩
  have e0 : ErrC K mg "Crowded" (clsOf c0 c1 c2 c3 c4 0) := ⟨PySem.W.mg_of X G q_x0, q_xk0, q_xx0, q_xb0, q_xt0⟩
  have e1 : ErrC K mg "NoSheet" (clsOf c0 c1 c2 c3 c4 1) := ⟨PySem.W.mg_of X G q_x1, q_xk1, q_xx1, q_xb1, q_xt1⟩
  have e4 : ErrC K mg "NoNote" (clsOf c0 c1 c2 c3 c4 4) := ⟨PySem.W.mg_of X G q_x4, q_xk4, q_xx4, q_xb4, q_xt4⟩
  have gLimit := PySem.W.mg_of X G q_vLIMIT
  have gFigures := PySem.W.mg_of X G q_vFIGURES
  have F_counted := fun_mk (st := s_counted) q_l_counted q_o_counted q_k_counted
  have F_numbered := fun_mk (st := s_numbered) q_l_numbered q_o_numbered q_k_numbered
  have F_drawn := fun_mk (st := s_drawn) q_l_drawn q_o_drawn q_k_drawn
  have F_shown := fun_mk (st := s_shown) q_l_shown q_o_shown q_k_shown
  have F_number_of := fun_mk (st := s_number_of) q_l_number_of q_o_number_of q_k_number_of
  have F_read := fun_mk (st := s_read) q_l_read q_o_read q_k_read
  have F_law_cell_at := fun_mk (st := s_law_cell_at) q_l_law_cell_at q_o_law_cell_at q_k_law_cell_at
  have F_law_pick := fun_mk (st := s_law_pick) q_l_law_pick q_o_law_pick q_k_law_pick
  have F_law_rows := fun_mk (st := s_law_rows) q_l_law_rows q_o_law_rows q_k_law_rows
  have F_law_numbered := fun_mk (st := s_law_numbered) q_l_law_numbered q_o_law_numbered q_k_law_numbered
  have F_law_whole := fun_mk (st := s_law_whole) q_l_law_whole q_o_law_whole q_k_law_whole
  have F_law_same := fun_mk (st := s_law_same) q_l_law_same q_o_law_same q_k_law_same
  have F_law := fun_mk (st := s_law_k17) q_l_law q_o_law q_k_law
  refine ⟨PySem.W.fnOf "law" "law" (defArgs s_law_k17) (defBody s_law_k17) (defScope s_law_k17) .none kV_law dc_law pm_law an_law cd_law ct_law, fun s v => .of_eq rfl, fun base _ _ => ?_⟩
  have c_counted : Cal P w K mg base (clsOf c0 c1 c2 c3 c4) "counted" ["crossings"] 1 f_counted := cal_counted B F_counted (PySem.W.mg_of X G q_a_counted)
  have c_numbered : Cal P w K mg base (clsOf c0 c1 c2 c3 c4) "numbered" ["crossings"] 2 f_numbered := cal_numbered B c_counted F_numbered (PySem.W.mg_of X G q_a_numbered)
  have c_drawn : Cal P w K mg base (clsOf c0 c1 c2 c3 c4) "drawn" ["crossings", "rings"] 3 f_drawn := cal_drawn B e0 e1 gLimit c_counted c_numbered F_drawn (PySem.W.mg_of X G q_a_drawn)
  have c_shown : Cal P w K mg base (clsOf c0 c1 c2 c3 c4) "shown" ["sheet"] 1 f_shown := cal_shown B F_shown (PySem.W.mg_of X G q_a_shown)
  have c_number_of : Cal P w K mg base (clsOf c0 c1 c2 c3 c4) "number_of" ["figures"] 1 f_number_of := cal_number_of B e4 gFigures F_number_of (PySem.W.mg_of X G q_a_number_of)
  have c_read : Cal P w K mg base (clsOf c0 c1 c2 c3 c4) "read" ["text"] 4 f_read := cal_read B e4 c_drawn c_number_of F_read (PySem.W.mg_of X G q_a_read)
  have c_law_cell_at : Cal P w K mg base (clsOf c0 c1 c2 c3 c4) "_law_cell_at" ["script", "k"] 1 f_law_cell_at := cal_law_cell_at B F_law_cell_at (PySem.W.mg_of X G q_a_law_cell_at)
  have c_law_pick : Cal P w K mg base (clsOf c0 c1 c2 c3 c4) "_law_pick" ["script", "k"] 2 f_law_pick := cal_law_pick B c_law_cell_at F_law_pick (PySem.W.mg_of X G q_a_law_pick)
  have c_law_rows : Cal P w K mg base (clsOf c0 c1 c2 c3 c4) "_law_rows" ["script", "start", "many", "fixed"] 3 f_law_rows := cal_law_rows B c_law_pick F_law_rows (PySem.W.mg_of X G q_a_law_rows)
  have c_law_numbered : Cal P w K mg base (clsOf c0 c1 c2 c3 c4) "_law_numbered" ["rows"] 1 f_law_numbered := cal_law_numbered B F_law_numbered (PySem.W.mg_of X G q_a_law_numbered)
  have c_law_whole : Cal P w K mg base (clsOf c0 c1 c2 c3 c4) "_law_whole" ["x"] 1 f_law_whole := cal_law_whole B F_law_whole (PySem.W.mg_of X G q_a_law_whole)
  have c_law_same : Cal P w K mg base (clsOf c0 c1 c2 c3 c4) "_law_same" ["found", "due"] 2 f_law_same := cal_law_same B c_law_whole F_law_same (PySem.W.mg_of X G q_a_law_same)
  exact (ok_law B c_law_numbered c_shown c_law_same c_law_cell_at c_law_rows c_read F_law).imp (law_imp law_k17_true)
theorem walk {l : PySem.W.OpenLaw} {q : Program} {loose : List Str} {XP : (Str → Option Value) → Heap → Prop} {YP : World → Heap → Prop} {d : DefRec} {K : Params → PySem.W.Frag} (hn : l.most = some 63) (hdf : d.params.defaults = [])
    (hY : ∀ (w : World) (h : Heap), YP w h → (K w.params).In h)
    (F : ∀ (w : World) (mg : Str → Option Value) (fa : Addr) (h : Heap), (K w.params).In h → h.Ns mainGlobals mg → mg d.name = some (.ref fa) →
      ∃ fd : FuncData, (∀ (s : Shared) (u : Value), BindsTo s fd ⟨[u], []⟩ [("script", u)]) ∧ ∀ base : Heap, (K w.params).In base → base.Ns mainGlobals mg → FnOk l.prog w (K w.params) mg base (L2.CX l.prog w) 5 fa fd ["script"] (spLaw (K w.params) f_law_k17)) :
    PySem.W.WalkO q loose XP YP l.row.toRowW d [] (fun f vs => PySem.call f vs) :=
  L2.walk_of (n := 63) (k := 5) (x := "script") (CX := fun w => L2.CX l.prog w) (sp := fun w => spLaw (K w.params) f_law_k17) hn (by decide) hdf ⟨rfl, by decide, by decide⟩ hY F (fun _ _ a ns hl _ hS => ⟨a, ns, rfl, hS, hl, fun _ => rfl⟩) (fun w H s e s2 => cx_no)
end DL
open PySem PySem.W PyProof.Rows
set_option maxRecDepth 100000 in
set_option maxHeartbeats 0 in
theorem PySem.Challenge.cw_cordbook_k17_shown_holds : PySem.Challenge.rw_cordbook_k17_shown.Holds := by
  w_on; o_law; k_head; (case hw => w_witness2)
  k_fill
  refine DL.walk (l := PySem.Challenge.rw_cordbook_k17_shown) rfl rfl (fun w h Y => PySem.W.kIn_of Y) ?F
  case F =>
    intro w mg fa h KX G hmg
    refine' DL.all_mk KX G hmg ?q_a_counted ?q_l_counted ?q_o_counted ?q_k_counted ?q_a_numbered ?q_l_numbered ?q_o_numbered ?q_k_numbered ?q_a_drawn ?q_l_drawn ?q_o_drawn ?q_k_drawn ?q_a_shown ?q_l_shown ?q_o_shown ?q_k_shown ?q_a_number_of ?q_l_number_of ?q_o_number_of ?q_k_number_of ?q_a_read ?q_l_read ?q_o_read ?q_k_read ?q_a_law_cell_at ?q_l_law_cell_at ?q_o_law_cell_at ?q_k_law_cell_at ?q_a_law_pick ?q_l_law_pick ?q_o_law_pick ?q_k_law_pick ?q_a_law_rows ?q_l_law_rows ?q_o_law_rows ?q_k_law_rows ?q_a_law_numbered ?q_l_law_numbered ?q_o_law_numbered ?q_k_law_numbered ?q_a_law_whole ?q_l_law_whole ?q_o_law_whole ?q_k_law_whole ?q_a_law_same ?q_l_law_same ?q_o_law_same ?q_k_law_same ?q_a_law ?q_l_law ?q_o_law ?q_k_law ?q_x0 ?q_xk0 ?q_xx0 ?q_xb0 ?q_xt0 ?q_x1 ?q_xk1 ?q_xx1 ?q_xb1 ?q_xt1 ?q_x4 ?q_xk4 ?q_xx4 ?q_xb4 ?q_xt4 ?q_vLIMIT ?q_vFIGURES ?q_z_len ?q_z_isinstance ?q_z_range ?q_z_list ?q_z_tuple ?q_z_max ?q_z_min ?q_z_int ?q_z_bool ?q_z_str ?q_z_sum ?q_z_sorted ?q_z_set ?q_z_ValueError
    (case q_a_counted => k_is)
    (case q_l_counted => k_is)
    (case q_o_counted => k_is)
    (case q_k_counted => k_is)
    (case q_a_numbered => k_is)
    (case q_l_numbered => k_is)
    (case q_o_numbered => k_is)
    (case q_k_numbered => k_is)
    (case q_a_drawn => k_is)
    (case q_l_drawn => k_is)
    (case q_o_drawn => k_is)
    (case q_k_drawn => k_is)
    (case q_a_shown => k_is)
    (case q_l_shown => k_is)
    (case q_o_shown => k_is)
    (case q_k_shown => k_is)
    (case q_a_number_of => k_is)
    (case q_l_number_of => k_is)
    (case q_o_number_of => k_is)
    (case q_k_number_of => k_is)
    (case q_a_read => k_is)
    (case q_l_read => k_is)
    (case q_o_read => k_is)
    (case q_k_read => k_is)
    (case q_a_law_cell_at => k_is)
    (case q_l_law_cell_at => k_is)
    (case q_o_law_cell_at => k_is)
    (case q_k_law_cell_at => k_is)
    (case q_a_law_pick => k_is)
    (case q_l_law_pick => k_is)
    (case q_o_law_pick => k_is)
    (case q_k_law_pick => k_is)
    (case q_a_law_rows => k_is)
    (case q_l_law_rows => k_is)
    (case q_o_law_rows => k_is)
    (case q_k_law_rows => k_is)
    (case q_a_law_numbered => k_is)
    (case q_l_law_numbered => k_is)
    (case q_o_law_numbered => k_is)
    (case q_k_law_numbered => k_is)
    (case q_a_law_whole => k_is)
    (case q_l_law_whole => k_is)
    (case q_o_law_whole => k_is)
    (case q_k_law_whole => k_is)
    (case q_a_law_same => k_is)
    (case q_l_law_same => k_is)
    (case q_o_law_same => k_is)
    (case q_k_law_same => k_is)
    (case q_a_law => k_is)
    (case q_l_law => k_is)
    (case q_o_law => k_is)
    (case q_k_law => k_is)
    (case q_x0 => k_is)
    (case q_xk0 => k_is)
    (case q_xx0 => k_exc)
    (case q_xb0 => k_is)
    (case q_xt0 => k_is)
    (case q_x1 => k_is)
    (case q_xk1 => k_is)
    (case q_xx1 => k_exc)
    (case q_xb1 => k_is)
    (case q_xt1 => k_is)
    (case q_x4 => k_is)
    (case q_xk4 => k_is)
    (case q_xx4 => k_exc)
    (case q_xb4 => k_is)
    (case q_xt4 => k_is)
    (case q_vLIMIT => k_is)
    (case q_vFIGURES => k_is)
    (case q_z_len => k_is)
    (case q_z_isinstance => k_is)
    (case q_z_range => k_is)
    (case q_z_list => k_is)
    (case q_z_tuple => k_is)
    (case q_z_max => k_is)
    (case q_z_min => k_is)
    (case q_z_int => k_is)
    (case q_z_bool => k_is)
    (case q_z_str => k_is)
    (case q_z_sum => k_is)
    (case q_z_sorted => k_is)
    (case q_z_set => k_is)
    (case q_z_ValueError => k_is)
    all_goals exact fa
