import PyProof.Rows.All
import PySem.Str
import Wide.All
import OpenK.AllK
import Wide.FinOn
import HandS.ForMost
import HandS.Exc
import HandS.ExcOwn
import HandS.TryOnly
import HandS.WordsExc
import HandS.IsInst
import HandS.ExcIs
import HandS.SetFor
import HandS.TupAny
import HandS.Zip
import HandS.More
import PyProof.SetRoads
import PyProof.Rows.SortShellAny
import PySem.Challenge.RW_cordbook_k12_total_and_straight
set_option Elab.async false
set_option linter.all false
set_option maxRecDepth 100000

/-! DCore: plain data of a Python fragment, its operations, expressions and statements as Lean functions. No model here. -/
namespace DL
open PySem (Str)

theorem nr {α : Sort u} {a b : α} (h : a = b) : a = b := h
/-- a flat value of a dict -/
inductive Fv where
  | int (i : Int) | bl (b : Bool)
  deriving DecidableEq, Repr

/-- plain data -/
inductive D where
  | non | bl (b : Bool) | int (i : Int) | str (x : Str)
  | lst (xs : List D) | tup (xs : List D) | dic (kvs : List (Int × Fv)) | scr (ns : List Int)
  /-- something that is known by its place alone -/
  | adr (n : Nat)
  deriving Repr

def Fv.d : Fv → D
  | .int i => .int i
  | .bl b => .bl b
def D.fv? : D → Option Fv
  | .int i => some (.int i)
  | .bl b => some (.bl b)
  | _ => none

/-- what an expression comes to: a value, an error of the class with that number, or nothing that is known -/
inductive R (α : Type) where
  | ok (a : α) | xc (c : Nat) | bad
  deriving Repr
def R.bind {α β : Type} (r : R α) (f : α → R β) : R β := match r with
  | .ok a => f a
  | .xc c => .xc c
  | .bad => .bad
@[simp] theorem R.bind_ok {α β : Type} (a : α) (f : α → R β) : (R.ok a).bind f = f a := nr rfl
@[simp] theorem R.bind_xc {α β : Type} (c : Nat) (f : α → R β) : (R.xc c : R α).bind f = .xc c := nr rfl
@[simp] theorem R.bind_bad {α β : Type} (f : α → R β) : (R.bad : R α).bind f = .bad := nr rfl

/-- a slot: empty, a value that is only read, a list or dict that only this slot holds -/
inductive Sl where
  | no | va (d : D) | ow (d : D)
  deriving Repr
def Sl.d : Sl → D
  | .no => .non
  | .va d => d
  | .ow d => d
def Sl.frz : Sl → Sl
  | .ow d => .va d
  | s => s
@[simp] theorem Sl.d_va (d : D) : (Sl.va d).d = d := nr rfl
@[simp] theorem Sl.d_ow (d : D) : (Sl.ow d).d = d := nr rfl
@[simp] theorem Sl.frz_va (d : D) : (Sl.va d).frz = .va d := nr rfl
@[simp] theorem Sl.frz_ow (d : D) : (Sl.ow d).frz = .va d := nr rfl
@[simp] theorem Sl.frz_no : Sl.no.frz = .no := nr rfl

abbrev Env := List Sl
abbrev FE := Env → R Sl
abbrev FT := Env → R Bool
abbrev FA := Env → R (List D)
abbrev FI := Env → R (List D)

def D.flat : D → Bool
  | .non => true
  | .bl _ => true
  | .int _ => true
  | .str _ => true
  | _ => false
/-- a result that no owned list can be seen through -/
def Sl.loose : Sl → Bool
  | .va (.tup ds) => ds.all D.flat
  | .va d => d.flat
  | .ow (.lst ds) => ds.all D.flat
  | _ => false

def LIM : Nat := 1000000

/-! ### expressions -/
def eVar (i : Nat) : FE := fun e => match e[i]? with
  | some (.va d) => .ok (.va d)
  | _ => .bad
def eC (d : D) : FE := fun _ => .ok (.va d)
def eOp1 (g : D → R Sl) (a : FE) : FE := fun e => (a e).bind fun x => g x.d
def eOp2 (g : D → D → R Sl) (a b : FE) : FE := fun e => (a e).bind fun x => (b e).bind fun y => g x.d y.d
def aNil : FA := fun _ => .ok []
def aCons (a : FE) (r : FA) : FA := fun e => (a e).bind fun x => (r e).bind fun xs => .ok (x.d :: xs)
def eTup (a : FA) : FE := fun e => (a e).bind fun ds => if ds.length ≤ LIM then .ok (.va (.tup ds)) else .bad
def eLst (a : FA) : FE := fun e => (a e).bind fun ds => if ds.length ≤ LIM then .ok (.ow (.lst ds)) else .bad
def eCB (g : List D → R Sl) (a : FA) : FE := fun e => (a e).bind g
def eIf (c : FT) (a b : FE) : FE := fun e => (c e).bind fun k => if k then a e else b e
def eAnd (a b : FE) : FE := fun e => (a e).bind fun x => match x.d with
  | .bl true => b e
  | .bl false => .ok (.va (.bl false))
  | _ => .bad
def eOr (a b : FE) : FE := fun e => (a e).bind fun x => match x.d with
  | .bl false => b e
  | .bl true => .ok (.va (.bl true))
  | _ => .bad
def eNot (a : FE) : FE := fun e => (a e).bind fun x => match x.d with
  | .bl k => .ok (.va (.bl (!k)))
  | _ => .bad
def eChain (g h : D → D → R Sl) (a b c : FE) : FE := fun e => (a e).bind fun x => (b e).bind fun y => (g x.d y.d).bind fun z => match z.d with
  | .bl true => (c e).bind fun w => h y.d w.d
  | .bl false => .ok (.va (.bl false))
  | _ => .bad
def eLend (a : FE) : FE := fun e => (a (e.map Sl.frz)).bind fun s => if s.loose then .ok s else .bad
def oNone : Env → R (Option Int) := fun _ => .ok none
def oSome (a : FE) : Env → R (Option Int) := fun e => (a e).bind fun x => match x.d with
  | .int i => .ok (some i)
  | _ => .bad
def eSl (g : D → Option Int → Option Int → R Sl) (a : FE) (lo hi : Env → R (Option Int)) : FE := fun e => (a e).bind fun x => (lo e).bind fun l => (hi e).bind fun h => g x.d l h

def eFz (a : FE) : FE := fun e => (a e).bind fun s => .ok (.va s.d)
def eDNew : FE := fun _ => .ok (.ow (.dic []))
def eD1 (k : Int) (v : Int) : FE := fun _ => .ok (.ow (.dic [(k, .int v)]))

/-! ### tests -/
def tVal (a : FE) : FT := fun e => (a e).bind fun x => match x.d with
  | .bl k => .ok k
  | _ => .bad
def tAnd (a b : FT) : FT := fun e => (a e).bind fun k => if k then b e else .ok false
def tOr (a b : FT) : FT := fun e => (a e).bind fun k => if k then .ok true else b e
def tNot (a : FT) : FT := fun e => (a e).bind fun k => .ok (!k)
def tYes : FT := fun _ => .ok true

/-! ### what is walked -/
def iSeq (a : FE) : FI := fun e => (a e).bind fun x => match x.d with
  | .lst ds => .ok ds
  | .tup ds => .ok ds
  | _ => .bad
def rng (lo : Int) (n : Nat) : List D := (List.range n).map fun i => .int (lo + (i : Nat))
def rangeD (x : D) : R (List D) := match x with
  | .int j => if -(2 ^ 62) ≤ j ∧ j < 2 ^ 62 then .ok (rng 0 j.toNat) else .bad
  | _ => .bad
def iRange1 (a : FE) : FI := fun e => (a e).bind fun x => rangeD x.d
def range2D (x y : D) : R (List D) := match x, y with
  | .int i, .int j => if (-(2 ^ 62) ≤ i ∧ i < 2 ^ 62) ∧ -(2 ^ 62) ≤ j ∧ j < 2 ^ 62 then .ok (rng i (j - i).toNat) else .bad
  | _, _ => .bad
def iRange2 (a b : FE) : FI := fun e => (a e).bind fun x => (b e).bind fun y => range2D x.d y.d
def iStr (a : FE) : FI := fun e => (a e).bind fun x => match x.d with
  | .str z => .ok (z.cps.toList.map fun c => .str ⟨#[c]⟩)
  | _ => .bad
/-- the keys of a new dict -/
def iKeys (a : FE) : FI := fun e => (a e).bind fun x => match x with
  | .ow (.dic kvs) => .ok (kvs.map fun p => .int p.1)
  | _ => .bad

def wipeE (e : Env) : List Nat → Env
  | [] => e
  | v :: vs => (wipeE e vs).set v .no
def lcLoop (j : Nat) (c : FT) (el : FE) (e : Env) : List D → R (List D)
  | [] => .ok []
  | x :: xs => match c (e.set j (.va x)) with
    | .ok true => (match el (e.set j (.va x)) with
      | .ok y => (lcLoop j c el e xs).bind fun ys => .ok (y.d :: ys)
      | _ => .bad)
    | .ok false => lcLoop j c el e xs
    | _ => .bad
/-- [el for j in it if c] -/
def eLc (it : FI) (j : Nat) (c : FT) (el : FE) (own : List Nat) : FE := fun e => (it e).bind fun ds => if ds.length ≤ LIM then (match lcLoop j c el (wipeE e own) ds with
  | .ok ys => .ok (.ow (.lst ys))
  | _ => .bad) else .bad

/-! ### statements -/
inductive Out where
  | nx (e : Env) | rt (s : Sl) | xc (c : Nat) (e : Env) | bad
abbrev FS := Env → Out
def sNext : FS := fun e => .nx e
def Out.bind (o : Out) (f : Env → Out) : Out := match o with
  | .nx e => f e
  | o => o
@[simp] theorem Out.bind_nx (e : Env) (f : Env → Out) : (Out.nx e).bind f = f e := nr rfl
@[simp] theorem Out.bind_rt (s : Sl) (f : Env → Out) : (Out.rt s).bind f = .rt s := nr rfl
@[simp] theorem Out.bind_xc (c : Nat) (e : Env) (f : Env → Out) : (Out.xc c e).bind f = .xc c e := nr rfl
@[simp] theorem Out.bind_bad (f : Env → Out) : Out.bad.bind f = .bad := nr rfl
def R.out {α : Type} (r : R α) (e : Env) (f : α → Out) : Out := match r with
  | .ok a => f a
  | .xc c => .xc c e
  | .bad => .bad
@[simp] theorem R.out_ok {α : Type} (a : α) (e : Env) (f : α → Out) : (R.ok a).out e f = f a := nr rfl
@[simp] theorem R.out_xc {α : Type} (c : Nat) (e : Env) (f : α → Out) : (R.xc c : R α).out e f = .xc c e := nr rfl
@[simp] theorem R.out_bad {α : Type} (e : Env) (f : α → Out) : (R.bad : R α).out e f = .bad := nr rfl
def sSeq (a b : FS) : FS := fun e => (a e).bind b
def sSet (i : Nat) (a : FE) : FS := fun e => (a e).out e fun s => .nx (e.set i s)
def sDrop (a : FE) : FS := fun e => (a e).out e fun _ => .nx e
def sRet (a : FE) : FS := fun e => (a e).out e fun s => .rt s
def sRetO (i : Nat) : FS := fun e => match e[i]? with
  | some (.ow d) => .rt (.ow d)
  | some (.va d) => .rt (.va d)
  | _ => .bad
def sIf (c : FT) (a b : FS) : FS := fun e => (c e).out e fun k => if k then a e else b e
def sRaise (c : Nat) : FS := fun e => .xc c e
/-- xs.append(a), xs the list that slot i holds -/
def sApp (i : Nat) (a : FE) : FS := fun e => match e[i]? with
  | some (.ow (.lst ds)) => (a e).out e fun s => if ds.length < LIM then .nx (e.set i (.ow (.lst (ds ++ [s.d])))) else .bad
  | _ => .bad
/-- xs[k] = a -/
def sPut (i : Nat) (k a : FE) : FS := fun e => match e[i]? with
  | some (.ow (.lst ds)) => (a e).out e fun s => (k e).out e fun x => (match x.d with
    | .int j => if 0 ≤ j ∧ j < ds.length then .nx (e.set i (.ow (.lst (ds.set j.toNat s.d)))) else .bad
    | _ => .bad)
  | _ => .bad
def putA (kvs : List (Int × Fv)) (k : Int) (v : Fv) : List (Int × Fv) :=
  if kvs.any (fun p => p.1 == k) then kvs.map (fun p => if p.1 == k then (p.1, v) else p) else kvs ++ [(k, v)]
def getA (kvs : List (Int × Fv)) (k : Int) : Option Fv := (kvs.find? fun p => p.1 == k).map (·.2)
/-- d[k] = a -/
def sDPut (i : Nat) (k a : FE) : FS := fun e => match e[i]? with
  | some (.ow (.dic kvs)) => (a e).out e fun s => (k e).out e fun x => (match x.d, s.d.fv? with
    | .int j, some v => if kvs.length < LIM then .nx (e.set i (.ow (.dic (putA kvs j v)))) else .bad
    | _, _ => .bad)
  | _ => .bad
def forD (j : Nat) (b : FS) : List D → Env → Out
  | [], e => .nx e
  | x :: xs, e => (b (e.set j (.va x))).bind (forD j b xs)
def sFor (it : FI) (j : Nat) (b : FS) : FS := fun e => (it e).out e fun ds => forD j b ds e
/-- over the keys of the dict that slot i holds -/
def sForK (i j : Nat) (b : FS) : FS := fun e => match e[i]? with
  | some (.ow (.dic kvs)) => forD j b (kvs.map fun p => .int p.1) (e.set i (.va (.dic kvs)))
  | _ => .bad
def whileD (c : FT) (b : FS) : Nat → Env → Out
  | 0, _ => .bad
  | n + 1, e => (c e).out e fun k => if k then (b e).bind (whileD c b n) else .nx e
def sWhile (n : Nat) (c : FT) (b : FS) : FS := fun e => whileD c b n e
/-- the slots named hold their lists no longer alone -/
def pubE (is : List Nat) (e : Env) : Env := is.foldl (fun e i => match e[i]? with
  | some s => e.set i s.frz
  | none => e) e
def sPub (is : List Nat) (a : FS) : FS := fun e => a (pubE is e)
def sTry (a : FS) (h : Nat → FS) : FS := fun e => match a e with
  | .xc c e' => h c e'
  | o => o

/-- a def: its parameters' values, then empty slots; what it hands back -/
def fnOf (N : Nat) (body : FS) (ds : List D) : R Sl := match body (ds.map Sl.va ++ List.replicate (N - ds.length) .no) with
  | .nx _ => .ok (.va .non)
  | .rt s => .ok s
  | .xc c _ => .xc c
  | .bad => .bad

/-- a call of a def with n parameters -/
def eCall (n : Nat) (f : List D → R Sl) (a : FA) : FE := fun e => (a e).bind fun ds => if ds.length = n then f ds else .bad
/-- try: the body, except CordError as x: the six marks; x's slot is ix, the marks' im -/
def sTold (ix im : Nat) (b : FS) : FS := fun e => if ix < e.length ∧ im < e.length then (match b e with
  | .xc c e' => if c < 5 then .nx ((e'.set ix .no).set im (.ow (.lst [.bl (c == 0), .bl (c == 1), .bl (c == 2), .bl (c == 3), .bl (c == 4), .bl true]))) else .bad
  | o => o) else .bad
/-! ### operations -/
def small (i : Int) : Bool := decide (-(2 ^ 64) < i ∧ i < 2 ^ 64)
def dAdd : D → D → R Sl
  | .int i, .int j => .ok (.va (.int (i + j)))
  | .lst a, .lst b => if a.length + b.length ≤ LIM then .ok (.ow (.lst (a ++ b))) else .bad
  | .tup a, .tup b => if a.length + b.length ≤ LIM then .ok (.va (.tup (a ++ b))) else .bad
  | .str a, .str b => if a.length + b.length ≤ LIM then .ok (.va (.str (a ++ b))) else .bad
  | _, _ => .bad
def dSub : D → D → R Sl
  | .int i, .int j => .ok (.va (.int (i - j)))
  | _, _ => .bad
def dMul : D → D → R Sl
  | .int i, .int j => if small i || small j then .ok (.va (.int (i * j))) else .bad
  | _, _ => .bad
def dFloor : D → D → R Sl
  | .int i, .int j => if 0 < j ∧ j < 1073741824 then .ok (.va (.int (i / j))) else .bad
  | _, _ => .bad
def dMod : D → D → R Sl
  | .int i, .int j => if 0 < j then .ok (.va (.int (i % j))) else .bad
  | _, _ => .bad
def dPow : D → D → R Sl
  | .int i, .int j => if (0 ≤ j ∧ j ≤ 1000000) ∧ i.natAbs < 2 ^ 64 then .ok (.va (.int (i ^ j.toNat))) else .bad
  | _, _ => .bad
def dNeg : D → R Sl
  | .int i => .ok (.va (.int (-i)))
  | _ => .bad
/-- plain texts, numbers and what is made of them, n levels deep -/
def D.lev : Nat → D → Bool
  | _, .non => true
  | _, .bl _ => true
  | _, .int _ => true
  | _, .str x => x.cps.toList.all (fun c => decide (32 ≤ c ∧ c < 127)) && decide (x.length ≤ 100)
  | n + 1, .lst ds => ds.all (D.lev n)
  | n + 1, .tup ds => ds.all (D.lev n)
  | _, _ => false
def allEq (f : D → D → Bool) : List D → List D → Bool
  | [], [] => true
  | x :: xs, y :: ys => f x y && allEq f xs ys
  | [], _ :: _ => false
  | _ :: _, [] => false
def beqL : Nat → D → D → Bool
  | _, .non, .non => true
  | _, .bl a, .bl b => a == b
  | _, .bl a, .int j => (if a then 1 else 0) == j
  | _, .int i, .bl b => i == (if b then 1 else 0)
  | _, .int i, .int j => i == j
  | _, .str x, .str y => x == y
  | n + 1, .lst a, .lst b => allEq (beqL n) a b
  | n + 1, .tup a, .tup b => allEq (beqL n) a b
  | _, _, _ => false
def cmpD (x y : D) : Option Bool := match x, y with
  | .int i, .int j => some (decide (i = j))
  | .bl a, .bl b => some (decide (a = b))
  | .str a, .str b => some (decide (a = b))
  | x, y => if x.lev 6 && y.lev 6 then some (beqL 6 x y) else none
def dEq (x y : D) : R Sl := match cmpD x y with
  | some b => .ok (.va (.bl b))
  | none => .bad
def dNe (x y : D) : R Sl := match cmpD x y with
  | some b => .ok (.va (.bl (!b)))
  | none => .bad
def dLt : D → D → R Sl
  | .int i, .int j => .ok (.va (.bl (decide (i < j))))
  | _, _ => .bad
def dLe : D → D → R Sl
  | .int i, .int j => .ok (.va (.bl (decide (i ≤ j))))
  | _, _ => .bad
def dGt : D → D → R Sl
  | .int i, .int j => .ok (.va (.bl (decide (j < i))))
  | _, _ => .bad
def dGe : D → D → R Sl
  | .int i, .int j => .ok (.va (.bl (decide (j ≤ i))))
  | _, _ => .bad
def D.isNon : D → Bool
  | .non => true
  | _ => false
def dIsN (x : D) : R Sl := .ok (.va (.bl x.isNon))
def dNotN (x : D) : R Sl := .ok (.va (.bl (!x.isNon)))
/-- the place of an index -/
def ixOf (n : Nat) (i : Int) : Option Nat := if 0 ≤ i then (if i < n then some i.toNat else none) else if -(n : Int) ≤ i then some (i + n).toNat else none
def atD {α : Type} (xs : List α) (i : Int) : Option α := (ixOf xs.length i).bind fun j => xs[j]?
def dIdx : D → D → R Sl
  | .lst ds, .int i => (match atD ds i with
    | some d => .ok (.va d)
    | none => .bad)
  | .tup ds, .int i => (match atD ds i with
    | some d => .ok (.va d)
    | none => .bad)
  | .scr ns, .int i => (match atD ns i with
    | some n => .ok (.va (.int n))
    | none => .bad)
  | .str z, .int i => if z.length ≤ LIM then (match atD z.cps.toList i with
    | some c => .ok (.va (.str ⟨#[c]⟩))
    | none => .bad) else .bad
  | _, _ => .bad
/-- an item of a list that the slot holds, or of a value -/
def eIxO (i : Nat) (a : FE) : FE := fun e => match e[i]? with
  | some (.ow (.lst ds)) => (a e).bind fun x => (match x.d with
    | .int k => (match atD ds k with
      | some d => .ok (.va d)
      | none => .bad)
    | _ => .bad)
  | some (.va d) => (a e).bind fun x => dIdx d x.d
  | _ => .bad
def dGetK : D → D → R Sl
  | .dic kvs, .int k => (match getA kvs k with
    | some v => .ok (.va v.d)
    | none => .bad)
  | _, _ => .bad
/-- d.get(k, x) -/
def dGet2 (kvs : List (Int × Fv)) : D → D → R Sl
  | .int k, .int x => .ok (.va ((getA kvs k).getD (.int x)).d)
  | _, _ => .bad
def eGet2 (a k x : FE) : FE := fun e => (a e).bind fun u => match u.d with
  | .dic kvs => (k e).bind fun v => (x e).bind fun w => dGet2 kvs v.d w.d
  | _ => .bad
def dNotInK : D → D → R Sl
  | .int k, .dic kvs => .ok (.va (.bl (!(getA kvs k).isSome)))
  | _, _ => .bad
def flatEq : D → D → Bool
  | .int i, .int j => i == j
  | .str x, .str y => x == y
  | _, _ => false
/-- not in: ints in a list or tuple of ints -/
def allInt (ds : List D) : Bool := ds.all fun d => match d with
  | .int _ => true
  | _ => false
def dNotIn : D → D → R Sl
  | .int i, .lst ds => if allInt ds then .ok (.va (.bl (!ds.any fun d => flatEq d (.int i)))) else .bad
  | .int i, .tup ds => if allInt ds then .ok (.va (.bl (!ds.any fun d => flatEq d (.int i)))) else .bad
  | _, _ => .bad
/-- a sign not in a text -/
def dNotInS : D → D → R Sl
  | .str x, .str z => if x.cps.size = 1 then .ok (.va (.bl (!decide (x.cps.getD 0 0 ∈ z.cps.toList)))) else .bad
  | _, _ => .bad
def sIxD (n d : Nat) : Option Int → Nat
  | none => d
  | some v => if v < 0 then (v + (n : Int)).toNat else min v.toNat n
def cutD {α : Type} (xs : List α) (lo hi : Option Int) : List α := (xs.drop (sIxD xs.length 0 lo)).take (sIxD xs.length xs.length hi - sIxD xs.length 0 lo)
def dSl : D → Option Int → Option Int → R Sl
  | .lst ds, lo, hi => .ok (.ow (.lst (cutD ds lo hi)))
  | .tup ds, lo, hi => .ok (.va (.tup (cutD ds lo hi)))
  | .str z, lo, hi => if z.length ≤ LIM then .ok (.va (.str ⟨(cutD z.cps.toList lo hi).toArray⟩)) else .bad
  | _, _, _ => .bad
/-! ### built-ins -/
def bLen : List D → R Sl
  | [.lst ds] => .ok (.va (.int ds.length))
  | [.tup ds] => .ok (.va (.int ds.length))
  | [.scr ns] => .ok (.va (.int ns.length))
  | [.str z] => if z.length ≤ LIM then .ok (.va (.int z.length)) else .bad
  | _ => .bad
def bLenD : List D → R Sl
  | [.dic kvs] => .ok (.va (.int kvs.length))
  | _ => .bad
def bList : List D → R Sl
  | [.lst ds] => .ok (.ow (.lst ds))
  | [.tup ds] => .ok (.ow (.lst ds))
  | _ => .bad
def bTuple : List D → R Sl
  | [.lst ds] => .ok (.va (.tup ds))
  | [.tup ds] => .ok (.va (.tup ds))
  | _ => .bad
def bMax2 : List D → R Sl
  | [.int i, .int j] => .ok (.va (.int (if j > i then j else i)))
  | _ => .bad
def bMin2 : List D → R Sl
  | [.int i, .int j] => .ok (.va (.int (if j < i then j else i)))
  | _ => .bad
def intsOf : List D → Option (List Int)
  | [] => some []
  | .int i :: r => (intsOf r).map (i :: ·)
  | _ :: _ => none
def bInt : List D → R Sl
  | [.int i] => .ok (.va (.int i))
  | [.bl k] => .ok (.va (.int (if k then 1 else 0)))
  | _ => .bad
def bSum : List D → R Sl
  | [.lst ds] => (match intsOf ds with
    | some ns => .ok (.va (.int ns.sum))
    | none => .bad)
  | _ => .bad
def maxL : List Int → Int
  | [] => 0
  | x :: xs => xs.foldl (fun a b => if a < b then b else a) x
def minL : List Int → Int
  | [] => 0
  | x :: xs => xs.foldl (fun a b => if b < a then b else a) x
def bMaxL : List D → R Sl
  | [.lst ds] => (match intsOf ds with
    | some (x :: xs) => .ok (.va (.int (maxL (x :: xs))))
    | _ => .bad)
  | _ => .bad
def bMinL : List D → R Sl
  | [.lst ds] => (match intsOf ds with
    | some (x :: xs) => .ok (.va (.int (minL (x :: xs))))
    | _ => .bad)
  | _ => .bad
def insI (x : Int) : List Int → List Int
  | [] => [x]
  | y :: ys => if x ≤ y then x :: y :: ys else y :: insI x ys
def sortI : List Int → List Int
  | [] => []
  | x :: xs => insI x (sortI xs)
/-- sorted(d) of a dict -/
def bSortedD : List D → R Sl
  | [.dic kvs] => if kvs.length < 64 then .ok (.ow (.lst ((sortI (kvs.map (·.1))).map .int))) else .bad
  | _ => .bad
/-- isinstance(x, T) of plain values -/
def isTy (T : String) : D → Option Bool
  | .non => some false
  | .bl _ => if T = "int" ∨ T = "bool" then some true else some false
  | .int _ => if T = "int" then some true else some false
  | .str _ => if T = "str" then some true else some false
  | .lst _ => if T = "list" then some true else some false
  | .tup _ => if T = "tuple" then some true else some false
  | _ => none
def bIsi (T : String) : List D → R Sl
  | [x] => (match isTy T x with
    | some b => .ok (.va (.bl b))
    | none => .bad)
  | _ => .bad
/-- xs.count(y), xs.index(y) of ints -/
def dCount (ds : List D) : D → R Sl
  | .int k => (match intsOf ds with
    | some ns => .ok (.va (.int (ns.count k : Nat)))
    | none => .bad)
  | _ => .bad
def dIndex (ds : List D) : D → R Sl
  | .int k => (match intsOf ds with
    | some ns => if k ∈ ns then .ok (.va (.int (ns.idxOf k : Nat))) else .bad
    | none => .bad)
  | _ => .bad
def eBm (g : List D → D → R Sl) (a b : FE) : FE := fun e => (a e).bind fun x => match x.d with
  | .lst ds => (b e).bind fun y => g ds y.d
  | _ => .bad
end DL
set_option maxRecDepth 100000
namespace DL
open PySem (Str)
/-- what the sequences of ints in a sequence come to -/
def intsD : D → Option (List Int)
  | .lst es => intsOf es
  | .tup es => intsOf es
  | _ => none
def rowsL : List D → Option (List (List Int))
  | [] => some []
  | d :: ds => (intsD d).bind fun r => (rowsL ds).map (r :: ·)
def rowsD : D → Option (List (List Int))
  | .lst ds => rowsL ds
  | .tup ds => rowsL ds
  | _ => none
/-- every item that is old is called new -/
def ren (old new x : Int) : Int := if x = old then new else x
/-- the k-th pair joined: the rows, the pairs, the rings -/
def joinStep (s : List (List Int) × List (List Int) × Int) (k : Nat) : List (List Int) × List (List Int) × Int :=
  (s.1.map fun r => r.map (ren ((s.2.1.getD k []).getD 1 0) ((s.2.1.getD k []).getD 0 0)),
   s.2.1.take (k + 1) ++ (s.2.1.drop (k + 1)).map fun r => r.map (ren ((s.2.1.getD k []).getD 1 0) ((s.2.1.getD k []).getD 0 0)),
   if (s.2.1.getD k []).getD 0 0 = (s.2.1.getD k []).getD 1 0 then s.2.2 + 1 else s.2.2)
def joinAll (rs ps : List (List Int)) (rings : Int) : List (List Int) × List (List Int) × Int := (List.range ps.length).foldl joinStep (rs, ps, rings)
def joinedF (num : List D → R Sl) : List D → R Sl
  | [a, .int rings, b] => (match rowsD a, rowsD b with
    | some rs, some ps => if (rs.length < 500 ∧ ps.length < 500) ∧ (∀ r ∈ rs, r.length < 1000) ∧ ∀ p ∈ ps, p.length = 2 then
        (num [.lst ((joinAll rs ps rings).1.map fun r => .lst (r.map .int))]).bind fun s => .ok (.va (.tup [s.d, .int (joinAll rs ps rings).2.2])) else .bad
    | _, _ => .bad)
  | _ => .bad
end DL
set_option maxRecDepth 100000
namespace DL
open PySem (Str)
def far4 (k : Int) : Int := (k + 2) % 4
def at4 (r : List Int) (k : Int) : Int := r.getD k.toNat 0
def put4 (r : List Int) (k v : Int) : List Int := r.set k.toNat v
def slidC (c g h : List Int) (p i j o : Int) : List Int := put4 (put4 (put4 (put4 c (far4 i) (at4 c i)) i (at4 g (far4 j))) (far4 p) (at4 c p)) p (at4 h (far4 o))
def slidG (c g h : List Int) (i j r q : Int) : List Int := put4 (put4 (put4 (put4 g j (at4 c (far4 i))) (far4 j) (at4 c i)) (far4 r) (at4 g r)) r (at4 h (far4 q))
def slidH (c g h : List Int) (p r q o : Int) : List Int := put4 (put4 (put4 (put4 h o (at4 c (far4 p))) (far4 o) (at4 c p)) q (at4 g (far4 r))) (far4 q) (at4 g r)
def slidF : List D → R Sl
  | [a, b, d, e] => (match intsD a, intsD b, intsD d, intsD e with
    | some c, some g, some h, some [p, i, j, r, q, o] => if (c.length = 4 ∧ g.length = 4 ∧ h.length = 4) ∧ ∀ x ∈ [p, i, j, r, q, o], 0 ≤ x ∧ x < 4 then
        .ok (.va (.lst [.tup ((slidC c g h p i j o).map .int), .tup ((slidG c g h i j r q).map .int), .tup ((slidH c g h p r q o).map .int)])) else .bad
    | _, _, _, _ => .bad)
  | _ => .bad
/-- the different ones among ints, by first standing -/
def diff1 (s : List Int) (x : Int) : List Int := if s.any (· == x) then s else s ++ [x]
def dLenSet : D → R Sl
  | .lst ds => (match intsOf ds with
    | some ns => if ns.length ≤ 1000 then .ok (.va (.int ((ns.foldl diff1 []).length : Nat))) else .bad
    | none => .bad)
  | _ => .bad
def sTry5 (a h : FS) : FS := fun e => match a e with
  | .xc c e' => if c < 5 then h e' else .bad
  | o => o
end DL
set_option maxRecDepth 100000
namespace DL
open PySem (Str)
/-! SF3: sums by power: dicts of whole numbers that a def fills for its caller -/
abbrev IK := List (Int × Int)
def toF (l : IK) : List (Int × Fv) := l.map fun p => (p.1, Fv.int p.2)
def ofF : List (Int × Fv) → Option IK
  | [] => some []
  | (k, .int i) :: r => (ofF r).map ((k, i) :: ·)
  | _ :: _ => none
def getZ (l : IK) (k : Int) : Int := ((l.find? fun p => p.1 == k).map (·.2)).getD 0
def putZ (l : IK) (k v : Int) : IK := if l.any (fun p => p.1 == k) then l.map (fun p => if p.1 == k then (p.1, v) else p) else l ++ [(k, v)]
def addZ (l : IK) (k z : Int) : IK := putZ l k (getZ l k + z)
def addTo (f o : IK) (sh sg : Int) : IK := o.foldl (fun f p => addZ f (p.1 + sh) (sg * getZ o p.1)) f
/-- the statement add_to(d, a, b, c), d in slot i -/
def sAddT (i : Nat) (fx fsh fsg : FE) : FS := fun e => match e[i]? with
  | some (.ow (.dic kvs)) => (fx e).out e fun s => match s with
    | .ow (.dic ovs) => (fsh e).out e fun a => (fsg e).out e fun b => (match ofF kvs, ofF ovs, a.d, b.d with
      | some l, some o, .int sh, .int sg => if (l.length + o.length < LIM) ∧ -(2 ^ 64) < sg ∧ sg < 2 ^ 64 then .nx (e.set i (.ow (.dic (toF (addTo l o sh sg))))) else .bad
      | _, _, _, _ => .bad)
    | _ => .bad
  | _ => .bad
/-- of rings alone -/
def ringsD : Nat → IK
  | 0 => [(0, 1)]
  | n + 1 => addTo (addTo [] (ringsD n) 2 (-1)) (ringsD n) (-2) (-1)
def ofRingsF : List D → R Sl
  | [.int n] => if (0 ≤ n ∧ n ≤ 1000) ∧ ((List.range (n.toNat + 1)).all fun i => decide ((ringsD i).length ≤ 2000)) = true then .ok (.ow (.dic (toF (ringsD n.toNat)))) else .bad
  | _ => .bad
/-- what a law's own adding does: a row of ints by ch -/
def lawAddL (ch : List D → R Sl) (l : IK) (pw rg : Int) : Option IK := match ch [.int rg] with
  | .ok (.va (.lst ds)) => (match intsOf ds with
    | some row => if l.length + row.length < LIM then some ((List.range row.length).foldl (fun f (e : Nat) => addZ f (pw + 2 * rg - 4 * (e : Int)) (row.getD e 0 * (1 - 2 * (rg % 2)))) l) else none
    | none => none)
  | _ => none
def sLawAdd (ch : List D → R Sl) (i : Nat) (fpw frg : FE) : FS := fun e => match e[i]? with
  | some (.ow (.dic kvs)) => (fpw e).out e fun a => (frg e).out e fun b => (match ofF kvs, a.d, b.d with
      | some l, .int pw, .int rg => (match lawAddL ch l pw rg with
        | some l' => .nx (e.set i (.ow (.dic (toF l'))))
        | none => .bad)
      | _, _, _ => .bad)
  | _ => .bad
/-- sorted(d) of a dict, up to 1000 keys -/
def bSortedA : List D → R Sl
  | [.dic kvs] => if kvs.length ≤ 1000 then .ok (.ow (.lst ((sortI (kvs.map (·.1))).map .int))) else .bad
  | _ => .bad
/-- the rings that pairs of lines leave -/
def rngL : List (List Int) → Nat
  | [] => 0
  | p :: ps => (if p.getD 0 0 = p.getD 1 0 then 1 else 0) + rngL (ps.map fun r => r.map (ren (p.getD 1 0) (p.getD 0 0)))
termination_by ps => ps.length
decreasing_by simp
def ringsF : List D → R Sl
  | [a] => (match rowsD a with
    | some ps => if ps.length < 500 ∧ ∀ p ∈ ps, p.length = 2 then .ok (.va (.int (rngL ps : Nat))) else .bad
    | none => .bad)
  | _ => .bad
end DL
namespace DL
open PySem (Str)
def B_counted_1 : FS := (sDPut 1 (eVar 3) (eOp2 dAdd (eLend (eGet2 (eVar 1) (eVar 3) (eC (.int 0)))) (eC (.int 1))))
def B_counted_2 : FS := (sFor (iSeq (eVar 2)) 3 B_counted_1)
/-- 0 crossings, 1 found, 2 row, 3 name -/
def F_counted : FS := (sSeq (sSet 1 eDNew)
  (sSeq (sFor (iSeq (eVar 0)) 2 B_counted_2)
  (sRetO 1)))
def f_counted : List D → R Sl := fnOf 4 F_counted
def B_numbered_1 : FS := (sDPut 1 (eVar 2) (eLend (eCB bLenD (aCons (eVar 1) aNil))))
def B_numbered_2 : FS := (sPub [1] (sApp 3 (eCB bTuple (aCons (eLc (iSeq (eVar 4)) 2 tYes (eOp2 dGetK (eVar 1) (eVar 2)) [2]) aNil))))
/-- 0 crossings, 1 numbers, 2 name, 3 rows, 4 row -/
def F_numbered : FS := (sSeq (sSet 1 eDNew)
  (sSeq (sFor (iKeys (eCall 1 f_counted (aCons (eVar 0) aNil))) 2 B_numbered_1)
  (sSeq (sSet 3 (eLst aNil))
  (sSeq (sFor (iSeq (eVar 0)) 4 B_numbered_2)
  (sPub [3] (sRet (eCB bTuple (aCons (eVar 3) aNil))))))))
def f_numbered : List D → R Sl := fnOf 5 F_numbered
/-- 0 script, 1 k -/
def F_law_cell_at : FS := (sSeq (sIf (tVal (eOp2 dLt (eVar 1) (eCB bLen (aCons (eVar 0) aNil)))) (sRet (eOp2 dIdx (eVar 0) (eVar 1))) sNext)
  (sRet (eC (.int 0))))
def f_law_cell_at : List D → R Sl := fnOf 2 F_law_cell_at
/-- 0 script, 1 k -/
def F_law_pick : FS := (sSeq (sIf (tVal (eOp2 dLt (eVar 1) (eCB bLen (aCons (eVar 0) aNil)))) (sRet (eOp2 dIdx (eVar 0) (eVar 1))) sNext)
  (sRet (eOp2 dFloor (eOp2 dMod (eOp2 dMul (eOp2 dAdd (eOp2 dAdd (eCall 2 f_law_cell_at (aCons (eVar 0) (aCons (eC (.int 0)) aNil))) (eOp2 dMul (eC (.int 7)) (eVar 1))) (eC (.int 3))) (eC (.int 48271))) (eC (.int 2147483647))) (eC (.int 13)))))
def f_law_pick : List D → R Sl := fnOf 2 F_law_pick
def B_law_rows_1 : FS := (sSeq (sPut 4 (eOp2 dIdx (eOp2 dIdx (eVar 3) (eVar 5)) (eC (.int 0))) (eVar 5))
  (sPut 4 (eOp2 dIdx (eOp2 dIdx (eVar 3) (eVar 5)) (eC (.int 1))) (eVar 5)))
def B_law_rows_2 : FS := (sSeq (sSet 8 (eOp2 dAdd (eC (.int 1)) (eOp2 dMod (eCall 2 f_law_pick (aCons (eVar 0) (aCons (eOp2 dAdd (eVar 1) (eVar 7)) aNil))) (eOp2 dSub (eCB bLen (aCons (eVar 6) aNil)) (eC (.int 1))))))
  (sSeq (sPut 4 (eOp2 dIdx (eVar 6) (eC (.int 0))) (eVar 7))
  (sSeq (sPut 4 (eOp2 dIdx (eVar 6) (eVar 8)) (eVar 7))
  (sSeq (sSet 6 (eFz (eOp2 dAdd (eSl dSl (eVar 6) (oSome (eC (.int 1))) (oSome (eVar 8))) (eSl dSl (eVar 6) (oSome (eOp2 dAdd (eVar 8) (eC (.int 1)))) oNone))))
  (sSet 7 (eOp2 dAdd (eVar 7) (eC (.int 1))))))))
/-- 0 script, 1 start, 2 many, 3 fixed, 4 owner, 5 k, 6 left, 7 name, 8 at -/
def F_law_rows : FS := (sSeq (sSet 4 (eLc (iRange1 (eOp2 dMul (eC (.int 4)) (eVar 2))) 5 tYes (eOp1 dNeg (eC (.int 1))) [5]))
  (sSeq (sFor (iRange1 (eCB bLen (aCons (eVar 3) aNil))) 5 B_law_rows_1)
  (sSeq (sSet 6 (eFz (eLc (iRange1 (eOp2 dMul (eC (.int 4)) (eVar 2))) 5 (tVal (eOp2 dLt (eIxO 4 (eVar 5)) (eC (.int 0)))) (eVar 5) [5])))
  (sSeq (sSet 7 (eCB bLen (aCons (eVar 3) aNil)))
  (sSeq (sWhile 1000 (tVal (eOp2 dGt (eCB bLen (aCons (eVar 6) aNil)) (eC (.int 1)))) B_law_rows_2)
  (sPub [4] (sRet (eLc (iRange1 (eVar 2)) 5 tYes (eCB bTuple (aCons (eSl dSl (eVar 4) (oSome (eOp2 dMul (eC (.int 4)) (eVar 5))) (oSome (eOp2 dAdd (eOp2 dMul (eC (.int 4)) (eVar 5)) (eC (.int 4))))) aNil)) [5]))))))))
def f_law_rows : List D → R Sl := fnOf 9 F_law_rows
def B_law_numbered_1 : FS := (sIf (tVal (eLend (eOp2 dNotIn (eVar 3) (eVar 1)))) (sApp 1 (eVar 3)) sNext)
def B_law_numbered_2 : FS := (sFor (iSeq (eVar 2)) 3 B_law_numbered_1)
def B_law_numbered_3 : FS := (sPub [1] (sApp 4 (eCB bTuple (aCons (eLc (iSeq (eVar 2)) 3 tYes (eBm dIndex (eVar 1) (eVar 3)) [3]) aNil))))
/-- 0 rows, 1 names, 2 row, 3 name, 4 found -/
def F_law_numbered : FS := (sSeq (sSet 1 (eLst aNil))
  (sSeq (sFor (iSeq (eVar 0)) 2 B_law_numbered_2)
  (sSeq (sSet 4 (eLst aNil))
  (sSeq (sFor (iSeq (eVar 0)) 2 B_law_numbered_3)
  (sPub [4] (sRet (eCB bTuple (aCons (eVar 4) aNil))))))))
def f_law_numbered : List D → R Sl := fnOf 5 F_law_numbered
/-- 0 x -/
def F_law_whole : FS := (sRet (eAnd (eOp1 (fun x => bIsi "int" [x]) (eVar 0)) (eNot (eOp1 (fun x => bIsi "bool" [x]) (eVar 0)))))
def f_law_whole : List D → R Sl := fnOf 1 F_law_whole
def B_law_same_1 : FS := (sIf (tOr (tNot (tVal (eCall 1 f_law_whole (aCons (eOp2 dIdx (eVar 3) (eVar 4)) aNil)))) (tVal (eOp2 dNe (eOp2 dIdx (eVar 3) (eVar 4)) (eOp2 dIdx (eOp2 dIdx (eOp2 dIdx (eVar 1) (eC (.int 0))) (eVar 2)) (eVar 4))))) (sRet (eC (.bl false))) sNext)
def B_law_same_2 : FS := (sSeq (sSet 3 (eOp2 dIdx (eOp2 dIdx (eVar 0) (eC (.int 0))) (eVar 2)))
  (sSeq (sIf (tOr (tNot (tVal (eOp1 (fun x => bIsi "tuple" [x]) (eVar 3)))) (tVal (eOp2 dNe (eCB bLen (aCons (eVar 3) aNil)) (eC (.int 4))))) (sRet (eC (.bl false))) sNext)
  (sFor (iRange1 (eC (.int 4))) 4 B_law_same_1)))
/-- 0 found, 1 due, 2 k, 3 row, 4 e -/
def F_law_same : FS := (sSeq (sIf (tOr (tNot (tVal (eOp1 (fun x => bIsi "tuple" [x]) (eVar 0)))) (tOr (tVal (eOp2 dNe (eCB bLen (aCons (eVar 0) aNil)) (eC (.int 2)))) (tNot (tVal (eOp1 (fun x => bIsi "tuple" [x]) (eOp2 dIdx (eVar 0) (eC (.int 0)))))))) (sRet (eC (.bl false))) sNext)
  (sSeq (sIf (tOr (tNot (tVal (eCall 1 f_law_whole (aCons (eOp2 dIdx (eVar 0) (eC (.int 1))) aNil)))) (tOr (tVal (eOp2 dNe (eOp2 dIdx (eVar 0) (eC (.int 1))) (eOp2 dIdx (eVar 1) (eC (.int 1))))) (tVal (eOp2 dNe (eCB bLen (aCons (eOp2 dIdx (eVar 0) (eC (.int 0))) aNil)) (eCB bLen (aCons (eOp2 dIdx (eVar 1) (eC (.int 0))) aNil)))))) (sRet (eC (.bl false))) sNext)
  (sSeq (sFor (iRange1 (eCB bLen (aCons (eOp2 dIdx (eVar 1) (eC (.int 0))) aNil))) 2 B_law_same_2)
  (sRet (eC (.bl true))))))
def f_law_same : List D → R Sl := fnOf 5 F_law_same
/-- 0 marks, 1 which -/
def F_law_refused : FS := (sRet (eOp2 dEq (eVar 0) (eLst (aCons (eOp2 dEq (eVar 1) (eC (.int 0))) (aCons (eOp2 dEq (eVar 1) (eC (.int 1))) (aCons (eOp2 dEq (eVar 1) (eC (.int 2))) (aCons (eOp2 dEq (eVar 1) (eC (.int 3))) (aCons (eOp2 dEq (eVar 1) (eC (.int 4))) (aCons (eC (.bl true)) aNil)))))))))
def f_law_refused : List D → R Sl := fnOf 2 F_law_refused
def B_places_of_1 : FS := (sIf (tVal (eOp2 dEq (eOp2 dIdx (eOp2 dIdx (eVar 0) (eVar 3)) (eVar 4)) (eVar 1))) (sApp 2 (eTup (aCons (eVar 3) (aCons (eVar 4) aNil)))) sNext)
def B_places_of_2 : FS := (sFor (iRange1 (eC (.int 4))) 4 B_places_of_1)
/-- 0 crossings, 1 line, 2 found, 3 at, 4 end -/
def F_places_of : FS := (sSeq (sSet 2 (eLst aNil))
  (sSeq (sFor (iRange1 (eCB bLen (aCons (eVar 0) aNil))) 3 B_places_of_2)
  (sRetO 2)))
def f_places_of : List D → R Sl := fnOf 5 F_places_of
/-- 0 sheet, 1 line, 2 found -/
def F_ends : FS := (sSeq (sSet 2 (eFz (eCall 2 f_places_of (aCons (eOp2 dIdx (eVar 0) (eC (.int 0))) (aCons (eVar 1) aNil)))))
  (sSeq (sIf (tVal (eOp2 dNe (eCB bLen (aCons (eVar 2) aNil)) (eC (.int 2)))) (sRaise 2) sNext)
  (sRet (eTup (aCons (eOp2 dIdx (eVar 2) (eC (.int 0))) (aCons (eOp2 dIdx (eVar 2) (eC (.int 1))) aNil))))))
def f_ends : List D → R Sl := fnOf 3 F_ends
/-- 0 sheet, 1 at -/
def F_row_at : FS := (sSeq (sIf (tNot (tVal (eChain dLe dLt (eC (.int 0)) (eVar 1) (eCB bLen (aCons (eOp2 dIdx (eVar 0) (eC (.int 0))) aNil))))) (sRaise 2) sNext)
  (sRet (eOp2 dIdx (eOp2 dIdx (eVar 0) (eC (.int 0))) (eVar 1))))
def f_row_at : List D → R Sl := fnOf 2 F_row_at
/-- 0 crossings, 1 gone, 2 k -/
def F_without : FS := (sRet (eLc (iRange1 (eCB bLen (aCons (eVar 0) aNil))) 2 (tVal (eOp2 dNotIn (eVar 2) (eVar 1))) (eOp2 dIdx (eVar 0) (eVar 2)) [2]))
def f_without : List D → R Sl := fnOf 3 F_without
/-- 0 row, 1 old, 2 new, 3 name -/
def F_renamed : FS := (sRet (eCB bTuple (aCons (eLc (iSeq (eVar 0)) 3 tYes (eIf (tVal (eOp2 dEq (eVar 3) (eVar 1))) (eVar 2) (eVar 3)) [3]) aNil)))
def f_renamed : List D → R Sl := fnOf 4 F_renamed
def B_joined_1 : FS := (sSeq (sSet 5 (eOp2 dIdx (eVar 4) (eC (.int 0))))
  (sSeq (sSet 4 (eFz (eSl dSl (eVar 4) (oSome (eC (.int 1))) oNone)))
  (sIf (tVal (eOp2 dEq (eOp2 dIdx (eVar 5) (eC (.int 0))) (eOp2 dIdx (eVar 5) (eC (.int 1))))) (sSet 1 (eOp2 dAdd (eVar 1) (eC (.int 1)))) (sSeq (sSet 3 (eFz (eLc (iSeq (eVar 3)) 6 tYes (eCall 3 f_renamed (aCons (eVar 6) (aCons (eOp2 dIdx (eVar 5) (eC (.int 1))) (aCons (eOp2 dIdx (eVar 5) (eC (.int 0))) aNil)))) [6])))
  (sSet 4 (eFz (eLc (iSeq (eVar 4)) 7 tYes (eCall 3 f_renamed (aCons (eVar 7) (aCons (eOp2 dIdx (eVar 5) (eC (.int 1))) (aCons (eOp2 dIdx (eVar 5) (eC (.int 0))) aNil)))) [7])))))))
/-- 0 crossings, 1 rings, 2 pairs, 3 rows, 4 left, 5 pair, 6 row, 7 two -/
def F_joined : FS := (sSeq (sSet 3 (eFz (eCB bList (aCons (eVar 0) aNil))))
  (sSeq (sSet 4 (eFz (eCB bList (aCons (eVar 2) aNil))))
  (sSeq (sWhile 1000 (tVal (eOp2 dGt (eCB bLen (aCons (eVar 4) aNil)) (eC (.int 0)))) B_joined_1)
  (sRet (eTup (aCons (eCall 1 f_numbered (aCons (eVar 3) aNil)) (aCons (eVar 1) aNil)))))))
def f_joined : List D → R Sl := fnOf 8 F_joined
/-- 0 sheet, 1 at, 2 way, 3 row, 4 pairs -/
def F_split : FS := (sSeq (sSet 3 (eFz (eCall 2 f_row_at (aCons (eVar 0) (aCons (eVar 1) aNil)))))
  (sSeq (sSet 4 (eFz (eLst (aCons (eTup (aCons (eOp2 dIdx (eVar 3) (eC (.int 0))) (aCons (eOp2 dIdx (eVar 3) (eC (.int 3))) aNil))) (aCons (eTup (aCons (eOp2 dIdx (eVar 3) (eC (.int 1))) (aCons (eOp2 dIdx (eVar 3) (eC (.int 2))) aNil))) aNil)))))
  (sSeq (sIf (tVal (eOp2 dEq (eVar 2) (eC (.int 0)))) (sSet 4 (eFz (eLst (aCons (eTup (aCons (eOp2 dIdx (eVar 3) (eC (.int 0))) (aCons (eOp2 dIdx (eVar 3) (eC (.int 1))) aNil))) (aCons (eTup (aCons (eOp2 dIdx (eVar 3) (eC (.int 2))) (aCons (eOp2 dIdx (eVar 3) (eC (.int 3))) aNil))) aNil))))) sNext)
  (sRet (eCall 3 f_joined (aCons (eCall 2 f_without (aCons (eOp2 dIdx (eVar 0) (eC (.int 0))) (aCons (eLst (aCons (eVar 1) aNil)) aNil))) (aCons (eOp2 dIdx (eVar 0) (eC (.int 1))) (aCons (eVar 4) aNil))))))))
def f_split : List D → R Sl := fnOf 5 F_split
def f_law_joined : List D → R Sl := joinedF f_law_numbered
/-- 0 cell, 1 many -/
def F_law_far : FS := (sSeq (sIf (tVal (eOp2 dEq (eOp2 dMod (eVar 0) (eC (.int 2))) (eC (.int 1)))) (sRet (eOp2 dAdd (eVar 1) (eOp2 dMod (eOp2 dFloor (eVar 0) (eC (.int 2))) (eOp2 dPow (eC (.int 10)) (eC (.int 30)))))) sNext)
  (sRet (eOp2 dSub (eOp1 dNeg (eC (.int 1))) (eOp2 dMod (eOp2 dFloor (eVar 0) (eC (.int 2))) (eOp2 dPow (eC (.int 10)) (eC (.int 30)))))))
def f_law_far : List D → R Sl := fnOf 2 F_law_far
/-- 0 sheet, 1 rows, 2 row -/
def F_mirrored : FS := (sSeq (sSet 1 (eFz (eLc (iSeq (eOp2 dIdx (eVar 0) (eC (.int 0)))) 2 tYes (eTup (aCons (eOp2 dIdx (eVar 2) (eC (.int 1))) (aCons (eOp2 dIdx (eVar 2) (eC (.int 2))) (aCons (eOp2 dIdx (eVar 2) (eC (.int 3))) (aCons (eOp2 dIdx (eVar 2) (eC (.int 0))) aNil))))) [2])))
  (sRet (eTup (aCons (eCall 1 f_numbered (aCons (eVar 1) aNil)) (aCons (eOp2 dIdx (eVar 0) (eC (.int 1))) aNil)))))
def f_mirrored : List D → R Sl := fnOf 3 F_mirrored
/-- 0 crossings, 1 place, 2 line, 3 rows, 4 row -/
def F_put_at : FS := (sSeq (sSet 3 (eCB bList (aCons (eVar 0) aNil)))
  (sSeq (sSet 4 (eCB bList (aCons (eIxO 3 (eOp2 dIdx (eVar 1) (eC (.int 0)))) aNil)))
  (sSeq (sPut 4 (eOp2 dIdx (eVar 1) (eC (.int 1))) (eVar 2))
  (sSeq (sPub [4] (sPut 3 (eOp2 dIdx (eVar 1) (eC (.int 0))) (eCB bTuple (aCons (eVar 4) aNil))))
  (sRetO 3)))))
def f_put_at : List D → R Sl := fnOf 5 F_put_at
/-- 0 way, 1 line, 2 new, 3 loop -/
def F_curl_row : FS := (sSeq (sIf (tVal (eOp2 dEq (eVar 0) (eC (.int 0)))) (sRet (eTup (aCons (eVar 3) (aCons (eVar 3) (aCons (eVar 1) (aCons (eVar 2) aNil)))))) sNext)
  (sSeq (sIf (tVal (eOp2 dEq (eVar 0) (eC (.int 1)))) (sRet (eTup (aCons (eVar 1) (aCons (eVar 3) (aCons (eVar 3) (aCons (eVar 2) aNil)))))) sNext)
  (sSeq (sIf (tVal (eOp2 dEq (eVar 0) (eC (.int 2)))) (sRet (eTup (aCons (eVar 3) (aCons (eVar 3) (aCons (eVar 2) (aCons (eVar 1) aNil)))))) sNext)
  (sRet (eTup (aCons (eVar 2) (aCons (eVar 3) (aCons (eVar 3) (aCons (eVar 1) aNil)))))))))
def f_curl_row : List D → R Sl := fnOf 4 F_curl_row
def B_law_second_1 : FS := (sIf (tVal (eOp2 dEq (eOp2 dIdx (eOp2 dIdx (eVar 0) (eVar 3)) (eVar 4)) (eVar 1))) (sSet 2 (eTup (aCons (eVar 3) (aCons (eVar 4) aNil)))) sNext)
def B_law_second_2 : FS := (sFor (iRange1 (eC (.int 4))) 4 B_law_second_1)
/-- 0 rows, 1 line, 2 found, 3 k, 4 e -/
def F_law_second : FS := (sSeq (sSet 2 (eTup (aCons (eC (.int 0)) (aCons (eC (.int 0)) aNil))))
  (sSeq (sFor (iRange1 (eCB bLen (aCons (eVar 0) aNil))) 3 B_law_second_2)
  (sRet (eVar 2))))
def f_law_second : List D → R Sl := fnOf 5 F_law_second
/-- 0 rows, 1 place, 2 line, 3 row -/
def F_law_put : FS := (sSeq (sPub [0] (sSet 0 (eCB bList (aCons (eVar 0) aNil))))
  (sSeq (sSet 3 (eCB bList (aCons (eIxO 0 (eOp2 dIdx (eVar 1) (eC (.int 0)))) aNil)))
  (sSeq (sPut 3 (eOp2 dIdx (eVar 1) (eC (.int 1))) (eVar 2))
  (sSeq (sPub [3] (sPut 0 (eOp2 dIdx (eVar 1) (eC (.int 0))) (eCB bTuple (aCons (eVar 3) aNil))))
  (sRetO 0)))))
def f_law_put : List D → R Sl := fnOf 4 F_law_put
/-- 0 way, 1 line, 2 new, 3 loop -/
def F_law_curl : FS := (sSeq (sIf (tVal (eOp2 dEq (eVar 0) (eC (.int 0)))) (sRet (eTup (aCons (eVar 3) (aCons (eVar 3) (aCons (eVar 1) (aCons (eVar 2) aNil)))))) sNext)
  (sSeq (sIf (tVal (eOp2 dEq (eVar 0) (eC (.int 1)))) (sRet (eTup (aCons (eVar 1) (aCons (eVar 3) (aCons (eVar 3) (aCons (eVar 2) aNil)))))) sNext)
  (sSeq (sIf (tVal (eOp2 dEq (eVar 0) (eC (.int 2)))) (sRet (eTup (aCons (eVar 3) (aCons (eVar 3) (aCons (eVar 2) (aCons (eVar 1) aNil)))))) sNext)
  (sRet (eTup (aCons (eVar 2) (aCons (eVar 3) (aCons (eVar 3) (aCons (eVar 1) aNil)))))))))
def f_law_curl : List D → R Sl := fnOf 4 F_law_curl
def B_curl_end_1 : FS := (sIf (tVal (eOp2 dEq (eOp2 dIdx (eVar 0) (eVar 1)) (eOp2 dIdx (eVar 0) (eOp2 dMod (eOp2 dAdd (eVar 1) (eC (.int 1))) (eC (.int 4)))))) (sRet (eVar 1)) sNext)
/-- 0 row, 1 k -/
def F_curl_end : FS := (sSeq (sFor (iRange1 (eC (.int 4))) 1 B_curl_end_1)
  (sRet (eC .non)))
def f_curl_end : List D → R Sl := fnOf 2 F_curl_end
/-- 0 sheet, 1 at, 2 row, 3 k, 4 pair -/
def F_uncurled : FS := (sSeq (sSet 2 (eFz (eCall 2 f_row_at (aCons (eVar 0) (aCons (eVar 1) aNil)))))
  (sSeq (sSet 3 (eFz (eCall 1 f_curl_end (aCons (eVar 2) aNil))))
  (sSeq (sIf (tVal (eOp1 dIsN (eVar 3))) (sRaise 3) sNext)
  (sSeq (sSet 4 (eTup (aCons (eOp2 dIdx (eVar 2) (eOp2 dMod (eOp2 dAdd (eVar 3) (eC (.int 2))) (eC (.int 4)))) (aCons (eOp2 dIdx (eVar 2) (eOp2 dMod (eOp2 dAdd (eVar 3) (eC (.int 3))) (eC (.int 4)))) aNil))))
  (sRet (eCall 3 f_joined (aCons (eCall 2 f_without (aCons (eOp2 dIdx (eVar 0) (eC (.int 0))) (aCons (eLst (aCons (eVar 1) aNil)) aNil))) (aCons (eOp2 dIdx (eVar 0) (eC (.int 1))) (aCons (eLst (aCons (eVar 4) aNil)) aNil)))))))))
def f_uncurled : List D → R Sl := fnOf 5 F_uncurled
def B_law_twin_1 : FS := (sIf (tVal (eOp2 dEq (eOp2 dIdx (eVar 0) (eVar 1)) (eOp2 dIdx (eVar 0) (eOp2 dMod (eOp2 dAdd (eVar 1) (eC (.int 1))) (eC (.int 4)))))) (sRet (eVar 1)) sNext)
/-- 0 row, 1 k -/
def F_law_twin : FS := (sSeq (sFor (iRange1 (eC (.int 4))) 1 B_law_twin_1)
  (sRet (eOp1 dNeg (eC (.int 1)))))
def f_law_twin : List D → R Sl := fnOf 2 F_law_twin
/-- 0 sheet, 1 place, 2 two -/
def F_far_place : FS := (sSeq (sSet 2 (eFz (eCall 2 f_ends (aCons (eVar 0) (aCons (eOp2 dIdx (eOp2 dIdx (eOp2 dIdx (eVar 0) (eC (.int 0))) (eOp2 dIdx (eVar 1) (eC (.int 0)))) (eOp2 dIdx (eVar 1) (eC (.int 1)))) aNil)))))
  (sSeq (sIf (tVal (eOp2 dEq (eOp2 dIdx (eVar 2) (eC (.int 0))) (eVar 1))) (sRet (eOp2 dIdx (eVar 2) (eC (.int 1)))) sNext)
  (sRet (eOp2 dIdx (eVar 2) (eC (.int 0))))))
def f_far_place : List D → R Sl := fnOf 3 F_far_place
/-- 0 place -/
def F_across : FS := (sRet (eTup (aCons (eOp2 dIdx (eVar 0) (eC (.int 0))) (aCons (eOp2 dMod (eOp2 dAdd (eOp2 dIdx (eVar 0) (eC (.int 1))) (eC (.int 2))) (eC (.int 4))) aNil))))
def f_across : List D → R Sl := fnOf 1 F_across
def B_law_mate_1 : FS := (sIf (tAnd (tVal (eOp2 dEq (eOp2 dIdx (eOp2 dIdx (eVar 0) (eVar 3)) (eVar 4)) (eVar 2))) (tVal (eOp2 dNe (eTup (aCons (eVar 3) (aCons (eVar 4) aNil))) (eVar 1)))) (sRet (eTup (aCons (eVar 3) (aCons (eVar 4) aNil)))) sNext)
def B_law_mate_2 : FS := (sFor (iRange1 (eC (.int 4))) 4 B_law_mate_1)
/-- 0 rows, 1 place, 2 line, 3 k, 4 e -/
def F_law_mate : FS := (sSeq (sSet 2 (eOp2 dIdx (eOp2 dIdx (eVar 0) (eOp2 dIdx (eVar 1) (eC (.int 0)))) (eOp2 dIdx (eVar 1) (eC (.int 1)))))
  (sSeq (sFor (iRange1 (eCB bLen (aCons (eVar 0) aNil))) 3 B_law_mate_2)
  (sRet (eVar 1))))
def f_law_mate : List D → R Sl := fnOf 5 F_law_mate
def B_end_of_return_1 : FS := (sSet 2 (eFz (eCall 2 f_far_place (aCons (eVar 0) (aCons (eCall 1 f_across (aCons (eVar 2) aNil)) aNil)))))
/-- 0 sheet, 1 at, 2 place -/
def F_end_of_return : FS := (sSeq (sSet 2 (eFz (eCall 2 f_far_place (aCons (eVar 0) (aCons (eTup (aCons (eVar 1) (aCons (eC (.int 2)) aNil))) aNil)))))
  (sSeq (sWhile 1000 (tVal (eOp2 dNe (eOp2 dIdx (eVar 2) (eC (.int 0))) (eVar 1))) B_end_of_return_1)
  (sRet (eOp2 dIdx (eVar 2) (eC (.int 1))))))
def f_end_of_return : List D → R Sl := fnOf 3 F_end_of_return
def B_twist_1 : FS := (sSeq (sSet 3 (eFz (eCall 2 f_end_of_return (aCons (eVar 0) (aCons (eVar 2) aNil)))))
  (sSeq (sIf (tVal (eOp2 dEq (eVar 3) (eC (.int 3)))) (sSet 1 (eOp2 dAdd (eVar 1) (eC (.int 1)))) sNext)
  (sIf (tVal (eOp2 dEq (eVar 3) (eC (.int 1)))) (sSet 1 (eOp2 dSub (eVar 1) (eC (.int 1)))) sNext)))
/-- 0 sheet, 1 found, 2 at, 3 end -/
def F_twist : FS := (sSeq (sSet 1 (eC (.int 0)))
  (sSeq (sFor (iRange1 (eCB bLen (aCons (eOp2 dIdx (eVar 0) (eC (.int 0))) aNil))) 2 B_twist_1)
  (sRet (eVar 1))))
def f_twist : List D → R Sl := fnOf 4 F_twist
def B_law_twist_1 : FS := (sSet 3 (eFz (eCall 2 f_law_mate (aCons (eVar 0) (aCons (eTup (aCons (eOp2 dIdx (eVar 3) (eC (.int 0))) (aCons (eOp2 dMod (eOp2 dAdd (eOp2 dIdx (eVar 3) (eC (.int 1))) (eC (.int 2))) (eC (.int 4))) aNil))) aNil)))))
def B_law_twist_2 : FS := (sSeq (sSet 3 (eFz (eCall 2 f_law_mate (aCons (eVar 0) (aCons (eTup (aCons (eVar 2) (aCons (eC (.int 2)) aNil))) aNil)))))
  (sSeq (sWhile 1000 (tVal (eOp2 dNe (eOp2 dIdx (eVar 3) (eC (.int 0))) (eVar 2))) B_law_twist_1)
  (sSeq (sIf (tVal (eOp2 dEq (eOp2 dIdx (eVar 3) (eC (.int 1))) (eC (.int 3)))) (sSet 1 (eOp2 dAdd (eVar 1) (eC (.int 1)))) sNext)
  (sIf (tVal (eOp2 dEq (eOp2 dIdx (eVar 3) (eC (.int 1))) (eC (.int 1)))) (sSet 1 (eOp2 dSub (eVar 1) (eC (.int 1)))) sNext))))
/-- 0 rows, 1 found, 2 at, 3 place -/
def F_law_twist : FS := (sSeq (sSet 1 (eC (.int 0)))
  (sSeq (sFor (iRange1 (eCB bLen (aCons (eVar 0) aNil))) 2 B_law_twist_2)
  (sRet (eVar 1))))
def f_law_twist : List D → R Sl := fnOf 4 F_law_twist
def f_of_rings : List D → R Sl := ofRingsF
def F_of_sheet (rc : FA → FE) : FS := (sSeq (sIf (tVal (eOp2 dEq (eCB bLen (aCons (eOp2 dIdx (eVar 0) (eC (.int 0))) aNil)) (eC (.int 0)))) (sRet (eCall 1 f_of_rings (aCons (eOp2 dIdx (eVar 0) (eC (.int 1))) aNil))) sNext)
  (sSeq (sSet 1 eDNew)
  (sSeq (sAddT 1 (rc (aCons (eCall 3 f_split (aCons (eVar 0) (aCons (eC (.int 0)) (aCons (eC (.int 0)) aNil)))) aNil)) (eC (.int 1)) (eC (.int 1)))
  (sSeq (sAddT 1 (rc (aCons (eCall 3 f_split (aCons (eVar 0) (aCons (eC (.int 0)) (aCons (eC (.int 1)) aNil)))) aNil)) (eOp1 dNeg (eC (.int 1))) (eC (.int 1)))
  (sRetO 1)))))
def N_of_sheet : Nat → List D → R Sl
  | 0 => fnOf 2 (F_of_sheet fun _ _ => .bad)
  | n + 1 => fnOf 2 (F_of_sheet (eCall 1 (N_of_sheet n)))
def f_of_sheet : List D → R Sl := N_of_sheet 10
/-- 0 found, 1 power -/
def F_as_rows : FS := (sRet (eLc (iSeq (eCB bSortedA (aCons (eVar 0) aNil))) 1 (tVal (eOp2 dNe (eOp2 dGetK (eVar 0) (eVar 1)) (eC (.int 0)))) (eTup (aCons (eVar 1) (aCons (eOp2 dGetK (eVar 0) (eVar 1)) aNil))) [1]))
def f_as_rows : List D → R Sl := fnOf 2 F_as_rows
/-- 0 sheet -/
def F_total : FS := (sRet (eCall 1 f_as_rows (aCons (eCall 1 f_of_sheet (aCons (eVar 0) aNil)) aNil)))
def f_total : List D → R Sl := fnOf 1 F_total
/-- 0 sheet, 1 w, 2 sign, 3 found -/
def F_straight : FS := (sSeq (sSet 1 (eFz (eCall 1 f_twist (aCons (eVar 0) aNil))))
  (sSeq (sSet 2 (eOp2 dSub (eC (.int 1)) (eOp2 dMul (eC (.int 2)) (eOp2 dMod (eVar 1) (eC (.int 2))))))
  (sSeq (sSet 3 eDNew)
  (sSeq (sAddT 3 (eCall 1 f_of_sheet (aCons (eVar 0) aNil)) (eOp2 dMul (eOp1 dNeg (eC (.int 3))) (eVar 1)) (eVar 2))
  (sPub [3] (sRet (eCall 1 f_as_rows (aCons (eVar 3) aNil))))))))
def f_straight : List D → R Sl := fnOf 4 F_straight
def f_law_rings : List D → R Sl := ringsF
def B_law_ways_1 : FS := (sSet 1 (eFz (eOp2 dAdd (eLc (iSeq (eVar 1)) 3 tYes (eOp2 dAdd (eVar 3) (eLst (aCons (eC (.int 0)) aNil))) [3]) (eLc (iSeq (eVar 1)) 3 tYes (eOp2 dAdd (eVar 3) (eLst (aCons (eC (.int 1)) aNil))) [3]))))
/-- 0 many, 1 ways, 2 k, 3 way -/
def F_law_ways : FS := (sSeq (sSet 1 (eFz (eLst (aCons (eLst aNil) aNil))))
  (sSeq (sFor (iRange1 (eVar 0)) 2 B_law_ways_1)
  (sRet (eVar 1))))
def f_law_ways : List D → R Sl := fnOf 4 F_law_ways
def B_law_choices_1 : FS := (sApp 3 (eOp2 dAdd (eOp2 dIdx (eVar 1) (eVar 4)) (eOp2 dIdx (eVar 1) (eOp2 dAdd (eVar 4) (eC (.int 1))))))
def B_law_choices_2 : FS := (sSeq (sSet 3 (eLst (aCons (eC (.int 1)) aNil)))
  (sSeq (sFor (iRange1 (eOp2 dSub (eCB bLen (aCons (eVar 1) aNil)) (eC (.int 1)))) 4 B_law_choices_1)
  (sPub [3] (sSet 1 (eFz (eOp2 dAdd (eVar 3) (eLst (aCons (eC (.int 1)) aNil))))))))
/-- 0 rings, 1 row, 2 k, 3 more, 4 e -/
def F_law_choices : FS := (sSeq (sSet 1 (eFz (eLst (aCons (eC (.int 1)) aNil))))
  (sSeq (sFor (iRange1 (eVar 0)) 2 B_law_choices_2)
  (sRet (eVar 1))))
def f_law_choices : List D → R Sl := fnOf 5 F_law_choices
def B_law_total_1 : FS := (sSeq (sSet 6 (eOp2 dIdx (eVar 0) (eVar 5)))
  (sIf (tVal (eOp2 dEq (eOp2 dIdx (eVar 3) (eVar 5)) (eC (.int 0)))) (sSet 4 (eFz (eOp2 dAdd (eVar 4) (eLst (aCons (eTup (aCons (eOp2 dIdx (eVar 6) (eC (.int 0))) (aCons (eOp2 dIdx (eVar 6) (eC (.int 1))) aNil))) (aCons (eTup (aCons (eOp2 dIdx (eVar 6) (eC (.int 2))) (aCons (eOp2 dIdx (eVar 6) (eC (.int 3))) aNil))) aNil)))))) (sSet 4 (eFz (eOp2 dAdd (eVar 4) (eLst (aCons (eTup (aCons (eOp2 dIdx (eVar 6) (eC (.int 0))) (aCons (eOp2 dIdx (eVar 6) (eC (.int 3))) aNil))) (aCons (eTup (aCons (eOp2 dIdx (eVar 6) (eC (.int 1))) (aCons (eOp2 dIdx (eVar 6) (eC (.int 2))) aNil))) aNil))))))))
def B_law_total_2 : FS := (sSeq (sSet 4 (eFz (eLst aNil)))
  (sSeq (sFor (iRange1 (eCB bLen (aCons (eVar 0) aNil))) 5 B_law_total_1)
  (sLawAdd f_law_choices 2 (eOp2 dSub (eCB bLen (aCons (eVar 0) aNil)) (eOp2 dMul (eC (.int 2)) (eCB bSum (aCons (eVar 3) aNil)))) (eOp2 dAdd (eVar 1) (eCall 1 f_law_rings (aCons (eVar 4) aNil))))))
/-- 0 rows, 1 rings, 2 found, 3 way, 4 pairs, 5 k, 6 row -/
def F_law_total : FS := (sSeq (sSet 2 eDNew)
  (sSeq (sFor (iSeq (eCall 1 f_law_ways (aCons (eCB bLen (aCons (eVar 0) aNil)) aNil))) 3 B_law_total_2)
  (sRetO 2)))
def f_law_total : List D → R Sl := fnOf 7 F_law_total
/-- 0 found, 1 shift, 2 sign, 3 power -/
def F_law_listed : FS := (sRet (eLc (iSeq (eCB bSortedA (aCons (eVar 0) aNil))) 3 (tVal (eOp2 dNe (eOp2 dGetK (eVar 0) (eVar 3)) (eC (.int 0)))) (eTup (aCons (eOp2 dAdd (eVar 3) (eVar 1)) (aCons (eOp2 dMul (eVar 2) (eOp2 dGetK (eVar 0) (eVar 3))) aNil))) [3]))
def f_law_listed : List D → R Sl := fnOf 4 F_law_listed
def B_law_alike_1 : FS := (sSeq (sIf (tOr (tNot (tVal (eOp1 (fun x => bIsi "tuple" [x]) (eOp2 dIdx (eVar 0) (eVar 2))))) (tVal (eOp2 dNe (eCB bLen (aCons (eOp2 dIdx (eVar 0) (eVar 2)) aNil)) (eC (.int 2))))) (sRet (eC (.bl false))) sNext)
  (sIf (tOr (tNot (tVal (eCall 1 f_law_whole (aCons (eOp2 dIdx (eOp2 dIdx (eVar 0) (eVar 2)) (eC (.int 0))) aNil)))) (tOr (tNot (tVal (eCall 1 f_law_whole (aCons (eOp2 dIdx (eOp2 dIdx (eVar 0) (eVar 2)) (eC (.int 1))) aNil)))) (tVal (eOp2 dNe (eOp2 dIdx (eVar 0) (eVar 2)) (eOp2 dIdx (eVar 1) (eVar 2)))))) (sRet (eC (.bl false))) sNext))
/-- 0 found, 1 due, 2 k -/
def F_law_alike : FS := (sSeq (sIf (tOr (tNot (tVal (eOp1 (fun x => bIsi "list" [x]) (eVar 0)))) (tVal (eOp2 dNe (eCB bLen (aCons (eVar 0) aNil)) (eCB bLen (aCons (eVar 1) aNil))))) (sRet (eC (.bl false))) sNext)
  (sSeq (sFor (iRange1 (eCB bLen (aCons (eVar 1) aNil))) 2 B_law_alike_1)
  (sRet (eC (.bl true)))))
def f_law_alike : List D → R Sl := fnOf 3 F_law_alike
/-- 0 script, 1 many, 2 rings, 3 rows, 4 due, 5 w -/
def F_law_k12 : FS := (sSeq (sSet 1 (eOp2 dMod (eCall 2 f_law_cell_at (aCons (eVar 0) (aCons (eC (.int 0)) aNil))) (eC (.int 5))))
  (sSeq (sSet 2 (eOp2 dMod (eCall 2 f_law_cell_at (aCons (eVar 0) (aCons (eC (.int 1)) aNil))) (eC (.int 7))))
  (sSeq (sIf (tVal (eOp2 dEq (eOp2 dMod (eCall 2 f_law_cell_at (aCons (eVar 0) (aCons (eC (.int 2)) aNil))) (eC (.int 8))) (eC (.int 1)))) (sSeq (sSet 1 (eOp2 dMod (eVar 1) (eC (.int 2))))
  (sSet 2 (eOp2 dMod (eCall 2 f_law_cell_at (aCons (eVar 0) (aCons (eC (.int 1)) aNil))) (eC (.int 61))))) sNext)
  (sSeq (sIf (tVal (eOp2 dEq (eOp2 dMod (eCall 2 f_law_cell_at (aCons (eVar 0) (aCons (eC (.int 2)) aNil))) (eC (.int 8))) (eC (.int 2)))) (sSet 1 (eOp2 dAdd (eC (.int 5)) (eOp2 dMod (eOp2 dFloor (eCall 2 f_law_cell_at (aCons (eVar 0) (aCons (eC (.int 0)) aNil))) (eC (.int 5))) (eC (.int 5))))) sNext)
  (sSeq (sSet 3 (eFz (eCall 1 f_law_numbered (aCons (eCall 4 f_law_rows (aCons (eVar 0) (aCons (eC (.int 3)) (aCons (eVar 1) (aCons (eLst aNil) aNil))))) aNil))))
  (sSeq (sSet 4 (eFz (eCall 2 f_law_total (aCons (eVar 3) (aCons (eVar 2) aNil)))))
  (sSeq (sIf (tNot (tVal (eCall 2 f_law_alike (aCons (eCall 1 f_total (aCons (eTup (aCons (eVar 3) (aCons (eVar 2) aNil))) aNil)) (aCons (eCall 3 f_law_listed (aCons (eVar 4) (aCons (eC (.int 0)) (aCons (eC (.int 1)) aNil)))) aNil))))) (sRet (eC (.bl false))) sNext)
  (sSeq (sSet 5 (eFz (eCall 1 f_law_twist (aCons (eVar 3) aNil))))
  (sRet (eCall 2 f_law_alike (aCons (eCall 1 f_straight (aCons (eTup (aCons (eVar 3) (aCons (eVar 2) aNil))) aNil)) (aCons (eCall 3 f_law_listed (aCons (eVar 4) (aCons (eOp2 dMul (eOp1 dNeg (eC (.int 3))) (eVar 5)) (aCons (eOp2 dSub (eC (.int 1)) (eOp2 dMul (eC (.int 2)) (eOp2 dMod (eVar 5) (eC (.int 2))))) aNil)))) aNil))))))))))))
def f_law_k12 : List D → R Sl := fnOf 6 F_law_k12
end DL
set_option maxRecDepth 100000
/-! M0: how the functions of DCore are worked out -/
namespace DL
open PySem (Str)
/-! ### one step each -/
@[simp] theorem ev_var (i : Nat) (e : Env) : eVar i e = (match e[i]? with
  | some (.va d) => .ok (.va d)
  | _ => .bad) := rfl
@[simp] theorem ev_c (d : D) (e : Env) : eC d e = .ok (.va d) := nr rfl
@[simp] theorem ev_op1 (g : D → R Sl) (a : FE) (e : Env) : eOp1 g a e = (a e).bind fun x => g x.d := nr rfl
@[simp] theorem ev_op2 (g : D → D → R Sl) (a b : FE) (e : Env) : eOp2 g a b e = (a e).bind fun x => (b e).bind fun y => g x.d y.d := nr rfl
@[simp] theorem ev_nil (e : Env) : aNil e = .ok [] := nr rfl
@[simp] theorem ev_cons (a : FE) (r : FA) (e : Env) : aCons a r e = (a e).bind fun x => (r e).bind fun xs => .ok (x.d :: xs) := nr rfl
@[simp] theorem ev_tup (a : FA) (e : Env) : eTup a e = (a e).bind fun ds => if ds.length ≤ LIM then .ok (.va (.tup ds)) else .bad := nr rfl
@[simp] theorem ev_lst (a : FA) (e : Env) : eLst a e = (a e).bind fun ds => if ds.length ≤ LIM then .ok (.ow (.lst ds)) else .bad := nr rfl
@[simp] theorem ev_cb (g : List D → R Sl) (a : FA) (e : Env) : eCB g a e = (a e).bind g := nr rfl
@[simp] theorem ev_if (c : FT) (a b : FE) (e : Env) : eIf c a b e = (c e).bind fun k => if k then a e else b e := nr rfl
@[simp] theorem ev_and (a b : FE) (e : Env) : eAnd a b e = (a e).bind fun x => match x.d with
  | .bl true => b e
  | .bl false => .ok (.va (.bl false))
  | _ => .bad := rfl
@[simp] theorem ev_or (a b : FE) (e : Env) : eOr a b e = (a e).bind fun x => match x.d with
  | .bl false => b e
  | .bl true => .ok (.va (.bl true))
  | _ => .bad := rfl
@[simp] theorem ev_not (a : FE) (e : Env) : eNot a e = (a e).bind fun x => match x.d with
  | .bl k => .ok (.va (.bl (!k)))
  | _ => .bad := rfl
@[simp] theorem ev_chain (g h : D → D → R Sl) (a b c : FE) (e : Env) : eChain g h a b c e = (a e).bind fun x => (b e).bind fun y => (g x.d y.d).bind fun z => match z.d with
  | .bl true => (c e).bind fun w => h y.d w.d
  | .bl false => .ok (.va (.bl false))
  | _ => .bad := rfl
@[simp] theorem ev_lend (a : FE) (e : Env) : eLend a e = (a (e.map Sl.frz)).bind fun s => if s.loose then .ok s else .bad := nr rfl
@[simp] theorem ev_none (e : Env) : oNone e = .ok none := nr rfl
@[simp] theorem ev_some (a : FE) (e : Env) : oSome a e = (a e).bind fun x => match x.d with
  | .int i => .ok (some i)
  | _ => .bad := rfl
@[simp] theorem ev_sl (g : D → Option Int → Option Int → R Sl) (a : FE) (lo hi : Env → R (Option Int)) (e : Env) : eSl g a lo hi e = (a e).bind fun x => (lo e).bind fun l => (hi e).bind fun h => g x.d l h := nr rfl
@[simp] theorem ev_fz (a : FE) (e : Env) : eFz a e = (a e).bind fun s => .ok (.va s.d) := nr rfl
@[simp] theorem ev_dnew (e : Env) : eDNew e = .ok (.ow (.dic [])) := nr rfl
@[simp] theorem ev_ixO (i : Nat) (a : FE) (e : Env) : eIxO i a e = (match e[i]? with
  | some (.ow (.lst ds)) => (a e).bind fun x => (match x.d with
    | .int k => (match atD ds k with
      | some d => .ok (.va d)
      | none => .bad)
    | _ => .bad)
  | some (.va d) => (a e).bind fun x => dIdx d x.d
  | _ => .bad) := rfl
@[simp] theorem ev_call (n : Nat) (f : List D → R Sl) (a : FA) (e : Env) : eCall n f a e = (a e).bind fun ds => if ds.length = n then f ds else .bad := nr rfl
@[simp] theorem ev_get2 (a k x : FE) (e : Env) : eGet2 a k x e = (a e).bind fun u => match u.d with
  | .dic kvs => (k e).bind fun v => (x e).bind fun w => dGet2 kvs v.d w.d
  | _ => .bad := rfl
@[simp] theorem ev_bm (g : List D → D → R Sl) (a b : FE) (e : Env) : eBm g a b e = (a e).bind fun x => match x.d with
  | .lst ds => (b e).bind fun y => g ds y.d
  | _ => .bad := rfl
@[simp] theorem ev_lc (it : FI) (j : Nat) (c : FT) (el : FE) (own : List Nat) (e : Env) : eLc it j c el own e = (it e).bind fun ds => if ds.length ≤ LIM then (match lcLoop j c el (wipeE e own) ds with
  | .ok ys => .ok (.ow (.lst ys))
  | _ => .bad) else .bad := rfl
@[simp] theorem ev_tval (a : FE) (e : Env) : tVal a e = (a e).bind fun x => match x.d with
  | .bl k => .ok k
  | _ => .bad := rfl
@[simp] theorem ev_tand (a b : FT) (e : Env) : tAnd a b e = (a e).bind fun k => if k then b e else .ok false := nr rfl
@[simp] theorem ev_tor (a b : FT) (e : Env) : tOr a b e = (a e).bind fun k => if k then .ok true else b e := nr rfl
@[simp] theorem ev_tnot (a : FT) (e : Env) : tNot a e = (a e).bind fun k => .ok (!k) := nr rfl
@[simp] theorem ev_tyes (e : Env) : tYes e = .ok true := nr rfl
@[simp] theorem ev_iseq (a : FE) (e : Env) : iSeq a e = (a e).bind fun x => match x.d with
  | .lst ds => .ok ds
  | .tup ds => .ok ds
  | _ => .bad := rfl
@[simp] theorem ev_irange1 (a : FE) (e : Env) : iRange1 a e = (a e).bind fun x => rangeD x.d := nr rfl
@[simp] theorem ev_irange2 (a b : FE) (e : Env) : iRange2 a b e = (a e).bind fun x => (b e).bind fun y => range2D x.d y.d := nr rfl
theorem inR {j : Int} (h1 : -1000000 ≤ j) (h2 : j ≤ 1000000) : -(2 ^ 62) ≤ j ∧ j < 2 ^ 62 := by omega
theorem range_ok {j : Int} (h1 : -1000000 ≤ j) (h2 : j ≤ 1000000) : rangeD (.int j) = .ok (rng 0 j.toNat) := if_pos (inR h1 h2)
theorem range_nat {n : Nat} (h : n ≤ 1000000) : rangeD (.int (n : Int)) = .ok (rng 0 n) := by
  rw [range_ok (by omega) (by omega), Int.toNat_natCast]
@[simp] theorem range_4 : rangeD (.int 4) = .ok [.int 0, .int 1, .int 2, .int 3] := by
  rw [range_ok (by decide) (by decide)]
  rfl
@[simp] theorem range_2 : rangeD (.int 2) = .ok [.int 0, .int 1] := by
  rw [range_ok (by decide) (by decide)]
  rfl
@[simp] theorem range_3 : rangeD (.int 3) = .ok [.int 0, .int 1, .int 2] := by
  rw [range_ok (by decide) (by decide)]
  rfl
theorem range2_ok {i j : Int} (h1 : -1000000 ≤ i) (h2 : i ≤ 1000000) (h3 : -1000000 ≤ j) (h4 : j ≤ 1000000) : range2D (.int i) (.int j) = .ok (rng i (j - i).toNat) := if_pos ⟨inR h1 h2, inR h3 h4⟩
@[simp] theorem ev_ikeys (a : FE) (e : Env) : iKeys a e = (a e).bind fun x => match x with
  | .ow (.dic kvs) => .ok (kvs.map fun p => .int p.1)
  | _ => .bad := rfl
@[simp] theorem ev_next (e : Env) : sNext e = .nx e := nr rfl
@[simp] theorem ev_seq (a b : FS) (e : Env) : sSeq a b e = (a e).bind b := nr rfl
@[simp] theorem ev_set (i : Nat) (a : FE) (e : Env) : sSet i a e = (a e).out e fun s => .nx (e.set i s) := nr rfl
@[simp] theorem ev_drop (a : FE) (e : Env) : sDrop a e = (a e).out e fun _ => .nx e := nr rfl
@[simp] theorem ev_ret (a : FE) (e : Env) : sRet a e = (a e).out e fun s => .rt s := nr rfl
@[simp] theorem ev_retO (i : Nat) (e : Env) : sRetO i e = (match e[i]? with
  | some (.ow d) => .rt (.ow d)
  | some (.va d) => .rt (.va d)
  | _ => .bad) := rfl
@[simp] theorem ev_sif (c : FT) (a b : FS) (e : Env) : sIf c a b e = (c e).out e fun k => if k then a e else b e := nr rfl
@[simp] theorem ev_raise (c : Nat) (e : Env) : sRaise c e = .xc c e := nr rfl
@[simp] theorem ev_app (i : Nat) (a : FE) (e : Env) : sApp i a e = (match e[i]? with
  | some (.ow (.lst ds)) => (a e).out e fun s => if ds.length < LIM then .nx (e.set i (.ow (.lst (ds ++ [s.d])))) else .bad
  | _ => .bad) := rfl
@[simp] theorem ev_put (i : Nat) (k a : FE) (e : Env) : sPut i k a e = (match e[i]? with
  | some (.ow (.lst ds)) => (a e).out e fun s => (k e).out e fun x => (match x.d with
    | .int j => if 0 ≤ j ∧ j < ds.length then .nx (e.set i (.ow (.lst (ds.set j.toNat s.d)))) else .bad
    | _ => .bad)
  | _ => .bad) := rfl
@[simp] theorem ev_dput (i : Nat) (k a : FE) (e : Env) : sDPut i k a e = (match e[i]? with
  | some (.ow (.dic kvs)) => (a e).out e fun s => (k e).out e fun x => (match x.d, s.d.fv? with
    | .int j, some v => if kvs.length < LIM then .nx (e.set i (.ow (.dic (putA kvs j v)))) else .bad
    | _, _ => .bad)
  | _ => .bad) := rfl
@[simp] theorem ev_for (it : FI) (j : Nat) (b : FS) (e : Env) : sFor it j b e = (it e).out e fun ds => forD j b ds e := nr rfl
@[simp] theorem ev_forK (i j : Nat) (b : FS) (e : Env) : sForK i j b e = (match e[i]? with
  | some (.ow (.dic kvs)) => forD j b (kvs.map fun p => .int p.1) (e.set i (.va (.dic kvs)))
  | _ => .bad) := rfl
@[simp] theorem ev_while (n : Nat) (c : FT) (b : FS) (e : Env) : sWhile n c b e = whileD c b n e := nr rfl
@[simp] theorem ev_pub (is : List Nat) (a : FS) (e : Env) : sPub is a e = a (pubE is e) := nr rfl
@[simp] theorem pub_nil (e : Env) : pubE [] e = e := nr rfl
@[simp] theorem pub_cons (i : Nat) (is : List Nat) (e : Env) : pubE (i :: is) e = pubE is (match e[i]? with
  | some s => e.set i s.frz
  | none => e) := rfl
@[simp] theorem wipe_nil (e : Env) : wipeE e [] = e := nr rfl
@[simp] theorem wipe_cons (v : Nat) (vs : List Nat) (e : Env) : wipeE e (v :: vs) = (wipeE e vs).set v .no := nr rfl
def Out.res (o : Out) : R Sl := match o with
  | .nx _ => .ok (.va .non)
  | .rt s => .ok s
  | .xc c _ => .xc c
  | .bad => .bad
@[simp] theorem res_nx (e : Env) : (Out.nx e).res = .ok (.va .non) := nr rfl
@[simp] theorem res_rt (s : Sl) : (Out.rt s).res = .ok s := nr rfl
@[simp] theorem res_xc (c : Nat) (e : Env) : (Out.xc c e).res = .xc c := nr rfl
theorem fn_eq {N : Nat} {body : FS} {ds : List D} (env : Env) (h : ds.map Sl.va ++ List.replicate (N - ds.length) .no = env) : fnOf N body ds = (body env).res := by
  subst h
  unfold fnOf Out.res
  rfl
theorem fn_of {N : Nat} {body : FS} {ds : List D} : fnOf N body ds = (body (ds.map Sl.va ++ List.replicate (N - ds.length) .no)).res := fn_eq _ rfl
theorem lc_ok {it : FI} {j : Nat} {c : FT} {el : FE} {own : List Nat} {e : Env} {ds ys : List D} (h1 : it e = .ok ds) (h2 : ds.length ≤ 1000000) (h3 : lcLoop j c el (wipeE e own) ds = .ok ys) : eLc it j c el own e = .ok (.ow (.lst ys)) := by
  unfold eLc
  rw [h1, R.bind_ok, if_pos (show ds.length ≤ LIM from h2), h3]
/-! ### operations on written values -/
@[simp] theorem o_add (i j : Int) : dAdd (.int i) (.int j) = .ok (.va (.int (i + j))) := nr rfl
@[simp] theorem o_sub (i j : Int) : dSub (.int i) (.int j) = .ok (.va (.int (i - j))) := nr rfl
@[simp] theorem o_neg (i : Int) : dNeg (.int i) = .ok (.va (.int (-i))) := nr rfl
theorem o_mul {i j : Int} (h : (small i || small j) = true) : dMul (.int i) (.int j) = .ok (.va (.int (i * j))) := if_pos h
theorem small_of {i : Int} (h1 : -(2 ^ 64) < i) (h2 : i < 2 ^ 64) : small i = true := decide_eq_true ⟨h1, h2⟩
theorem o_mulL {i j : Int} (h1 : -(2 ^ 64) < i) (h2 : i < 2 ^ 64) : dMul (.int i) (.int j) = .ok (.va (.int (i * j))) := o_mul (by rw [small_of h1 h2]; rfl)
theorem o_mulR {i j : Int} (h1 : -(2 ^ 64) < j) (h2 : j < 2 ^ 64) : dMul (.int i) (.int j) = .ok (.va (.int (i * j))) := o_mul (by rw [small_of h1 h2, Bool.or_true])
theorem o_floor {i j : Int} (h : 0 < j ∧ j < 1073741824) : dFloor (.int i) (.int j) = .ok (.va (.int (i / j))) := if_pos h
theorem o_mod {i j : Int} (h : 0 < j) : dMod (.int i) (.int j) = .ok (.va (.int (i % j))) := if_pos h
theorem o_pow {i : Int} {n : Nat} (h1 : n ≤ 1000000) (h2 : i.natAbs < 2 ^ 64) : dPow (.int i) (.int (n : Int)) = .ok (.va (.int (i ^ n))) := by
  unfold dPow
  simp only
  rw [if_pos ⟨by omega, h2⟩, Int.toNat_natCast]
@[simp] theorem o_lt (i j : Int) : dLt (.int i) (.int j) = .ok (.va (.bl (decide (i < j)))) := nr rfl
@[simp] theorem o_le (i j : Int) : dLe (.int i) (.int j) = .ok (.va (.bl (decide (i ≤ j)))) := nr rfl
@[simp] theorem o_gt (i j : Int) : dGt (.int i) (.int j) = .ok (.va (.bl (decide (j < i)))) := nr rfl
@[simp] theorem o_ge (i j : Int) : dGe (.int i) (.int j) = .ok (.va (.bl (decide (j ≤ i)))) := nr rfl
@[simp] theorem o_eq (i j : Int) : dEq (.int i) (.int j) = .ok (.va (.bl (decide (i = j)))) := nr rfl
@[simp] theorem o_ne (i j : Int) : dNe (.int i) (.int j) = .ok (.va (.bl (!decide (i = j)))) := nr rfl
@[simp] theorem o_eqb (i j : Bool) : dEq (.bl i) (.bl j) = .ok (.va (.bl (decide (i = j)))) := nr rfl
@[simp] theorem o_isN (d : D) : dIsN d = .ok (.va (.bl d.isNon)) := nr rfl
@[simp] theorem o_notN (d : D) : dNotN d = .ok (.va (.bl (!d.isNon))) := nr rfl
@[simp] theorem isNon_non : D.non.isNon = true := nr rfl
@[simp] theorem isNon_int (i : Int) : (D.int i).isNon = false := nr rfl
@[simp] theorem isNon_tup (ds : List D) : (D.tup ds).isNon = false := nr rfl
@[simp] theorem isNon_lst (ds : List D) : (D.lst ds).isNon = false := nr rfl
@[simp] theorem o_idxL (ds : List D) (i : Int) : dIdx (.lst ds) (.int i) = (match atD ds i with
  | some d => .ok (.va d)
  | none => .bad) := rfl
@[simp] theorem o_idxT (ds : List D) (i : Int) : dIdx (.tup ds) (.int i) = (match atD ds i with
  | some d => .ok (.va d)
  | none => .bad) := rfl
@[simp] theorem o_lenL (ds : List D) : bLen [.lst ds] = .ok (.va (.int ds.length)) := nr rfl
@[simp] theorem o_lenT (ds : List D) : bLen [.tup ds] = .ok (.va (.int ds.length)) := nr rfl
@[simp] theorem o_lenS (ns : List Int) : bLen [.scr ns] = .ok (.va (.int ns.length)) := nr rfl
@[simp] theorem o_lenD (kvs : List (Int × Fv)) : bLenD [.dic kvs] = .ok (.va (.int kvs.length)) := nr rfl
@[simp] theorem o_listL (ds : List D) : bList [.lst ds] = .ok (.ow (.lst ds)) := nr rfl
@[simp] theorem o_listT (ds : List D) : bList [.tup ds] = .ok (.ow (.lst ds)) := nr rfl
@[simp] theorem o_tupleL (ds : List D) : bTuple [.lst ds] = .ok (.va (.tup ds)) := nr rfl
@[simp] theorem o_tupleT (ds : List D) : bTuple [.tup ds] = .ok (.va (.tup ds)) := nr rfl
@[simp] theorem o_int (i : Int) : bInt [.int i] = .ok (.va (.int i)) := nr rfl
@[simp] theorem o_intb (k : Bool) : bInt [.bl k] = .ok (.va (.int (if k then 1 else 0))) := nr rfl
@[simp] theorem o_max2 (i j : Int) : bMax2 [.int i, .int j] = .ok (.va (.int (if j > i then j else i))) := nr rfl
@[simp] theorem o_min2 (i j : Int) : bMin2 [.int i, .int j] = .ok (.va (.int (if j < i then j else i))) := nr rfl
@[simp] theorem o_slL (ds : List D) (lo hi : Option Int) : dSl (.lst ds) lo hi = .ok (.ow (.lst (cutD ds lo hi))) := nr rfl
@[simp] theorem o_slT (ds : List D) (lo hi : Option Int) : dSl (.tup ds) lo hi = .ok (.va (.tup (cutD ds lo hi))) := nr rfl
theorem o_addL {a b : List D} (h : a.length + b.length ≤ LIM) : dAdd (.lst a) (.lst b) = .ok (.ow (.lst (a ++ b))) := if_pos h
theorem o_addT {a b : List D} (h : a.length + b.length ≤ LIM) : dAdd (.tup a) (.tup b) = .ok (.va (.tup (a ++ b))) := if_pos h
/-! ### lists or tuples -/
def SeqD (d : D) (ds : List D) : Prop := d = .lst ds ∨ d = .tup ds
theorem iseq_ok {i : Nat} {e : Env} {d : D} {ds : List D} (h : e[i]? = some (.va d)) (s : SeqD d ds) : iSeq (eVar i) e = .ok ds := by
  rw [ev_iseq, ev_var, h]
  rcases s with rfl | rfl
  · rw [R.bind_ok]; rfl
  · rw [R.bind_ok]; rfl
theorem len_seq {d : D} {ds : List D} (s : SeqD d ds) : bLen [d] = .ok (.va (.int ds.length)) := by
  rcases s with rfl | rfl <;> rfl
theorem list_seq {d : D} {ds : List D} (s : SeqD d ds) : bList [d] = .ok (.ow (.lst ds)) := by
  rcases s with rfl | rfl <;> rfl
theorem idx_seq {d : D} {ds : List D} {i : Int} {x : D} (s : SeqD d ds) (h : atD ds i = some x) : dIdx d (.int i) = .ok (.va x) := by
  rcases s with rfl | rfl
  · rw [o_idxL, h]
  · rw [o_idxT, h]
/-! ### items -/
theorem atD_nat {α : Type} {xs : List α} {i : Nat} : atD xs (i : Int) = xs[i]? := by
  unfold atD ixOf
  rw [if_pos (Int.natCast_nonneg i)]
  by_cases h : (i : Int) < (xs.length : Int)
  · rw [if_pos h]
    simp
  · rw [if_neg h, List.getElem?_eq_none (by omega)]
    rfl
theorem atD_ofNat {α : Type} {xs : List α} {i : Nat} : atD xs (OfNat.ofNat i) = xs[i]? := atD_nat
@[simp] theorem atD_0 {α : Type} {xs : List α} : atD xs 0 = xs[0]? := atD_nat (i := 0)
@[simp] theorem atD_1 {α : Type} {xs : List α} : atD xs 1 = xs[1]? := atD_nat (i := 1)
@[simp] theorem atD_2 {α : Type} {xs : List α} : atD xs 2 = xs[2]? := atD_nat (i := 2)
@[simp] theorem atD_3 {α : Type} {xs : List α} : atD xs 3 = xs[3]? := atD_nat (i := 3)
@[simp] theorem atD_4 {α : Type} {xs : List α} : atD xs 4 = xs[4]? := atD_nat (i := 4)
@[simp] theorem atD_5 {α : Type} {xs : List α} : atD xs 5 = xs[5]? := atD_nat (i := 5)
theorem atD_of {α : Type} {xs : List α} {i : Int} (h0 : 0 ≤ i) (h : i < xs.length) : atD xs i = some (xs[i.toNat]'(by omega)) := by
  have e : i = (i.toNat : Int) := by omega
  conv => lhs; rw [e]
  rw [atD_nat, List.getElem?_eq_getElem]
theorem atD_ge {α : Type} {xs : List α} {i : Int} (h0 : 0 ≤ i) : atD xs i = xs[i.toNat]? := by
  have e : i = (i.toNat : Int) := by omega
  conv => lhs; rw [e]
  exact atD_nat
/-! ### ints, rows of ints -/
abbrev encI (xs : List Int) : List D := xs.map D.int
abbrev encR (r : List Int) : D := .tup (encI r)
abbrev encRs (rs : List (List Int)) : List D := rs.map encR
theorem rng_eq (n : Nat) : rng 0 n = ((List.range n).map fun i : Nat => D.int (i : Int)) := by
  unfold rng
  apply List.map_congr_left
  intro i _
  rw [Int.zero_add]
theorem rng_eq' (lo : Int) (n : Nat) : rng lo n = ((List.range n).map fun i : Nat => D.int (lo + (i : Int))) := nr rfl
/-! ### loops -/
theorem forD_inv {α S : Type} {j : Nat} {b : FS} {enc : α → D} (I : S → Env → Prop) (step : S → α → S) : ∀ (xs : List α) (s : S) (e : Env), I s e →
    (∀ s x e, x ∈ xs → I s e → ∃ e', b (e.set j (.va (enc x))) = .nx e' ∧ I (step s x) e') → ∃ e', forD j b (xs.map enc) e = .nx e' ∧ I (xs.foldl step s) e'
  | [], s, e, h, _ => ⟨e, rfl, h⟩
  | x :: xs, s, e, h, hb => by
    obtain ⟨e1, h1, i1⟩ := hb s x e List.mem_cons_self h
    obtain ⟨e2, h2, i2⟩ := forD_inv I step xs (step s x) e1 i1 fun s y e m => hb s y e (List.mem_cons_of_mem _ m)
    refine ⟨e2, ?_, i2⟩
    show (b (e.set j (.va (enc x)))).bind _ = _
    rw [h1]
    exact h2
/-- an invariant by the number of items walked -/
theorem forD_ix {α : Type} {j : Nat} {b : FS} {enc : α → D} (xs : List α) (I : Nat → Env → Prop) (e : Env) (h : I 0 e)
    (hb : ∀ (i : Nat) (x : α) (e : Env), xs[i]? = some x → I i e → ∃ e', b (e.set j (.va (enc x))) = .nx e' ∧ I (i + 1) e') : ∃ e', forD j b (xs.map enc) e = .nx e' ∧ I xs.length e' := by
  suffices H : ∀ (ys : List α) (k : Nat) (e : Env), xs.drop k = ys → k + ys.length = xs.length → I k e → ∃ e', forD j b (ys.map enc) e = .nx e' ∧ I xs.length e' by
    exact H xs 0 e (by simp) (by simp) h
  intro ys
  induction ys with
  | nil => intro k e _ hk i; exact ⟨e, rfl, by simpa [← hk] using i⟩
  | cons y ys ih =>
    intro k e hd hk i
    have hy : xs[k]? = some y := by
      have := congrArg (·[0]?) hd
      simpa using this
    obtain ⟨e1, h1, i1⟩ := hb k y e hy i
    have hd2 : xs.drop (k + 1) = ys := by
      have := congrArg List.tail hd
      simpa using this
    obtain ⟨e2, h2, i2⟩ := ih (k + 1) e1 hd2 (by simp at hk; omega) i1
    refine ⟨e2, ?_, i2⟩
    show (b (e.set j (.va (enc y)))).bind _ = _
    rw [h1]
    exact h2
/-- a fold, what has been walked at hand -/
theorem forD_fold {α S : Type} {j : Nat} {b : FS} {enc : α → D} (E : S → Env → Prop) (step : S → α → S) (xs : List α) (s0 : S) (e : Env) (h : E s0 e)
    (hb : ∀ (i : Nat) (x : α) (e : Env), xs[i]? = some x → E ((xs.take i).foldl step s0) e → ∃ e', b (e.set j (.va (enc x))) = .nx e' ∧ E (step ((xs.take i).foldl step s0) x) e') : ∃ e', forD j b (xs.map enc) e = .nx e' ∧ E (xs.foldl step s0) e' := by
  have := forD_ix (j := j) (b := b) (enc := enc) xs (fun i e => E ((xs.take i).foldl step s0) e) e (by simpa using h) fun i x e hx he => by
    obtain ⟨e', h1, h2⟩ := hb i x e hx he
    refine ⟨e', h1, ?_⟩
    obtain ⟨hl, hv⟩ := List.getElem?_eq_some_iff.mp hx
    rw [List.take_succ_eq_append_getElem hl, List.foldl_append, hv]
    exact h2
  simpa using this
/-- over a range -/
theorem forD_rng {j : Nat} {b : FS} (n : Nat) (I : Nat → Env → Prop) (e : Env) (h : I 0 e)
    (hb : ∀ (i : Nat) (e : Env), i < n → I i e → ∃ e', b (e.set j (.va (.int i))) = .nx e' ∧ I (i + 1) e') : ∃ e', forD j b (rng 0 n) e = .nx e' ∧ I n e' := by
  rw [rng_eq]
  have := forD_ix (j := j) (b := b) (enc := fun i : Nat => D.int (i : Int)) (List.range n) I e h fun i x e hx hi => by
    obtain ⟨hl, hv⟩ := List.getElem?_eq_some_iff.mp hx
    rw [List.getElem_range] at hv
    rw [List.length_range] at hl
    subst hv
    exact hb i e hl hi
  rwa [List.length_range] at this
/-- a walk that may hand back early: the first item at which it does -/
theorem forD_ret {α : Type} {j : Nat} {b : FS} {enc : α → D} (I : Env → Prop) (hit : α → Option Sl) : ∀ (xs : List α) (e : Env), I e →
    (∀ x e, x ∈ xs → I e → match hit x with
      | some s => b (e.set j (.va (enc x))) = .rt s
      | none => ∃ e', b (e.set j (.va (enc x))) = .nx e' ∧ I e') → (match xs.findSome? hit with
        | some s => forD j b (xs.map enc) e = .rt s
        | none => ∃ e', forD j b (xs.map enc) e = .nx e' ∧ I e')
  | [], e, h, _ => ⟨e, rfl, h⟩
  | x :: xs, e, h, hb => by
    have h0 := hb x e List.mem_cons_self h
    cases q : hit x with
    | some s =>
      rw [q] at h0
      rw [List.findSome?_cons, q]
      show (b (e.set j (.va (enc x)))).bind _ = _
      rw [h0]
      rfl
    | none =>
      rw [q] at h0
      obtain ⟨e1, h1, i1⟩ := h0
      have ih := forD_ret (j := j) (b := b) (enc := enc) I hit xs e1 i1 fun y e m => hb y e (List.mem_cons_of_mem _ m)
      rw [List.findSome?_cons, q]
      have er : forD j b ((x :: xs).map enc) e = forD j b (xs.map enc) e1 := by
        show (b (e.set j (.va (enc x)))).bind _ = _
        rw [h1]
        rfl
      simp only
      rw [er]
      exact ih
/-- a while loop by a measure -/
theorem whileD_inv {c : FT} {b : FS} (I : Nat → Env → Prop) (hc : ∀ m e, I (m + 1) e → c e = .ok true ∧ ∃ e', b e = .nx e' ∧ ∃ m', m' ≤ m ∧ I m' e') (h0 : ∀ e, I 0 e → c e = .ok false) : ∀ (n m : Nat) (e : Env), m < n → I m e → ∃ e', whileD c b n e = .nx e' ∧ I 0 e'
  | 0, m, e, h, _ => absurd h (Nat.not_lt_zero _)
  | n + 1, 0, e, _, h => by
    refine ⟨e, ?_, h⟩
    show (c e).out e _ = _
    rw [h0 e h]
    rfl
  | n + 1, m + 1, e, hm, h => by
    obtain ⟨h1, e1, h2, m', hm', h3⟩ := hc m e h
    obtain ⟨e2, h4, h5⟩ := whileD_inv I hc h0 n m' e1 (by omega) h3
    refine ⟨e2, ?_, h5⟩
    show (c e).out e _ = _
    rw [h1]
    show (b e).bind _ = _
    rw [h2]
    exact h4
/-- comprehensions -/
theorem lc_cons (j : Nat) (c : FT) (el : FE) (e : Env) (x : D) (xs : List D) : lcLoop j c el e (x :: xs) = (match c (e.set j (.va x)) with
    | .ok true => (match el (e.set j (.va x)) with
      | .ok y => (lcLoop j c el e xs).bind fun ys => .ok (y.d :: ys)
      | _ => .bad)
    | .ok false => lcLoop j c el e xs
    | _ => .bad) := nr rfl
theorem lc_map {α : Type} {j : Nat} {el : FE} {e : Env} {enc : α → D} {g : α → Sl} : ∀ (xs : List α), (∀ x ∈ xs, el (e.set j (.va (enc x))) = .ok (g x)) → lcLoop j tYes el e (xs.map enc) = .ok (xs.map fun x => (g x).d)
  | [], _ => rfl
  | x :: xs, h => by
    rw [List.map_cons, lc_cons, ev_tyes]
    simp only
    rw [h x List.mem_cons_self]
    simp only
    rw [lc_map xs fun y m => h y (List.mem_cons_of_mem _ m)]
    rfl
theorem lc_filter {α : Type} {j : Nat} {c : FT} {el : FE} {e : Env} {enc : α → D} {p : α → Bool} {g : α → Sl} : ∀ (xs : List α), (∀ x ∈ xs, c (e.set j (.va (enc x))) = .ok (p x)) → (∀ x ∈ xs, p x = true → el (e.set j (.va (enc x))) = .ok (g x)) →
    lcLoop j c el e (xs.map enc) = .ok ((xs.filter p).map fun x => (g x).d)
  | [], _, _ => rfl
  | x :: xs, h1, h2 => by
    have ih := lc_filter (j := j) (c := c) (el := el) (e := e) (enc := enc) (p := p) (g := g) xs (fun y m => h1 y (List.mem_cons_of_mem _ m)) fun y m => h2 y (List.mem_cons_of_mem _ m)
    rw [List.map_cons, lc_cons, h1 x List.mem_cons_self]
    cases q : p x with
    | true =>
      simp only
      rw [h2 x List.mem_cons_self q]
      simp only
      rw [ih, List.filter_cons_of_pos (by exact q)]
      rfl
    | false =>
      simp only
      rw [ih, List.filter_cons_of_neg (by simp [q])]
@[simp] theorem lim_val : LIM = 1000000 := nr rfl
end DL
set_option maxRecDepth 100000
namespace DL
open PySem (Str)
/-- the k-th cell of a script -/
def cell (ns : List Int) (k : Int) : Int := ns.getD k.toNat 0
theorem cell_at_ok {ns : List Int} {k : Int} (h0 : 0 ≤ k) : f_law_cell_at [.scr ns, .int k] = .ok (.va (.int (cell ns k))) := by
  unfold f_law_cell_at F_law_cell_at cell
  rw [fn_of]
  by_cases h : k < ns.length
  · have h2 : k.toNat < ns.length := by omega
    simp [h, dIdx, atD_ge h0, h2]
  · have h2 : ns.length ≤ k.toNat := by omega
    simp [h, h2]
def pick (ns : List Int) (k : Int) : Int := if k < ns.length then cell ns k else (cell ns 0 + 7 * k + 3) * 48271 % 2147483647 / 13
theorem pick_ok {ns : List Int} {k : Int} (h0 : 0 ≤ k) : f_law_pick [.scr ns, .int k] = .ok (.va (.int (pick ns k))) := by
  unfold f_law_pick F_law_pick pick
  rw [fn_of]
  by_cases h : k < ns.length
  · have h2 : k.toNat < ns.length := by omega
    simp [h, dIdx, atD_ge h0, h2, cell]
  · simp [h, cell_at_ok, o_mulL, o_mulR, o_mod, o_floor]
end DL
set_option maxRecDepth 100000
namespace DL
open PySem (Str)
/-- pairs of numbers -/
abbrev encP (p : Int × Int) : D := .tup [.int p.1, .int p.2]
/-- how often each number stands among the owners of N places when k lines are drawn -/
def Fill (own : List Int) (N k : Nat) : Prop := ∀ v : Int, own.count v = if v = -1 then N - 2 * k else if 0 ≤ v ∧ v < k then 2 else 0
theorem count_put2 {own : List Int} {a b : Nat} {n : Int} (ha : a < own.length) (hb : b < own.length) (hab : a ≠ b) (ea : own[a]? = some (-1)) (eb : own[b]? = some (-1)) (v : Int) :
    ((own.set a n).set b n).count v = (own.count v - (if v = -1 then 2 else 0)) + (if v = n then 2 else 0) ∨ n = -1 := by
  by_cases hn : n = -1
  · exact .inr hn
  left
  have hb' : b < (own.set a n).length := by rw [List.length_set]; exact hb
  have ea' : own[a] = -1 := by rw [List.getElem?_eq_getElem ha] at ea; exact Option.some.inj ea
  have eb' : own[b] = -1 := by rw [List.getElem?_eq_getElem hb] at eb; exact Option.some.inj eb
  have eb2 : (own.set a n)[b] = -1 := by rw [List.getElem_set_ne hab]; exact eb'
  rw [List.count_set hb', List.count_set ha, ea', eb2]
  by_cases h1 : v = -1
  · subst h1
    have h2 : ¬ (-1 = n) := fun e => hn e.symm
    simp [h2, hn]
    omega
  · have h2 : ¬ (-1 = v) := fun e => h1 e.symm
    by_cases h3 : v = n
    · subst h3; simp [h1, h2]
    · have h4 : ¬ (n = v) := fun e => h3 e.symm
      simp [h1, h2, h3, h4]
theorem fill_put {own : List Int} {N k a b : Nat} (F : Fill own N k) (hl : 2 * k + 2 ≤ N) (ha : a < own.length) (hb : b < own.length) (hab : a ≠ b) (ea : own[a]? = some (-1)) (eb : own[b]? = some (-1)) : Fill ((own.set a (k : Int)).set b (k : Int)) N (k + 1) := by
  intro v
  rcases count_put2 ha hb hab ea eb (n := (k : Int)) v with h | h
  · rw [h, F v]
    by_cases h1 : v = -1
    · subst h1
      have : ¬ ((-1 : Int) = (k : Int)) := by omega
      simp [this]
      omega
    · by_cases h2 : v = (k : Int)
      · subst h2
        have c2 : (0 : Int) ≤ (k : Int) ∧ (k : Int) < ((k + 1 : Nat) : Int) := by omega
        rw [if_neg h1, if_neg (by omega), if_neg h1, if_pos rfl, if_neg h1, if_pos c2]
      · rw [if_neg h1, if_neg h1, if_neg h2, if_neg h1]
        by_cases h3 : 0 ≤ v ∧ v < (k : Int)
        · rw [if_pos h3, if_pos (by omega)]
        · rw [if_neg h3, if_neg (by omega)]
  · omega
theorem fill_ge {own : List Int} {N k p : Nat} {v : Int} (F : Fill own N k) (h : own[p]? = some v) : v = -1 ∨ (0 ≤ v ∧ v < k) := by
  have m : v ∈ own := List.mem_of_getElem? h
  have c : 0 < own.count v := List.count_pos_iff.mpr m
  rw [F v] at c
  split at c
  · exact .inl (by assumption)
  · split at c
    · exact .inr (by assumption)
    · omega
theorem filter_range_count (p : Int → Bool) : ∀ (xs : List Int), ((List.range xs.length).filter fun i => p (xs.getD i 0)).length = xs.countP p
  | [] => rfl
  | x :: xs => by
    have ih := filter_range_count p xs
    rw [List.length_cons, List.range_succ_eq_map, List.filter_cons, List.countP_cons]
    have e : ((List.map Nat.succ (List.range xs.length)).filter fun i => p ((x :: xs).getD i 0)).length = ((List.range xs.length).filter fun i => p (xs.getD i 0)).length := by
      rw [List.filter_map, List.length_map]
      rfl
    have e0 : (x :: xs).getD 0 0 = x := rfl
    rw [e0]
    by_cases h : p x = true
    · rw [if_pos h, if_pos h, List.length_cons, e, ih]
    · rw [if_neg h, if_neg h, e, ih, Nat.add_zero]
/-! ### the frame of law_rows -/
def envR (ns : List Int) (start : Int) (m : Nat) (fx : List (Int × Int)) (own : List Int) (k l n a : Sl) : Env :=
  [.va (.scr ns), .va (.int start), .va (.int m), .va (.lst (fx.map encP)), .ow (.lst (encI own)), k, l, n, a]
theorem encI_set (xs : List Int) (i : Nat) (v : Int) : (encI xs).set i (.int v) = encI (xs.set i v) := List.map_set.symm
theorem rows1 {ns : List Int} {start : Int} {m : Nat} {fx : List (Int × Int)} {own : List Int} {i : Nat} {p : Int × Int} {k : Sl} (hi : fx[i]? = some p) (h1 : 0 ≤ p.1 ∧ p.1 < own.length) (h2 : 0 ≤ p.2 ∧ p.2 < own.length) :
    B_law_rows_1 ((envR ns start m fx own k .no .no .no).set 5 (.va (.int i))) = .nx (envR ns start m fx ((own.set p.1.toNat i).set p.2.toNat i) (.va (.int i)) .no .no .no) := by
  unfold B_law_rows_1 envR
  have e : (fx.map encP)[i]? = some (encP p) := by rw [List.getElem?_map, hi]; rfl
  simp [atD_nat, e, h1, h2]

abbrev encN (xs : List Nat) : List D := xs.map fun p : Nat => D.int (p : Int)
theorem cutD_map {α β : Type} (f : α → β) (xs : List α) (lo hi : Option Int) : cutD (xs.map f) lo hi = (cutD xs lo hi).map f := by
  unfold cutD
  rw [List.length_map, List.map_take, List.map_drop]
theorem cut_mid {α : Type} {xs : List α} {a b : Nat} (h : a ≤ b) (hb : b ≤ xs.length) : cutD xs (some (a : Int)) (some (b : Int)) = (xs.drop a).take (b - a) := by
  unfold cutD sIxD
  simp only [show ¬ ((a : Int) < 0) by omega, show ¬ ((b : Int) < 0) by omega, if_false, Int.toNat_natCast]
  rw [Nat.min_eq_left hb, Nat.min_eq_left (show a ≤ xs.length by omega)]
theorem cut_to {α : Type} {xs : List α} {a : Nat} (ha : a ≤ xs.length) : cutD xs (some (a : Int)) none = xs.drop a := by
  unfold cutD sIxD
  simp only [show ¬ ((a : Int) < 0) by omega, if_false, Int.toNat_natCast]
  rw [Nat.min_eq_left ha, List.take_of_length_le (by simp)]
theorem cut_from {α : Type} {xs : List α} {a : Nat} (ha : a ≤ xs.length) : cutD xs none (some (a : Int)) = xs.take a := by
  unfold cutD sIxD
  simp only [show ¬ ((a : Int) < 0) by omega, if_false, Int.toNat_natCast]
  rw [Nat.min_eq_left ha, List.drop_zero, Nat.sub_zero]
/-- where the next partner stands -/
def pAt (ns : List Int) (start : Int) (n len : Nat) : Nat := (1 + pick ns (start + n) % ((len : Int) - 1)).toNat
theorem pAt_ok {ns : List Int} {start : Int} {n len : Nat} (h : 2 ≤ len) : 1 ≤ pAt ns start n len ∧ pAt ns start n len < len ∧ 1 + pick ns (start + n) % ((len : Int) - 1) = (pAt ns start n len : Nat) := by
  unfold pAt
  have h1 : 0 ≤ pick ns (start + n) % ((len : Int) - 1) := Int.emod_nonneg _ (by omega)
  have h2 : pick ns (start + n) % ((len : Int) - 1) < (len : Int) - 1 := Int.emod_lt_of_pos _ (by omega)
  omega
theorem rows2 {ns : List Int} {start : Int} {m : Nat} {fx : List (Int × Int)} {own : List Int} {left : List Nat} {n : Nat} {k a : Sl} (hs : 0 ≤ start) (hl : 2 ≤ left.length) (hl2 : left.length ≤ 1000) (hb : ∀ p ∈ left, p < own.length) :
    B_law_rows_2 (envR ns start m fx own k (.va (.lst (encN left))) (.va (.int n)) a) = .nx (envR ns start m fx ((own.set (left.getD 0 0) n).set (left.getD (pAt ns start n left.length) 0) n) k
      (.va (.lst (encN ((left.drop 1).take (pAt ns start n left.length - 1) ++ left.drop (pAt ns start n left.length + 1))))) (.va (.int ((n + 1 : Nat) : Int))) (.va (.int (pAt ns start n left.length)))) := by
  obtain ⟨p1, p2, pe⟩ := pAt_ok (ns := ns) (start := start) (n := n) hl
  generalize pAt ns start n left.length = q at *
  have e0 : (encN left)[0]? = some (.int ((left.getD 0 0 : Nat) : Int)) := by
    rw [List.getElem?_map, List.getElem?_eq_getElem (by omega), List.getD_eq_getElem?_getD, List.getElem?_eq_getElem (by omega)]
    rfl
  have eq : (encN left)[q]? = some (.int ((left.getD q 0 : Nat) : Int)) := by
    rw [List.getElem?_map, List.getElem?_eq_getElem p2, List.getD_eq_getElem?_getD, List.getElem?_eq_getElem p2]
    rfl
  have b0 : left.getD 0 0 < own.length := hb _ (by rw [List.getD_eq_getElem?_getD, List.getElem?_eq_getElem (by omega)]; exact List.getElem_mem _)
  have bq : left.getD q 0 < own.length := hb _ (by rw [List.getD_eq_getElem?_getD, List.getElem?_eq_getElem p2]; exact List.getElem_mem _)
  have c1 : cutD (encN left) (some 1) (some (q : Int)) = encN ((left.drop 1).take (q - 1)) := by
    rw [cutD_map, show (some (1 : Int)) = some ((1 : Nat) : Int) from rfl, cut_mid p1 (by omega)]
  have c2 : cutD (encN left) (some ((q : Int) + 1)) none = encN (left.drop (q + 1)) := by
    rw [cutD_map, show (some ((q : Int) + 1)) = some ((q + 1 : Nat) : Int) from rfl, cut_to (by omega)]
  have h3 : 0 < (left.length : Int) - 1 := by omega
  unfold B_law_rows_2 envR
  have hpk := pick_ok (ns := ns) (k := start + n) (by omega)
  simp only [ev_seq, ev_set, ev_op2, ev_c, ev_call, ev_cons, ev_nil, ev_var, ev_cb, ev_put, ev_fz, ev_sl, ev_some, ev_none, R.bind_ok, R.out_ok, Out.bind_nx, List.getElem?_cons_succ, List.getElem?_cons_zero, Sl.d_va, Sl.d_ow, o_add, o_lenL, List.length_map, List.length_cons, List.length_nil, if_pos, hpk, o_sub, o_mod h3, pe, List.set_cons_succ, List.set_cons_zero, o_idxL, atD_0, e0, atD_nat, eq]
  have z : (0 : Int) ≤ (left.getD 0 0 : Nat) ∧ ((left.getD 0 0 : Nat) : Int) < (own.length : Int) := by omega
  have z2 : (0 : Int) ≤ (left.getD q 0 : Nat) ∧ ((left.getD q 0 : Nat) : Int) < (((encI own).set (left.getD 0 0) (.int n)).length : Int) := by rw [List.length_set, List.length_map]; omega
  have z2' : (0 : Int) ≤ (left.getD q 0 : Nat) ∧ ((left.getD q 0 : Nat) : Int) < ((encI (own.set (left.getD 0 0) n)).length : Int) := by rw [List.length_map, List.length_set]; omega
  simp only [z, and_self, if_true, Out.bind_nx, Int.toNat_natCast, R.out_ok, R.bind_ok, z2', o_slL, c1, c2, Sl.d_ow, encI_set, ev_seq, ev_set, ev_op2, ev_c, ev_var, ev_put, ev_fz, ev_sl, ev_some, ev_none, List.getElem?_cons_succ, List.getElem?_cons_zero, Sl.d_va, o_add, List.set_cons_succ, List.set_cons_zero, o_idxL, atD_nat, eq]
  have hle : (encN ((left.drop 1).take (q - 1))).length + (encN (left.drop (q + 1))).length ≤ LIM := by
    simp only [List.length_map, List.length_take, List.length_drop, lim_val]
    omega
  rw [o_addL hle]
  simp only [R.bind_ok, R.out_ok, Out.bind_nx, Sl.d_ow, List.set_cons_succ, List.set_cons_zero, ← List.map_append]
  rfl
end DL
set_option maxRecDepth 100000
namespace DL
open PySem (Str)
/-- what law_rows draws: m rows of four, each of the first 2 m numbers at two ends -/
structure Drawn (m : Nat) (rs : List (List Int)) : Prop where
  len : rs.length = m
  four : ∀ r ∈ rs, r.length = 4
  two : ∀ v : Int, rs.flatten.count v = if 0 ≤ v ∧ v < 2 * (m : Int) then 2 else 0
theorem nodup_inj {α : Type} {l : List α} (nd : l.Nodup) {i j : Nat} {hi : i < l.length} {hj : j < l.length} (e : l[i] = l[j]) : i = j := by
  have h := List.pairwise_iff_getElem.mp nd
  rcases Nat.lt_trichotomy i j with q | q | q
  · exact absurd e (h i j hi hj q)
  · exact q
  · exact absurd e.symm (h j i hj hi q)
theorem two_free {own : List Int} {a b : Nat} (ha : own[a]? = some (-1)) (hb : own[b]? = some (-1)) (hab : a ≠ b) : 2 ≤ own.count (-1) := by
  obtain ⟨la, ea⟩ := List.getElem?_eq_some_iff.mp ha
  obtain ⟨lb, eb⟩ := List.getElem?_eq_some_iff.mp hb
  have h := List.count_set (a := (0 : Int)) (b := -1) la
  rw [ea] at h
  have m : (-1 : Int) ∈ own.set a 0 := by
    refine List.mem_of_getElem? (i := b) ?_
    rw [List.getElem?_set_ne hab]
    exact hb
  have c : 0 < (own.set a 0).count (-1) := List.count_pos_iff.mpr m
  simp at h
  omega
theorem fill_pair {own : List Int} {N k a b : Nat} (F : Fill own N k) (hab : a ≠ b) (ea : own[a]? = some (-1)) (eb : own[b]? = some (-1)) : Fill ((own.set a (k : Int)).set b (k : Int)) N (k + 1) ∧ 2 * k + 2 ≤ N := by
  have h2 := two_free ea eb hab
  have h3 := F (-1)
  rw [if_pos rfl] at h3
  have hl : 2 * k + 2 ≤ N := by omega
  exact ⟨fill_put F hl (List.getElem?_eq_some_iff.mp ea).1 (List.getElem?_eq_some_iff.mp eb).1 hab ea eb, hl⟩
theorem chunks : ∀ (m : Nat) (xs : List Int), xs.length = 4 * m → ((List.range m).map fun k => (xs.drop (4 * k)).take 4).flatten = xs
  | 0, xs, h => by
    have e : xs = [] := List.length_eq_zero_iff.mp (by omega)
    subst e
    rfl
  | m + 1, xs, h => by
    rw [List.range_succ_eq_map, List.map_cons, List.map_map, List.flatten_cons]
    have ih := chunks m (xs.drop 4) (by rw [List.length_drop]; omega)
    have e : (List.map ((fun k => (xs.drop (4 * k)).take 4) ∘ Nat.succ) (List.range m)) = (List.range m).map fun k => ((xs.drop 4).drop (4 * k)).take 4 := by
      apply List.map_congr_left
      intro k _
      show (xs.drop (4 * (k + 1))).take 4 = _
      rw [List.drop_drop, show 4 + 4 * k = 4 * (k + 1) by omega]
    rw [e, ih]
    show (xs.drop 0).take 4 ++ xs.drop 4 = xs
    rw [List.drop_zero, List.take_append_drop]
theorem law_rows_ok {ns : List Int} {start : Int} {m : Nat} {fx : List (Int × Int)} (hs : 0 ≤ start) (hm : m ≤ 100) (hr : ∀ p ∈ fx, (0 ≤ p.1 ∧ p.1 < 4 * (m : Int)) ∧ 0 ≤ p.2 ∧ p.2 < 4 * (m : Int)) (hnd : (fx.flatMap fun p => [p.1, p.2]).Nodup) :
    ∃ rs : List (List Int), f_law_rows [.scr ns, .int start, .int m, .lst (fx.map encP)] = .ok (.ow (.lst (encRs rs))) ∧ Drawn m rs := by
  unfold f_law_rows F_law_rows
  rw [fn_eq [.va (.scr ns), .va (.int start), .va (.int m), .va (.lst (fx.map encP)), .no, .no, .no, .no, .no] rfl]
  -- owner = [-1, ..]
  have s1 : (sSet 4 (eLc (iRange1 (eOp2 dMul (eC (.int 4)) (eVar 2))) 5 tYes (eOp1 dNeg (eC (.int 1))) [5])) [.va (.scr ns), .va (.int start), .va (.int m), .va (.lst (fx.map encP)), .no, .no, .no, .no, .no] =
      .nx (envR ns start m fx (List.replicate (4 * m) (-1)) .no .no .no .no) := by
    have hmul : dMul (.int 4) (.int m) = .ok (.va (.int ((4 * m : Nat) : Int))) := o_mulL (by decide) (by decide)
    have hc := lc_map (j := 5) (el := eOp1 dNeg (eC (.int 1))) (e := [.va (.scr ns), .va (.int start), .va (.int m), .va (.lst (fx.map encP)), .no, .no, .no, .no, .no]) (enc := fun i : Nat => D.int (i : Int)) (g := fun _ => Sl.va (.int (-1))) (List.range (4 * m)) (fun _ _ => rfl)
    rw [← rng_eq] at hc
    have hlen : (rng 0 (4 * m)).length ≤ 1000000 := by rw [rng_eq, List.length_map, List.length_range]; omega
    have hb := range_nat (n := 4 * m) (by omega)
    have hit : iRange1 (eOp2 dMul (eC (.int 4)) (eVar 2)) [.va (.scr ns), .va (.int start), .va (.int m), .va (.lst (fx.map encP)), .no, .no, .no, .no, .no] = .ok (rng 0 (4 * m)) := by
      simp only [ev_irange1, ev_op2, ev_c, ev_var, List.getElem?_cons_succ, List.getElem?_cons_zero, R.bind_ok, Sl.d_va, hmul, hb]
    rw [ev_set, lc_ok hit hlen hc, R.out_ok]
    simp only [Sl.d_va, List.set_cons_succ, List.set_cons_zero]
    unfold envR
    have : ((List.range (4 * m)).map fun x : Nat => D.int (-1)) = encI (List.replicate (4 * m) (-1)) := by
      rw [show encI (List.replicate (4 * m) (-1)) = List.replicate (4 * m) (D.int (-1)) from List.map_replicate]
      refine List.eq_replicate_iff.mpr ⟨by simp, fun b hb => ?_⟩
      obtain ⟨_, _, e⟩ := List.mem_map.mp hb
      exact e.symm
    rw [this]
  rw [ev_seq, s1, Out.bind_nx, ev_seq]
  -- the fixed pairs
  have L1 := forD_ix (j := 5) (b := B_law_rows_1) (enc := fun i : Nat => D.int (i : Int)) (List.range fx.length)
    (fun i e => ∃ own k, e = envR ns start m fx own k .no .no .no ∧ own.length = 4 * m ∧ Fill own (4 * m) i ∧ ∀ p : Nat, p < 4 * m → (p : Int) ∉ (fx.take i).flatMap (fun p => [p.1, p.2]) → own[p]? = some (-1))
    (envR ns start m fx (List.replicate (4 * m) (-1)) .no .no .no .no)
    ⟨_, _, rfl, List.length_replicate, fun v => by
      rw [List.count_replicate]
      by_cases h : v = -1
      · subst h; simp
      · have h2 : ¬ (-1 = v) := fun e => h e.symm
        rw [if_neg (show ¬ ((-1 : Int) == v) = true by simpa using h2), if_neg h, if_neg (by omega)], fun p hp _ => by rw [List.getElem?_replicate, if_pos hp]⟩
    (fun i x e hx ⟨own, k, he, hl, F, hfree⟩ => by
      obtain ⟨hil, hv⟩ := List.getElem?_eq_some_iff.mp hx
      rw [List.getElem_range] at hv
      rw [List.length_range] at hil
      subst hv
      subst he
      have hi : fx[i]? = some fx[i] := List.getElem?_eq_getElem hil
      obtain ⟨r1, r2⟩ := hr fx[i] (List.getElem_mem hil)
      have hsplit : fx.flatMap (fun p => [p.1, p.2]) = (fx.take i).flatMap (fun p => [p.1, p.2]) ++ ([fx[i].1, fx[i].2] ++ (fx.drop (i + 1)).flatMap (fun p => [p.1, p.2])) := by
        conv => lhs; rw [← List.take_append_drop i fx, List.drop_eq_getElem_cons hil]
        rw [List.flatMap_append, List.flatMap_cons]
      rw [hsplit] at hnd
      have hd := (List.nodup_append.mp hnd).2.2
      have hd2 := (List.nodup_append.mp (List.nodup_append.mp hnd).2.1).1
      have n1 : fx[i].1 ∉ (fx.take i).flatMap (fun p => [p.1, p.2]) := fun h => hd _ h _ (by simp) rfl
      have n2 : fx[i].2 ∉ (fx.take i).flatMap (fun p => [p.1, p.2]) := fun h => hd _ h _ (by simp) rfl
      have n3 : fx[i].1 ≠ fx[i].2 := by
        intro h
        rw [h] at hd2
        simp at hd2
      have e1 := hfree fx[i].1.toNat (by omega) (by rw [Int.toNat_of_nonneg r1.1]; exact n1)
      have e2 := hfree fx[i].2.toNat (by omega) (by rw [Int.toNat_of_nonneg r2.1]; exact n2)
      have hne : fx[i].1.toNat ≠ fx[i].2.toNat := by omega
      obtain ⟨F2, hl2⟩ := fill_pair F hne e1 e2
      refine ⟨_, rows1 hi ⟨r1.1, by rw [hl]; omega⟩ ⟨r2.1, by rw [hl]; omega⟩, _, _, rfl, by simpa using hl, F2, fun p hp hn => ?_⟩
      rw [List.take_succ_eq_append_getElem hil, List.flatMap_append] at hn
      simp only [List.flatMap_cons, List.flatMap_nil, List.append_nil, List.mem_append, List.mem_cons, List.not_mem_nil, or_false, not_or] at hn
      rw [List.getElem?_set_ne (by omega), List.getElem?_set_ne (by omega)]
      exact hfree p hp hn.1)
  rw [← rng_eq, List.length_range] at L1
  obtain ⟨e1, h1, own, k1, he1, hl, F, hfree⟩ := L1
  have hfxm : 2 * fx.length ≤ 4 * m ∨ fx.length = 0 := by
    by_cases h0 : fx.length = 0
    · exact .inr h0
    left
    have c := F ((fx.length - 1 : Nat) : Int)
    rw [if_neg (by omega), if_pos (by omega)] at c
    have c2 := F (-1)
    rw [if_pos rfl] at c2
    -- every number below fx.length stands twice, so there is room for them
    have hall : ∀ n : Nat, n ≤ fx.length → 2 * n ≤ own.countP (fun v => decide (0 ≤ v ∧ v < (n : Int))) := by
      intro n
      induction n with
      | zero => intro _; omega
      | succ n ih =>
        intro hn
        have i := ih (by omega)
        have cn := F (n : Int)
        rw [if_neg (by omega), if_pos (by omega)] at cn
        have es : own.countP (fun v => decide (0 ≤ v ∧ v < ((n + 1 : Nat) : Int))) = own.countP (fun v => decide (0 ≤ v ∧ v < (n : Int))) + own.count (n : Int) := by
          have : ∀ xs : List Int, xs.countP (fun v => decide (0 ≤ v ∧ v < ((n + 1 : Nat) : Int))) = xs.countP (fun v => decide (0 ≤ v ∧ v < (n : Int))) + xs.count (n : Int) := by
            intro xs
            induction xs with
            | nil => rfl
            | cons x xs ih =>
              rw [List.countP_cons, List.countP_cons, List.count_cons, ih]
              by_cases a1 : 0 ≤ x ∧ x < (n : Int)
              · have a2 : 0 ≤ x ∧ x < ((n + 1 : Nat) : Int) := by omega
                have a3 : ¬ (x = (n : Int)) := by omega
                rw [if_pos (decide_eq_true a2), if_pos (decide_eq_true a1), if_neg (by rw [beq_iff_eq]; exact a3)]
                omega
              · by_cases a4 : x = (n : Int)
                · have a2 : 0 ≤ x ∧ x < ((n + 1 : Nat) : Int) := by omega
                  rw [if_pos (decide_eq_true a2), if_neg (by rw [decide_eq_true_eq]; exact a1), if_pos (by rw [beq_iff_eq]; exact a4)]
                  omega
                · have a2 : ¬ (0 ≤ x ∧ x < ((n + 1 : Nat) : Int)) := by omega
                  rw [if_neg (by rw [decide_eq_true_eq]; exact a2), if_neg (by rw [decide_eq_true_eq]; exact a1), if_neg (by rw [beq_iff_eq]; exact a4)]
                  omega
          exact this own
        omega
    have := hall fx.length (Nat.le_refl _)
    have := List.countP_le_length (p := fun v => decide (0 ≤ v ∧ v < (fx.length : Int))) (l := own)
    omega
  have hfl : 2 * fx.length ≤ 4 * m := by omega
  have hblen := range_nat (n := fx.length) (by omega)
  have s2 : (sFor (iRange1 (eCB bLen (aCons (eVar 3) aNil))) 5 B_law_rows_1) (envR ns start m fx (List.replicate (4 * m) (-1)) .no .no .no .no) = .nx (envR ns start m fx own k1 .no .no .no) := by
    rw [ev_for]
    have e0 : iRange1 (eCB bLen (aCons (eVar 3) aNil)) (envR ns start m fx (List.replicate (4 * m) (-1)) .no .no .no .no) = .ok (rng 0 fx.length) := by
      unfold envR
      simp only [ev_irange1, ev_cb, ev_cons, ev_nil, ev_var, List.getElem?_cons_succ, List.getElem?_cons_zero, R.bind_ok, Sl.d_va, o_lenL, List.length_map, hblen, and_self, if_true, Int.toNat_natCast]
    rw [e0, R.out_ok, h1, he1]
  rw [s2, Out.bind_nx, ev_seq]
  -- left = [k for k in range(4 * many) if owner[k] < 0]
  obtain ⟨left, hleft⟩ : ∃ left : List Nat, left = (List.range (4 * m)).filter fun i => decide (own.getD i 0 < 0) := ⟨_, rfl⟩
  have s3 : (sSet 6 (eFz (eLc (iRange1 (eOp2 dMul (eC (.int 4)) (eVar 2))) 5 (tVal (eOp2 dLt (eIxO 4 (eVar 5)) (eC (.int 0)))) (eVar 5) [5]))) (envR ns start m fx own k1 .no .no .no) =
      .nx (envR ns start m fx own k1 (.va (.lst (encN left))) .no .no) := by
    have hmul : dMul (.int 4) (.int m) = .ok (.va (.int ((4 * m : Nat) : Int))) := o_mulL (by decide) (by decide)
    have hc := lc_filter (j := 5) (c := tVal (eOp2 dLt (eIxO 4 (eVar 5)) (eC (.int 0)))) (el := eVar 5) (e := envR ns start m fx own .no .no .no .no) (enc := fun i : Nat => D.int (i : Int)) (p := fun i => decide (own.getD i 0 < 0)) (g := fun i => Sl.va (.int (i : Int))) (List.range (4 * m))
      (fun i hi => by
        have hi2 : i < own.length := by rw [hl]; exact List.mem_range.mp hi
        unfold envR
        have e : (encI own)[i]? = some (.int (own.getD i 0)) := by
          rw [List.getElem?_map, List.getElem?_eq_getElem hi2, List.getD_eq_getElem?_getD, List.getElem?_eq_getElem hi2]
          rfl
        simp only [ev_tval, ev_op2, ev_ixO, ev_var, ev_c, List.set_cons_succ, List.set_cons_zero, List.getElem?_cons_succ, List.getElem?_cons_zero, R.bind_ok, Sl.d_va, atD_nat, e, o_lt])
      (fun i hi _ => rfl)
    rw [← rng_eq] at hc
    have hlen : (rng 0 (4 * m)).length ≤ LIM := by rw [rng_eq, List.length_map, List.length_range, lim_val]; omega
    have hb := range_nat (n := 4 * m) (by omega)
    have hw : wipeE (envR ns start m fx own k1 .no .no .no) [5] = envR ns start m fx own .no .no .no .no := rfl
    have hv : ∀ a, envR ns start m fx own k1 a .no .no = [.va (.scr ns), .va (.int start), .va (.int m), .va (.lst (fx.map encP)), .ow (.lst (encI own)), k1, a, .no, .no] := fun _ => rfl
    rw [ev_set, ev_fz, ev_lc, hw]
    rw [hv .no]
    simp only [ev_irange1, ev_op2, ev_c, ev_var, List.getElem?_cons_succ, List.getElem?_cons_zero, R.bind_ok, Sl.d_va, hmul, hb, and_self, if_true, Int.toNat_natCast, hlen, hc, R.out_ok, Sl.d_ow, List.set_cons_succ, List.set_cons_zero, ← hleft]
    rfl
  rw [s3, Out.bind_nx, ev_seq]
  have s4 : (sSet 7 (eCB bLen (aCons (eVar 3) aNil))) (envR ns start m fx own k1 (.va (.lst (encN left))) .no .no) = .nx (envR ns start m fx own k1 (.va (.lst (encN left))) (.va (.int (fx.length : Nat))) .no) := by
    unfold envR
    simp only [ev_set, ev_cb, ev_cons, ev_nil, ev_var, List.getElem?_cons_succ, List.getElem?_cons_zero, R.bind_ok, R.out_ok, Sl.d_va, o_lenL, List.length_map, List.set_cons_succ, List.set_cons_zero]
  rw [s4, Out.bind_nx, ev_seq, ev_while]
  -- the loop
  have hneg : ∀ p : Nat, p ∈ left → own[p]? = some (-1) := fun p hp => by
    rw [hleft] at hp
    obtain ⟨hp1, hp2⟩ := List.mem_filter.mp hp
    have hp3 : p < own.length := by rw [hl]; exact List.mem_range.mp hp1
    have e : own[p]? = some own[p] := List.getElem?_eq_getElem hp3
    have hp4 : own.getD p 0 < 0 := of_decide_eq_true hp2
    rw [List.getD_eq_getElem?_getD, e] at hp4
    have hp5 : own[p] < 0 := hp4
    rcases fill_ge F e with h | h
    · rw [e, h]
    · omega
  have hll : left.length = 4 * m - 2 * fx.length := by
    have c := F (-1)
    rw [if_pos rfl] at c
    rw [hleft, ← hl, filter_range_count (fun v => decide (v < 0))]
    rw [← hl] at c
    rw [← c]
    apply List.countP_congr
    intro v hv
    obtain ⟨p, hp, hv2⟩ := List.mem_iff_getElem.mp hv
    have e : own[p]? = some v := by rw [List.getElem?_eq_getElem hp, hv2]
    rcases fill_ge F e with h | h
    · subst h; simp
    · have : ¬ (v = -1) := by omega
      simp [this]; omega
  have W := whileD_inv (c := tVal (eOp2 dGt (eCB bLen (aCons (eVar 6) aNil)) (eC (.int 1)))) (b := B_law_rows_2)
    (fun mm e => ∃ own left n k a, e = envR ns start m fx own k (.va (.lst (encN left))) (.va (.int (n : Nat))) a ∧ own.length = 4 * m ∧ Fill own (4 * m) n ∧ left.Nodup ∧ (∀ p ∈ left, own[p]? = some (-1)) ∧ left.length = 4 * m - 2 * n ∧ 2 * n ≤ 4 * m ∧ left.length = 2 * mm)
    (fun mm e ⟨own, left, n, k, a, he, hl, F, nd, hneg, hll, hn, hmm⟩ => by
      subst he
      have hl2 : 2 ≤ left.length := by omega
      have hb : ∀ p ∈ left, p < own.length := fun p hp => (List.getElem?_eq_some_iff.mp (hneg p hp)).1
      refine ⟨?_, _, rows2 hs hl2 (by omega) hb, mm, Nat.le_refl _, ?_⟩
      · unfold envR
        simp only [ev_tval, ev_op2, ev_cb, ev_cons, ev_nil, ev_var, ev_c, List.getElem?_cons_succ, List.getElem?_cons_zero, R.bind_ok, Sl.d_va, o_lenL, List.length_map, o_gt]
        have : (1 : Int) < (left.length : Int) := by omega
        simp [this]
      · obtain ⟨p1, p2, _⟩ := pAt_ok (ns := ns) (start := start) (n := n) hl2
        generalize pAt ns start n left.length = q at *
        have g0 : left.getD 0 0 = left[0]'(by omega) := by rw [List.getD_eq_getElem?_getD, List.getElem?_eq_getElem (by omega)]; rfl
        have gq : left.getD q 0 = left[q] := by rw [List.getD_eq_getElem?_getD, List.getElem?_eq_getElem p2]; rfl
        rw [g0, gq]
        have hne : left[0]'(by omega) ≠ left[q] := fun e => by
          have := nodup_inj nd e
          omega
        obtain ⟨F2, hl3⟩ := fill_pair F hne (hneg _ (List.getElem_mem _)) (hneg _ (List.getElem_mem _))
        have hsub : ((left.drop 1).take (q - 1) ++ left.drop (q + 1)).Sublist left := by
          have e : left = left.take 1 ++ ((left.drop 1).take (q - 1) ++ (left.drop q)) := by
            have z : (left.drop 1).drop (q - 1) = left.drop q := by rw [List.drop_drop, show 1 + (q - 1) = q by omega]
            rw [← z, List.take_append_drop, List.take_append_drop]
          conv => rhs; rw [e]
          refine List.Sublist.trans ?_ (List.sublist_append_right _ _)
          refine List.Sublist.append (List.Sublist.refl _) ?_
          rw [show q + 1 = 1 + q by omega, Nat.add_comm 1 q, ← List.drop_drop]
          exact List.drop_sublist _ _
        have nd2 := nd.sublist hsub
        refine ⟨_, _, n + 1, _, _, rfl, by simpa using hl, F2, nd2, fun p hp => ?_, ?_, by omega, ?_⟩
        · have hp2 := hsub.subset hp
          have a0 : left[0]'(by omega) ≠ p := fun e => by
            rcases List.mem_append.mp hp with h | h
            · obtain ⟨i, hi, e2⟩ := List.mem_iff_getElem.mp h
              rw [List.getElem_take, List.getElem_drop] at e2
              have := nodup_inj nd (e.trans e2.symm)
              omega
            · obtain ⟨i, hi, e2⟩ := List.mem_iff_getElem.mp h
              rw [List.getElem_drop] at e2
              have := nodup_inj nd (e.trans e2.symm)
              omega
          have aq : left[q] ≠ p := fun e => by
            rcases List.mem_append.mp hp with h | h
            · obtain ⟨i, hi, e2⟩ := List.mem_iff_getElem.mp h
              rw [List.length_take] at hi
              rw [List.getElem_take, List.getElem_drop] at e2
              have := nodup_inj nd (e.trans e2.symm)
              omega
            · obtain ⟨i, hi, e2⟩ := List.mem_iff_getElem.mp h
              rw [List.getElem_drop] at e2
              have := nodup_inj nd (e.trans e2.symm)
              omega
          rw [List.getElem?_set_ne aq, List.getElem?_set_ne a0]
          exact hneg p hp2
        · simp only [List.length_append, List.length_take, List.length_drop]
          omega
        · simp only [List.length_append, List.length_take, List.length_drop]
          omega)
    (fun e ⟨own, left, n, k, a, he, hl, F, nd, hneg, hll, hn, hmm⟩ => by
      subst he
      unfold envR
      simp only [ev_tval, ev_op2, ev_cb, ev_cons, ev_nil, ev_var, ev_c, List.getElem?_cons_succ, List.getElem?_cons_zero, R.bind_ok, Sl.d_va, o_lenL, List.length_map, o_gt]
      have : ¬ (1 : Int) < (left.length : Int) := by omega
      simp [this])
    1000 (left.length / 2) (envR ns start m fx own k1 (.va (.lst (encN left))) (.va (.int (fx.length : Nat))) .no) (by omega)
    ⟨own, left, fx.length, k1, .no, rfl, hl, F, by rw [hleft]; exact List.nodup_range.filter _, hneg, hll, hfl, by omega⟩
  obtain ⟨e2, h2, own2, left2, n2, k2, a2, he2, hl2, F2, nd2, hneg2, hll2, hn2, hmm2⟩ := W
  rw [h2, Out.bind_nx, he2]
  have hn3 : n2 = 2 * m := by omega
  refine ⟨(List.range m).map fun k => (own2.drop (4 * k)).take 4, ?_, ?_⟩
  · -- the rows
    have hc := lc_map (j := 5) (el := eCB bTuple (aCons (eSl dSl (eVar 4) (oSome (eOp2 dMul (eC (.int 4)) (eVar 5))) (oSome (eOp2 dAdd (eOp2 dMul (eC (.int 4)) (eVar 5)) (eC (.int 4))))) aNil))
      (e := [.va (.scr ns), .va (.int start), .va (.int m), .va (.lst (fx.map encP)), .va (.lst (encI own2)), .no, .va (.lst (encN left2)), .va (.int (n2 : Nat)), a2]) (enc := fun i : Nat => D.int (i : Int)) (g := fun i => Sl.va (encR ((own2.drop (4 * i)).take 4))) (List.range m)
      (fun i hi => by
        have hi2 := List.mem_range.mp hi
        have hmul : dMul (.int 4) (.int i) = .ok (.va (.int ((4 * i : Nat) : Int))) := o_mulL (by decide) (by decide)
        have hcut : cutD (encI own2) (some ((4 * i : Nat) : Int)) (some (((4 * i : Nat) : Int) + 4)) = encI ((own2.drop (4 * i)).take 4) := by
          rw [cutD_map, show (some (((4 * i : Nat) : Int) + 4)) = some ((4 * i + 4 : Nat) : Int) from rfl, cut_mid (by omega) (by omega), show 4 * i + 4 - 4 * i = 4 by omega]
        simp only [ev_cb, ev_cons, ev_nil, ev_sl, ev_some, ev_op2, ev_var, ev_c, List.set_cons_succ, List.set_cons_zero, List.getElem?_cons_succ, List.getElem?_cons_zero, R.bind_ok, Sl.d_va, hmul, o_add, o_slL, hcut, Sl.d_ow, o_tupleL])
    rw [← rng_eq] at hc
    have hlen : (rng 0 m).length ≤ LIM := by rw [rng_eq, List.length_map, List.length_range, lim_val]; omega
    have hb := range_nat (n := m) (by omega)
    have hp : pubE [4] (envR ns start m fx own2 k2 (.va (.lst (encN left2))) (.va (.int (n2 : Nat))) a2) = [.va (.scr ns), .va (.int start), .va (.int m), .va (.lst (fx.map encP)), .va (.lst (encI own2)), k2, .va (.lst (encN left2)), .va (.int (n2 : Nat)), a2] := rfl
    rw [ev_pub, hp]
    simp only [ev_ret, ev_lc, ev_irange1, ev_var, List.getElem?_cons_succ, List.getElem?_cons_zero, R.bind_ok, Sl.d_va, hb, and_self, if_true, Int.toNat_natCast, hlen, wipe_cons, wipe_nil, List.set_cons_succ, List.set_cons_zero, hc, R.out_ok, res_rt]
    rw [show encRs ((List.range m).map fun k => (own2.drop (4 * k)).take 4) = (List.range m).map fun x => encR ((own2.drop (4 * x)).take 4) from List.map_map]
  · refine ⟨by simp, fun r hr => ?_, fun v => ?_⟩
    · obtain ⟨k, hk, rfl⟩ := List.mem_map.mp hr
      have := List.mem_range.mp hk
      rw [List.length_take, List.length_drop]
      omega
    · rw [chunks m own2 hl2, F2 v]
      by_cases h : v = -1
      · subst h
        rw [if_pos rfl, if_neg (by omega)]
        omega
      · rw [if_neg h]
        by_cases h3 : 0 ≤ v ∧ v < (n2 : Int)
        · rw [if_pos h3, if_pos (by omega)]
        · rw [if_neg h3, if_neg (by omega)]
end DL
set_option maxRecDepth 100000
namespace DL
open PySem (Str)
/-! ### names in the order of first standing -/
def fstep (ns : List Int) (x : Int) : List Int := if x ∈ ns then ns else ns ++ [x]
def names (xs : List Int) : List Int := xs.foldl fstep []
def idx (ns : List Int) (x : Int) : Int := ((ns.idxOf x : Nat) : Int)
/-- rows numbered by first standing -/
def numb (rs : List (List Int)) : List (List Int) := rs.map fun r => r.map (idx (names rs.flatten))
theorem fold_len : ∀ (xs ns : List Int), (xs.foldl fstep ns).length ≤ ns.length + xs.length
  | [], ns => by simp
  | x :: xs, ns => by
    have h := fold_len xs (fstep ns x)
    have h2 : (fstep ns x).length ≤ ns.length + 1 := by
      unfold fstep
      split
      · omega
      · simp
    rw [List.foldl_cons, List.length_cons]
    omega
theorem fold_nodup : ∀ (xs ns : List Int), ns.Nodup → (xs.foldl fstep ns).Nodup
  | [], ns, h => h
  | x :: xs, ns, h => by
    rw [List.foldl_cons]
    refine fold_nodup xs _ ?_
    unfold fstep
    split
    · exact h
    · rename_i hx
      exact List.nodup_append.mpr ⟨h, by simp, fun a ha b hb e => by
        rw [List.mem_singleton] at hb
        subst hb; subst e
        exact hx ha⟩
theorem mem_fstep {ns : List Int} {x y : Int} : y ∈ fstep ns x ↔ y ∈ ns ∨ y = x := by
  unfold fstep
  split
  · rename_i h
    exact ⟨.inl, fun q => q.elim id fun e => e ▸ h⟩
  · rw [List.mem_append, List.mem_singleton]
theorem fold_mem : ∀ (xs ns : List Int) (y : Int), y ∈ xs.foldl fstep ns ↔ y ∈ ns ∨ y ∈ xs
  | [], ns, y => by simp
  | x :: xs, ns, y => by
    rw [List.foldl_cons, fold_mem xs, mem_fstep, List.mem_cons]
    constructor
    · rintro ((h | h) | h)
      · exact .inl h
      · exact .inr (.inl h)
      · exact .inr (.inr h)
    · rintro (h | h | h)
      · exact .inl (.inl h)
      · exact .inl (.inr h)
      · exact .inr h
theorem names_nodup (xs : List Int) : (names xs).Nodup := fold_nodup xs [] List.nodup_nil
theorem names_mem {xs : List Int} {y : Int} : y ∈ names xs ↔ y ∈ xs := by
  unfold names
  rw [fold_mem]
  simp
theorem names_len (xs : List Int) : (names xs).length ≤ xs.length := by
  have := fold_len xs []
  simpa [names] using this
theorem names_rows (rs : List (List Int)) : rs.foldl (fun s r => r.foldl fstep s) [] = names rs.flatten := by
  unfold names
  rw [List.foldl_flatten]
theorem allInt_enc (ns : List Int) : allInt (encI ns) = true := by
  unfold allInt
  rw [List.all_map]
  exact List.all_eq_true.mpr fun _ _ => rfl
theorem intsOf_enc : ∀ ns : List Int, intsOf (encI ns) = some ns
  | [] => rfl
  | n :: ns => by
    show (intsOf (encI ns)).map (n :: ·) = _
    rw [intsOf_enc ns]
    rfl
theorem notIn_enc (x : Int) (ns : List Int) : dNotIn (.int x) (.lst (encI ns)) = .ok (.va (.bl (!decide (x ∈ ns)))) := by
  show (if allInt (encI ns) = true then R.ok (Sl.va (D.bl (!(encI ns).any fun d => flatEq d (.int x)))) else .bad) = _
  rw [if_pos (allInt_enc ns), List.any_map]
  congr 3
  congr 1
  induction ns with
  | nil => rfl
  | cons n ns ih =>
    rw [List.any_cons, ih]
    show ((n == x) || decide (x ∈ ns)) = _
    by_cases h : n = x
    · subst h; simp
    · have h2 : ¬ (x = n) := fun e => h e.symm
      simp [h, h2]
theorem index_enc {x : Int} {ns : List Int} (h : x ∈ ns) : dIndex (encI ns) (.int x) = .ok (.va (.int (idx ns x))) := by
  unfold dIndex
  rw [intsOf_enc]
  show (if x ∈ ns then _ else _) = _
  rw [if_pos h]
  rfl
theorem sublen {rs : List (List Int)} {i : Nat} {r : List Int} (h : rs[i]? = some r) : (rs.take i).flatten.length + r.length ≤ rs.flatten.length := by
  obtain ⟨hl, hv⟩ := List.getElem?_eq_some_iff.mp h
  have e : rs = rs.take i ++ r :: rs.drop (i + 1) := by
    conv => lhs; rw [← List.take_append_drop i rs, List.drop_eq_getElem_cons hl, hv]
  conv => rhs; rw [e]
  rw [List.flatten_append, List.flatten_cons, List.length_append, List.length_append]
  omega
theorem numbered_loops {d : D} {rowD : List Int → D} {rs : List (List Int)} (hrow : ∀ r, SeqD (rowD r) (encI r)) (hsz : rs.flatten.length ≤ 100000) (hsz2 : rs.length ≤ 100000) :
    ∃ a b : Sl, forD 2 B_law_numbered_2 (rs.map rowD) [.va d, .ow (.lst []), .no, .no, .no] = .nx [.va d, .ow (.lst (encI (names rs.flatten))), a, b, .no] := by
  have L := forD_fold (j := 2) (b := B_law_numbered_2) (enc := rowD) (fun (s : List Int) e => ∃ a b, e = [.va d, .ow (.lst (encI s)), a, b, .no]) (fun s r => r.foldl fstep s) rs [] [.va d, .ow (.lst []), .no, .no, .no] ⟨_, _, rfl⟩
    (fun i r e hr ⟨a, b, he⟩ => by
      subst he
      have hlen := sublen hr
      have hs : ((rs.take i).foldl (fun s r => r.foldl fstep s) []).length ≤ (rs.take i).flatten.length := by
        rw [names_rows]
        exact names_len _
      generalize (rs.take i).foldl (fun s r => r.foldl fstep s) [] = s at *
      have L1 := forD_fold (j := 3) (b := B_law_numbered_1) (enc := D.int) (fun (s : List Int) e => ∃ b, e = [.va d, .ow (.lst (encI s)), .va (rowD r), b, .no]) fstep r s [.va d, .ow (.lst (encI s)), .va (rowD r), b, .no] ⟨_, rfl⟩
        (fun k x e hx ⟨b, he⟩ => by
          subst he
          obtain ⟨hk, _⟩ := List.getElem?_eq_some_iff.mp hx
          have hl2 := fold_len (r.take k) s
          rw [List.length_take] at hl2
          generalize (r.take k).foldl fstep s = t at *
          have hlim : (encI t).length < LIM := by rw [List.length_map, lim_val]; omega
          unfold B_law_numbered_1
          simp only [ev_sif, ev_tval, ev_lend, ev_op2, ev_var, List.set_cons_succ, List.set_cons_zero, List.map_cons, List.map_nil, Sl.frz_va, Sl.frz_ow, Sl.frz_no, List.getElem?_cons_succ, List.getElem?_cons_zero, R.bind_ok, Sl.d_va, notIn_enc]
          have hlo : (Sl.va (D.bl (!decide (x ∈ t)))).loose = true := rfl
          simp only [hlo, if_true, R.bind_ok, Sl.d_va, R.out_ok]
          unfold fstep
          by_cases hx2 : x ∈ t
          · simp only [hx2, decide_true, Bool.not_true, Bool.false_eq_true, if_false, ev_next, if_true]
            exact ⟨_, rfl, _, rfl⟩
          · simp only [hx2, decide_false, Bool.not_false, if_true, ev_app, List.getElem?_cons_succ, List.getElem?_cons_zero, ev_var, R.out_ok, hlim, List.set_cons_succ, List.set_cons_zero, Sl.d_va, if_false]
            exact ⟨_, rfl, _, by rw [show encI (t ++ [x]) = encI t ++ [D.int x] from List.map_append]⟩)
      obtain ⟨e1, h1, b1, he1⟩ := L1
      refine ⟨e1, ?_, .va (rowD r), b1, he1⟩
      unfold B_law_numbered_2
      rw [ev_for, iseq_ok (d := rowD r) (ds := encI r) rfl (hrow r), R.out_ok]
      exact h1)
  obtain ⟨e, h, a, b, he⟩ := L
  rw [he, names_rows] at h
  exact ⟨a, b, h⟩
theorem numbered_rows {d : D} {rowD : List Int → D} {rs : List (List Int)} {ns : List Int} {a b : Sl} (hrow : ∀ r, SeqD (rowD r) (encI r)) (hsz : rs.flatten.length ≤ 100000) (hsz2 : rs.length ≤ 100000) (hin : ∀ r ∈ rs, ∀ x ∈ r, x ∈ ns) :
    ∃ e : Env, forD 2 B_law_numbered_3 (rs.map rowD) [.va d, .ow (.lst (encI ns)), a, b, .ow (.lst [])] = .nx e ∧ e[4]? = some (.ow (.lst (encRs (rs.map fun r => r.map (idx ns))))) ∧ ∃ x y, e = [.va d, x, y, b, .ow (.lst (encRs (rs.map fun r => r.map (idx ns))))] := by
  have L := forD_fold (j := 2) (b := B_law_numbered_3) (enc := rowD) (fun (s : List (List Int)) e => ∃ x y, (x = .ow (.lst (encI ns)) ∨ x = .va (.lst (encI ns))) ∧ e = [.va d, x, y, b, .ow (.lst (encRs s))]) (fun s r => s ++ [r.map (idx ns)]) rs [] [.va d, .ow (.lst (encI ns)), a, b, .ow (.lst [])] ⟨_, _, .inl rfl, rfl⟩
    (fun i r e hr ⟨x, y, hx, he⟩ => by
      subst he
      obtain ⟨hi, hv⟩ := List.getElem?_eq_some_iff.mp hr
      have hs : ∀ (l : List (List Int)) (s0 : List (List Int)), (l.foldl (fun s r => s ++ [r.map (idx ns)]) s0).length = s0.length + l.length := by
        intro l
        induction l with
        | nil => intro s0; rfl
        | cons a l ih => intro s0; rw [List.foldl_cons, ih]; simp only [List.length_append, List.length_cons, List.length_nil]; omega
      have hs2 := hs (rs.take i) []
      generalize (rs.take i).foldl (fun s r => s ++ [r.map (idx ns)]) [] = s at *
      have hlim : (encRs s).length < LIM := by
        rw [List.length_map, hs2, List.length_take, lim_val]
        simp
        omega
      have hr2 : r ∈ rs := List.mem_of_getElem? hr
      have hfl : r.length ≤ 100000 := by
        have := sublen hr
        omega
      have hpub : pubE [1] ([Sl.va d, x, y, b, .ow (.lst (encRs s))].set 2 (.va (rowD r))) = [.va d, .va (.lst (encI ns)), .va (rowD r), b, .ow (.lst (encRs s))] := by
        rcases hx with rfl | rfl <;> rfl
      have hc := lc_map (j := 3) (el := eBm dIndex (eVar 1) (eVar 3)) (e := [.va d, .va (.lst (encI ns)), .va (rowD r), .no, .ow (.lst (encRs s))]) (enc := D.int) (g := fun x => Sl.va (.int (idx ns x))) r
        (fun x hx => by
          simp only [ev_bm, ev_var, List.set_cons_succ, List.set_cons_zero, List.getElem?_cons_succ, List.getElem?_cons_zero, R.bind_ok, Sl.d_va, index_enc (hin r hr2 x hx)])
      have hlc : eLc (iSeq (eVar 2)) 3 tYes (eBm dIndex (eVar 1) (eVar 3)) [3] [.va d, .va (.lst (encI ns)), .va (rowD r), b, .ow (.lst (encRs s))] = .ok (.ow (.lst (encI (r.map (idx ns))))) := by
        have := lc_ok (it := iSeq (eVar 2)) (j := 3) (c := tYes) (el := eBm dIndex (eVar 1) (eVar 3)) (own := [3]) (e := [.va d, .va (.lst (encI ns)), .va (rowD r), b, .ow (.lst (encRs s))]) (iseq_ok (d := rowD r) rfl (hrow r)) (by rw [List.length_map]; omega) hc
        rw [this, show encI (r.map (idx ns)) = r.map (fun x => D.int (idx ns x)) from List.map_map]
        rfl
      unfold B_law_numbered_3
      rw [ev_pub, hpub]
      simp only [ev_app, List.getElem?_cons_succ, List.getElem?_cons_zero, ev_cb, ev_cons, ev_nil, hlc, R.bind_ok, Sl.d_ow, o_tupleL, R.out_ok, hlim, if_true, Sl.d_va, List.set_cons_succ, List.set_cons_zero]
      exact ⟨_, rfl, _, _, .inr rfl, by rw [show encRs (s ++ [r.map (idx ns)]) = encRs s ++ [encR (r.map (idx ns))] from List.map_append]⟩)
  obtain ⟨e, h, x, y, _, he⟩ := L
  have hf : ∀ (l s0 : List (List Int)), l.foldl (fun s r => s ++ [r.map (idx ns)]) s0 = s0 ++ l.map fun r => r.map (idx ns) := by
    intro l
    induction l with
    | nil => intro s0; simp
    | cons a l ih => intro s0; rw [List.foldl_cons, ih, List.map_cons, List.append_assoc]; rfl
  rw [hf, List.nil_append] at he
  exact ⟨e, h, by rw [he]; rfl, x, y, he⟩
theorem law_numbered_ok {d : D} {rowD : List Int → D} {rs : List (List Int)} (hd : SeqD d (rs.map rowD)) (hrow : ∀ r, SeqD (rowD r) (encI r)) (hsz : rs.flatten.length ≤ 100000) (hsz2 : rs.length ≤ 100000) :
    f_law_numbered [d] = .ok (.va (.tup (encRs (numb rs)))) := by
  unfold f_law_numbered F_law_numbered
  rw [fn_eq [.va d, .no, .no, .no, .no] rfl]
  obtain ⟨a, b, h1⟩ := numbered_loops (d := d) hrow hsz hsz2
  obtain ⟨e, h2, _, x, y, he⟩ := numbered_rows (d := d) (a := a) (b := b) (ns := names rs.flatten) hrow hsz hsz2 (fun r hr x hx => names_mem.mpr (List.mem_flatten.mpr ⟨r, hr, hx⟩))
  have l0 : ([] : List D).length ≤ LIM := by rw [lim_val]; simp
  have hsl : ∀ w : Sl, w = .ow (.lst []) → [Sl.va d, .ow (.lst []), .no, .no, .no].set 4 w = [Sl.va d, .ow (.lst []), .no, .no, w] := fun _ _ => rfl
  rw [ev_seq]
  have t1 : sSet 1 (eLst aNil) [.va d, .no, .no, .no, .no] = .nx [.va d, .ow (.lst []), .no, .no, .no] := by
    simp only [ev_set, ev_lst, ev_nil, R.bind_ok, l0, if_true, R.out_ok, List.set_cons_succ, List.set_cons_zero]
  rw [t1, Out.bind_nx, ev_seq, ev_for, iseq_ok (d := d) rfl hd, R.out_ok, h1, Out.bind_nx, ev_seq]
  have t2 : sSet 4 (eLst aNil) [.va d, .ow (.lst (encI (names rs.flatten))), a, b, .no] = .nx [.va d, .ow (.lst (encI (names rs.flatten))), a, b, .ow (.lst [])] := by
    simp only [ev_set, ev_lst, ev_nil, R.bind_ok, l0, if_true, R.out_ok, List.set_cons_succ, List.set_cons_zero]
  rw [t2, Out.bind_nx, ev_seq, ev_for, iseq_ok (d := d) rfl hd, R.out_ok, h2, Out.bind_nx, he]
  simp only [ev_pub, pub_cons, pub_nil, List.getElem?_cons_succ, List.getElem?_cons_zero, List.set_cons_succ, List.set_cons_zero, Sl.frz_ow, ev_ret, ev_cb, ev_cons, ev_nil, ev_var, R.bind_ok, Sl.d_va, o_tupleL, R.out_ok, res_rt]
  rfl
end DL
set_option maxRecDepth 100000
namespace DL
open PySem (Str)
/-! ### small defs of the laws -/
theorem isi_int (i : Int) : bIsi "int" [.int i] = .ok (.va (.bl true)) := by simp [bIsi, isTy]
theorem isi_int_bool (i : Int) : bIsi "bool" [.int i] = .ok (.va (.bl false)) := by simp [bIsi, isTy]
theorem isi_tup (ds : List D) : bIsi "tuple" [.tup ds] = .ok (.va (.bl true)) := by simp [bIsi, isTy]
theorem isi_lst (ds : List D) : bIsi "list" [.lst ds] = .ok (.va (.bl true)) := by simp [bIsi, isTy]
@[simp] theorem whole_ok (i : Int) : f_law_whole [.int i] = .ok (.va (.bl true)) := by
  unfold f_law_whole F_law_whole
  rw [fn_of]
  simp [isi_int, isi_int_bool]
def marksD (c : Nat) : List D := [.bl (c == 0), .bl (c == 1), .bl (c == 2), .bl (c == 3), .bl (c == 4), .bl true]
theorem refused_ok (c : Nat) (h : c < 5) : f_law_refused [.lst (marksD c), .int (c : Int)] = .ok (.va (.bl true)) := by
  match c, h with
  | 0, _ => rfl
  | 1, _ => rfl
  | 2, _ => rfl
  | 3, _ => rfl
  | 4, _ => rfl
theorem nomarks : dNe (.lst []) (.lst []) = .ok (.va (.bl false)) := rfl
theorem nomarksE : dEq (.lst []) (.lst []) = .ok (.va (.bl true)) := rfl
/-! ### equality with oneself -/
theorem allEq_self {f : D → D → Bool} : ∀ {ds : List D}, (∀ d ∈ ds, f d d = true) → allEq f ds ds = true
  | [], _ => rfl
  | d :: ds, h => by
    show (f d d && allEq f ds ds) = true
    rw [h d List.mem_cons_self, allEq_self fun x m => h x (List.mem_cons_of_mem _ m)]
    rfl
theorem beqL_self : ∀ (n : Nat) (d : D), d.lev n = true → beqL n d d = true
  | n, .non, _ => by cases n <;> rfl
  | n, .bl b, _ => by cases n <;> simp [beqL]
  | n, .int i, _ => by cases n <;> simp [beqL]
  | n, .str x, _ => by cases n <;> simp [beqL]
  | n + 1, .lst ds, h => by
    have h : ds.all (D.lev n) = true := h
    show allEq (beqL n) ds ds = true
    exact allEq_self fun d m => beqL_self n d (List.all_eq_true.mp h d m)
  | n + 1, .tup ds, h => by
    have h : ds.all (D.lev n) = true := h
    show allEq (beqL n) ds ds = true
    exact allEq_self fun d m => beqL_self n d (List.all_eq_true.mp h d m)
  | 0, .lst _, h => by cases h
  | 0, .tup _, h => by cases h
  | n, .dic _, h => by cases n <;> cases h
  | n, .scr _, h => by cases n <;> cases h
  | n, .adr _, h => by cases n <;> cases h
theorem cmpD_self {d : D} (h : d.lev 6 = true) : cmpD d d = some true := by
  cases d with
  | int i => exact congrArg some (decide_eq_true rfl)
  | bl b => exact congrArg some (decide_eq_true rfl)
  | str x => exact congrArg some (decide_eq_true rfl)
  | non => rfl
  | lst ds => show (if (D.lev 6 (.lst ds) && D.lev 6 (.lst ds)) = true then _ else _) = _; rw [h, Bool.and_self, if_pos rfl, beqL_self 6 _ h]
  | tup ds => show (if (D.lev 6 (.tup ds) && D.lev 6 (.tup ds)) = true then _ else _) = _; rw [h, Bool.and_self, if_pos rfl, beqL_self 6 _ h]
  | dic _ => cases h
  | scr _ => cases h
  | adr _ => cases h
theorem dEq_self {d : D} (h : d.lev 6 = true) : dEq d d = .ok (.va (.bl true)) := by
  unfold dEq
  rw [cmpD_self h]
theorem dNe_self {d : D} (h : d.lev 6 = true) : dNe d d = .ok (.va (.bl false)) := by
  unfold dNe
  rw [cmpD_self h]
  rfl
theorem lev_ints (n : Nat) (xs : List Int) : (encI xs).all (D.lev n) = true := by
  rw [List.all_map]
  exact List.all_eq_true.mpr fun x _ => by cases n <;> rfl
theorem lev_row (n : Nat) (r : List Int) : (encR r).lev (n + 1) = true := lev_ints n r
/-! ### try -/
theorem told_nx {ix im : Nat} {b : FS} {e e2 : Env} (h : ix < e.length ∧ im < e.length) (hb : b e = .nx e2) : sTold ix im b e = .nx e2 := by
  unfold sTold
  rw [if_pos h, hb]
theorem told_xc {ix im c : Nat} {b : FS} {e e2 : Env} (h : ix < e.length ∧ im < e.length) (hb : b e = .xc c e2) (hc : c < 5) : sTold ix im b e = .nx ((e2.set ix .no).set im (.ow (.lst (marksD c)))) := by
  unfold sTold
  rw [if_pos h, hb]
  show (if c < 5 then _ else _) = _
  rw [if_pos hc]
  rfl
/-! ### places -/
/-- what stands at a place -/
def ent (rs : List (List Int)) (p : Nat × Nat) : Int := (rs.getD p.1 []).getD p.2 0
def places (n : Nat) : List (Nat × Nat) := (List.range n).flatMap fun k => (List.range 4).map fun e => (k, e)
def plc (rs : List (List Int)) (line : Int) : List (Nat × Nat) := (places rs.length).filter fun p => decide (ent rs p = line)
abbrev encNP (p : Nat × Nat) : D := .tup [.int (p.1 : Int), .int (p.2 : Int)]
theorem getD_eq {α : Type} {xs : List α} {i : Nat} {d : α} (h : i < xs.length) : xs.getD i d = xs[i] := by
  rw [List.getD_eq_getElem?_getD, List.getElem?_eq_getElem h]
  rfl
theorem row_range {r : List Int} (h : r.length = 4) : (List.range 4).map (fun e => r.getD e 0) = r := by
  match r, h with
  | [a, b, c, d], _ => rfl
theorem range_getD {α : Type} (d : α) (xs : List α) : (List.range xs.length).map (fun k => xs.getD k d) = xs := by
  apply List.ext_getElem
  · simp
  · intro i h1 h2
    rw [List.getElem_map, List.getElem_range, getD_eq h2]
theorem flatMap_same {α β : Type} {f g : α → List β} : ∀ {l : List α}, (∀ x ∈ l, f x = g x) → l.flatMap f = l.flatMap g
  | [], _ => rfl
  | x :: l, h => by rw [List.flatMap_cons, List.flatMap_cons, h x List.mem_cons_self, flatMap_same fun y m => h y (List.mem_cons_of_mem _ m)]
theorem places_ent {rs : List (List Int)} (h4 : ∀ r ∈ rs, r.length = 4) : (places rs.length).map (ent rs) = rs.flatten := by
  unfold places
  rw [List.map_flatMap]
  have e : ∀ k ∈ List.range rs.length, ((List.range 4).map fun e => (k, e)).map (ent rs) = rs.getD k [] := fun k hk => by
    have hk2 := List.mem_range.mp hk
    rw [List.map_map]
    have := row_range (r := rs.getD k []) (by rw [getD_eq hk2]; exact h4 _ (List.getElem_mem _))
    exact this
  rw [flatMap_same e, List.flatMap_def, range_getD]
theorem plc_len {rs : List (List Int)} (h4 : ∀ r ∈ rs, r.length = 4) (line : Int) : (plc rs line).length = rs.flatten.count line := by
  rw [← places_ent h4, List.count_eq_countP, List.countP_map, List.countP_eq_length_filter]
  rfl
theorem plc_eq (rs : List (List Int)) (line : Int) : ((List.range rs.length).flatMap fun k => ((List.range 4).filter fun e => decide (ent rs (k, e) = line)).map fun e => (k, e)) = plc rs line := by
  unfold plc places
  rw [List.filter_flatMap]
  apply flatMap_same
  intro k hk
  rw [List.filter_map]
  rfl
theorem foldl_filter {α β : Type} (p : α → Bool) (f : α → β) : ∀ (l : List α) (s : List β), l.foldl (fun s x => if p x = true then s ++ [f x] else s) s = s ++ (l.filter p).map f
  | [], s => by simp
  | x :: l, s => by
    rw [List.foldl_cons, foldl_filter p f l]
    by_cases h : p x = true
    · rw [if_pos h, List.filter_cons_of_pos h, List.map_cons, List.append_assoc]
      rfl
    · rw [if_neg h, List.filter_cons_of_neg h]
theorem foldl_append {α β : Type} (f : α → List β) : ∀ (l : List α) (s : List β), l.foldl (fun s x => s ++ f x) s = s ++ l.flatMap f
  | [], s => by simp
  | x :: l, s => by rw [List.foldl_cons, foldl_append f l, List.flatMap_cons, List.append_assoc]
theorem ent_idx {rs : List (List Int)} (h4 : ∀ r ∈ rs, r.length = 4) {k e : Nat} (hk : k < rs.length) (he : e < 4) : dIdx (.tup (encRs rs)) (.int (k : Int)) = .ok (.va (encR (rs.getD k []))) ∧ dIdx (encR (rs.getD k [])) (.int (e : Int)) = .ok (.va (.int (ent rs (k, e)))) := by
  have hl : (rs.getD k []).length = 4 := by rw [getD_eq hk]; exact h4 _ (List.getElem_mem _)
  constructor
  · refine idx_seq (.inr rfl) ?_
    rw [atD_nat, List.getElem?_map, List.getElem?_eq_getElem hk, getD_eq hk]
    rfl
  · refine idx_seq (.inr rfl) ?_
    rw [atD_nat, List.getElem?_map, List.getElem?_eq_getElem (by omega)]
    unfold ent
    rw [getD_eq (xs := rs.getD k []) (by omega)]
    rfl
theorem places_of_ok {rs : List (List Int)} {line : Int} (h4 : ∀ r ∈ rs, r.length = 4) (hl : rs.length ≤ 1000) : f_places_of [.tup (encRs rs), .int line] = .ok (.ow (.lst ((plc rs line).map encNP))) := by
  unfold f_places_of F_places_of
  rw [fn_eq [.va (.tup (encRs rs)), .va (.int line), .no, .no, .no] rfl]
  have l0 : ([] : List D).length ≤ LIM := by rw [lim_val]; simp
  have t1 : sSet 2 (eLst aNil) [.va (.tup (encRs rs)), .va (.int line), .no, .no, .no] = .nx [.va (.tup (encRs rs)), .va (.int line), .ow (.lst []), .no, .no] := by
    simp only [ev_set, ev_lst, ev_nil, R.bind_ok, l0, if_true, R.out_ok, List.set_cons_succ, List.set_cons_zero]
  have L := forD_fold (j := 3) (b := B_places_of_2) (enc := fun k : Nat => D.int (k : Int)) (fun (s : List (Nat × Nat)) e => ∃ a b, e = [.va (.tup (encRs rs)), .va (.int line), .ow (.lst (s.map encNP)), a, b])
    (fun s k => s ++ ((List.range 4).filter fun e => decide (ent rs (k, e) = line)).map fun e => (k, e)) (List.range rs.length) [] [.va (.tup (encRs rs)), .va (.int line), .ow (.lst []), .no, .no] ⟨_, _, rfl⟩
    (fun i k e hk ⟨a, b, he⟩ => by
      subst he
      obtain ⟨hi, hv⟩ := List.getElem?_eq_some_iff.mp hk
      rw [List.getElem_range] at hv
      rw [List.length_range] at hi
      subst hv
      have hs : ((List.range rs.length).take i |>.foldl (fun s k => s ++ ((List.range 4).filter fun e => decide (ent rs (k, e) = line)).map fun e => (k, e)) ([] : List (Nat × Nat))).length ≤ 4 * i := by
        rw [foldl_append, List.nil_append, List.length_flatMap]
        have : ∀ l : List Nat, (l.map fun k => (((List.range 4).filter fun e => decide (ent rs (k, e) = line)).map fun e => (k, e)).length).sum ≤ 4 * l.length := by
          intro l
          induction l with
          | nil => simp
          | cons a l ih =>
            rw [List.map_cons, List.sum_cons, List.length_cons]
            have h1 : (((List.range 4).filter fun e => decide (ent rs (a, e) = line)).map fun e => (a, e)).length ≤ 4 := by
              rw [List.length_map]
              exact Nat.le_trans (List.length_filter_le _ _) (by simp)
            omega
        have h2 := this ((List.range rs.length).take i)
        rw [List.length_take, List.length_range] at h2
        omega
      generalize ((List.range rs.length).take i).foldl (fun s k => s ++ ((List.range 4).filter fun e => decide (ent rs (k, e) = line)).map fun e => (k, e)) ([] : List (Nat × Nat)) = s at *
      have L1 := forD_fold (j := 4) (b := B_places_of_1) (enc := fun k : Nat => D.int (k : Int)) (fun (s : List (Nat × Nat)) e => ∃ b, e = [.va (.tup (encRs rs)), .va (.int line), .ow (.lst (s.map encNP)), .va (.int i), b])
        (fun s e => if decide (ent rs (i, e) = line) = true then s ++ [(i, e)] else s) (List.range 4) s [.va (.tup (encRs rs)), .va (.int line), .ow (.lst (s.map encNP)), .va (.int i), b] ⟨_, rfl⟩
        (fun j x e hx ⟨b, he⟩ => by
          subst he
          obtain ⟨hj, hv⟩ := List.getElem?_eq_some_iff.mp hx
          rw [List.getElem_range] at hv
          rw [List.length_range] at hj
          subst hv
          have hl2 : (((List.range 4).take j).foldl (fun s e => if decide (ent rs (i, e) = line) = true then s ++ [(i, e)] else s) s).length ≤ s.length + 4 := by
            rw [foldl_filter, List.length_append, List.length_map]
            have := List.length_filter_le (fun e => decide (ent rs (i, e) = line)) ((List.range 4).take j)
            rw [List.length_take, List.length_range] at this
            omega
          generalize ((List.range 4).take j).foldl (fun s e => if decide (ent rs (i, e) = line) = true then s ++ [(i, e)] else s) s = t at *
          obtain ⟨x1, x2⟩ := ent_idx h4 hi hj
          have hlim : (t.map encNP).length < LIM := by rw [List.length_map, lim_val]; omega
          have l2 : [D.int (i : Int), .int (j : Int)].length ≤ LIM := by rw [lim_val]; simp
          unfold B_places_of_1
          simp only [ev_sif, ev_tval, ev_op2, ev_var, List.set_cons_succ, List.set_cons_zero, List.getElem?_cons_succ, List.getElem?_cons_zero, R.bind_ok, Sl.d_va, x1, x2, o_eq, R.out_ok]
          by_cases hq : ent rs (i, j) = line
          · simp only [hq, decide_true, if_true, ev_app, List.getElem?_cons_succ, List.getElem?_cons_zero, ev_tup, ev_cons, ev_nil, ev_var, R.bind_ok, Sl.d_va, l2, R.out_ok, hlim, List.set_cons_succ, List.set_cons_zero]
            exact ⟨_, rfl, _, by rw [List.map_append]; rfl⟩
          · simp only [hq, decide_false, Bool.false_eq_true, if_false, ev_next]
            exact ⟨_, rfl, _, rfl⟩)
      obtain ⟨e1, h1, b1, he1⟩ := L1
      rw [foldl_filter] at he1
      refine ⟨e1, ?_, .va (.int i), b1, he1⟩
      unfold B_places_of_2
      simp only [ev_for, ev_irange1, ev_c, R.bind_ok, Sl.d_va, range_4, R.out_ok, List.set_cons_succ, List.set_cons_zero]
      exact h1)
  obtain ⟨e, h, a, b, he⟩ := L
  rw [← rng_eq] at h
  have hb := range_nat (n := rs.length) (by omega)
  rw [ev_seq, t1, Out.bind_nx, ev_seq]
  simp only [ev_for, ev_irange1, ev_cb, ev_cons, ev_nil, ev_var, List.getElem?_cons_succ, List.getElem?_cons_zero, R.bind_ok, Sl.d_va, o_lenT, List.length_map, hb, R.out_ok, h, Out.bind_nx, he, ev_retO, res_rt]
  rw [foldl_append, List.nil_append, plc_eq]
end DL
set_option maxRecDepth 100000
namespace DL
open PySem (Str)
/-! ### numbered sheets -/
theorem idx_inj {ns : List Int} {x : Int} (nd : ns.Nodup) (hx : x ∈ ns) {v : Nat} (hv : v < ns.length) : idx ns x = (v : Int) ↔ x = ns[v] := by
  unfold idx
  constructor
  · intro h
    have h2 : ns.idxOf x = v := by omega
    have hl := List.idxOf_lt_length_of_mem hx
    have e : ns[ns.idxOf x] = x := List.getElem_idxOf hl
    subst h2
    exact e.symm
  · intro h
    have hl := List.idxOf_lt_length_of_mem hx
    have e : ns[ns.idxOf x] = x := List.getElem_idxOf hl
    have := nodup_inj nd (e.trans h)
    omega
theorem idx_range {ns : List Int} {x : Int} (hx : x ∈ ns) : 0 ≤ idx ns x ∧ idx ns x < ns.length := by
  have hl := List.idxOf_lt_length_of_mem hx
  unfold idx
  omega
theorem count_idx {ns : List Int} (nd : ns.Nodup) : ∀ {xs : List Int}, (∀ x ∈ xs, x ∈ ns) → ∀ v : Int, (xs.map (idx ns)).count v = if h : 0 ≤ v ∧ v < ns.length then xs.count (ns[v.toNat]'(by omega)) else 0
  | [], _, v => by simp
  | x :: xs, hin, v => by
    have ih := count_idx nd (xs := xs) (fun y m => hin y (List.mem_cons_of_mem _ m)) v
    have hx := hin x List.mem_cons_self
    have hr := idx_range hx
    rw [List.map_cons, List.count_cons, ih]
    by_cases h : 0 ≤ v ∧ v < ns.length
    · rw [dif_pos h, dif_pos h, List.count_cons]
      have e := idx_inj nd hx (v := v.toNat) (by omega)
      rw [Int.toNat_of_nonneg h.1] at e
      congr 1
      by_cases q : idx ns x = v
      · rw [if_pos (by rw [beq_iff_eq]; exact q), if_pos (by rw [beq_iff_eq]; exact e.mp q)]
      · rw [if_neg (by rw [beq_iff_eq]; exact q), if_neg (by rw [beq_iff_eq]; exact fun z => q (e.mpr z))]
    · rw [dif_neg h, dif_neg h, if_neg (by rw [beq_iff_eq]; omega)]
theorem numb_flat (rs : List (List Int)) : (numb rs).flatten = rs.flatten.map (idx (names rs.flatten)) := by
  unfold numb
  rw [List.map_flatten]
theorem drawn_names {m : Nat} {rs : List (List Int)} (h : Drawn m rs) : (names rs.flatten).length = 2 * m := by
  have hp : (names rs.flatten).Perm ((List.range (2 * m)).map fun i : Nat => (i : Int)) := by
    rw [List.perm_iff_count]
    intro y
    rw [(names_nodup _).count]
    have nd2 : ((List.range (2 * m)).map fun i : Nat => (i : Int)).Nodup := by
      rw [List.nodup_iff_pairwise_ne, List.pairwise_map]
      exact (List.nodup_range (n := 2 * m)).imp fun {a b} h => by omega
    rw [nd2.count]
    have e : (y ∈ names rs.flatten) ↔ y ∈ ((List.range (2 * m)).map fun i : Nat => (i : Int)) := by
      rw [names_mem, ← List.count_pos_iff, h.two y, List.mem_map]
      constructor
      · intro q
        by_cases c : 0 ≤ y ∧ y < 2 * (m : Int)
        · exact ⟨y.toNat, List.mem_range.mpr (by omega), by omega⟩
        · rw [if_neg c] at q
          omega
      · rintro ⟨i, hi, rfl⟩
        have := List.mem_range.mp hi
        rw [if_pos (by omega)]
        omega
    by_cases q : y ∈ names rs.flatten
    · rw [if_pos q, if_pos (e.mp q)]
    · rw [if_neg q, if_neg fun z => q (e.mpr z)]
  rw [hp.length_eq, List.length_map, List.length_range]
theorem numb_drawn {m : Nat} {rs : List (List Int)} (h : Drawn m rs) : Drawn m (numb rs) := by
  refine ⟨?_, fun r hr => ?_, fun v => ?_⟩
  · unfold numb
    rw [List.length_map, h.len]
  · unfold numb at hr
    obtain ⟨r0, h0, rfl⟩ := List.mem_map.mp hr
    rw [List.length_map, h.four r0 h0]
  · rw [numb_flat, count_idx (names_nodup _) fun x hx => names_mem.mpr hx]
    have hl := drawn_names h
    by_cases c : 0 ≤ v ∧ v < 2 * (m : Int)
    · rw [dif_pos (by omega), if_pos c, h.two]
      have hm : (names rs.flatten)[v.toNat]'(by omega) ∈ rs.flatten := names_mem.mp (List.getElem_mem _)
      have := List.count_pos_iff.mpr hm
      rw [h.two] at this
      by_cases q : 0 ≤ (names rs.flatten)[v.toNat]'(by omega) ∧ (names rs.flatten)[v.toNat]'(by omega) < 2 * (m : Int)
      · rw [if_pos q]
      · rw [if_neg q] at this
        omega
    · rw [dif_neg (by omega), if_neg c]
theorem flat4 : ∀ {rs : List (List Int)}, (∀ r ∈ rs, r.length = 4) → rs.flatten.length = 4 * rs.length
  | [], _ => rfl
  | r :: rs, h => by
    rw [List.flatten_cons, List.length_append, h r List.mem_cons_self, flat4 fun x m => h x (List.mem_cons_of_mem _ m), List.length_cons]
    omega
theorem seq_row (r : List Int) : SeqD (encR r) (encI r) := .inr rfl
/-- the law's drawn sheet: what law_numbered(law_rows(..)) comes to -/
theorem sheet_ok {ns : List Int} {start : Int} {m : Nat} {fx : List (Int × Int)} (hs : 0 ≤ start) (hm : m ≤ 100) (hr : ∀ p ∈ fx, (0 ≤ p.1 ∧ p.1 < 4 * (m : Int)) ∧ 0 ≤ p.2 ∧ p.2 < 4 * (m : Int)) (hnd : (fx.flatMap fun p => [p.1, p.2]).Nodup) :
    ∃ rs rs0 : List (List Int), f_law_rows [.scr ns, .int start, .int m, .lst (fx.map encP)] = .ok (.ow (.lst (encRs rs0))) ∧ f_law_numbered [.lst (encRs rs0)] = .ok (.va (.tup (encRs rs))) ∧ Drawn m rs ∧ Drawn m rs0 ∧ rs = numb rs0 := by
  obtain ⟨rs0, h1, d⟩ := law_rows_ok (ns := ns) hs hm hr hnd
  have hf := flat4 d.four
  have h2 := law_numbered_ok (d := .lst (encRs rs0)) (rowD := encR) (rs := rs0) (.inl rfl) seq_row (by rw [hf, d.len]; omega) (by rw [d.len]; omega)
  exact ⟨numb rs0, rs0, h1, h2, numb_drawn d, d, rfl⟩
/-! ### ends -/
theorem ends_ok {m : Nat} {rs : List (List Int)} {rings line : Int} (h : Drawn m rs) (hm : m ≤ 100) (hl : 0 ≤ line ∧ line < 2 * (m : Int)) :
    ∃ p q, plc rs line = [p, q] ∧ f_ends [.tup [.tup (encRs rs), .int rings], .int line] = .ok (.va (.tup [encNP p, encNP q])) := by
  have hc := plc_len h.four line
  rw [h.two line, if_pos hl] at hc
  match e : plc rs line, hc with
  | [p, q], _ =>
    refine ⟨p, q, rfl, ?_⟩
    have hp := places_of_ok (line := line) h.four (by rw [h.len]; omega)
    rw [e] at hp
    unfold f_ends F_ends
    rw [fn_of]
    simp [hp]
theorem ends_no {m : Nat} {rs : List (List Int)} {rings line : Int} (h : Drawn m rs) (hm : m ≤ 100) (hl : ¬ (0 ≤ line ∧ line < 2 * (m : Int))) :
    f_ends [.tup [.tup (encRs rs), .int rings], .int line] = .xc 2 := by
  have hc := plc_len h.four line
  rw [h.two line, if_neg hl] at hc
  have hp := places_of_ok (line := line) h.four (by rw [h.len]; omega)
  rw [List.length_eq_zero_iff.mp hc] at hp
  unfold f_ends F_ends
  rw [fn_of]
  simp [hp]
end DL
set_option maxRecDepth 100000
namespace DL
open PySem (Str)
/-! ### counted, numbered -/
def cnt (xs : List Int) : List (Int × Fv) := (names xs).map fun x => (x, Fv.int (xs.count x : Nat))
def nbr (xs : List Int) : List (Int × Fv) := xs.zipIdx.map fun p => (p.1, Fv.int (p.2 : Nat))
theorem names_snoc (xs : List Int) (x : Int) : names (xs ++ [x]) = fstep (names xs) x := by
  unfold names
  rw [List.foldl_append]
  rfl
theorem find_key {β : Type} (f : Int → β) (k : Int) : ∀ ns : List Int, ((ns.map fun x => (x, f x)).find? fun p => p.1 == k).map (·.2) = if k ∈ ns then some (f k) else none
  | [] => rfl
  | n :: ns => by
    rw [List.map_cons, List.find?_cons]
    by_cases h : n = k
    · subst h
      simp
    · have h2 : ¬ (k = n) := fun e => h e.symm
      have h3 : (n == k) = false := by simpa using h
      rw [h3]
      simp only
      rw [find_key f k ns]
      simp [h2]
theorem getA_cnt (xs : List Int) (k : Int) : getA (cnt xs) k = if k ∈ xs then some (.int (xs.count k : Nat)) else none := by
  unfold getA cnt
  rw [find_key (fun x => Fv.int (xs.count x : Nat)) k]
  by_cases h : k ∈ xs
  · rw [if_pos (names_mem.mpr h), if_pos h]
  · rw [if_neg fun z => h (names_mem.mp z), if_neg h]
theorem any_key {β : Type} (f : Int → β) (k : Int) (ns : List Int) : ((ns.map fun x => (x, f x)).any fun p => p.1 == k) = decide (k ∈ ns) := by
  rw [List.any_map, Bool.eq_iff_iff, List.any_eq_true, decide_eq_true_eq]
  constructor
  · rintro ⟨x, hx, e⟩
    have e : x = k := by simpa using e
    exact e ▸ hx
  · intro h
    exact ⟨k, h, by simp⟩
theorem cnt_step (xs : List Int) (x : Int) : putA (cnt xs) x (.int (((xs.count x : Nat) : Int) + 1)) = cnt (xs ++ [x]) := by
  unfold putA
  have ea : (cnt xs).any (fun p => p.1 == x) = decide (x ∈ names xs) := any_key _ x _
  rw [ea]
  unfold cnt
  rw [names_snoc]
  unfold fstep
  by_cases h : x ∈ names xs
  · rw [if_pos (decide_eq_true h), if_pos h, List.map_map]
    apply List.map_congr_left
    intro y hy
    show (if (y == x) = true then (y, Fv.int (((xs.count x : Nat) : Int) + 1)) else (y, Fv.int ((xs.count y : Nat) : Int))) = _
    rw [List.count_append, List.count_singleton]
    by_cases q : y = x
    · subst q
      rw [if_pos (by simp)]
      simp
    · have q2 : ¬ (x = y) := fun e => q e.symm
      rw [if_neg (by simpa using q)]
      have : (x == y) = false := by simpa using q2
      rw [this]
      simp
  · rw [if_neg (by simpa using h), if_neg h, List.map_append]
    have hx : xs.count x = 0 := List.count_eq_zero.mpr fun z => h (names_mem.mpr z)
    congr 1
    · apply List.map_congr_left
      intro y hy
      have q2 : ¬ (x = y) := fun e => h (e ▸ hy)
      rw [List.count_append, List.count_singleton]
      have : (x == y) = false := by simpa using q2
      rw [this]
      simp
    · show [(x, _)] = [(x, _)]
      rw [List.count_append, hx]
      simp
theorem cnt_len (xs : List Int) : (cnt xs).length ≤ xs.length := by
  unfold cnt
  rw [List.length_map]
  exact names_len xs
theorem snoc_fold : ∀ (l s : List Int), l.foldl (fun s x => s ++ [x]) s = s ++ l
  | [], s => by simp
  | x :: l, s => by rw [List.foldl_cons, snoc_fold l, List.append_assoc]; rfl
theorem cat_fold : ∀ (l : List (List Int)) (s : List Int), l.foldl (fun s r => s ++ r) s = s ++ l.flatten
  | [], s => by simp
  | x :: l, s => by rw [List.foldl_cons, cat_fold l, List.flatten_cons, List.append_assoc]
theorem counted_ok {d : D} {rowD : List Int → D} {rs : List (List Int)} (hd : SeqD d (rs.map rowD)) (hrow : ∀ r, SeqD (rowD r) (encI r)) (hsz : rs.flatten.length ≤ 100000) :
    f_counted [d] = .ok (.ow (.dic (cnt rs.flatten))) := by
  unfold f_counted F_counted
  rw [fn_eq [.va d, .no, .no, .no] rfl]
  have L := forD_fold (j := 2) (b := B_counted_2) (enc := rowD) (fun (s : List Int) e => ∃ a b, e = [.va d, .ow (.dic (cnt s)), a, b]) (fun s r => s ++ r) rs [] [.va d, .ow (.dic []), .no, .no] ⟨_, _, rfl⟩
    (fun i r e hr ⟨a, b, he⟩ => by
      subst he
      have hlen := sublen hr
      rw [cat_fold, List.nil_append]
      generalize (rs.take i).flatten = s at *
      have L1 := forD_fold (j := 3) (b := B_counted_1) (enc := D.int) (fun (s : List Int) e => ∃ b, e = [.va d, .ow (.dic (cnt s)), .va (rowD r), b]) (fun s x => s ++ [x]) r s [.va d, .ow (.dic (cnt s)), .va (rowD r), b] ⟨_, rfl⟩
        (fun k x e hx ⟨b, he⟩ => by
          subst he
          obtain ⟨hk, _⟩ := List.getElem?_eq_some_iff.mp hx
          rw [snoc_fold]
          have hl2 : (s ++ r.take k).length ≤ 100000 := by rw [List.length_append, List.length_take]; omega
          generalize s ++ r.take k = t at *
          have hlim : (cnt t).length < 1000000 := by have := cnt_len t; omega
          have hg : dGet2 (cnt t) (.int x) (.int 0) = .ok (.va (.int (t.count x : Nat))) := by
            unfold dGet2
            simp only
            rw [getA_cnt]
            by_cases q : x ∈ t
            · rw [if_pos q]; rfl
            · rw [if_neg q, List.count_eq_zero.mpr q]; rfl
          have hlo : (Sl.va (D.int (t.count x : Nat))).loose = true := rfl
          have hfv : (D.int (((t.count x : Nat) : Int) + 1)).fv? = some (.int (((t.count x : Nat) : Int) + 1)) := rfl
          unfold B_counted_1
          simp only [ev_seq, ev_set, ev_op1, ev_op2, ev_call, ev_cons, ev_nil, ev_c, ev_var, ev_tup, ev_lst, ev_cb, ev_fz, ev_lend, ev_and, ev_or, ev_not, ev_chain, ev_if, ev_bm, ev_get2, ev_ixO, ev_sl, ev_some, ev_none, ev_tval, ev_tand, ev_tor, ev_tnot, ev_irange1, ev_irange2, ev_sif, ev_next, ev_ret, ev_retO, ev_raise, ev_app, ev_put, ev_dput, ev_for, ev_while, ev_pub, pub_cons, pub_nil, ev_drop, ev_dnew, res_nx, res_rt, res_xc, R.bind_ok, R.bind_xc, R.out_ok, R.out_xc, Out.bind_nx, Out.bind_rt, Out.bind_xc, Sl.d_va, Sl.d_ow, Sl.frz_va, Sl.frz_ow, Sl.frz_no, List.getElem?_cons_succ, List.getElem?_cons_zero, List.set_cons_succ, List.set_cons_zero, List.length_cons, List.length_nil, List.map_cons, List.map_nil, lim_val, Nat.zero_le, Nat.reduceAdd, Nat.reduceLeDiff, Nat.reduceEqDiff, reduceIte, Nat.zero_add, if_true, if_false, Bool.false_eq_true, Bool.not_true, Bool.not_false, decide_true, decide_false, o_add, o_sub, o_neg, o_lt, o_le, o_gt, o_ge, o_eq, o_ne, o_isN, o_notN, isNon_non, isNon_int, isNon_tup, isNon_lst, o_idxL, o_idxT, o_lenL, o_lenT, o_lenS, o_listL, o_listT, o_tupleL, o_tupleT, o_int, o_intb, o_max2, o_min2, o_slL, o_slT, atD_0, atD_1, atD_2, atD_3, atD_4, atD_5, range_4, range_3, range_2, hg, hlo, hfv, hlim, cnt_step]
          exact ⟨_, rfl, _, rfl⟩)
      obtain ⟨e1, h1, b1, he1⟩ := L1
      rw [snoc_fold] at he1
      refine ⟨e1, ?_, .va (rowD r), b1, he1⟩
      unfold B_counted_2
      rw [ev_for, iseq_ok (d := rowD r) (ds := encI r) rfl (hrow r), R.out_ok]
      exact h1)
  obtain ⟨e, h, a, b, he⟩ := L
  rw [cat_fold, List.nil_append] at he
  have hit : iSeq (eVar 0) [.va d, .ow (.dic []), .no, .no] = .ok (rs.map rowD) := iseq_ok (d := d) rfl hd
  rw [ev_seq]
  have t1 : sSet 1 eDNew [.va d, .no, .no, .no] = .nx [.va d, .ow (.dic []), .no, .no] := by simp only [ev_seq, ev_set, ev_op1, ev_op2, ev_call, ev_cons, ev_nil, ev_c, ev_var, ev_tup, ev_lst, ev_cb, ev_fz, ev_lend, ev_and, ev_or, ev_not, ev_chain, ev_if, ev_bm, ev_get2, ev_ixO, ev_sl, ev_some, ev_none, ev_tval, ev_tand, ev_tor, ev_tnot, ev_irange1, ev_irange2, ev_sif, ev_next, ev_ret, ev_retO, ev_raise, ev_app, ev_put, ev_dput, ev_for, ev_while, ev_pub, pub_cons, pub_nil, ev_drop, ev_dnew, res_nx, res_rt, res_xc, R.bind_ok, R.bind_xc, R.out_ok, R.out_xc, Out.bind_nx, Out.bind_rt, Out.bind_xc, Sl.d_va, Sl.d_ow, Sl.frz_va, Sl.frz_ow, Sl.frz_no, List.getElem?_cons_succ, List.getElem?_cons_zero, List.set_cons_succ, List.set_cons_zero, List.length_cons, List.length_nil, List.map_cons, List.map_nil, lim_val, Nat.zero_le, Nat.reduceAdd, Nat.reduceLeDiff, Nat.reduceEqDiff, reduceIte, Nat.zero_add, if_true, if_false, Bool.false_eq_true, Bool.not_true, Bool.not_false, decide_true, decide_false, o_add, o_sub, o_neg, o_lt, o_le, o_gt, o_ge, o_eq, o_ne, o_isN, o_notN, isNon_non, isNon_int, isNon_tup, isNon_lst, o_idxL, o_idxT, o_lenL, o_lenT, o_lenS, o_listL, o_listT, o_tupleL, o_tupleT, o_int, o_intb, o_max2, o_min2, o_slL, o_slT, atD_0, atD_1, atD_2, atD_3, atD_4, atD_5, range_4, range_3, range_2]
  rw [t1, Out.bind_nx, ev_seq, ev_for, hit, R.out_ok, h, Out.bind_nx, he]
  simp only [ev_seq, ev_set, ev_op1, ev_op2, ev_call, ev_cons, ev_nil, ev_c, ev_var, ev_tup, ev_lst, ev_cb, ev_fz, ev_lend, ev_and, ev_or, ev_not, ev_chain, ev_if, ev_bm, ev_get2, ev_ixO, ev_sl, ev_some, ev_none, ev_tval, ev_tand, ev_tor, ev_tnot, ev_irange1, ev_irange2, ev_sif, ev_next, ev_ret, ev_retO, ev_raise, ev_app, ev_put, ev_dput, ev_for, ev_while, ev_pub, pub_cons, pub_nil, ev_drop, ev_dnew, res_nx, res_rt, res_xc, R.bind_ok, R.bind_xc, R.out_ok, R.out_xc, Out.bind_nx, Out.bind_rt, Out.bind_xc, Sl.d_va, Sl.d_ow, Sl.frz_va, Sl.frz_ow, Sl.frz_no, List.getElem?_cons_succ, List.getElem?_cons_zero, List.set_cons_succ, List.set_cons_zero, List.length_cons, List.length_nil, List.map_cons, List.map_nil, lim_val, Nat.zero_le, Nat.reduceAdd, Nat.reduceLeDiff, Nat.reduceEqDiff, reduceIte, Nat.zero_add, if_true, if_false, Bool.false_eq_true, Bool.not_true, Bool.not_false, decide_true, decide_false, o_add, o_sub, o_neg, o_lt, o_le, o_gt, o_ge, o_eq, o_ne, o_isN, o_notN, isNon_non, isNon_int, isNon_tup, isNon_lst, o_idxL, o_idxT, o_lenL, o_lenT, o_lenS, o_listL, o_listT, o_tupleL, o_tupleT, o_int, o_intb, o_max2, o_min2, o_slL, o_slT, atD_0, atD_1, atD_2, atD_3, atD_4, atD_5, range_4, range_3, range_2]
theorem nbr_keys (xs : List Int) (k : Int) : (nbr xs).any (fun p => p.1 == k) = decide (k ∈ xs) := by
  unfold nbr
  rw [List.any_map, Bool.eq_iff_iff, List.any_eq_true, decide_eq_true_eq]
  constructor
  · rintro ⟨⟨x, i⟩, hx, e⟩
    have e : x = k := by simpa using e
    have := List.mem_zipIdx hx
    subst e
    have h2 := this.2.2
    rw [h2]
    exact List.getElem_mem _
  · intro h
    obtain ⟨i, hi, e⟩ := List.mem_iff_getElem.mp h
    refine ⟨(k, i), ?_, by simp⟩
    rw [List.mem_zipIdx_iff_getElem?]
    rw [← e]
    simp [hi]
theorem nbr_snoc (xs : List Int) (x : Int) (h : x ∉ xs) : putA (nbr xs) x (.int (xs.length : Nat)) = nbr (xs ++ [x]) := by
  unfold putA
  rw [nbr_keys, if_neg (by simpa using h)]
  unfold nbr
  rw [List.zipIdx_append, List.map_append]
  simp
theorem getA_nbr : ∀ (xs : List Int) (k : Int) (n : Nat), k ∈ xs → ((xs.zipIdx n).map fun p => (p.1, Fv.int (p.2 : Nat))).find? (fun p => p.1 == k) = some (k, .int ((xs.idxOf k + n : Nat) : Int))
  | x :: xs, k, n, h => by
    rw [List.zipIdx_cons, List.map_cons, List.find?_cons]
    by_cases q : x = k
    · subst q
      simp
    · have q2 : ¬ (k = x) := fun e => q e.symm
      have q3 : (x == k) = false := by simpa using q
      rw [q3]
      simp only
      have hk : k ∈ xs := by
        rcases List.mem_cons.mp h with z | z
        · exact absurd z q2
        · exact z
      rw [getA_nbr xs k (n + 1) hk, List.idxOf_cons, q3]
      simp
      omega
theorem numbered_ok {d : D} {rowD : List Int → D} {rs : List (List Int)} (hd : SeqD d (rs.map rowD)) (hrow : ∀ r, SeqD (rowD r) (encI r)) (hsz : rs.flatten.length ≤ 100000) (hsz2 : rs.length ≤ 100000) :
    f_numbered [d] = .ok (.va (.tup (encRs (numb rs)))) := by
  unfold f_numbered F_numbered
  rw [fn_eq [.va d, .no, .no, .no, .no] rfl]
  have hc := counted_ok hd hrow hsz
  have hkeys : (cnt rs.flatten).map (fun p => D.int p.1) = (names rs.flatten).map D.int := by
    unfold cnt
    rw [List.map_map]
    rfl
  have hnl : (names rs.flatten).length ≤ 100000 := Nat.le_trans (names_len _) hsz
  -- numbers
  have L := forD_fold (j := 2) (b := B_numbered_1) (enc := D.int) (fun (s : List Int) e => ∃ a, e = [.va d, .ow (.dic (nbr s)), a, .no, .no]) (fun s x => s ++ [x]) (names rs.flatten) [] [.va d, .ow (.dic []), .no, .no, .no] ⟨_, rfl⟩
    (fun i x e hx ⟨a, he⟩ => by
      subst he
      obtain ⟨hi, hv⟩ := List.getElem?_eq_some_iff.mp hx
      rw [snoc_fold, List.nil_append]
      have hnin : x ∉ (names rs.flatten).take i := fun hm => by
        obtain ⟨j, hj, e⟩ := List.mem_iff_getElem.mp hm
        rw [List.length_take] at hj
        rw [List.getElem_take] at e
        have := nodup_inj (names_nodup _) (e.trans hv.symm)
        omega
      have hl : ((names rs.flatten).take i).length ≤ 100000 := by rw [List.length_take]; omega
      generalize (names rs.flatten).take i = t at *
      have hnb : (nbr t).length = t.length := by unfold nbr; rw [List.length_map, List.length_zipIdx]
      have hlim : (nbr t).length < 1000000 := by omega
      have hlen : bLenD [.dic (nbr t)] = .ok (.va (.int (t.length : Nat))) := by rw [o_lenD, hnb]
      have hlo : (Sl.va (D.int (t.length : Nat))).loose = true := rfl
      have hfv : (D.int (t.length : Nat)).fv? = some (.int (t.length : Nat)) := rfl
      unfold B_numbered_1
      simp only [ev_seq, ev_set, ev_op1, ev_op2, ev_call, ev_cons, ev_nil, ev_c, ev_var, ev_tup, ev_lst, ev_cb, ev_fz, ev_lend, ev_and, ev_or, ev_not, ev_chain, ev_if, ev_bm, ev_get2, ev_ixO, ev_sl, ev_some, ev_none, ev_tval, ev_tand, ev_tor, ev_tnot, ev_irange1, ev_irange2, ev_sif, ev_next, ev_ret, ev_retO, ev_raise, ev_app, ev_put, ev_dput, ev_for, ev_while, ev_pub, pub_cons, pub_nil, ev_drop, ev_dnew, res_nx, res_rt, res_xc, R.bind_ok, R.bind_xc, R.out_ok, R.out_xc, Out.bind_nx, Out.bind_rt, Out.bind_xc, Sl.d_va, Sl.d_ow, Sl.frz_va, Sl.frz_ow, Sl.frz_no, List.getElem?_cons_succ, List.getElem?_cons_zero, List.set_cons_succ, List.set_cons_zero, List.length_cons, List.length_nil, List.map_cons, List.map_nil, lim_val, Nat.zero_le, Nat.reduceAdd, Nat.reduceLeDiff, Nat.reduceEqDiff, reduceIte, Nat.zero_add, if_true, if_false, Bool.false_eq_true, Bool.not_true, Bool.not_false, decide_true, decide_false, o_add, o_sub, o_neg, o_lt, o_le, o_gt, o_ge, o_eq, o_ne, o_isN, o_notN, isNon_non, isNon_int, isNon_tup, isNon_lst, o_idxL, o_idxT, o_lenL, o_lenT, o_lenS, o_listL, o_listT, o_tupleL, o_tupleT, o_int, o_intb, o_max2, o_min2, o_slL, o_slT, atD_0, atD_1, atD_2, atD_3, atD_4, atD_5, range_4, range_3, range_2, hlen, hlo, hfv, hlim, nbr_snoc t x hnin]
      exact ⟨_, rfl, _, rfl⟩)
  obtain ⟨e, h, a, he⟩ := L
  rw [snoc_fold, List.nil_append] at he
  have hget : ∀ x ∈ rs.flatten, dGetK (.dic (nbr (names rs.flatten))) (.int x) = .ok (.va (.int (idx (names rs.flatten) x))) := fun x hx => by
    have := getA_nbr (names rs.flatten) x 0 (names_mem.mpr hx)
    unfold dGetK getA nbr
    simp only
    rw [this]
    rfl
  -- the rows
  generalize hns : names rs.flatten = ns at *
  have L2 := forD_fold (j := 4) (b := B_numbered_2) (enc := rowD) (fun (s : List (List Int)) e => ∃ x y z, (x = .ow (.dic (nbr ns)) ∨ x = .va (.dic (nbr ns))) ∧ e = [.va d, x, y, .ow (.lst (encRs s)), z]) (fun s r => s ++ [r.map (idx ns)]) rs [] [.va d, .ow (.dic (nbr ns)), a, .ow (.lst []), .no] ⟨_, _, _, .inl rfl, rfl⟩
    (fun i r e hr ⟨x, y, z, hx, he⟩ => by
      subst he
      obtain ⟨hi, hv⟩ := List.getElem?_eq_some_iff.mp hr
      have hs : ∀ (l : List (List Int)) (s0 : List (List Int)), (l.foldl (fun s r => s ++ [r.map (idx ns)]) s0).length = s0.length + l.length := by
        intro l
        induction l with
        | nil => intro s0; rfl
        | cons a l ih => intro s0; rw [List.foldl_cons, ih]; simp only [List.length_append, List.length_cons, List.length_nil]; omega
      have hs2 := hs (rs.take i) []
      generalize (rs.take i).foldl (fun s r => s ++ [r.map (idx ns)]) [] = s at *
      have hlim : (encRs s).length < 1000000 := by
        rw [List.length_map, hs2, List.length_take]
        simp
        omega
      have hr2 : r ∈ rs := List.mem_of_getElem? hr
      have hfl : r.length ≤ 100000 := by
        have := sublen hr
        omega
      have hpub : pubE [1] ([Sl.va d, x, y, .ow (.lst (encRs s)), z].set 4 (.va (rowD r))) = [.va d, .va (.dic (nbr ns)), y, .ow (.lst (encRs s)), .va (rowD r)] := by
        rcases hx with rfl | rfl <;> rfl
      have hc := lc_map (j := 2) (el := eOp2 dGetK (eVar 1) (eVar 2)) (e := [.va d, .va (.dic (nbr ns)), .no, .ow (.lst (encRs s)), .va (rowD r)]) (enc := D.int) (g := fun x => Sl.va (.int (idx ns x))) r
        (fun x hx => by
          have := hget x (List.mem_flatten.mpr ⟨r, hr2, hx⟩)
          simp only [ev_seq, ev_set, ev_op1, ev_op2, ev_call, ev_cons, ev_nil, ev_c, ev_var, ev_tup, ev_lst, ev_cb, ev_fz, ev_lend, ev_and, ev_or, ev_not, ev_chain, ev_if, ev_bm, ev_get2, ev_ixO, ev_sl, ev_some, ev_none, ev_tval, ev_tand, ev_tor, ev_tnot, ev_irange1, ev_irange2, ev_sif, ev_next, ev_ret, ev_retO, ev_raise, ev_app, ev_put, ev_dput, ev_for, ev_while, ev_pub, pub_cons, pub_nil, ev_drop, ev_dnew, res_nx, res_rt, res_xc, R.bind_ok, R.bind_xc, R.out_ok, R.out_xc, Out.bind_nx, Out.bind_rt, Out.bind_xc, Sl.d_va, Sl.d_ow, Sl.frz_va, Sl.frz_ow, Sl.frz_no, List.getElem?_cons_succ, List.getElem?_cons_zero, List.set_cons_succ, List.set_cons_zero, List.length_cons, List.length_nil, List.map_cons, List.map_nil, lim_val, Nat.zero_le, Nat.reduceAdd, Nat.reduceLeDiff, Nat.reduceEqDiff, reduceIte, Nat.zero_add, if_true, if_false, Bool.false_eq_true, Bool.not_true, Bool.not_false, decide_true, decide_false, o_add, o_sub, o_neg, o_lt, o_le, o_gt, o_ge, o_eq, o_ne, o_isN, o_notN, isNon_non, isNon_int, isNon_tup, isNon_lst, o_idxL, o_idxT, o_lenL, o_lenT, o_lenS, o_listL, o_listT, o_tupleL, o_tupleT, o_int, o_intb, o_max2, o_min2, o_slL, o_slT, atD_0, atD_1, atD_2, atD_3, atD_4, atD_5, range_4, range_3, range_2, this])
      have hlc : eLc (iSeq (eVar 4)) 2 tYes (eOp2 dGetK (eVar 1) (eVar 2)) [2] [.va d, .va (.dic (nbr ns)), y, .ow (.lst (encRs s)), .va (rowD r)] = .ok (.ow (.lst (encI (r.map (idx ns))))) := by
        have := lc_ok (it := iSeq (eVar 4)) (j := 2) (c := tYes) (el := eOp2 dGetK (eVar 1) (eVar 2)) (own := [2]) (e := [.va d, .va (.dic (nbr ns)), y, .ow (.lst (encRs s)), .va (rowD r)]) (iseq_ok (d := rowD r) rfl (hrow r)) (by rw [List.length_map]; omega) hc
        rw [this, show encI (r.map (idx ns)) = r.map (fun x => D.int (idx ns x)) from List.map_map]
        rfl
      unfold B_numbered_2
      rw [ev_pub, hpub]
      simp only [ev_seq, ev_set, ev_op1, ev_op2, ev_call, ev_cons, ev_nil, ev_c, ev_var, ev_tup, ev_lst, ev_cb, ev_fz, ev_lend, ev_and, ev_or, ev_not, ev_chain, ev_if, ev_bm, ev_get2, ev_ixO, ev_sl, ev_some, ev_none, ev_tval, ev_tand, ev_tor, ev_tnot, ev_irange1, ev_irange2, ev_sif, ev_next, ev_ret, ev_retO, ev_raise, ev_app, ev_put, ev_dput, ev_for, ev_while, ev_pub, pub_cons, pub_nil, ev_drop, ev_dnew, res_nx, res_rt, res_xc, R.bind_ok, R.bind_xc, R.out_ok, R.out_xc, Out.bind_nx, Out.bind_rt, Out.bind_xc, Sl.d_va, Sl.d_ow, Sl.frz_va, Sl.frz_ow, Sl.frz_no, List.getElem?_cons_succ, List.getElem?_cons_zero, List.set_cons_succ, List.set_cons_zero, List.length_cons, List.length_nil, List.map_cons, List.map_nil, lim_val, Nat.zero_le, Nat.reduceAdd, Nat.reduceLeDiff, Nat.reduceEqDiff, reduceIte, Nat.zero_add, if_true, if_false, Bool.false_eq_true, Bool.not_true, Bool.not_false, decide_true, decide_false, o_add, o_sub, o_neg, o_lt, o_le, o_gt, o_ge, o_eq, o_ne, o_isN, o_notN, isNon_non, isNon_int, isNon_tup, isNon_lst, o_idxL, o_idxT, o_lenL, o_lenT, o_lenS, o_listL, o_listT, o_tupleL, o_tupleT, o_int, o_intb, o_max2, o_min2, o_slL, o_slT, atD_0, atD_1, atD_2, atD_3, atD_4, atD_5, range_4, range_3, range_2, hlc, hlim]
      exact ⟨_, rfl, _, _, _, .inr rfl, by rw [show encRs (s ++ [r.map (idx ns)]) = encRs s ++ [encR (r.map (idx ns))] from List.map_append]⟩)
  obtain ⟨e2, h2, x2, y2, z2, _, he2⟩ := L2
  have hf : ∀ (l s0 : List (List Int)), l.foldl (fun s r => s ++ [r.map (idx ns)]) s0 = s0 ++ l.map fun r => r.map (idx ns) := by
    intro l
    induction l with
    | nil => intro s0; simp
    | cons a l ih => intro s0; rw [List.foldl_cons, ih, List.map_cons, List.append_assoc]; rfl
  rw [hf, List.nil_append] at he2
  have hit : iSeq (eVar 0) [.va d, .ow (.dic (nbr ns)), a, .ow (.lst []), .no] = .ok (rs.map rowD) := iseq_ok (d := d) rfl hd
  simp only [ev_seq, ev_set, ev_op1, ev_op2, ev_call, ev_cons, ev_nil, ev_c, ev_var, ev_tup, ev_lst, ev_cb, ev_fz, ev_lend, ev_and, ev_or, ev_not, ev_chain, ev_if, ev_bm, ev_get2, ev_ixO, ev_sl, ev_some, ev_none, ev_tval, ev_tand, ev_tor, ev_tnot, ev_irange1, ev_irange2, ev_sif, ev_next, ev_ret, ev_retO, ev_raise, ev_app, ev_put, ev_dput, ev_for, ev_while, ev_pub, pub_cons, pub_nil, ev_drop, ev_dnew, res_nx, res_rt, res_xc, R.bind_ok, R.bind_xc, R.out_ok, R.out_xc, Out.bind_nx, Out.bind_rt, Out.bind_xc, Sl.d_va, Sl.d_ow, Sl.frz_va, Sl.frz_ow, Sl.frz_no, List.getElem?_cons_succ, List.getElem?_cons_zero, List.set_cons_succ, List.set_cons_zero, List.length_cons, List.length_nil, List.map_cons, List.map_nil, lim_val, Nat.zero_le, Nat.reduceAdd, Nat.reduceLeDiff, Nat.reduceEqDiff, reduceIte, Nat.zero_add, if_true, if_false, Bool.false_eq_true, Bool.not_true, Bool.not_false, decide_true, decide_false, o_add, o_sub, o_neg, o_lt, o_le, o_gt, o_ge, o_eq, o_ne, o_isN, o_notN, isNon_non, isNon_int, isNon_tup, isNon_lst, o_idxL, o_idxT, o_lenL, o_lenT, o_lenS, o_listL, o_listT, o_tupleL, o_tupleT, o_int, o_intb, o_max2, o_min2, o_slL, o_slT, atD_0, atD_1, atD_2, atD_3, atD_4, atD_5, range_4, range_3, range_2, ev_ikeys, hc, hkeys, h, he, hit, h2, he2]
  unfold numb
  rw [hns]
end DL
set_option maxRecDepth 100000
namespace DL
open PySem (Str)
/-! ### comprehensions and appends at once -/
theorem lcm {α : Type} {it : FI} {j : Nat} {el : FE} {own : List Nat} {e : Env} {enc : α → D} (g : α → D) (xs : List α) (hit : it e = .ok (xs.map enc)) (hl : xs.length ≤ 1000000) (h : ∀ x ∈ xs, el ((wipeE e own).set j (.va (enc x))) = .ok (.va (g x))) :
    eLc it j tYes el own e = .ok (.ow (.lst (xs.map g))) := by
  have := lc_map (j := j) (el := el) (e := wipeE e own) (enc := enc) (g := fun x => Sl.va (g x)) xs h
  exact lc_ok hit (by rw [List.length_map]; exact hl) this
theorem lcf {α : Type} {it : FI} {j : Nat} {c : FT} {el : FE} {own : List Nat} {e : Env} {enc : α → D} (p : α → Bool) (g : α → D) (xs : List α) (hit : it e = .ok (xs.map enc)) (hl : xs.length ≤ 1000000) (hc : ∀ x ∈ xs, c ((wipeE e own).set j (.va (enc x))) = .ok (p x))
    (h : ∀ x ∈ xs, p x = true → el ((wipeE e own).set j (.va (enc x))) = .ok (.va (g x))) : eLc it j c el own e = .ok (.ow (.lst ((xs.filter p).map g))) := by
  have := lc_filter (j := j) (c := c) (el := el) (e := wipeE e own) (enc := enc) (p := p) (g := fun x => Sl.va (g x)) xs hc h
  exact lc_ok hit (by rw [List.length_map]; exact hl) this
theorem forD_app {α : Type} {j i : Nat} {el : FE} {enc : α → D} (g : α → D) (E : List D → Sl → Env) (h1 : ∀ s y x, (E s y).set j x = E s x) (h2 : ∀ s x, (E s x)[i]? = some (.ow (.lst s))) (h3 : ∀ s x t, (E s x).set i (.ow (.lst t)) = E t x) :
    ∀ (xs : List α) (s0 : List D) (y : Sl), (∀ x ∈ xs, ∀ s, el (E s (.va (enc x))) = .ok (.va (g x))) → s0.length + xs.length ≤ 1000000 → ∃ y', forD j (sApp i el) (xs.map enc) (E s0 y) = .nx (E (s0 ++ xs.map g) y')
  | [], s0, y, _, _ => ⟨y, by rw [List.map_nil, List.map_nil, List.append_nil]; rfl⟩
  | x :: xs, s0, y, hel, hl => by
    rw [List.length_cons] at hl
    obtain ⟨y', h⟩ := forD_app (j := j) (i := i) (el := el) (enc := enc) g E h1 h2 h3 xs (s0 ++ [g x]) (.va (enc x)) (fun z m => hel z (List.mem_cons_of_mem _ m)) (by rw [List.length_append]; simp; omega)
    refine ⟨y', ?_⟩
    have hstep : sApp i el ((E s0 y).set j (.va (enc x))) = .nx (E (s0 ++ [g x]) (.va (enc x))) := by
      rw [h1, ev_app, h2]
      simp only
      rw [hel x List.mem_cons_self, R.out_ok, Sl.d_va, if_pos (by rw [lim_val]; omega), h3]
    show (sApp i el ((E s0 y).set j (.va (enc x)))).bind _ = _
    rw [hstep, Out.bind_nx, h, List.append_assoc]
    rfl
/-! ### law_same -/
abbrev encS (rs : List (List Int)) (rings : Int) : D := .tup [.tup (encRs rs), .int rings]
theorem four_of {r : List Int} (h : r.length = 4) : ∃ a b c d, r = [a, b, c, d] := by
  match r, h with
  | [a, b, c, d], _ => exact ⟨a, b, c, d, rfl⟩
theorem row_at_k {rs : List (List Int)} {k : Nat} (hk : k < rs.length) : atD (encRs rs) (k : Int) = some (encR rs[k]) := by
  rw [atD_nat, List.getElem?_map, List.getElem?_eq_getElem hk]
  rfl
theorem same_ok {rs : List (List Int)} {rings : Int} (h4 : ∀ r ∈ rs, r.length = 4) (hl : rs.length ≤ 1000) : f_law_same [encS rs rings, encS rs rings] = .ok (.va (.bl true)) := by
  unfold f_law_same F_law_same
  rw [fn_eq [.va (encS rs rings), .va (encS rs rings), .no, .no, .no] rfl]
  have L := forD_ix (j := 2) (b := B_law_same_2) (enc := fun k : Nat => D.int (k : Int)) (List.range rs.length) (fun _ e => ∃ a b c, e = [.va (encS rs rings), .va (encS rs rings), a, b, c]) [.va (encS rs rings), .va (encS rs rings), .no, .no, .no] ⟨_, _, _, rfl⟩
    (fun i k e hk ⟨a, b, c, he⟩ => by
      subst he
      obtain ⟨hi, hv⟩ := List.getElem?_eq_some_iff.mp hk
      rw [List.getElem_range] at hv
      rw [List.length_range] at hi
      subst hv
      have hr := row_at_k hi
      obtain ⟨x, y, z, w, e4⟩ := four_of (h4 _ (List.getElem_mem hi))
      rw [e4] at hr
      have l0 : ([] : List Sl).length = 0 := rfl
      unfold B_law_same_2 B_law_same_1
      have n4 : dNe (.int (((0 + 1 + 1 + 1 + 1 : Nat)) : Int)) (.int 4) = .ok (.va (.bl false)) := rfl
      have n4' : dNe (.int ((4 : Nat) : Int)) (.int 4) = .ok (.va (.bl false)) := rfl
      simp only [ev_seq, ev_set, ev_op1, ev_op2, ev_call, ev_cons, ev_nil, ev_c, ev_var, ev_tup, ev_lst, ev_cb, ev_fz, ev_lend, ev_and, ev_or, ev_not, ev_chain, ev_if, ev_bm, ev_get2, ev_ixO, ev_sl, ev_some, ev_none, ev_tval, ev_tand, ev_tor, ev_tnot, ev_irange1, ev_irange2, ev_sif, ev_next, ev_ret, ev_retO, ev_raise, ev_app, ev_put, ev_dput, ev_for, ev_while, ev_pub, pub_cons, pub_nil, ev_drop, ev_dnew, res_nx, res_rt, res_xc, R.bind_ok, R.bind_xc, R.out_ok, R.out_xc, Out.bind_nx, Out.bind_rt, Out.bind_xc, Sl.d_va, Sl.d_ow, Sl.frz_va, Sl.frz_ow, Sl.frz_no, List.getElem?_cons_succ, List.getElem?_cons_zero, List.set_cons_succ, List.set_cons_zero, List.length_cons, List.length_nil, List.map_cons, List.map_nil, lim_val, Nat.zero_le, Nat.reduceAdd, Nat.reduceLeDiff, Nat.reduceEqDiff, reduceIte, Nat.zero_add, if_true, if_false, Bool.false_eq_true, Bool.not_true, Bool.not_false, decide_true, decide_false, o_add, o_sub, o_neg, o_lt, o_le, o_gt, o_ge, o_eq, o_ne, o_isN, o_notN, isNon_non, isNon_int, isNon_tup, isNon_lst, o_idxL, o_idxT, o_lenL, o_lenT, o_lenS, o_listL, o_listT, o_tupleL, o_tupleT, o_int, o_intb, o_max2, o_min2, o_slL, o_slT, atD_0, atD_1, atD_2, atD_3, atD_4, atD_5, range_4, range_3, range_2, hr, isi_tup, forD, whole_ok, n4, n4', Int.reduceEq, Int.cast_ofNat_Int]
      exact ⟨_, rfl, _, _, _, rfl⟩)
  obtain ⟨e, h, a, b, c, he⟩ := L
  rw [← rng_eq] at h
  have hrg := range_nat (n := rs.length) (by omega)
  have n2 : dNe (.int (((0 + 1 + 1 : Nat)) : Int)) (.int 2) = .ok (.va (.bl false)) := rfl
  have n2' : dNe (.int ((2 : Nat) : Int)) (.int 2) = .ok (.va (.bl false)) := rfl
  simp only [ev_seq, ev_set, ev_op1, ev_op2, ev_call, ev_cons, ev_nil, ev_c, ev_var, ev_tup, ev_lst, ev_cb, ev_fz, ev_lend, ev_and, ev_or, ev_not, ev_chain, ev_if, ev_bm, ev_get2, ev_ixO, ev_sl, ev_some, ev_none, ev_tval, ev_tand, ev_tor, ev_tnot, ev_irange1, ev_irange2, ev_sif, ev_next, ev_ret, ev_retO, ev_raise, ev_app, ev_put, ev_dput, ev_for, ev_while, ev_pub, pub_cons, pub_nil, ev_drop, ev_dnew, res_nx, res_rt, res_xc, R.bind_ok, R.bind_xc, R.out_ok, R.out_xc, Out.bind_nx, Out.bind_rt, Out.bind_xc, Sl.d_va, Sl.d_ow, Sl.frz_va, Sl.frz_ow, Sl.frz_no, List.getElem?_cons_succ, List.getElem?_cons_zero, List.set_cons_succ, List.set_cons_zero, List.length_cons, List.length_nil, List.map_cons, List.map_nil, lim_val, Nat.zero_le, Nat.reduceAdd, Nat.reduceLeDiff, Nat.reduceEqDiff, reduceIte, Nat.zero_add, if_true, if_false, Bool.false_eq_true, Bool.not_true, Bool.not_false, decide_true, decide_false, o_add, o_sub, o_neg, o_lt, o_le, o_gt, o_ge, o_eq, o_ne, o_isN, o_notN, isNon_non, isNon_int, isNon_tup, isNon_lst, o_idxL, o_idxT, o_lenL, o_lenT, o_lenS, o_listL, o_listT, o_tupleL, o_tupleT, o_int, o_intb, o_max2, o_min2, o_slL, o_slT, atD_0, atD_1, atD_2, atD_3, atD_4, atD_5, range_4, range_3, range_2, isi_tup, whole_ok, List.length_map, hrg, h, he, n2, n2', Int.reduceEq, Int.cast_ofNat_Int]
end DL
set_option maxRecDepth 100000
namespace DL
open PySem (Str)
theorem numb_four {rs : List (List Int)} (h : ∀ r ∈ rs, r.length = 4) : ∀ r ∈ numb rs, r.length = 4 := fun r hr => by
  unfold numb at hr
  obtain ⟨r0, h0, rfl⟩ := List.mem_map.mp hr
  rw [List.length_map]
  exact h r0 h0
theorem numb_length (rs : List (List Int)) : (numb rs).length = rs.length := by
  unfold numb
  rw [List.length_map]
theorem flat_le4 {rs : List (List Int)} (h4 : ∀ r ∈ rs, r.length = 4) (hl : rs.length ≤ 1000) : rs.flatten.length ≤ 100000 := by
  rw [flat4 h4]
  omega
/-- both numberings of a list of rows -/
theorem numbered_l {rs : List (List Int)} (h4 : ∀ r ∈ rs, r.length = 4) (hl : rs.length ≤ 1000) : f_numbered [.lst (encRs rs)] = .ok (.va (.tup (encRs (numb rs)))) := numbered_ok (rowD := encR) (.inl rfl) seq_row (flat_le4 h4 hl) (by omega)
theorem law_numbered_l {rs : List (List Int)} (h4 : ∀ r ∈ rs, r.length = 4) (hl : rs.length ≤ 1000) : f_law_numbered [.lst (encRs rs)] = .ok (.va (.tup (encRs (numb rs)))) := law_numbered_ok (rowD := encR) (.inl rfl) seq_row (flat_le4 h4 hl) (by omega)
theorem same_numb {rs : List (List Int)} {rings : Int} (h4 : ∀ r ∈ rs, r.length = 4) (hl : rs.length ≤ 1000) : f_law_same [encS (numb rs) rings, encS (numb rs) rings] = .ok (.va (.bl true)) := same_ok (numb_four h4) (by rw [numb_length]; exact hl)
/-! ### a line put at a place -/
def putAt (rs : List (List Int)) (p : Nat × Nat) (v : Int) : List (List Int) := rs.set p.1 ((rs.getD p.1 []).set p.2 v)
theorem putAt_len (rs : List (List Int)) (p : Nat × Nat) (v : Int) : (putAt rs p v).length = rs.length := by
  unfold putAt
  rw [List.length_set]
theorem putAt_four {rs : List (List Int)} {p : Nat × Nat} {v : Int} (h4 : ∀ r ∈ rs, r.length = 4) (hp : p.1 < rs.length) : ∀ r ∈ putAt rs p v, r.length = 4 := fun r hr => by
  unfold putAt at hr
  rcases List.mem_or_eq_of_mem_set hr with m | m
  · exact h4 r m
  · subst m
    rw [List.length_set, getD_eq hp]
    exact h4 _ (List.getElem_mem _)
theorem putAt_row {rs : List (List Int)} {p : Nat × Nat} (h4 : ∀ r ∈ rs, r.length = 4) (hp : p.1 < rs.length) : (rs.getD p.1 []).length = 4 ∧ atD (encRs rs) (p.1 : Int) = some (encR (rs.getD p.1 [])) := by
  constructor
  · rw [getD_eq hp]
    exact h4 _ (List.getElem_mem _)
  · rw [row_at_k hp, getD_eq hp]
theorem put_set {rs : List (List Int)} {p : Nat × Nat} {v : Int} : (encRs rs).set p.1 (encR ((rs.getD p.1 []).set p.2 v)) = encRs (putAt rs p v) := by
  unfold putAt
  exact List.map_set.symm
theorem put_at_ok {d : D} {rs : List (List Int)} {p : Nat × Nat} {v : Int} (hd : SeqD d (encRs rs)) (h4 : ∀ r ∈ rs, r.length = 4) (hp : p.1 < rs.length) (hp2 : p.2 < 4) : f_put_at [d, encNP p, .int v] = .ok (.ow (.lst (encRs (putAt rs p v)))) := by
  unfold f_put_at F_put_at
  rw [fn_eq [.va d, .va (encNP p), .va (.int v), .no, .no] rfl]
  obtain ⟨hl, hr⟩ := putAt_row h4 hp
  have c1 : (0 : Int) ≤ (p.2 : Int) ∧ (p.2 : Int) < ((encI (rs.getD p.1 [])).length : Int) := by rw [List.length_map, hl]; omega
  have c2 : (0 : Int) ≤ (p.1 : Int) ∧ (p.1 : Int) < ((encRs rs).length : Int) := by rw [List.length_map]; omega
  have hq : D.tup (encI ((rs.getD p.1 []).set p.2 v)) = encR ((rs.getD p.1 []).set p.2 v) := rfl
  simp only [ev_seq, ev_set, ev_op1, ev_op2, ev_call, ev_cons, ev_nil, ev_c, ev_var, ev_tup, ev_lst, ev_cb, ev_fz, ev_lend, ev_and, ev_or, ev_not, ev_chain, ev_if, ev_bm, ev_get2, ev_ixO, ev_sl, ev_some, ev_none, ev_tval, ev_tand, ev_tor, ev_tnot, ev_irange1, ev_irange2, ev_sif, ev_next, ev_ret, ev_retO, ev_raise, ev_app, ev_put, ev_dput, ev_for, ev_while, ev_pub, pub_cons, pub_nil, ev_drop, ev_dnew, res_nx, res_rt, res_xc, R.bind_ok, R.bind_xc, R.out_ok, R.out_xc, Out.bind_nx, Out.bind_rt, Out.bind_xc, Sl.d_va, Sl.d_ow, Sl.frz_va, Sl.frz_ow, Sl.frz_no, List.getElem?_cons_succ, List.getElem?_cons_zero, List.set_cons_succ, List.set_cons_zero, List.length_cons, List.length_nil, List.map_cons, List.map_nil, lim_val, Nat.zero_le, Nat.reduceAdd, Nat.reduceLeDiff, Nat.reduceEqDiff, reduceIte, Nat.zero_add, if_true, if_false, Bool.false_eq_true, Bool.not_true, Bool.not_false, decide_true, decide_false, o_add, o_sub, o_neg, o_lt, o_le, o_gt, o_ge, o_eq, o_ne, o_isN, o_notN, isNon_non, isNon_int, isNon_tup, isNon_lst, o_idxL, o_idxT, o_lenL, o_lenT, o_lenS, o_listL, o_listT, o_tupleL, o_tupleT, o_int, o_intb, o_max2, o_min2, o_slL, o_slT, atD_0, atD_1, atD_2, atD_3, atD_4, atD_5, range_4, range_3, range_2, list_seq hd, hr, c1, c2, Int.toNat_natCast, and_self, encI_set, hq, put_set]
theorem law_put_ok {d : D} {rs : List (List Int)} {p : Nat × Nat} {v : Int} (hd : SeqD d (encRs rs)) (h4 : ∀ r ∈ rs, r.length = 4) (hp : p.1 < rs.length) (hp2 : p.2 < 4) : f_law_put [d, encNP p, .int v] = .ok (.ow (.lst (encRs (putAt rs p v)))) := by
  unfold f_law_put F_law_put
  rw [fn_eq [.va d, .va (encNP p), .va (.int v), .no] rfl]
  obtain ⟨hl, hr⟩ := putAt_row h4 hp
  have c1 : (0 : Int) ≤ (p.2 : Int) ∧ (p.2 : Int) < ((encI (rs.getD p.1 [])).length : Int) := by rw [List.length_map, hl]; omega
  have c2 : (0 : Int) ≤ (p.1 : Int) ∧ (p.1 : Int) < ((encRs rs).length : Int) := by rw [List.length_map]; omega
  have hq : D.tup (encI ((rs.getD p.1 []).set p.2 v)) = encR ((rs.getD p.1 []).set p.2 v) := rfl
  simp only [ev_seq, ev_set, ev_op1, ev_op2, ev_call, ev_cons, ev_nil, ev_c, ev_var, ev_tup, ev_lst, ev_cb, ev_fz, ev_lend, ev_and, ev_or, ev_not, ev_chain, ev_if, ev_bm, ev_get2, ev_ixO, ev_sl, ev_some, ev_none, ev_tval, ev_tand, ev_tor, ev_tnot, ev_irange1, ev_irange2, ev_sif, ev_next, ev_ret, ev_retO, ev_raise, ev_app, ev_put, ev_dput, ev_for, ev_while, ev_pub, pub_cons, pub_nil, ev_drop, ev_dnew, res_nx, res_rt, res_xc, R.bind_ok, R.bind_xc, R.out_ok, R.out_xc, Out.bind_nx, Out.bind_rt, Out.bind_xc, Sl.d_va, Sl.d_ow, Sl.frz_va, Sl.frz_ow, Sl.frz_no, List.getElem?_cons_succ, List.getElem?_cons_zero, List.set_cons_succ, List.set_cons_zero, List.length_cons, List.length_nil, List.map_cons, List.map_nil, lim_val, Nat.zero_le, Nat.reduceAdd, Nat.reduceLeDiff, Nat.reduceEqDiff, reduceIte, Nat.zero_add, if_true, if_false, Bool.false_eq_true, Bool.not_true, Bool.not_false, decide_true, decide_false, o_add, o_sub, o_neg, o_lt, o_le, o_gt, o_ge, o_eq, o_ne, o_isN, o_notN, isNon_non, isNon_int, isNon_tup, isNon_lst, o_idxL, o_idxT, o_lenL, o_lenT, o_lenS, o_listL, o_listT, o_tupleL, o_tupleT, o_int, o_intb, o_max2, o_min2, o_slL, o_slT, atD_0, atD_1, atD_2, atD_3, atD_4, atD_5, range_4, range_3, range_2, list_seq hd, hr, c1, c2, Int.toNat_natCast, and_self, encI_set, hq, put_set]
/-! ### the last place of a line -/
def lastPl (rs : List (List Int)) (line : Int) : Nat × Nat := ((plc rs line).getLast?).getD (0, 0)
theorem foldl_lastp {α : Type} (p : α → Bool) : ∀ (l : List α) (s : α), l.foldl (fun s x => if p x = true then x else s) s = ((l.filter p).getLast?).getD s
  | [], s => rfl
  | x :: l, s => by
    rw [List.foldl_cons, foldl_lastp p l]
    by_cases h : p x = true
    · rw [if_pos h, List.filter_cons_of_pos h]
      cases e : l.filter p with
      | nil => rfl
      | cons y ys => rw [List.getLast?_cons_cons]; cases q : (y :: ys).getLast? with
        | none => rw [List.getLast?_eq_none_iff] at q; cases q
        | some z => rfl
    · rw [if_neg h, List.filter_cons_of_neg h]
theorem foldl_flat {α β : Type} (f : α → List β) (g : β → β → β) : ∀ (l : List α) (s : β), (l.flatMap f).foldl g s = l.foldl (fun s x => (f x).foldl g s) s
  | [], s => rfl
  | x :: l, s => by rw [List.flatMap_cons, List.foldl_append, foldl_flat f g l, List.foldl_cons]
theorem second_ok {rs : List (List Int)} {line : Int} (h4 : ∀ r ∈ rs, r.length = 4) (hl : rs.length ≤ 1000) : f_law_second [.tup (encRs rs), .int line] = .ok (.va (encNP (lastPl rs line))) := by
  unfold f_law_second F_law_second
  rw [fn_eq [.va (.tup (encRs rs)), .va (.int line), .no, .no, .no] rfl]
  have L := forD_fold (j := 3) (b := B_law_second_2) (enc := fun k : Nat => D.int (k : Int)) (fun (s : Nat × Nat) e => ∃ a b, e = [.va (.tup (encRs rs)), .va (.int line), .va (encNP s), a, b])
    (fun s k => (((List.range 4).map fun e => (k, e)).foldl (fun s p => if decide (ent rs p = line) = true then p else s) s)) (List.range rs.length) (0, 0) [.va (.tup (encRs rs)), .va (.int line), .va (encNP (0, 0)), .no, .no] ⟨_, _, rfl⟩
    (fun i k e hk ⟨a, b, he⟩ => by
      subst he
      obtain ⟨hi, hv⟩ := List.getElem?_eq_some_iff.mp hk
      rw [List.getElem_range] at hv
      rw [List.length_range] at hi
      subst hv
      generalize ((List.range rs.length).take i).foldl (fun s k => (((List.range 4).map fun e => (k, e)).foldl (fun s p => if decide (ent rs p = line) = true then p else s) s)) (0, 0) = s at *
      have L1 := forD_fold (j := 4) (b := B_law_second_1) (enc := fun k : Nat => D.int (k : Int)) (fun (s : Nat × Nat) e => ∃ b, e = [.va (.tup (encRs rs)), .va (.int line), .va (encNP s), .va (.int i), b])
        (fun s e => if decide (ent rs (i, e) = line) = true then (i, e) else s) (List.range 4) s [.va (.tup (encRs rs)), .va (.int line), .va (encNP s), .va (.int i), b] ⟨_, rfl⟩
        (fun j x e hx ⟨b, he⟩ => by
          subst he
          obtain ⟨hj, hv⟩ := List.getElem?_eq_some_iff.mp hx
          rw [List.getElem_range] at hv
          rw [List.length_range] at hj
          subst hv
          generalize ((List.range 4).take j).foldl (fun s e => if decide (ent rs (i, e) = line) = true then (i, e) else s) s = t at *
          obtain ⟨x1, x2⟩ := ent_idx h4 hi hj
          rw [o_idxT] at x1
          unfold B_law_second_1
          simp only [ev_sif, ev_tval, ev_op2, ev_var, List.set_cons_succ, List.set_cons_zero, List.getElem?_cons_succ, List.getElem?_cons_zero, R.bind_ok, Sl.d_va, o_idxT, x1, x2, o_eq, R.out_ok]
          by_cases hq : ent rs (i, j) = line
          · simp only [ev_seq, ev_set, ev_op1, ev_op2, ev_call, ev_cons, ev_nil, ev_c, ev_var, ev_tup, ev_lst, ev_cb, ev_fz, ev_lend, ev_and, ev_or, ev_not, ev_chain, ev_if, ev_bm, ev_get2, ev_ixO, ev_sl, ev_some, ev_none, ev_tval, ev_tand, ev_tor, ev_tnot, ev_irange1, ev_irange2, ev_sif, ev_next, ev_ret, ev_retO, ev_raise, ev_app, ev_put, ev_dput, ev_for, ev_while, ev_pub, pub_cons, pub_nil, ev_drop, ev_dnew, res_nx, res_rt, res_xc, R.bind_ok, R.bind_xc, R.out_ok, R.out_xc, Out.bind_nx, Out.bind_rt, Out.bind_xc, Sl.d_va, Sl.d_ow, Sl.frz_va, Sl.frz_ow, Sl.frz_no, List.getElem?_cons_succ, List.getElem?_cons_zero, List.set_cons_succ, List.set_cons_zero, List.length_cons, List.length_nil, List.map_cons, List.map_nil, lim_val, Nat.zero_le, Nat.reduceAdd, Nat.reduceLeDiff, Nat.reduceEqDiff, reduceIte, Nat.zero_add, if_true, if_false, Bool.false_eq_true, Bool.not_true, Bool.not_false, decide_true, decide_false, o_add, o_sub, o_neg, o_lt, o_le, o_gt, o_ge, o_eq, o_ne, o_isN, o_notN, isNon_non, isNon_int, isNon_tup, isNon_lst, o_idxL, o_idxT, o_lenL, o_lenT, o_lenS, o_listL, o_listT, o_tupleL, o_tupleT, o_int, o_intb, o_max2, o_min2, o_slL, o_slT, atD_0, atD_1, atD_2, atD_3, atD_4, atD_5, range_4, range_3, range_2, hq]
            exact ⟨_, rfl, _, rfl⟩
          · simp only [ev_seq, ev_set, ev_op1, ev_op2, ev_call, ev_cons, ev_nil, ev_c, ev_var, ev_tup, ev_lst, ev_cb, ev_fz, ev_lend, ev_and, ev_or, ev_not, ev_chain, ev_if, ev_bm, ev_get2, ev_ixO, ev_sl, ev_some, ev_none, ev_tval, ev_tand, ev_tor, ev_tnot, ev_irange1, ev_irange2, ev_sif, ev_next, ev_ret, ev_retO, ev_raise, ev_app, ev_put, ev_dput, ev_for, ev_while, ev_pub, pub_cons, pub_nil, ev_drop, ev_dnew, res_nx, res_rt, res_xc, R.bind_ok, R.bind_xc, R.out_ok, R.out_xc, Out.bind_nx, Out.bind_rt, Out.bind_xc, Sl.d_va, Sl.d_ow, Sl.frz_va, Sl.frz_ow, Sl.frz_no, List.getElem?_cons_succ, List.getElem?_cons_zero, List.set_cons_succ, List.set_cons_zero, List.length_cons, List.length_nil, List.map_cons, List.map_nil, lim_val, Nat.zero_le, Nat.reduceAdd, Nat.reduceLeDiff, Nat.reduceEqDiff, reduceIte, Nat.zero_add, if_true, if_false, Bool.false_eq_true, Bool.not_true, Bool.not_false, decide_true, decide_false, o_add, o_sub, o_neg, o_lt, o_le, o_gt, o_ge, o_eq, o_ne, o_isN, o_notN, isNon_non, isNon_int, isNon_tup, isNon_lst, o_idxL, o_idxT, o_lenL, o_lenT, o_lenS, o_listL, o_listT, o_tupleL, o_tupleT, o_int, o_intb, o_max2, o_min2, o_slL, o_slT, atD_0, atD_1, atD_2, atD_3, atD_4, atD_5, range_4, range_3, range_2, hq]
            exact ⟨_, rfl, _, rfl⟩)
      obtain ⟨e1, h1, b1, he1⟩ := L1
      refine ⟨e1, ?_, .va (.int i), b1, ?_⟩
      · unfold B_law_second_2
        simp only [ev_seq, ev_set, ev_op1, ev_op2, ev_call, ev_cons, ev_nil, ev_c, ev_var, ev_tup, ev_lst, ev_cb, ev_fz, ev_lend, ev_and, ev_or, ev_not, ev_chain, ev_if, ev_bm, ev_get2, ev_ixO, ev_sl, ev_some, ev_none, ev_tval, ev_tand, ev_tor, ev_tnot, ev_irange1, ev_irange2, ev_sif, ev_next, ev_ret, ev_retO, ev_raise, ev_app, ev_put, ev_dput, ev_for, ev_while, ev_pub, pub_cons, pub_nil, ev_drop, ev_dnew, res_nx, res_rt, res_xc, R.bind_ok, R.bind_xc, R.out_ok, R.out_xc, Out.bind_nx, Out.bind_rt, Out.bind_xc, Sl.d_va, Sl.d_ow, Sl.frz_va, Sl.frz_ow, Sl.frz_no, List.getElem?_cons_succ, List.getElem?_cons_zero, List.set_cons_succ, List.set_cons_zero, List.length_cons, List.length_nil, List.map_cons, List.map_nil, lim_val, Nat.zero_le, Nat.reduceAdd, Nat.reduceLeDiff, Nat.reduceEqDiff, reduceIte, Nat.zero_add, if_true, if_false, Bool.false_eq_true, Bool.not_true, Bool.not_false, decide_true, decide_false, o_add, o_sub, o_neg, o_lt, o_le, o_gt, o_ge, o_eq, o_ne, o_isN, o_notN, isNon_non, isNon_int, isNon_tup, isNon_lst, o_idxL, o_idxT, o_lenL, o_lenT, o_lenS, o_listL, o_listT, o_tupleL, o_tupleT, o_int, o_intb, o_max2, o_min2, o_slL, o_slT, atD_0, atD_1, atD_2, atD_3, atD_4, atD_5, range_4, range_3, range_2]
        exact h1
      · rw [he1, List.foldl_map])
  obtain ⟨e, h, a, b, he⟩ := L
  rw [← rng_eq] at h
  have hb := range_nat (n := rs.length) (by omega)
  have t1 : sSet 2 (eTup (aCons (eC (.int 0)) (aCons (eC (.int 0)) aNil))) [.va (.tup (encRs rs)), .va (.int line), .no, .no, .no] = .nx [.va (.tup (encRs rs)), .va (.int line), .va (encNP (0, 0)), .no, .no] := by
    simp only [ev_seq, ev_set, ev_op1, ev_op2, ev_call, ev_cons, ev_nil, ev_c, ev_var, ev_tup, ev_lst, ev_cb, ev_fz, ev_lend, ev_and, ev_or, ev_not, ev_chain, ev_if, ev_bm, ev_get2, ev_ixO, ev_sl, ev_some, ev_none, ev_tval, ev_tand, ev_tor, ev_tnot, ev_irange1, ev_irange2, ev_sif, ev_next, ev_ret, ev_retO, ev_raise, ev_app, ev_put, ev_dput, ev_for, ev_while, ev_pub, pub_cons, pub_nil, ev_drop, ev_dnew, res_nx, res_rt, res_xc, R.bind_ok, R.bind_xc, R.out_ok, R.out_xc, Out.bind_nx, Out.bind_rt, Out.bind_xc, Sl.d_va, Sl.d_ow, Sl.frz_va, Sl.frz_ow, Sl.frz_no, List.getElem?_cons_succ, List.getElem?_cons_zero, List.set_cons_succ, List.set_cons_zero, List.length_cons, List.length_nil, List.map_cons, List.map_nil, lim_val, Nat.zero_le, Nat.reduceAdd, Nat.reduceLeDiff, Nat.reduceEqDiff, reduceIte, Nat.zero_add, if_true, if_false, Bool.false_eq_true, Bool.not_true, Bool.not_false, decide_true, decide_false, o_add, o_sub, o_neg, o_lt, o_le, o_gt, o_ge, o_eq, o_ne, o_isN, o_notN, isNon_non, isNon_int, isNon_tup, isNon_lst, o_idxL, o_idxT, o_lenL, o_lenT, o_lenS, o_listL, o_listT, o_tupleL, o_tupleT, o_int, o_intb, o_max2, o_min2, o_slL, o_slT, atD_0, atD_1, atD_2, atD_3, atD_4, atD_5, range_4, range_3, range_2]
    rfl
  rw [ev_seq, t1, Out.bind_nx]
  simp only [ev_seq, ev_set, ev_op1, ev_op2, ev_call, ev_cons, ev_nil, ev_c, ev_var, ev_tup, ev_lst, ev_cb, ev_fz, ev_lend, ev_and, ev_or, ev_not, ev_chain, ev_if, ev_bm, ev_get2, ev_ixO, ev_sl, ev_some, ev_none, ev_tval, ev_tand, ev_tor, ev_tnot, ev_irange1, ev_irange2, ev_sif, ev_next, ev_ret, ev_retO, ev_raise, ev_app, ev_put, ev_dput, ev_for, ev_while, ev_pub, pub_cons, pub_nil, ev_drop, ev_dnew, res_nx, res_rt, res_xc, R.bind_ok, R.bind_xc, R.out_ok, R.out_xc, Out.bind_nx, Out.bind_rt, Out.bind_xc, Sl.d_va, Sl.d_ow, Sl.frz_va, Sl.frz_ow, Sl.frz_no, List.getElem?_cons_succ, List.getElem?_cons_zero, List.set_cons_succ, List.set_cons_zero, List.length_cons, List.length_nil, List.map_cons, List.map_nil, lim_val, Nat.zero_le, Nat.reduceAdd, Nat.reduceLeDiff, Nat.reduceEqDiff, reduceIte, Nat.zero_add, if_true, if_false, Bool.false_eq_true, Bool.not_true, Bool.not_false, decide_true, decide_false, o_add, o_sub, o_neg, o_lt, o_le, o_gt, o_ge, o_eq, o_ne, o_isN, o_notN, isNon_non, isNon_int, isNon_tup, isNon_lst, o_idxL, o_idxT, o_lenL, o_lenT, o_lenS, o_listL, o_listT, o_tupleL, o_tupleT, o_int, o_intb, o_max2, o_min2, o_slL, o_slT, atD_0, atD_1, atD_2, atD_3, atD_4, atD_5, range_4, range_3, range_2, List.length_map, hb, h, he]
  rw [← foldl_flat (fun k => (List.range 4).map fun e => (k, e)) (fun s p => if decide (ent rs p = line) = true then p else s), foldl_lastp]
  rfl
theorem plc_in {rs : List (List Int)} {line : Int} {p : Nat × Nat} (h : p ∈ plc rs line) : p.1 < rs.length ∧ p.2 < 4 ∧ ent rs p = line := by
  unfold plc places at h
  obtain ⟨h1, h2⟩ := List.mem_filter.mp h
  obtain ⟨k, hk, h3⟩ := List.mem_flatMap.mp h1
  obtain ⟨e, he, rfl⟩ := List.mem_map.mp h3
  exact ⟨List.mem_range.mp hk, List.mem_range.mp he, of_decide_eq_true h2⟩
/-- of a line of a drawn sheet: its two places, the second by both ways -/
theorem ends2 {m : Nat} {rs : List (List Int)} {rings line : Int} (h : Drawn m rs) (hm : m ≤ 100) (hl : 0 ≤ line ∧ line < 2 * (m : Int)) :
    ∃ p, f_ends [encS rs rings, .int line] = .ok (.va (.tup [encNP p, encNP (lastPl rs line)])) ∧ plc rs line = [p, lastPl rs line] ∧ (lastPl rs line).1 < rs.length ∧ (lastPl rs line).2 < 4 := by
  obtain ⟨p, q, h1, h2⟩ := ends_ok (rings := rings) h hm hl
  have e : lastPl rs line = q := by unfold lastPl; rw [h1]; rfl
  have hq := plc_in (rs := rs) (line := line) (p := q) (by rw [h1]; simp)
  exact ⟨p, by rw [e]; exact h2, by rw [e]; exact h1, by rw [e]; exact hq.1, by rw [e]; exact hq.2.1⟩
/-! ### curls -/
def curlR (way line new loop : Int) : List Int := if way = 0 then [loop, loop, line, new] else if way = 1 then [line, loop, loop, new] else if way = 2 then [loop, loop, new, line] else [new, loop, loop, line]
theorem curlR_len (w a b c : Int) : (curlR w a b c).length = 4 := by
  unfold curlR
  split
  · rfl
  · split
    · rfl
    · split <;> rfl
theorem curl_row_ok (w a b c : Int) : f_curl_row [.int w, .int a, .int b, .int c] = .ok (.va (encR (curlR w a b c))) := by
  unfold f_curl_row F_curl_row curlR
  rw [fn_eq [.va (.int w), .va (.int a), .va (.int b), .va (.int c)] rfl]
  by_cases h0 : w = 0
  · simp only [ev_seq, ev_set, ev_op1, ev_op2, ev_call, ev_cons, ev_nil, ev_c, ev_var, ev_tup, ev_lst, ev_cb, ev_fz, ev_lend, ev_and, ev_or, ev_not, ev_chain, ev_if, ev_bm, ev_get2, ev_ixO, ev_sl, ev_some, ev_none, ev_tval, ev_tand, ev_tor, ev_tnot, ev_irange1, ev_irange2, ev_sif, ev_next, ev_ret, ev_retO, ev_raise, ev_app, ev_put, ev_dput, ev_for, ev_while, ev_pub, pub_cons, pub_nil, ev_drop, ev_dnew, res_nx, res_rt, res_xc, R.bind_ok, R.bind_xc, R.out_ok, R.out_xc, Out.bind_nx, Out.bind_rt, Out.bind_xc, Sl.d_va, Sl.d_ow, Sl.frz_va, Sl.frz_ow, Sl.frz_no, List.getElem?_cons_succ, List.getElem?_cons_zero, List.set_cons_succ, List.set_cons_zero, List.length_cons, List.length_nil, List.map_cons, List.map_nil, lim_val, Nat.zero_le, Nat.reduceAdd, Nat.reduceLeDiff, Nat.reduceEqDiff, reduceIte, Nat.zero_add, if_true, if_false, Bool.false_eq_true, Bool.not_true, Bool.not_false, decide_true, decide_false, o_add, o_sub, o_neg, o_lt, o_le, o_gt, o_ge, o_eq, o_ne, o_isN, o_notN, isNon_non, isNon_int, isNon_tup, isNon_lst, o_idxL, o_idxT, o_lenL, o_lenT, o_lenS, o_listL, o_listT, o_tupleL, o_tupleT, o_int, o_intb, o_max2, o_min2, o_slL, o_slT, atD_0, atD_1, atD_2, atD_3, atD_4, atD_5, range_4, range_3, range_2, h0]; rfl
  · by_cases h1 : w = 1
    · simp only [ev_seq, ev_set, ev_op1, ev_op2, ev_call, ev_cons, ev_nil, ev_c, ev_var, ev_tup, ev_lst, ev_cb, ev_fz, ev_lend, ev_and, ev_or, ev_not, ev_chain, ev_if, ev_bm, ev_get2, ev_ixO, ev_sl, ev_some, ev_none, ev_tval, ev_tand, ev_tor, ev_tnot, ev_irange1, ev_irange2, ev_sif, ev_next, ev_ret, ev_retO, ev_raise, ev_app, ev_put, ev_dput, ev_for, ev_while, ev_pub, pub_cons, pub_nil, ev_drop, ev_dnew, res_nx, res_rt, res_xc, R.bind_ok, R.bind_xc, R.out_ok, R.out_xc, Out.bind_nx, Out.bind_rt, Out.bind_xc, Sl.d_va, Sl.d_ow, Sl.frz_va, Sl.frz_ow, Sl.frz_no, List.getElem?_cons_succ, List.getElem?_cons_zero, List.set_cons_succ, List.set_cons_zero, List.length_cons, List.length_nil, List.map_cons, List.map_nil, lim_val, Nat.zero_le, Nat.reduceAdd, Nat.reduceLeDiff, Nat.reduceEqDiff, reduceIte, Nat.zero_add, if_true, if_false, Bool.false_eq_true, Bool.not_true, Bool.not_false, decide_true, decide_false, o_add, o_sub, o_neg, o_lt, o_le, o_gt, o_ge, o_eq, o_ne, o_isN, o_notN, isNon_non, isNon_int, isNon_tup, isNon_lst, o_idxL, o_idxT, o_lenL, o_lenT, o_lenS, o_listL, o_listT, o_tupleL, o_tupleT, o_int, o_intb, o_max2, o_min2, o_slL, o_slT, atD_0, atD_1, atD_2, atD_3, atD_4, atD_5, range_4, range_3, range_2, h0, h1]; rfl
    · by_cases h2 : w = 2
      · simp only [ev_seq, ev_set, ev_op1, ev_op2, ev_call, ev_cons, ev_nil, ev_c, ev_var, ev_tup, ev_lst, ev_cb, ev_fz, ev_lend, ev_and, ev_or, ev_not, ev_chain, ev_if, ev_bm, ev_get2, ev_ixO, ev_sl, ev_some, ev_none, ev_tval, ev_tand, ev_tor, ev_tnot, ev_irange1, ev_irange2, ev_sif, ev_next, ev_ret, ev_retO, ev_raise, ev_app, ev_put, ev_dput, ev_for, ev_while, ev_pub, pub_cons, pub_nil, ev_drop, ev_dnew, res_nx, res_rt, res_xc, R.bind_ok, R.bind_xc, R.out_ok, R.out_xc, Out.bind_nx, Out.bind_rt, Out.bind_xc, Sl.d_va, Sl.d_ow, Sl.frz_va, Sl.frz_ow, Sl.frz_no, List.getElem?_cons_succ, List.getElem?_cons_zero, List.set_cons_succ, List.set_cons_zero, List.length_cons, List.length_nil, List.map_cons, List.map_nil, lim_val, Nat.zero_le, Nat.reduceAdd, Nat.reduceLeDiff, Nat.reduceEqDiff, reduceIte, Nat.zero_add, if_true, if_false, Bool.false_eq_true, Bool.not_true, Bool.not_false, decide_true, decide_false, o_add, o_sub, o_neg, o_lt, o_le, o_gt, o_ge, o_eq, o_ne, o_isN, o_notN, isNon_non, isNon_int, isNon_tup, isNon_lst, o_idxL, o_idxT, o_lenL, o_lenT, o_lenS, o_listL, o_listT, o_tupleL, o_tupleT, o_int, o_intb, o_max2, o_min2, o_slL, o_slT, atD_0, atD_1, atD_2, atD_3, atD_4, atD_5, range_4, range_3, range_2, h0, h1, h2]; rfl
      · simp only [ev_seq, ev_set, ev_op1, ev_op2, ev_call, ev_cons, ev_nil, ev_c, ev_var, ev_tup, ev_lst, ev_cb, ev_fz, ev_lend, ev_and, ev_or, ev_not, ev_chain, ev_if, ev_bm, ev_get2, ev_ixO, ev_sl, ev_some, ev_none, ev_tval, ev_tand, ev_tor, ev_tnot, ev_irange1, ev_irange2, ev_sif, ev_next, ev_ret, ev_retO, ev_raise, ev_app, ev_put, ev_dput, ev_for, ev_while, ev_pub, pub_cons, pub_nil, ev_drop, ev_dnew, res_nx, res_rt, res_xc, R.bind_ok, R.bind_xc, R.out_ok, R.out_xc, Out.bind_nx, Out.bind_rt, Out.bind_xc, Sl.d_va, Sl.d_ow, Sl.frz_va, Sl.frz_ow, Sl.frz_no, List.getElem?_cons_succ, List.getElem?_cons_zero, List.set_cons_succ, List.set_cons_zero, List.length_cons, List.length_nil, List.map_cons, List.map_nil, lim_val, Nat.zero_le, Nat.reduceAdd, Nat.reduceLeDiff, Nat.reduceEqDiff, reduceIte, Nat.zero_add, if_true, if_false, Bool.false_eq_true, Bool.not_true, Bool.not_false, decide_true, decide_false, o_add, o_sub, o_neg, o_lt, o_le, o_gt, o_ge, o_eq, o_ne, o_isN, o_notN, isNon_non, isNon_int, isNon_tup, isNon_lst, o_idxL, o_idxT, o_lenL, o_lenT, o_lenS, o_listL, o_listT, o_tupleL, o_tupleT, o_int, o_intb, o_max2, o_min2, o_slL, o_slT, atD_0, atD_1, atD_2, atD_3, atD_4, atD_5, range_4, range_3, range_2, h0, h1, h2]; rfl
theorem law_curl_ok (w a b c : Int) : f_law_curl [.int w, .int a, .int b, .int c] = .ok (.va (encR (curlR w a b c))) := by
  unfold f_law_curl F_law_curl curlR
  rw [fn_eq [.va (.int w), .va (.int a), .va (.int b), .va (.int c)] rfl]
  by_cases h0 : w = 0
  · simp only [ev_seq, ev_set, ev_op1, ev_op2, ev_call, ev_cons, ev_nil, ev_c, ev_var, ev_tup, ev_lst, ev_cb, ev_fz, ev_lend, ev_and, ev_or, ev_not, ev_chain, ev_if, ev_bm, ev_get2, ev_ixO, ev_sl, ev_some, ev_none, ev_tval, ev_tand, ev_tor, ev_tnot, ev_irange1, ev_irange2, ev_sif, ev_next, ev_ret, ev_retO, ev_raise, ev_app, ev_put, ev_dput, ev_for, ev_while, ev_pub, pub_cons, pub_nil, ev_drop, ev_dnew, res_nx, res_rt, res_xc, R.bind_ok, R.bind_xc, R.out_ok, R.out_xc, Out.bind_nx, Out.bind_rt, Out.bind_xc, Sl.d_va, Sl.d_ow, Sl.frz_va, Sl.frz_ow, Sl.frz_no, List.getElem?_cons_succ, List.getElem?_cons_zero, List.set_cons_succ, List.set_cons_zero, List.length_cons, List.length_nil, List.map_cons, List.map_nil, lim_val, Nat.zero_le, Nat.reduceAdd, Nat.reduceLeDiff, Nat.reduceEqDiff, reduceIte, Nat.zero_add, if_true, if_false, Bool.false_eq_true, Bool.not_true, Bool.not_false, decide_true, decide_false, o_add, o_sub, o_neg, o_lt, o_le, o_gt, o_ge, o_eq, o_ne, o_isN, o_notN, isNon_non, isNon_int, isNon_tup, isNon_lst, o_idxL, o_idxT, o_lenL, o_lenT, o_lenS, o_listL, o_listT, o_tupleL, o_tupleT, o_int, o_intb, o_max2, o_min2, o_slL, o_slT, atD_0, atD_1, atD_2, atD_3, atD_4, atD_5, range_4, range_3, range_2, h0]; rfl
  · by_cases h1 : w = 1
    · simp only [ev_seq, ev_set, ev_op1, ev_op2, ev_call, ev_cons, ev_nil, ev_c, ev_var, ev_tup, ev_lst, ev_cb, ev_fz, ev_lend, ev_and, ev_or, ev_not, ev_chain, ev_if, ev_bm, ev_get2, ev_ixO, ev_sl, ev_some, ev_none, ev_tval, ev_tand, ev_tor, ev_tnot, ev_irange1, ev_irange2, ev_sif, ev_next, ev_ret, ev_retO, ev_raise, ev_app, ev_put, ev_dput, ev_for, ev_while, ev_pub, pub_cons, pub_nil, ev_drop, ev_dnew, res_nx, res_rt, res_xc, R.bind_ok, R.bind_xc, R.out_ok, R.out_xc, Out.bind_nx, Out.bind_rt, Out.bind_xc, Sl.d_va, Sl.d_ow, Sl.frz_va, Sl.frz_ow, Sl.frz_no, List.getElem?_cons_succ, List.getElem?_cons_zero, List.set_cons_succ, List.set_cons_zero, List.length_cons, List.length_nil, List.map_cons, List.map_nil, lim_val, Nat.zero_le, Nat.reduceAdd, Nat.reduceLeDiff, Nat.reduceEqDiff, reduceIte, Nat.zero_add, if_true, if_false, Bool.false_eq_true, Bool.not_true, Bool.not_false, decide_true, decide_false, o_add, o_sub, o_neg, o_lt, o_le, o_gt, o_ge, o_eq, o_ne, o_isN, o_notN, isNon_non, isNon_int, isNon_tup, isNon_lst, o_idxL, o_idxT, o_lenL, o_lenT, o_lenS, o_listL, o_listT, o_tupleL, o_tupleT, o_int, o_intb, o_max2, o_min2, o_slL, o_slT, atD_0, atD_1, atD_2, atD_3, atD_4, atD_5, range_4, range_3, range_2, h0, h1]; rfl
    · by_cases h2 : w = 2
      · simp only [ev_seq, ev_set, ev_op1, ev_op2, ev_call, ev_cons, ev_nil, ev_c, ev_var, ev_tup, ev_lst, ev_cb, ev_fz, ev_lend, ev_and, ev_or, ev_not, ev_chain, ev_if, ev_bm, ev_get2, ev_ixO, ev_sl, ev_some, ev_none, ev_tval, ev_tand, ev_tor, ev_tnot, ev_irange1, ev_irange2, ev_sif, ev_next, ev_ret, ev_retO, ev_raise, ev_app, ev_put, ev_dput, ev_for, ev_while, ev_pub, pub_cons, pub_nil, ev_drop, ev_dnew, res_nx, res_rt, res_xc, R.bind_ok, R.bind_xc, R.out_ok, R.out_xc, Out.bind_nx, Out.bind_rt, Out.bind_xc, Sl.d_va, Sl.d_ow, Sl.frz_va, Sl.frz_ow, Sl.frz_no, List.getElem?_cons_succ, List.getElem?_cons_zero, List.set_cons_succ, List.set_cons_zero, List.length_cons, List.length_nil, List.map_cons, List.map_nil, lim_val, Nat.zero_le, Nat.reduceAdd, Nat.reduceLeDiff, Nat.reduceEqDiff, reduceIte, Nat.zero_add, if_true, if_false, Bool.false_eq_true, Bool.not_true, Bool.not_false, decide_true, decide_false, o_add, o_sub, o_neg, o_lt, o_le, o_gt, o_ge, o_eq, o_ne, o_isN, o_notN, isNon_non, isNon_int, isNon_tup, isNon_lst, o_idxL, o_idxT, o_lenL, o_lenT, o_lenS, o_listL, o_listT, o_tupleL, o_tupleT, o_int, o_intb, o_max2, o_min2, o_slL, o_slT, atD_0, atD_1, atD_2, atD_3, atD_4, atD_5, range_4, range_3, range_2, h0, h1, h2]; rfl
      · simp only [ev_seq, ev_set, ev_op1, ev_op2, ev_call, ev_cons, ev_nil, ev_c, ev_var, ev_tup, ev_lst, ev_cb, ev_fz, ev_lend, ev_and, ev_or, ev_not, ev_chain, ev_if, ev_bm, ev_get2, ev_ixO, ev_sl, ev_some, ev_none, ev_tval, ev_tand, ev_tor, ev_tnot, ev_irange1, ev_irange2, ev_sif, ev_next, ev_ret, ev_retO, ev_raise, ev_app, ev_put, ev_dput, ev_for, ev_while, ev_pub, pub_cons, pub_nil, ev_drop, ev_dnew, res_nx, res_rt, res_xc, R.bind_ok, R.bind_xc, R.out_ok, R.out_xc, Out.bind_nx, Out.bind_rt, Out.bind_xc, Sl.d_va, Sl.d_ow, Sl.frz_va, Sl.frz_ow, Sl.frz_no, List.getElem?_cons_succ, List.getElem?_cons_zero, List.set_cons_succ, List.set_cons_zero, List.length_cons, List.length_nil, List.map_cons, List.map_nil, lim_val, Nat.zero_le, Nat.reduceAdd, Nat.reduceLeDiff, Nat.reduceEqDiff, reduceIte, Nat.zero_add, if_true, if_false, Bool.false_eq_true, Bool.not_true, Bool.not_false, decide_true, decide_false, o_add, o_sub, o_neg, o_lt, o_le, o_gt, o_ge, o_eq, o_ne, o_isN, o_notN, isNon_non, isNon_int, isNon_tup, isNon_lst, o_idxL, o_idxT, o_lenL, o_lenT, o_lenS, o_listL, o_listT, o_tupleL, o_tupleT, o_int, o_intb, o_max2, o_min2, o_slL, o_slT, atD_0, atD_1, atD_2, atD_3, atD_4, atD_5, range_4, range_3, range_2, h0, h1, h2]; rfl
theorem o_pow10 : dPow (.int 10) (.int 30) = .ok (.va (.int (10 ^ 30))) := o_pow (n := 30) (by decide) (by decide)
theorem far_ok (c many : Int) (hm : 0 ≤ many) : ∃ v, f_law_far [.int c, .int many] = .ok (.va (.int v)) ∧ (v < 0 ∨ many ≤ v) := by
  have hnn : 0 ≤ c / 2 % 10 ^ 30 := Int.emod_nonneg _ (by decide)
  have h2 : dMod (.int c) (.int 2) = .ok (.va (.int (c % 2))) := o_mod (by decide)
  have h3 : dFloor (.int c) (.int 2) = .ok (.va (.int (c / 2))) := o_floor (by decide)
  have h4 : dMod (.int (c / 2)) (.int (10 ^ 30)) = .ok (.va (.int (c / 2 % 10 ^ 30))) := o_mod (by decide)
  generalize c / 2 % 10 ^ 30 = z at *
  unfold f_law_far F_law_far
  rw [fn_eq [.va (.int c), .va (.int many)] rfl]
  by_cases h : c % 2 = 1
  · refine ⟨many + z, ?_, .inr (by omega)⟩
    simp only [ev_seq, ev_set, ev_op1, ev_op2, ev_call, ev_cons, ev_nil, ev_c, ev_var, ev_tup, ev_lst, ev_cb, ev_fz, ev_lend, ev_and, ev_or, ev_not, ev_chain, ev_if, ev_bm, ev_get2, ev_ixO, ev_sl, ev_some, ev_none, ev_tval, ev_tand, ev_tor, ev_tnot, ev_irange1, ev_irange2, ev_sif, ev_next, ev_ret, ev_retO, ev_raise, ev_app, ev_put, ev_dput, ev_for, ev_while, ev_pub, pub_cons, pub_nil, ev_drop, ev_dnew, res_nx, res_rt, res_xc, R.bind_ok, R.bind_xc, R.out_ok, R.out_xc, Out.bind_nx, Out.bind_rt, Out.bind_xc, Sl.d_va, Sl.d_ow, Sl.frz_va, Sl.frz_ow, Sl.frz_no, List.getElem?_cons_succ, List.getElem?_cons_zero, List.set_cons_succ, List.set_cons_zero, List.length_cons, List.length_nil, List.map_cons, List.map_nil, lim_val, Nat.zero_le, Nat.reduceAdd, Nat.reduceLeDiff, Nat.reduceEqDiff, reduceIte, Nat.zero_add, if_true, if_false, Bool.false_eq_true, Bool.not_true, Bool.not_false, decide_true, decide_false, o_add, o_sub, o_neg, o_lt, o_le, o_gt, o_ge, o_eq, o_ne, o_isN, o_notN, isNon_non, isNon_int, isNon_tup, isNon_lst, o_idxL, o_idxT, o_lenL, o_lenT, o_lenS, o_listL, o_listT, o_tupleL, o_tupleT, o_int, o_intb, o_max2, o_min2, o_slL, o_slT, atD_0, atD_1, atD_2, atD_3, atD_4, atD_5, range_4, range_3, range_2, h2, h, h3, o_pow10, h4]
  · refine ⟨-1 - z, ?_, .inl (by omega)⟩
    simp only [ev_seq, ev_set, ev_op1, ev_op2, ev_call, ev_cons, ev_nil, ev_c, ev_var, ev_tup, ev_lst, ev_cb, ev_fz, ev_lend, ev_and, ev_or, ev_not, ev_chain, ev_if, ev_bm, ev_get2, ev_ixO, ev_sl, ev_some, ev_none, ev_tval, ev_tand, ev_tor, ev_tnot, ev_irange1, ev_irange2, ev_sif, ev_next, ev_ret, ev_retO, ev_raise, ev_app, ev_put, ev_dput, ev_for, ev_while, ev_pub, pub_cons, pub_nil, ev_drop, ev_dnew, res_nx, res_rt, res_xc, R.bind_ok, R.bind_xc, R.out_ok, R.out_xc, Out.bind_nx, Out.bind_rt, Out.bind_xc, Sl.d_va, Sl.d_ow, Sl.frz_va, Sl.frz_ow, Sl.frz_no, List.getElem?_cons_succ, List.getElem?_cons_zero, List.set_cons_succ, List.set_cons_zero, List.length_cons, List.length_nil, List.map_cons, List.map_nil, lim_val, Nat.zero_le, Nat.reduceAdd, Nat.reduceLeDiff, Nat.reduceEqDiff, reduceIte, Nat.zero_add, if_true, if_false, Bool.false_eq_true, Bool.not_true, Bool.not_false, decide_true, decide_false, o_add, o_sub, o_neg, o_lt, o_le, o_gt, o_ge, o_eq, o_ne, o_isN, o_notN, isNon_non, isNon_int, isNon_tup, isNon_lst, o_idxL, o_idxT, o_lenL, o_lenT, o_lenS, o_listL, o_listT, o_tupleL, o_tupleT, o_int, o_intb, o_max2, o_min2, o_slL, o_slT, atD_0, atD_1, atD_2, atD_3, atD_4, atD_5, range_4, range_3, range_2, h2, h, h3, o_pow10, h4]
end DL
set_option maxRecDepth 100000
namespace DL
open PySem (Str)
/-! ### joining pairs of lines -/
/-- the pairs joined one by one: the rows and the rings -/
def joinL : List (List Int) → List (List Int) → Int → List (List Int) × Int
  | rs, [], rg => (rs, rg)
  | rs, p :: ps, rg => joinL (rs.map fun r => r.map (ren (p.getD 1 0) (p.getD 0 0))) (ps.map fun r => r.map (ren (p.getD 1 0) (p.getD 0 0))) (if p.getD 0 0 = p.getD 1 0 then rg + 1 else rg)
termination_by _ ps _ => ps.length
decreasing_by simp
theorem ren_self (a x : Int) : ren a a x = x := by
  unfold ren
  split
  · rename_i h; exact h.symm
  · rfl
theorem ren_map_self (a : Int) (rs : List (List Int)) : (rs.map fun r => r.map (ren a a)) = rs := by
  have : (fun r : List Int => r.map (ren a a)) = id := by
    funext r
    show r.map (ren a a) = r
    have : ren a a = id := funext fun x => ren_self a x
    rw [this, List.map_id]
  rw [this, List.map_id]
theorem joinL_cons (rs : List (List Int)) (p : List Int) (ps : List (List Int)) (rg : Int) : joinL rs (p :: ps) rg = joinL (rs.map fun r => r.map (ren (p.getD 1 0) (p.getD 0 0))) (ps.map fun r => r.map (ren (p.getD 1 0) (p.getD 0 0))) (if p.getD 0 0 = p.getD 1 0 then rg + 1 else rg) := by
  rw [joinL]
theorem joinL_nil (rs : List (List Int)) (rg : Int) : joinL rs [] rg = (rs, rg) := by
  rw [joinL]
theorem joinAll_eq (rs ps : List (List Int)) (rg : Int) : (joinAll rs ps rg).1 = (joinL rs ps rg).1 ∧ (joinAll rs ps rg).2.2 = (joinL rs ps rg).2 := by
  have gen : ∀ (n k : Nat) (s : List (List Int) × List (List Int) × Int), s.2.1.length = k + n → (((List.range' k n).foldl joinStep s).1 = (joinL s.1 (s.2.1.drop k) s.2.2).1 ∧ ((List.range' k n).foldl joinStep s).2.2 = (joinL s.1 (s.2.1.drop k) s.2.2).2) := by
    intro n
    induction n with
    | zero =>
      intro k s h
      rw [List.drop_eq_nil_of_le (by omega), joinL_nil]
      exact ⟨rfl, rfl⟩
    | succ n ih =>
      intro k s h
      have hk : k < s.2.1.length := by omega
      rw [List.range'_succ, List.foldl_cons]
      have hlen : (joinStep s k).2.1.length = s.2.1.length := by
        unfold joinStep
        simp only [List.length_append, List.length_take, List.length_map, List.length_drop]
        omega
      obtain ⟨i1, i2⟩ := ih (k + 1) (joinStep s k) (by rw [hlen]; omega)
      rw [i1, i2, List.drop_eq_getElem_cons hk, joinL_cons]
      have hg : s.2.1.getD k [] = s.2.1[k] := by rw [List.getD_eq_getElem?_getD, List.getElem?_eq_getElem hk]; rfl
      have hd : (joinStep s k).2.1.drop (k + 1) = (s.2.1.drop (k + 1)).map fun r => r.map (ren (s.2.1[k].getD 1 0) (s.2.1[k].getD 0 0)) := by
        unfold joinStep
        simp only
        rw [hg, List.drop_append]
        have : (s.2.1.take (k + 1)).length = k + 1 := by rw [List.length_take]; omega
        rw [this, Nat.sub_self, List.drop_zero, List.drop_eq_nil_of_le (by omega), List.nil_append]
      rw [hd]
      unfold joinStep
      simp only
      rw [hg]
      exact ⟨rfl, rfl⟩
  unfold joinAll
  rw [List.range_eq_range']
  have := gen ps.length 0 (rs, ps, rg) (by simp)
  simpa using this
theorem joinL_len : ∀ (n : Nat) (rs ps : List (List Int)) (rg : Int), ps.length = n → (joinL rs ps rg).1.length = rs.length ∧ ((∀ r ∈ rs, r.length = 4) → ∀ r ∈ (joinL rs ps rg).1, r.length = 4)
  | 0, rs, ps, rg, h => by
    rw [List.length_eq_zero_iff.mp h, joinL_nil]
    exact ⟨rfl, id⟩
  | n + 1, rs, p :: ps, rg, h => by
    rw [joinL_cons]
    obtain ⟨h1, h2⟩ := joinL_len n (rs.map fun r => r.map (ren (p.getD 1 0) (p.getD 0 0))) (ps.map fun r => r.map (ren (p.getD 1 0) (p.getD 0 0))) (if p.getD 0 0 = p.getD 1 0 then rg + 1 else rg) (by rw [List.length_map]; simpa using h)
    refine ⟨by rw [h1, List.length_map], fun h4 => h2 fun r hr => ?_⟩
    obtain ⟨r0, h0, rfl⟩ := List.mem_map.mp hr
    rw [List.length_map]
    exact h4 r0 h0
theorem renamed_ok {r : List Int} {old new : Int} (hl : r.length ≤ 1000000) : f_renamed [encR r, .int old, .int new] = .ok (.va (encR (r.map (ren old new)))) := by
  unfold f_renamed F_renamed
  rw [fn_eq [.va (encR r), .va (.int old), .va (.int new), .no] rfl]
  have hc := lcm (it := iSeq (eVar 0)) (j := 3) (own := [3]) (el := eIf (tVal (eOp2 dEq (eVar 3) (eVar 1))) (eVar 2) (eVar 3)) (e := [.va (encR r), .va (.int old), .va (.int new), .no]) (enc := D.int) (fun x => D.int (ren old new x)) r (by simp only [ev_seq, ev_set, ev_op1, ev_op2, ev_call, ev_cons, ev_nil, ev_c, ev_var, ev_tup, ev_lst, ev_cb, ev_fz, ev_lend, ev_and, ev_or, ev_not, ev_chain, ev_if, ev_bm, ev_get2, ev_ixO, ev_sl, ev_some, ev_none, ev_tval, ev_tand, ev_tor, ev_tnot, ev_irange1, ev_irange2, ev_sif, ev_next, ev_ret, ev_retO, ev_raise, ev_app, ev_put, ev_dput, ev_for, ev_while, ev_pub, pub_cons, pub_nil, ev_drop, ev_dnew, res_nx, res_rt, res_xc, R.bind_ok, R.bind_xc, R.out_ok, R.out_xc, Out.bind_nx, Out.bind_rt, Out.bind_xc, Sl.d_va, Sl.d_ow, Sl.frz_va, Sl.frz_ow, Sl.frz_no, List.getElem?_cons_succ, List.getElem?_cons_zero, List.set_cons_succ, List.set_cons_zero, List.length_cons, List.length_nil, List.map_cons, List.map_nil, lim_val, Nat.zero_le, Nat.reduceAdd, Nat.reduceLeDiff, Nat.reduceEqDiff, reduceIte, Nat.zero_add, if_true, if_false, Bool.false_eq_true, Bool.not_true, Bool.not_false, decide_true, decide_false, o_add, o_sub, o_neg, o_lt, o_le, o_gt, o_ge, o_eq, o_ne, o_isN, o_notN, isNon_non, isNon_int, isNon_tup, isNon_lst, o_idxL, o_idxT, o_lenL, o_lenT, o_lenS, o_listL, o_listT, o_tupleL, o_tupleT, o_int, o_intb, o_max2, o_min2, o_slL, o_slT, atD_0, atD_1, atD_2, atD_3, atD_4, atD_5, range_4, range_3, range_2, ev_iseq]) hl (fun x hx => by
    unfold ren
    by_cases c : x = old
    · simp only [ev_seq, ev_set, ev_op1, ev_op2, ev_call, ev_cons, ev_nil, ev_c, ev_var, ev_tup, ev_lst, ev_cb, ev_fz, ev_lend, ev_and, ev_or, ev_not, ev_chain, ev_if, ev_bm, ev_get2, ev_ixO, ev_sl, ev_some, ev_none, ev_tval, ev_tand, ev_tor, ev_tnot, ev_irange1, ev_irange2, ev_sif, ev_next, ev_ret, ev_retO, ev_raise, ev_app, ev_put, ev_dput, ev_for, ev_while, ev_pub, pub_cons, pub_nil, ev_drop, ev_dnew, res_nx, res_rt, res_xc, R.bind_ok, R.bind_xc, R.out_ok, R.out_xc, Out.bind_nx, Out.bind_rt, Out.bind_xc, Sl.d_va, Sl.d_ow, Sl.frz_va, Sl.frz_ow, Sl.frz_no, List.getElem?_cons_succ, List.getElem?_cons_zero, List.set_cons_succ, List.set_cons_zero, List.length_cons, List.length_nil, List.map_cons, List.map_nil, lim_val, Nat.zero_le, Nat.reduceAdd, Nat.reduceLeDiff, Nat.reduceEqDiff, reduceIte, Nat.zero_add, if_true, if_false, Bool.false_eq_true, Bool.not_true, Bool.not_false, decide_true, decide_false, o_add, o_sub, o_neg, o_lt, o_le, o_gt, o_ge, o_eq, o_ne, o_isN, o_notN, isNon_non, isNon_int, isNon_tup, isNon_lst, o_idxL, o_idxT, o_lenL, o_lenT, o_lenS, o_listL, o_listT, o_tupleL, o_tupleT, o_int, o_intb, o_max2, o_min2, o_slL, o_slT, atD_0, atD_1, atD_2, atD_3, atD_4, atD_5, range_4, range_3, range_2, wipe_cons, wipe_nil, c]
    · simp only [ev_seq, ev_set, ev_op1, ev_op2, ev_call, ev_cons, ev_nil, ev_c, ev_var, ev_tup, ev_lst, ev_cb, ev_fz, ev_lend, ev_and, ev_or, ev_not, ev_chain, ev_if, ev_bm, ev_get2, ev_ixO, ev_sl, ev_some, ev_none, ev_tval, ev_tand, ev_tor, ev_tnot, ev_irange1, ev_irange2, ev_sif, ev_next, ev_ret, ev_retO, ev_raise, ev_app, ev_put, ev_dput, ev_for, ev_while, ev_pub, pub_cons, pub_nil, ev_drop, ev_dnew, res_nx, res_rt, res_xc, R.bind_ok, R.bind_xc, R.out_ok, R.out_xc, Out.bind_nx, Out.bind_rt, Out.bind_xc, Sl.d_va, Sl.d_ow, Sl.frz_va, Sl.frz_ow, Sl.frz_no, List.getElem?_cons_succ, List.getElem?_cons_zero, List.set_cons_succ, List.set_cons_zero, List.length_cons, List.length_nil, List.map_cons, List.map_nil, lim_val, Nat.zero_le, Nat.reduceAdd, Nat.reduceLeDiff, Nat.reduceEqDiff, reduceIte, Nat.zero_add, if_true, if_false, Bool.false_eq_true, Bool.not_true, Bool.not_false, decide_true, decide_false, o_add, o_sub, o_neg, o_lt, o_le, o_gt, o_ge, o_eq, o_ne, o_isN, o_notN, isNon_non, isNon_int, isNon_tup, isNon_lst, o_idxL, o_idxT, o_lenL, o_lenT, o_lenS, o_listL, o_listT, o_tupleL, o_tupleT, o_int, o_intb, o_max2, o_min2, o_slL, o_slT, atD_0, atD_1, atD_2, atD_3, atD_4, atD_5, range_4, range_3, range_2, wipe_cons, wipe_nil, c])
  rw [show encR (r.map (ren old new)) = D.tup (r.map fun x => D.int (ren old new x)) from congrArg D.tup List.map_map]
  simp only [ev_seq, ev_set, ev_op1, ev_op2, ev_call, ev_cons, ev_nil, ev_c, ev_var, ev_tup, ev_lst, ev_cb, ev_fz, ev_lend, ev_and, ev_or, ev_not, ev_chain, ev_if, ev_bm, ev_get2, ev_ixO, ev_sl, ev_some, ev_none, ev_tval, ev_tand, ev_tor, ev_tnot, ev_irange1, ev_irange2, ev_sif, ev_next, ev_ret, ev_retO, ev_raise, ev_app, ev_put, ev_dput, ev_for, ev_while, ev_pub, pub_cons, pub_nil, ev_drop, ev_dnew, res_nx, res_rt, res_xc, R.bind_ok, R.bind_xc, R.out_ok, R.out_xc, Out.bind_nx, Out.bind_rt, Out.bind_xc, Sl.d_va, Sl.d_ow, Sl.frz_va, Sl.frz_ow, Sl.frz_no, List.getElem?_cons_succ, List.getElem?_cons_zero, List.set_cons_succ, List.set_cons_zero, List.length_cons, List.length_nil, List.map_cons, List.map_nil, lim_val, Nat.zero_le, Nat.reduceAdd, Nat.reduceLeDiff, Nat.reduceEqDiff, reduceIte, Nat.zero_add, if_true, if_false, Bool.false_eq_true, Bool.not_true, Bool.not_false, decide_true, decide_false, o_add, o_sub, o_neg, o_lt, o_le, o_gt, o_ge, o_eq, o_ne, o_isN, o_notN, isNon_non, isNon_int, isNon_tup, isNon_lst, o_idxL, o_idxT, o_lenL, o_lenT, o_lenS, o_listL, o_listT, o_tupleL, o_tupleT, o_int, o_intb, o_max2, o_min2, o_slL, o_slT, atD_0, atD_1, atD_2, atD_3, atD_4, atD_5, range_4, range_3, range_2, hc]
/-- rows or pairs as tuples -/
theorem encR_ren (f : Int → Int) (rs : List (List Int)) : (rs.map fun r => encR (r.map f)) = encRs (rs.map fun r => r.map f) := by
  rw [show encRs (rs.map fun r => r.map f) = rs.map fun r => encR (r.map f) from List.map_map]
theorem joined_ok {a b : D} {rs ps : List (List Int)} {rings : Int} (ha : SeqD a (encRs rs)) (hb : SeqD b (encRs ps)) (h4 : ∀ r ∈ rs, r.length = 4) (h2 : ∀ p ∈ ps, p.length = 2) (hl : rs.length ≤ 1000) (hp : ps.length ≤ 500) :
    f_joined [a, .int rings, b] = .ok (.va (encS (numb (joinL rs ps rings).1) (joinL rs ps rings).2)) := by
  unfold f_joined F_joined
  rw [fn_eq [.va a, .va (.int rings), .va b, .no, .no, .no, .no, .no] rfl]
  have W := whileD_inv (c := tVal (eOp2 dGt (eCB bLen (aCons (eVar 4) aNil)) (eC (.int 0)))) (b := B_joined_1)
    (fun m e => ∃ (rows left : List (List Int)) (rg : Int) (x y z : Sl), e = [.va a, .va (.int rg), .va b, .va (.lst (encRs rows)), .va (.lst (encRs left)), x, y, z] ∧ left.length = m ∧ joinL rows left rg = joinL rs ps rings ∧ (∀ r ∈ rows, r.length = 4) ∧ (∀ p ∈ left, p.length = 2) ∧ rows.length = rs.length ∧ m ≤ 500)
    (fun m e ⟨rows, left, rg, x, y, z, he, hm, hj, r4, l2, hrl, hm5⟩ => by
      subst he
      match left, hm, hj, l2 with
      | p :: left, hm, hj, l2 =>
        have hp2 := l2 p List.mem_cons_self
        match p, hp2 with
        | [u, v], _ =>
          have hm' : left.length = m := by simpa using hm
          have hpos : (0 : Int) < ((left.length + 1 : Nat) : Int) := by omega
          have hcut : cutD (encRs ([u, v] :: left)) (some 1) none = encRs left := by
            rw [show (some (1 : Int)) = some ((1 : Nat) : Int) from rfl, cut_to (by rw [List.length_map, List.length_cons]; omega)]
            rfl
          have hcut2 : cutD (encR [u, v] :: encRs left) (some 1) none = encRs left := hcut
          rw [joinL_cons] at hj
          constructor
          · simp only [ev_seq, ev_set, ev_op1, ev_op2, ev_call, ev_cons, ev_nil, ev_c, ev_var, ev_tup, ev_lst, ev_cb, ev_fz, ev_lend, ev_and, ev_or, ev_not, ev_chain, ev_if, ev_bm, ev_get2, ev_ixO, ev_sl, ev_some, ev_none, ev_tval, ev_tand, ev_tor, ev_tnot, ev_irange1, ev_irange2, ev_sif, ev_next, ev_ret, ev_retO, ev_raise, ev_app, ev_put, ev_dput, ev_for, ev_while, ev_pub, pub_cons, pub_nil, ev_drop, ev_dnew, res_nx, res_rt, res_xc, R.bind_ok, R.bind_xc, R.out_ok, R.out_xc, Out.bind_nx, Out.bind_rt, Out.bind_xc, Sl.d_va, Sl.d_ow, Sl.frz_va, Sl.frz_ow, Sl.frz_no, List.getElem?_cons_succ, List.getElem?_cons_zero, List.set_cons_succ, List.set_cons_zero, List.length_cons, List.length_nil, List.map_cons, List.map_nil, lim_val, Nat.zero_le, Nat.reduceAdd, Nat.reduceLeDiff, Nat.reduceEqDiff, reduceIte, Nat.zero_add, if_true, if_false, Bool.false_eq_true, Bool.not_true, Bool.not_false, decide_true, decide_false, o_add, o_sub, o_neg, o_lt, o_le, o_gt, o_ge, o_eq, o_ne, o_isN, o_notN, isNon_non, isNon_int, isNon_tup, isNon_lst, o_idxL, o_idxT, o_lenL, o_lenT, o_lenS, o_listL, o_listT, o_tupleL, o_tupleT, o_int, o_intb, o_max2, o_min2, o_slL, o_slT, atD_0, atD_1, atD_2, atD_3, atD_4, atD_5, range_4, range_3, range_2, List.length_map, hpos]
          · by_cases c : u = v
            · subst c
              have hj2 : joinL rows left (rg + 1) = joinL rs ps rings := by
                rw [← hj]
                show joinL rows left (rg + 1) = joinL (rows.map fun r => r.map (ren u u)) (left.map fun r => r.map (ren u u)) (if u = u then rg + 1 else rg)
                rw [ren_map_self, ren_map_self, if_pos rfl]
              refine ⟨[.va a, .va (.int (rg + 1)), .va b, .va (.lst (encRs rows)), .va (.lst (encRs left)), .va (encR [u, u]), y, z], ?_, m, Nat.le_refl _, rows, left, rg + 1, _, _, _, rfl, hm', hj2, r4, fun q hq => l2 q (List.mem_cons_of_mem _ hq), hrl, by omega⟩
              unfold B_joined_1
              simp only [ev_seq, ev_set, ev_op1, ev_op2, ev_call, ev_cons, ev_nil, ev_c, ev_var, ev_tup, ev_lst, ev_cb, ev_fz, ev_lend, ev_and, ev_or, ev_not, ev_chain, ev_if, ev_bm, ev_get2, ev_ixO, ev_sl, ev_some, ev_none, ev_tval, ev_tand, ev_tor, ev_tnot, ev_irange1, ev_irange2, ev_sif, ev_next, ev_ret, ev_retO, ev_raise, ev_app, ev_put, ev_dput, ev_for, ev_while, ev_pub, pub_cons, pub_nil, ev_drop, ev_dnew, res_nx, res_rt, res_xc, R.bind_ok, R.bind_xc, R.out_ok, R.out_xc, Out.bind_nx, Out.bind_rt, Out.bind_xc, Sl.d_va, Sl.d_ow, Sl.frz_va, Sl.frz_ow, Sl.frz_no, List.getElem?_cons_succ, List.getElem?_cons_zero, List.set_cons_succ, List.set_cons_zero, List.length_cons, List.length_nil, List.map_cons, List.map_nil, lim_val, Nat.zero_le, Nat.reduceAdd, Nat.reduceLeDiff, Nat.reduceEqDiff, reduceIte, Nat.zero_add, if_true, if_false, Bool.false_eq_true, Bool.not_true, Bool.not_false, decide_true, decide_false, o_add, o_sub, o_neg, o_lt, o_le, o_gt, o_ge, o_eq, o_ne, o_isN, o_notN, isNon_non, isNon_int, isNon_tup, isNon_lst, o_idxL, o_idxT, o_lenL, o_lenT, o_lenS, o_listL, o_listT, o_tupleL, o_tupleT, o_int, o_intb, o_max2, o_min2, o_slL, o_slT, atD_0, atD_1, atD_2, atD_3, atD_4, atD_5, range_4, range_3, range_2, hcut2, eq_self]
            · have hj2 : joinL (rows.map fun r => r.map (ren v u)) (left.map fun r => r.map (ren v u)) rg = joinL rs ps rings := by
                rw [← hj]
                show _ = joinL (rows.map fun r => r.map (ren v u)) (left.map fun r => r.map (ren v u)) (if u = v then rg + 1 else rg)
                rw [if_neg c]
              have c1 := lcm (it := iSeq (eVar 3)) (j := 6) (own := [6]) (el := eCall 3 f_renamed (aCons (eVar 6) (aCons (eOp2 dIdx (eVar 5) (eC (.int 1))) (aCons (eOp2 dIdx (eVar 5) (eC (.int 0))) aNil))))
                (e := [.va a, .va (.int rg), .va b, .va (.lst (encRs rows)), .va (.lst (encRs left)), .va (encR [u, v]), y, z]) (enc := encR) (fun r => encR (r.map (ren v u))) rows (by simp only [ev_seq, ev_set, ev_op1, ev_op2, ev_call, ev_cons, ev_nil, ev_c, ev_var, ev_tup, ev_lst, ev_cb, ev_fz, ev_lend, ev_and, ev_or, ev_not, ev_chain, ev_if, ev_bm, ev_get2, ev_ixO, ev_sl, ev_some, ev_none, ev_tval, ev_tand, ev_tor, ev_tnot, ev_irange1, ev_irange2, ev_sif, ev_next, ev_ret, ev_retO, ev_raise, ev_app, ev_put, ev_dput, ev_for, ev_while, ev_pub, pub_cons, pub_nil, ev_drop, ev_dnew, res_nx, res_rt, res_xc, R.bind_ok, R.bind_xc, R.out_ok, R.out_xc, Out.bind_nx, Out.bind_rt, Out.bind_xc, Sl.d_va, Sl.d_ow, Sl.frz_va, Sl.frz_ow, Sl.frz_no, List.getElem?_cons_succ, List.getElem?_cons_zero, List.set_cons_succ, List.set_cons_zero, List.length_cons, List.length_nil, List.map_cons, List.map_nil, lim_val, Nat.zero_le, Nat.reduceAdd, Nat.reduceLeDiff, Nat.reduceEqDiff, reduceIte, Nat.zero_add, if_true, if_false, Bool.false_eq_true, Bool.not_true, Bool.not_false, decide_true, decide_false, o_add, o_sub, o_neg, o_lt, o_le, o_gt, o_ge, o_eq, o_ne, o_isN, o_notN, isNon_non, isNon_int, isNon_tup, isNon_lst, o_idxL, o_idxT, o_lenL, o_lenT, o_lenS, o_listL, o_listT, o_tupleL, o_tupleT, o_int, o_intb, o_max2, o_min2, o_slL, o_slT, atD_0, atD_1, atD_2, atD_3, atD_4, atD_5, range_4, range_3, range_2, ev_iseq]) (by omega) (fun r hr => by
                  have := renamed_ok (r := r) (old := v) (new := u) (by rw [r4 r hr]; omega)
                  simp only [ev_seq, ev_set, ev_op1, ev_op2, ev_call, ev_cons, ev_nil, ev_c, ev_var, ev_tup, ev_lst, ev_cb, ev_fz, ev_lend, ev_and, ev_or, ev_not, ev_chain, ev_if, ev_bm, ev_get2, ev_ixO, ev_sl, ev_some, ev_none, ev_tval, ev_tand, ev_tor, ev_tnot, ev_irange1, ev_irange2, ev_sif, ev_next, ev_ret, ev_retO, ev_raise, ev_app, ev_put, ev_dput, ev_for, ev_while, ev_pub, pub_cons, pub_nil, ev_drop, ev_dnew, res_nx, res_rt, res_xc, R.bind_ok, R.bind_xc, R.out_ok, R.out_xc, Out.bind_nx, Out.bind_rt, Out.bind_xc, Sl.d_va, Sl.d_ow, Sl.frz_va, Sl.frz_ow, Sl.frz_no, List.getElem?_cons_succ, List.getElem?_cons_zero, List.set_cons_succ, List.set_cons_zero, List.length_cons, List.length_nil, List.map_cons, List.map_nil, lim_val, Nat.zero_le, Nat.reduceAdd, Nat.reduceLeDiff, Nat.reduceEqDiff, reduceIte, Nat.zero_add, if_true, if_false, Bool.false_eq_true, Bool.not_true, Bool.not_false, decide_true, decide_false, o_add, o_sub, o_neg, o_lt, o_le, o_gt, o_ge, o_eq, o_ne, o_isN, o_notN, isNon_non, isNon_int, isNon_tup, isNon_lst, o_idxL, o_idxT, o_lenL, o_lenT, o_lenS, o_listL, o_listT, o_tupleL, o_tupleT, o_int, o_intb, o_max2, o_min2, o_slL, o_slT, atD_0, atD_1, atD_2, atD_3, atD_4, atD_5, range_4, range_3, range_2, wipe_cons, wipe_nil, this])
              rw [encR_ren] at c1
              have c2 := lcm (it := iSeq (eVar 4)) (j := 7) (own := [7]) (el := eCall 3 f_renamed (aCons (eVar 7) (aCons (eOp2 dIdx (eVar 5) (eC (.int 1))) (aCons (eOp2 dIdx (eVar 5) (eC (.int 0))) aNil))))
                (e := [.va a, .va (.int rg), .va b, .va (.lst (encRs (rows.map fun r => r.map (ren v u)))), .va (.lst (encRs left)), .va (encR [u, v]), y, z]) (enc := encR) (fun r => encR (r.map (ren v u))) left (by simp only [ev_seq, ev_set, ev_op1, ev_op2, ev_call, ev_cons, ev_nil, ev_c, ev_var, ev_tup, ev_lst, ev_cb, ev_fz, ev_lend, ev_and, ev_or, ev_not, ev_chain, ev_if, ev_bm, ev_get2, ev_ixO, ev_sl, ev_some, ev_none, ev_tval, ev_tand, ev_tor, ev_tnot, ev_irange1, ev_irange2, ev_sif, ev_next, ev_ret, ev_retO, ev_raise, ev_app, ev_put, ev_dput, ev_for, ev_while, ev_pub, pub_cons, pub_nil, ev_drop, ev_dnew, res_nx, res_rt, res_xc, R.bind_ok, R.bind_xc, R.out_ok, R.out_xc, Out.bind_nx, Out.bind_rt, Out.bind_xc, Sl.d_va, Sl.d_ow, Sl.frz_va, Sl.frz_ow, Sl.frz_no, List.getElem?_cons_succ, List.getElem?_cons_zero, List.set_cons_succ, List.set_cons_zero, List.length_cons, List.length_nil, List.map_cons, List.map_nil, lim_val, Nat.zero_le, Nat.reduceAdd, Nat.reduceLeDiff, Nat.reduceEqDiff, reduceIte, Nat.zero_add, if_true, if_false, Bool.false_eq_true, Bool.not_true, Bool.not_false, decide_true, decide_false, o_add, o_sub, o_neg, o_lt, o_le, o_gt, o_ge, o_eq, o_ne, o_isN, o_notN, isNon_non, isNon_int, isNon_tup, isNon_lst, o_idxL, o_idxT, o_lenL, o_lenT, o_lenS, o_listL, o_listT, o_tupleL, o_tupleT, o_int, o_intb, o_max2, o_min2, o_slL, o_slT, atD_0, atD_1, atD_2, atD_3, atD_4, atD_5, range_4, range_3, range_2, ev_iseq]) (by omega) (fun r hr => by
                  have := renamed_ok (r := r) (old := v) (new := u) (by rw [l2 r (List.mem_cons_of_mem _ hr)]; omega)
                  simp only [ev_seq, ev_set, ev_op1, ev_op2, ev_call, ev_cons, ev_nil, ev_c, ev_var, ev_tup, ev_lst, ev_cb, ev_fz, ev_lend, ev_and, ev_or, ev_not, ev_chain, ev_if, ev_bm, ev_get2, ev_ixO, ev_sl, ev_some, ev_none, ev_tval, ev_tand, ev_tor, ev_tnot, ev_irange1, ev_irange2, ev_sif, ev_next, ev_ret, ev_retO, ev_raise, ev_app, ev_put, ev_dput, ev_for, ev_while, ev_pub, pub_cons, pub_nil, ev_drop, ev_dnew, res_nx, res_rt, res_xc, R.bind_ok, R.bind_xc, R.out_ok, R.out_xc, Out.bind_nx, Out.bind_rt, Out.bind_xc, Sl.d_va, Sl.d_ow, Sl.frz_va, Sl.frz_ow, Sl.frz_no, List.getElem?_cons_succ, List.getElem?_cons_zero, List.set_cons_succ, List.set_cons_zero, List.length_cons, List.length_nil, List.map_cons, List.map_nil, lim_val, Nat.zero_le, Nat.reduceAdd, Nat.reduceLeDiff, Nat.reduceEqDiff, reduceIte, Nat.zero_add, if_true, if_false, Bool.false_eq_true, Bool.not_true, Bool.not_false, decide_true, decide_false, o_add, o_sub, o_neg, o_lt, o_le, o_gt, o_ge, o_eq, o_ne, o_isN, o_notN, isNon_non, isNon_int, isNon_tup, isNon_lst, o_idxL, o_idxT, o_lenL, o_lenT, o_lenS, o_listL, o_listT, o_tupleL, o_tupleT, o_int, o_intb, o_max2, o_min2, o_slL, o_slT, atD_0, atD_1, atD_2, atD_3, atD_4, atD_5, range_4, range_3, range_2, wipe_cons, wipe_nil, this])
              rw [encR_ren] at c2
              refine ⟨[.va a, .va (.int rg), .va b, .va (.lst (encRs (rows.map fun r => r.map (ren v u)))), .va (.lst (encRs (left.map fun r => r.map (ren v u)))), .va (encR [u, v]), y, z], ?_, m, Nat.le_refl _, _, _, rg, _, _, _, rfl, by rw [List.length_map]; exact hm', hj2, fun r hr => ?_, fun q hq => ?_, by rw [List.length_map]; exact hrl, by omega⟩
              · unfold B_joined_1
                simp only [ev_seq, ev_set, ev_op1, ev_op2, ev_call, ev_cons, ev_nil, ev_c, ev_var, ev_tup, ev_lst, ev_cb, ev_fz, ev_lend, ev_and, ev_or, ev_not, ev_chain, ev_if, ev_bm, ev_get2, ev_ixO, ev_sl, ev_some, ev_none, ev_tval, ev_tand, ev_tor, ev_tnot, ev_irange1, ev_irange2, ev_sif, ev_next, ev_ret, ev_retO, ev_raise, ev_app, ev_put, ev_dput, ev_for, ev_while, ev_pub, pub_cons, pub_nil, ev_drop, ev_dnew, res_nx, res_rt, res_xc, R.bind_ok, R.bind_xc, R.out_ok, R.out_xc, Out.bind_nx, Out.bind_rt, Out.bind_xc, Sl.d_va, Sl.d_ow, Sl.frz_va, Sl.frz_ow, Sl.frz_no, List.getElem?_cons_succ, List.getElem?_cons_zero, List.set_cons_succ, List.set_cons_zero, List.length_cons, List.length_nil, List.map_cons, List.map_nil, lim_val, Nat.zero_le, Nat.reduceAdd, Nat.reduceLeDiff, Nat.reduceEqDiff, reduceIte, Nat.zero_add, if_true, if_false, Bool.false_eq_true, Bool.not_true, Bool.not_false, decide_true, decide_false, o_add, o_sub, o_neg, o_lt, o_le, o_gt, o_ge, o_eq, o_ne, o_isN, o_notN, isNon_non, isNon_int, isNon_tup, isNon_lst, o_idxL, o_idxT, o_lenL, o_lenT, o_lenS, o_listL, o_listT, o_tupleL, o_tupleT, o_int, o_intb, o_max2, o_min2, o_slL, o_slT, atD_0, atD_1, atD_2, atD_3, atD_4, atD_5, range_4, range_3, range_2, hcut2, c, c1, c2]
              · obtain ⟨r0, h0, rfl⟩ := List.mem_map.mp hr
                rw [List.length_map]
                exact r4 r0 h0
              · obtain ⟨r0, h0, rfl⟩ := List.mem_map.mp hq
                rw [List.length_map]
                exact l2 r0 (List.mem_cons_of_mem _ h0))
    (fun e ⟨rows, left, rg, x, y, z, he, hm, hj, r4, l2, hrl, hm5⟩ => by
      subst he
      rw [List.length_eq_zero_iff.mp hm]
      simp only [ev_seq, ev_set, ev_op1, ev_op2, ev_call, ev_cons, ev_nil, ev_c, ev_var, ev_tup, ev_lst, ev_cb, ev_fz, ev_lend, ev_and, ev_or, ev_not, ev_chain, ev_if, ev_bm, ev_get2, ev_ixO, ev_sl, ev_some, ev_none, ev_tval, ev_tand, ev_tor, ev_tnot, ev_irange1, ev_irange2, ev_sif, ev_next, ev_ret, ev_retO, ev_raise, ev_app, ev_put, ev_dput, ev_for, ev_while, ev_pub, pub_cons, pub_nil, ev_drop, ev_dnew, res_nx, res_rt, res_xc, R.bind_ok, R.bind_xc, R.out_ok, R.out_xc, Out.bind_nx, Out.bind_rt, Out.bind_xc, Sl.d_va, Sl.d_ow, Sl.frz_va, Sl.frz_ow, Sl.frz_no, List.getElem?_cons_succ, List.getElem?_cons_zero, List.set_cons_succ, List.set_cons_zero, List.length_cons, List.length_nil, List.map_cons, List.map_nil, lim_val, Nat.zero_le, Nat.reduceAdd, Nat.reduceLeDiff, Nat.reduceEqDiff, reduceIte, Nat.zero_add, if_true, if_false, Bool.false_eq_true, Bool.not_true, Bool.not_false, decide_true, decide_false, o_add, o_sub, o_neg, o_lt, o_le, o_gt, o_ge, o_eq, o_ne, o_isN, o_notN, isNon_non, isNon_int, isNon_tup, isNon_lst, o_idxL, o_idxT, o_lenL, o_lenT, o_lenS, o_listL, o_listT, o_tupleL, o_tupleT, o_int, o_intb, o_max2, o_min2, o_slL, o_slT, atD_0, atD_1, atD_2, atD_3, atD_4, atD_5, range_4, range_3, range_2, List.map_nil, List.length_nil]
      rfl)
    1000 ps.length [.va a, .va (.int rings), .va b, .va (.lst (encRs rs)), .va (.lst (encRs ps)), .no, .no, .no] (by omega) ⟨rs, ps, rings, _, _, _, rfl, rfl, rfl, h4, h2, rfl, hp⟩
  obtain ⟨e, hw, rows, left, rg, x, y, z, he, hm, hj, r4, l2, hrl, _⟩ := W
  rw [List.length_eq_zero_iff.mp hm, joinL_nil] at hj
  have hn := numbered_l r4 (by omega)
  simp only [ev_seq, ev_set, ev_op1, ev_op2, ev_call, ev_cons, ev_nil, ev_c, ev_var, ev_tup, ev_lst, ev_cb, ev_fz, ev_lend, ev_and, ev_or, ev_not, ev_chain, ev_if, ev_bm, ev_get2, ev_ixO, ev_sl, ev_some, ev_none, ev_tval, ev_tand, ev_tor, ev_tnot, ev_irange1, ev_irange2, ev_sif, ev_next, ev_ret, ev_retO, ev_raise, ev_app, ev_put, ev_dput, ev_for, ev_while, ev_pub, pub_cons, pub_nil, ev_drop, ev_dnew, res_nx, res_rt, res_xc, R.bind_ok, R.bind_xc, R.out_ok, R.out_xc, Out.bind_nx, Out.bind_rt, Out.bind_xc, Sl.d_va, Sl.d_ow, Sl.frz_va, Sl.frz_ow, Sl.frz_no, List.getElem?_cons_succ, List.getElem?_cons_zero, List.set_cons_succ, List.set_cons_zero, List.length_cons, List.length_nil, List.map_cons, List.map_nil, lim_val, Nat.zero_le, Nat.reduceAdd, Nat.reduceLeDiff, Nat.reduceEqDiff, reduceIte, Nat.zero_add, if_true, if_false, Bool.false_eq_true, Bool.not_true, Bool.not_false, decide_true, decide_false, o_add, o_sub, o_neg, o_lt, o_le, o_gt, o_ge, o_eq, o_ne, o_isN, o_notN, isNon_non, isNon_int, isNon_tup, isNon_lst, o_idxL, o_idxT, o_lenL, o_lenT, o_lenS, o_listL, o_listT, o_tupleL, o_tupleT, o_int, o_intb, o_max2, o_min2, o_slL, o_slT, atD_0, atD_1, atD_2, atD_3, atD_4, atD_5, range_4, range_3, range_2, list_seq ha, list_seq hb, hw, he, hn]
  rw [← hj]
/-- the law's own joining -/
theorem rowsL_enc : ∀ rs : List (List Int), rowsL (encRs rs) = some rs
  | [] => rfl
  | r :: rs => by
    show (intsD (encR r)).bind (fun r => (rowsL (encRs rs)).map (r :: ·)) = _
    rw [rowsL_enc rs]
    show (intsOf (encI r)).bind _ = _
    rw [intsOf_enc]
    rfl
theorem rowsD_enc {d : D} {rs : List (List Int)} (h : SeqD d (encRs rs)) : rowsD d = some rs := by
  rcases h with rfl | rfl
  · exact rowsL_enc rs
  · exact rowsL_enc rs
theorem law_joined_ok {a b : D} {rs ps : List (List Int)} {rings : Int} (ha : SeqD a (encRs rs)) (hb : SeqD b (encRs ps)) (h4 : ∀ r ∈ rs, r.length = 4) (h2 : ∀ p ∈ ps, p.length = 2) (hl : rs.length ≤ 400) (hp : ps.length ≤ 400) :
    f_law_joined [a, .int rings, b] = .ok (.va (encS (numb (joinL rs ps rings).1) (joinL rs ps rings).2)) := by
  unfold f_law_joined joinedF
  simp only [rowsD_enc ha, rowsD_enc hb]
  rw [if_pos ⟨⟨by omega, by omega⟩, fun r hr => by rw [h4 r hr]; omega, h2⟩]
  obtain ⟨e1, e2⟩ := joinAll_eq rs ps rings
  obtain ⟨l1, l2⟩ := joinL_len ps.length rs ps rings rfl
  rw [e1, e2]
  have hj4 := l2 h4
  have hn := law_numbered_ok (d := .lst ((joinL rs ps rings).1.map fun r => D.lst (r.map D.int))) (rowD := fun r => D.lst (encI r)) (.inl rfl) (fun r => .inl rfl) (flat_le4 hj4 (by rw [l1]; omega)) (by rw [l1]; omega)
  rw [hn]
  rfl
/-! ### a crossing by its number; without some -/
theorem row_at_ok {rs : List (List Int)} {rings at_ : Int} (h : 0 ≤ at_ ∧ at_ < rs.length) : f_row_at [encS rs rings, .int at_] = .ok (.va (encR (rs.getD at_.toNat []))) := by
  unfold f_row_at F_row_at
  rw [fn_eq [.va (encS rs rings), .va (.int at_)] rfl]
  have h1 := h.1
  have h2 := h.2
  have hk : at_.toNat < rs.length := by omega
  have hx := row_at_k hk
  rw [Int.toNat_of_nonneg h1] at hx
  rw [getD_eq hk]
  simp only [ev_seq, ev_set, ev_op1, ev_op2, ev_call, ev_cons, ev_nil, ev_c, ev_var, ev_tup, ev_lst, ev_cb, ev_fz, ev_lend, ev_and, ev_or, ev_not, ev_chain, ev_if, ev_bm, ev_get2, ev_ixO, ev_sl, ev_some, ev_none, ev_tval, ev_tand, ev_tor, ev_tnot, ev_irange1, ev_irange2, ev_sif, ev_next, ev_ret, ev_retO, ev_raise, ev_app, ev_put, ev_dput, ev_for, ev_while, ev_pub, pub_cons, pub_nil, ev_drop, ev_dnew, res_nx, res_rt, res_xc, R.bind_ok, R.bind_xc, R.out_ok, R.out_xc, Out.bind_nx, Out.bind_rt, Out.bind_xc, Sl.d_va, Sl.d_ow, Sl.frz_va, Sl.frz_ow, Sl.frz_no, List.getElem?_cons_succ, List.getElem?_cons_zero, List.set_cons_succ, List.set_cons_zero, List.length_cons, List.length_nil, List.map_cons, List.map_nil, lim_val, Nat.zero_le, Nat.reduceAdd, Nat.reduceLeDiff, Nat.reduceEqDiff, reduceIte, Nat.zero_add, if_true, if_false, Bool.false_eq_true, Bool.not_true, Bool.not_false, decide_true, decide_false, o_add, o_sub, o_neg, o_lt, o_le, o_gt, o_ge, o_eq, o_ne, o_isN, o_notN, isNon_non, isNon_int, isNon_tup, isNon_lst, o_idxL, o_idxT, o_lenL, o_lenT, o_lenS, o_listL, o_listT, o_tupleL, o_tupleT, o_int, o_intb, o_max2, o_min2, o_slL, o_slT, atD_0, atD_1, atD_2, atD_3, atD_4, atD_5, range_4, range_3, range_2, List.length_map, h1, h2, hx]
theorem row_at_no {rs : List (List Int)} {rings at_ : Int} (h : ¬ (0 ≤ at_ ∧ at_ < rs.length)) : f_row_at [encS rs rings, .int at_] = .xc 2 := by
  unfold f_row_at F_row_at
  rw [fn_eq [.va (encS rs rings), .va (.int at_)] rfl]
  by_cases h1 : 0 ≤ at_
  · have h2 : ¬ (at_ < (rs.length : Int)) := fun z => h ⟨h1, z⟩
    simp only [ev_seq, ev_set, ev_op1, ev_op2, ev_call, ev_cons, ev_nil, ev_c, ev_var, ev_tup, ev_lst, ev_cb, ev_fz, ev_lend, ev_and, ev_or, ev_not, ev_chain, ev_if, ev_bm, ev_get2, ev_ixO, ev_sl, ev_some, ev_none, ev_tval, ev_tand, ev_tor, ev_tnot, ev_irange1, ev_irange2, ev_sif, ev_next, ev_ret, ev_retO, ev_raise, ev_app, ev_put, ev_dput, ev_for, ev_while, ev_pub, pub_cons, pub_nil, ev_drop, ev_dnew, res_nx, res_rt, res_xc, R.bind_ok, R.bind_xc, R.out_ok, R.out_xc, Out.bind_nx, Out.bind_rt, Out.bind_xc, Sl.d_va, Sl.d_ow, Sl.frz_va, Sl.frz_ow, Sl.frz_no, List.getElem?_cons_succ, List.getElem?_cons_zero, List.set_cons_succ, List.set_cons_zero, List.length_cons, List.length_nil, List.map_cons, List.map_nil, lim_val, Nat.zero_le, Nat.reduceAdd, Nat.reduceLeDiff, Nat.reduceEqDiff, reduceIte, Nat.zero_add, if_true, if_false, Bool.false_eq_true, Bool.not_true, Bool.not_false, decide_true, decide_false, o_add, o_sub, o_neg, o_lt, o_le, o_gt, o_ge, o_eq, o_ne, o_isN, o_notN, isNon_non, isNon_int, isNon_tup, isNon_lst, o_idxL, o_idxT, o_lenL, o_lenT, o_lenS, o_listL, o_listT, o_tupleL, o_tupleT, o_int, o_intb, o_max2, o_min2, o_slL, o_slT, atD_0, atD_1, atD_2, atD_3, atD_4, atD_5, range_4, range_3, range_2, List.length_map, h1, h2]
  · simp only [ev_seq, ev_set, ev_op1, ev_op2, ev_call, ev_cons, ev_nil, ev_c, ev_var, ev_tup, ev_lst, ev_cb, ev_fz, ev_lend, ev_and, ev_or, ev_not, ev_chain, ev_if, ev_bm, ev_get2, ev_ixO, ev_sl, ev_some, ev_none, ev_tval, ev_tand, ev_tor, ev_tnot, ev_irange1, ev_irange2, ev_sif, ev_next, ev_ret, ev_retO, ev_raise, ev_app, ev_put, ev_dput, ev_for, ev_while, ev_pub, pub_cons, pub_nil, ev_drop, ev_dnew, res_nx, res_rt, res_xc, R.bind_ok, R.bind_xc, R.out_ok, R.out_xc, Out.bind_nx, Out.bind_rt, Out.bind_xc, Sl.d_va, Sl.d_ow, Sl.frz_va, Sl.frz_ow, Sl.frz_no, List.getElem?_cons_succ, List.getElem?_cons_zero, List.set_cons_succ, List.set_cons_zero, List.length_cons, List.length_nil, List.map_cons, List.map_nil, lim_val, Nat.zero_le, Nat.reduceAdd, Nat.reduceLeDiff, Nat.reduceEqDiff, reduceIte, Nat.zero_add, if_true, if_false, Bool.false_eq_true, Bool.not_true, Bool.not_false, decide_true, decide_false, o_add, o_sub, o_neg, o_lt, o_le, o_gt, o_ge, o_eq, o_ne, o_isN, o_notN, isNon_non, isNon_int, isNon_tup, isNon_lst, o_idxL, o_idxT, o_lenL, o_lenT, o_lenS, o_listL, o_listT, o_tupleL, o_tupleT, o_int, o_intb, o_max2, o_min2, o_slL, o_slT, atD_0, atD_1, atD_2, atD_3, atD_4, atD_5, range_4, range_3, range_2, List.length_map, h1]
/-- the rows but those at some numbers -/
def wo (rs : List (List Int)) (gone : List Int) : List (List Int) := ((List.range rs.length).filter fun (k : Nat) => !decide ((k : Int) ∈ gone)).map fun k => rs.getD k []
theorem wo_four {rs : List (List Int)} {gone : List Int} (h4 : ∀ r ∈ rs, r.length = 4) : ∀ r ∈ wo rs gone, r.length = 4 := fun r hr => by
  unfold wo at hr
  obtain ⟨k, hk, rfl⟩ := List.mem_map.mp hr
  have := List.mem_range.mp (List.mem_filter.mp hk).1
  rw [getD_eq this]
  exact h4 _ (List.getElem_mem _)
theorem wo_len (rs : List (List Int)) (gone : List Int) : (wo rs gone).length ≤ rs.length := by
  unfold wo
  rw [List.length_map]
  exact Nat.le_trans (List.length_filter_le _ _) (by rw [List.length_range]; exact Nat.le_refl _)
theorem without_ok {rs : List (List Int)} {gone : List Int} (hl : rs.length ≤ 1000) : f_without [.tup (encRs rs), .lst (encI gone)] = .ok (.ow (.lst (encRs (wo rs gone)))) := by
  unfold f_without F_without
  rw [fn_eq [.va (.tup (encRs rs)), .va (.lst (encI gone)), .no] rfl]
  have hb := range_nat (n := rs.length) (by omega)
  have hc := lcf (it := iRange1 (eCB bLen (aCons (eVar 0) aNil))) (j := 2) (own := [2]) (c := tVal (eOp2 dNotIn (eVar 2) (eVar 1))) (el := eOp2 dIdx (eVar 0) (eVar 2)) (e := [.va (.tup (encRs rs)), .va (.lst (encI gone)), .no]) (enc := fun k : Nat => D.int (k : Int)) (fun k : Nat => !decide ((k : Int) ∈ gone)) (fun k => encR (rs.getD k [])) (List.range rs.length)
    (by rw [← rng_eq]; simp only [ev_seq, ev_set, ev_op1, ev_op2, ev_call, ev_cons, ev_nil, ev_c, ev_var, ev_tup, ev_lst, ev_cb, ev_fz, ev_lend, ev_and, ev_or, ev_not, ev_chain, ev_if, ev_bm, ev_get2, ev_ixO, ev_sl, ev_some, ev_none, ev_tval, ev_tand, ev_tor, ev_tnot, ev_irange1, ev_irange2, ev_sif, ev_next, ev_ret, ev_retO, ev_raise, ev_app, ev_put, ev_dput, ev_for, ev_while, ev_pub, pub_cons, pub_nil, ev_drop, ev_dnew, res_nx, res_rt, res_xc, R.bind_ok, R.bind_xc, R.out_ok, R.out_xc, Out.bind_nx, Out.bind_rt, Out.bind_xc, Sl.d_va, Sl.d_ow, Sl.frz_va, Sl.frz_ow, Sl.frz_no, List.getElem?_cons_succ, List.getElem?_cons_zero, List.set_cons_succ, List.set_cons_zero, List.length_cons, List.length_nil, List.map_cons, List.map_nil, lim_val, Nat.zero_le, Nat.reduceAdd, Nat.reduceLeDiff, Nat.reduceEqDiff, reduceIte, Nat.zero_add, if_true, if_false, Bool.false_eq_true, Bool.not_true, Bool.not_false, decide_true, decide_false, o_add, o_sub, o_neg, o_lt, o_le, o_gt, o_ge, o_eq, o_ne, o_isN, o_notN, isNon_non, isNon_int, isNon_tup, isNon_lst, o_idxL, o_idxT, o_lenL, o_lenT, o_lenS, o_listL, o_listT, o_tupleL, o_tupleT, o_int, o_intb, o_max2, o_min2, o_slL, o_slT, atD_0, atD_1, atD_2, atD_3, atD_4, atD_5, range_4, range_3, range_2, List.length_map, hb]) (by rw [List.length_range]; omega)
    (fun k hk => by simp only [ev_seq, ev_set, ev_op1, ev_op2, ev_call, ev_cons, ev_nil, ev_c, ev_var, ev_tup, ev_lst, ev_cb, ev_fz, ev_lend, ev_and, ev_or, ev_not, ev_chain, ev_if, ev_bm, ev_get2, ev_ixO, ev_sl, ev_some, ev_none, ev_tval, ev_tand, ev_tor, ev_tnot, ev_irange1, ev_irange2, ev_sif, ev_next, ev_ret, ev_retO, ev_raise, ev_app, ev_put, ev_dput, ev_for, ev_while, ev_pub, pub_cons, pub_nil, ev_drop, ev_dnew, res_nx, res_rt, res_xc, R.bind_ok, R.bind_xc, R.out_ok, R.out_xc, Out.bind_nx, Out.bind_rt, Out.bind_xc, Sl.d_va, Sl.d_ow, Sl.frz_va, Sl.frz_ow, Sl.frz_no, List.getElem?_cons_succ, List.getElem?_cons_zero, List.set_cons_succ, List.set_cons_zero, List.length_cons, List.length_nil, List.map_cons, List.map_nil, lim_val, Nat.zero_le, Nat.reduceAdd, Nat.reduceLeDiff, Nat.reduceEqDiff, reduceIte, Nat.zero_add, if_true, if_false, Bool.false_eq_true, Bool.not_true, Bool.not_false, decide_true, decide_false, o_add, o_sub, o_neg, o_lt, o_le, o_gt, o_ge, o_eq, o_ne, o_isN, o_notN, isNon_non, isNon_int, isNon_tup, isNon_lst, o_idxL, o_idxT, o_lenL, o_lenT, o_lenS, o_listL, o_listT, o_tupleL, o_tupleT, o_int, o_intb, o_max2, o_min2, o_slL, o_slT, atD_0, atD_1, atD_2, atD_3, atD_4, atD_5, range_4, range_3, range_2, wipe_cons, wipe_nil, notIn_enc])
    (fun k hk _ => by
      have hk2 := List.mem_range.mp hk
      have := row_at_k hk2
      rw [← getD_eq (d := []) hk2] at this
      simp only [ev_seq, ev_set, ev_op1, ev_op2, ev_call, ev_cons, ev_nil, ev_c, ev_var, ev_tup, ev_lst, ev_cb, ev_fz, ev_lend, ev_and, ev_or, ev_not, ev_chain, ev_if, ev_bm, ev_get2, ev_ixO, ev_sl, ev_some, ev_none, ev_tval, ev_tand, ev_tor, ev_tnot, ev_irange1, ev_irange2, ev_sif, ev_next, ev_ret, ev_retO, ev_raise, ev_app, ev_put, ev_dput, ev_for, ev_while, ev_pub, pub_cons, pub_nil, ev_drop, ev_dnew, res_nx, res_rt, res_xc, R.bind_ok, R.bind_xc, R.out_ok, R.out_xc, Out.bind_nx, Out.bind_rt, Out.bind_xc, Sl.d_va, Sl.d_ow, Sl.frz_va, Sl.frz_ow, Sl.frz_no, List.getElem?_cons_succ, List.getElem?_cons_zero, List.set_cons_succ, List.set_cons_zero, List.length_cons, List.length_nil, List.map_cons, List.map_nil, lim_val, Nat.zero_le, Nat.reduceAdd, Nat.reduceLeDiff, Nat.reduceEqDiff, reduceIte, Nat.zero_add, if_true, if_false, Bool.false_eq_true, Bool.not_true, Bool.not_false, decide_true, decide_false, o_add, o_sub, o_neg, o_lt, o_le, o_gt, o_ge, o_eq, o_ne, o_isN, o_notN, isNon_non, isNon_int, isNon_tup, isNon_lst, o_idxL, o_idxT, o_lenL, o_lenT, o_lenS, o_listL, o_listT, o_tupleL, o_tupleT, o_int, o_intb, o_max2, o_min2, o_slL, o_slT, atD_0, atD_1, atD_2, atD_3, atD_4, atD_5, range_4, range_3, range_2, wipe_cons, wipe_nil, this])
  have e : encRs (wo rs gone) = ((List.range rs.length).filter fun (k : Nat) => !decide ((k : Int) ∈ gone)).map fun k => encR (rs.getD k []) := List.map_map
  rw [e]
  simp only [ev_seq, ev_set, ev_op1, ev_op2, ev_call, ev_cons, ev_nil, ev_c, ev_var, ev_tup, ev_lst, ev_cb, ev_fz, ev_lend, ev_and, ev_or, ev_not, ev_chain, ev_if, ev_bm, ev_get2, ev_ixO, ev_sl, ev_some, ev_none, ev_tval, ev_tand, ev_tor, ev_tnot, ev_irange1, ev_irange2, ev_sif, ev_next, ev_ret, ev_retO, ev_raise, ev_app, ev_put, ev_dput, ev_for, ev_while, ev_pub, pub_cons, pub_nil, ev_drop, ev_dnew, res_nx, res_rt, res_xc, R.bind_ok, R.bind_xc, R.out_ok, R.out_xc, Out.bind_nx, Out.bind_rt, Out.bind_xc, Sl.d_va, Sl.d_ow, Sl.frz_va, Sl.frz_ow, Sl.frz_no, List.getElem?_cons_succ, List.getElem?_cons_zero, List.set_cons_succ, List.set_cons_zero, List.length_cons, List.length_nil, List.map_cons, List.map_nil, lim_val, Nat.zero_le, Nat.reduceAdd, Nat.reduceLeDiff, Nat.reduceEqDiff, reduceIte, Nat.zero_add, if_true, if_false, Bool.false_eq_true, Bool.not_true, Bool.not_false, decide_true, decide_false, o_add, o_sub, o_neg, o_lt, o_le, o_gt, o_ge, o_eq, o_ne, o_isN, o_notN, isNon_non, isNon_int, isNon_tup, isNon_lst, o_idxL, o_idxT, o_lenL, o_lenT, o_lenS, o_listL, o_listT, o_tupleL, o_tupleT, o_int, o_intb, o_max2, o_min2, o_slL, o_slT, atD_0, atD_1, atD_2, atD_3, atD_4, atD_5, range_4, range_3, range_2, hc]
theorem wo_one {rs : List (List Int)} {k : Nat} (hk : k < rs.length) : wo rs [(k : Int)] = rs.take k ++ rs.drop (k + 1) := by
  have hcond : ∀ i : Nat, (!decide ((i : Int) ∈ [(k : Int)])) = !decide (i = k) := fun i => by
    congr 1
    rw [Bool.eq_iff_iff]
    simp
    omega
  unfold wo
  have e : (List.range rs.length).filter (fun i : Nat => !decide ((i : Int) ∈ [(k : Int)])) = List.range k ++ (List.range (rs.length - (k + 1))).map (k + 1 + ·) := by
    have hr : List.range rs.length = List.range k ++ (k :: (List.range (rs.length - (k + 1))).map (k + 1 + ·)) := by
      have h1 : rs.length = (k + 1) + (rs.length - (k + 1)) := by omega
      conv => lhs; rw [h1, List.range_add, List.range_succ]
      rw [List.append_assoc]
      rfl
    rw [hr, List.filter_append, List.filter_cons_of_neg (by rw [hcond]; simp)]
    congr 1
    · apply List.filter_eq_self.mpr
      intro i hi
      rw [hcond]
      have := List.mem_range.mp hi
      simp
      omega
    · apply List.filter_eq_self.mpr
      intro i hi
      obtain ⟨j, _, rfl⟩ := List.mem_map.mp hi
      rw [hcond]
      simp
      omega
  rw [e, List.map_append, List.map_map]
  congr 1
  · apply List.ext_getElem
    · rw [List.length_map, List.length_range, List.length_take]; omega
    · intro i h1 h2
      rw [List.length_map, List.length_range] at h1
      rw [List.getElem_map, List.getElem_range, List.getElem_take, getD_eq (by omega)]
  · apply List.ext_getElem
    · rw [List.length_map, List.length_range, List.length_drop]
    · intro i h1 h2
      rw [List.length_map, List.length_range] at h1
      rw [List.getElem_map, List.getElem_range, List.getElem_drop]
      show rs.getD (k + 1 + i) [] = _
      exact getD_eq (by omega)
end DL
set_option maxRecDepth 100000
namespace DL
open PySem (Str)
/-! ### numbering does not see the names -/
def InjOn (f : Int → Int) (xs : List Int) : Prop := ∀ x ∈ xs, ∀ y ∈ xs, f x = f y → x = y
theorem fold_map {f : Int → Int} : ∀ (xs ns all : List Int), InjOn f all → (∀ x ∈ xs, x ∈ all) → (∀ x ∈ ns, x ∈ all) → (xs.map f).foldl fstep (ns.map f) = (xs.foldl fstep ns).map f
  | [], ns, all, _, _, _ => rfl
  | x :: xs, ns, all, hi, hx, hn => by
    rw [List.map_cons, List.foldl_cons, List.foldl_cons]
    have e : fstep (ns.map f) (f x) = (fstep ns x).map f := by
      unfold fstep
      by_cases h : x ∈ ns
      · rw [if_pos h, if_pos (List.mem_map.mpr ⟨x, h, rfl⟩)]
      · rw [if_neg h, if_neg, List.map_append]
        · rfl
        · intro m
          obtain ⟨y, hy, e⟩ := List.mem_map.mp m
          have := hi y (hn y hy) x (hx x List.mem_cons_self) e
          exact h (this ▸ hy)
    rw [e]
    refine fold_map xs _ all hi (fun y m => hx y (List.mem_cons_of_mem _ m)) fun y m => ?_
    rcases mem_fstep.mp m with z | z
    · exact hn y z
    · rw [z]; exact hx x List.mem_cons_self
theorem names_map {f : Int → Int} {xs : List Int} (hi : InjOn f xs) : names (xs.map f) = (names xs).map f := by
  have := fold_map xs [] xs hi (fun _ h => h) (fun _ h => by cases h)
  exact this
theorem idxOf_map {f : Int → Int} {x : Int} : ∀ {ns : List Int}, (∀ y ∈ ns, f y = f x → y = x) → (ns.map f).idxOf (f x) = ns.idxOf x
  | [], _ => rfl
  | n :: ns, h => by
    rw [List.map_cons, List.idxOf_cons, List.idxOf_cons]
    by_cases e : n = x
    · subst e
      simp
    · have e2 : ¬ (f n = f x) := fun z => e (h n List.mem_cons_self z)
      have h1 : (f n == f x) = false := by simpa using e2
      have h2 : (n == x) = false := by simpa using e
      rw [h1, h2]
      simp only [cond_false]
      rw [idxOf_map fun y hy => h y (List.mem_cons_of_mem _ hy)]
theorem numb_inj {f : Int → Int} {rs : List (List Int)} (hi : InjOn f rs.flatten) : numb (rs.map fun r => r.map f) = numb rs := by
  unfold numb
  have hf : (rs.map fun r => r.map f).flatten = rs.flatten.map f := by rw [List.map_flatten]
  rw [hf, names_map hi, List.map_map]
  apply List.map_congr_left
  intro r hr
  show (r.map f).map _ = _
  rw [List.map_map]
  apply List.map_congr_left
  intro x hx
  have hxm : x ∈ rs.flatten := List.mem_flatten.mpr ⟨r, hr, hx⟩
  show idx ((names rs.flatten).map f) (f x) = idx (names rs.flatten) x
  unfold idx
  rw [idxOf_map fun y hy e => hi y (names_mem.mp hy) x hxm e]
theorem idx_injOn (xs : List Int) : InjOn (idx (names xs)) xs := fun x hx y hy e => by
  have h1 := List.idxOf_lt_length_of_mem (names_mem.mpr hx)
  have h2 := List.idxOf_lt_length_of_mem (names_mem.mpr hy)
  have e1 : (names xs)[(names xs).idxOf x] = x := List.getElem_idxOf h1
  have e2 : (names xs)[(names xs).idxOf y] = y := List.getElem_idxOf h2
  unfold idx at e
  have e3 : (names xs).idxOf x = (names xs).idxOf y := by omega
  rw [← e1, ← e2]
  congr 1
theorem numb_numb (rs : List (List Int)) : numb (numb rs) = numb rs := numb_inj (idx_injOn rs.flatten)
theorem InjOn.sub {f : Int → Int} {xs ys : List Int} (h : InjOn f ys) (s : ∀ x ∈ xs, x ∈ ys) : InjOn f xs := fun x hx y hy e => h x (s x hx) y (s y hy) e
/-! ### curls taken out -/
/-- the first end beside which the same line stands again -/
def twin (r : List Int) : Option Nat := if r.getD 0 0 = r.getD 1 0 then some 0 else if r.getD 1 0 = r.getD 2 0 then some 1 else if r.getD 2 0 = r.getD 3 0 then some 2 else if r.getD 3 0 = r.getD 0 0 then some 3 else none
theorem curl_end_c {a b c d : Int} : (a = b → f_curl_end [encR [a, b, c, d]] = .ok (.va (.int 0))) ∧ (¬ a = b → b = c → f_curl_end [encR [a, b, c, d]] = .ok (.va (.int 1))) ∧ (¬ a = b → ¬ b = c → c = d → f_curl_end [encR [a, b, c, d]] = .ok (.va (.int 2))) ∧
    (¬ a = b → ¬ b = c → ¬ c = d → d = a → f_curl_end [encR [a, b, c, d]] = .ok (.va (.int 3))) ∧ (¬ a = b → ¬ b = c → ¬ c = d → ¬ d = a → f_curl_end [encR [a, b, c, d]] = .ok (.va .non)) := by
  have m1 : dMod (.int 1) (.int 4) = .ok (.va (.int 1)) := o_mod (by decide)
  have m2 : dMod (.int 2) (.int 4) = .ok (.va (.int 2)) := o_mod (by decide)
  have m3 : dMod (.int 3) (.int 4) = .ok (.va (.int 3)) := o_mod (by decide)
  have m4 : dMod (.int 4) (.int 4) = .ok (.va (.int 0)) := o_mod (by decide)
  have q1 : (0 : Int) + 1 = 1 := rfl
  have q2 : (1 : Int) + 1 = 2 := rfl
  have q3 : (2 : Int) + 1 = 3 := rfl
  have q4 : (3 : Int) + 1 = 4 := rfl
  unfold f_curl_end F_curl_end
  rw [fn_eq [.va (encR [a, b, c, d]), .no] rfl]
  refine ⟨fun h0 => ?_, fun h0 h1 => ?_, fun h0 h1 h2 => ?_, fun h0 h1 h2 h3 => ?_, fun h0 h1 h2 h3 => ?_⟩
  · subst h0
    simp only [ev_seq, ev_set, ev_op1, ev_op2, ev_call, ev_cons, ev_nil, ev_c, ev_var, ev_tup, ev_lst, ev_cb, ev_fz, ev_lend, ev_and, ev_or, ev_not, ev_chain, ev_if, ev_bm, ev_get2, ev_ixO, ev_sl, ev_some, ev_none, ev_tval, ev_tand, ev_tor, ev_tnot, ev_irange1, ev_irange2, ev_sif, ev_next, ev_ret, ev_retO, ev_raise, ev_app, ev_put, ev_dput, ev_for, ev_while, ev_pub, pub_cons, pub_nil, ev_drop, ev_dnew, res_nx, res_rt, res_xc, R.bind_ok, R.bind_xc, R.out_ok, R.out_xc, Out.bind_nx, Out.bind_rt, Out.bind_xc, Sl.d_va, Sl.d_ow, Sl.frz_va, Sl.frz_ow, Sl.frz_no, List.getElem?_cons_succ, List.getElem?_cons_zero, List.set_cons_succ, List.set_cons_zero, List.length_cons, List.length_nil, List.map_cons, List.map_nil, lim_val, Nat.zero_le, Nat.reduceAdd, Nat.reduceLeDiff, Nat.reduceEqDiff, reduceIte, Nat.zero_add, if_true, if_false, Bool.false_eq_true, Bool.not_true, Bool.not_false, decide_true, decide_false, o_add, o_sub, o_neg, o_lt, o_le, o_gt, o_ge, o_eq, o_ne, o_isN, o_notN, isNon_non, isNon_int, isNon_tup, isNon_lst, o_idxL, o_idxT, o_lenL, o_lenT, o_lenS, o_listL, o_listT, o_tupleL, o_tupleT, o_int, o_intb, o_max2, o_min2, o_slL, o_slT, atD_0, atD_1, atD_2, atD_3, atD_4, atD_5, range_4, range_3, range_2, forD, B_curl_end_1, q1, q2, q3, q4, m1, eq_self]
  · subst h1
    simp only [ev_seq, ev_set, ev_op1, ev_op2, ev_call, ev_cons, ev_nil, ev_c, ev_var, ev_tup, ev_lst, ev_cb, ev_fz, ev_lend, ev_and, ev_or, ev_not, ev_chain, ev_if, ev_bm, ev_get2, ev_ixO, ev_sl, ev_some, ev_none, ev_tval, ev_tand, ev_tor, ev_tnot, ev_irange1, ev_irange2, ev_sif, ev_next, ev_ret, ev_retO, ev_raise, ev_app, ev_put, ev_dput, ev_for, ev_while, ev_pub, pub_cons, pub_nil, ev_drop, ev_dnew, res_nx, res_rt, res_xc, R.bind_ok, R.bind_xc, R.out_ok, R.out_xc, Out.bind_nx, Out.bind_rt, Out.bind_xc, Sl.d_va, Sl.d_ow, Sl.frz_va, Sl.frz_ow, Sl.frz_no, List.getElem?_cons_succ, List.getElem?_cons_zero, List.set_cons_succ, List.set_cons_zero, List.length_cons, List.length_nil, List.map_cons, List.map_nil, lim_val, Nat.zero_le, Nat.reduceAdd, Nat.reduceLeDiff, Nat.reduceEqDiff, reduceIte, Nat.zero_add, if_true, if_false, Bool.false_eq_true, Bool.not_true, Bool.not_false, decide_true, decide_false, o_add, o_sub, o_neg, o_lt, o_le, o_gt, o_ge, o_eq, o_ne, o_isN, o_notN, isNon_non, isNon_int, isNon_tup, isNon_lst, o_idxL, o_idxT, o_lenL, o_lenT, o_lenS, o_listL, o_listT, o_tupleL, o_tupleT, o_int, o_intb, o_max2, o_min2, o_slL, o_slT, atD_0, atD_1, atD_2, atD_3, atD_4, atD_5, range_4, range_3, range_2, forD, B_curl_end_1, q1, q2, q3, q4, m1, m2, h0, eq_self]
  · subst h2
    simp only [ev_seq, ev_set, ev_op1, ev_op2, ev_call, ev_cons, ev_nil, ev_c, ev_var, ev_tup, ev_lst, ev_cb, ev_fz, ev_lend, ev_and, ev_or, ev_not, ev_chain, ev_if, ev_bm, ev_get2, ev_ixO, ev_sl, ev_some, ev_none, ev_tval, ev_tand, ev_tor, ev_tnot, ev_irange1, ev_irange2, ev_sif, ev_next, ev_ret, ev_retO, ev_raise, ev_app, ev_put, ev_dput, ev_for, ev_while, ev_pub, pub_cons, pub_nil, ev_drop, ev_dnew, res_nx, res_rt, res_xc, R.bind_ok, R.bind_xc, R.out_ok, R.out_xc, Out.bind_nx, Out.bind_rt, Out.bind_xc, Sl.d_va, Sl.d_ow, Sl.frz_va, Sl.frz_ow, Sl.frz_no, List.getElem?_cons_succ, List.getElem?_cons_zero, List.set_cons_succ, List.set_cons_zero, List.length_cons, List.length_nil, List.map_cons, List.map_nil, lim_val, Nat.zero_le, Nat.reduceAdd, Nat.reduceLeDiff, Nat.reduceEqDiff, reduceIte, Nat.zero_add, if_true, if_false, Bool.false_eq_true, Bool.not_true, Bool.not_false, decide_true, decide_false, o_add, o_sub, o_neg, o_lt, o_le, o_gt, o_ge, o_eq, o_ne, o_isN, o_notN, isNon_non, isNon_int, isNon_tup, isNon_lst, o_idxL, o_idxT, o_lenL, o_lenT, o_lenS, o_listL, o_listT, o_tupleL, o_tupleT, o_int, o_intb, o_max2, o_min2, o_slL, o_slT, atD_0, atD_1, atD_2, atD_3, atD_4, atD_5, range_4, range_3, range_2, forD, B_curl_end_1, q1, q2, q3, q4, m1, m2, m3, h0, h1, eq_self]
  · subst h3
    simp only [ev_seq, ev_set, ev_op1, ev_op2, ev_call, ev_cons, ev_nil, ev_c, ev_var, ev_tup, ev_lst, ev_cb, ev_fz, ev_lend, ev_and, ev_or, ev_not, ev_chain, ev_if, ev_bm, ev_get2, ev_ixO, ev_sl, ev_some, ev_none, ev_tval, ev_tand, ev_tor, ev_tnot, ev_irange1, ev_irange2, ev_sif, ev_next, ev_ret, ev_retO, ev_raise, ev_app, ev_put, ev_dput, ev_for, ev_while, ev_pub, pub_cons, pub_nil, ev_drop, ev_dnew, res_nx, res_rt, res_xc, R.bind_ok, R.bind_xc, R.out_ok, R.out_xc, Out.bind_nx, Out.bind_rt, Out.bind_xc, Sl.d_va, Sl.d_ow, Sl.frz_va, Sl.frz_ow, Sl.frz_no, List.getElem?_cons_succ, List.getElem?_cons_zero, List.set_cons_succ, List.set_cons_zero, List.length_cons, List.length_nil, List.map_cons, List.map_nil, lim_val, Nat.zero_le, Nat.reduceAdd, Nat.reduceLeDiff, Nat.reduceEqDiff, reduceIte, Nat.zero_add, if_true, if_false, Bool.false_eq_true, Bool.not_true, Bool.not_false, decide_true, decide_false, o_add, o_sub, o_neg, o_lt, o_le, o_gt, o_ge, o_eq, o_ne, o_isN, o_notN, isNon_non, isNon_int, isNon_tup, isNon_lst, o_idxL, o_idxT, o_lenL, o_lenT, o_lenS, o_listL, o_listT, o_tupleL, o_tupleT, o_int, o_intb, o_max2, o_min2, o_slL, o_slT, atD_0, atD_1, atD_2, atD_3, atD_4, atD_5, range_4, range_3, range_2, forD, B_curl_end_1, q1, q2, q3, q4, m1, m2, m3, m4, h0, h1, h2, eq_self]
  · simp only [ev_seq, ev_set, ev_op1, ev_op2, ev_call, ev_cons, ev_nil, ev_c, ev_var, ev_tup, ev_lst, ev_cb, ev_fz, ev_lend, ev_and, ev_or, ev_not, ev_chain, ev_if, ev_bm, ev_get2, ev_ixO, ev_sl, ev_some, ev_none, ev_tval, ev_tand, ev_tor, ev_tnot, ev_irange1, ev_irange2, ev_sif, ev_next, ev_ret, ev_retO, ev_raise, ev_app, ev_put, ev_dput, ev_for, ev_while, ev_pub, pub_cons, pub_nil, ev_drop, ev_dnew, res_nx, res_rt, res_xc, R.bind_ok, R.bind_xc, R.out_ok, R.out_xc, Out.bind_nx, Out.bind_rt, Out.bind_xc, Sl.d_va, Sl.d_ow, Sl.frz_va, Sl.frz_ow, Sl.frz_no, List.getElem?_cons_succ, List.getElem?_cons_zero, List.set_cons_succ, List.set_cons_zero, List.length_cons, List.length_nil, List.map_cons, List.map_nil, lim_val, Nat.zero_le, Nat.reduceAdd, Nat.reduceLeDiff, Nat.reduceEqDiff, reduceIte, Nat.zero_add, if_true, if_false, Bool.false_eq_true, Bool.not_true, Bool.not_false, decide_true, decide_false, o_add, o_sub, o_neg, o_lt, o_le, o_gt, o_ge, o_eq, o_ne, o_isN, o_notN, isNon_non, isNon_int, isNon_tup, isNon_lst, o_idxL, o_idxT, o_lenL, o_lenT, o_lenS, o_listL, o_listT, o_tupleL, o_tupleT, o_int, o_intb, o_max2, o_min2, o_slL, o_slT, atD_0, atD_1, atD_2, atD_3, atD_4, atD_5, range_4, range_3, range_2, forD, B_curl_end_1, q1, q2, q3, q4, m1, m2, m3, m4, h0, h1, h2, h3]
theorem curl_end_ok {r : List Int} (h : r.length = 4) : f_curl_end [encR r] = .ok (.va (match twin r with
    | some k => .int (k : Int)
    | none => .non)) := by
  obtain ⟨a, b, c, d, rfl⟩ := four_of h
  obtain ⟨t0, t1, t2, t3, t4⟩ := curl_end_c (a := a) (b := b) (c := c) (d := d)
  have g0 : [a, b, c, d].getD 0 0 = a := rfl
  have g1 : [a, b, c, d].getD 1 0 = b := rfl
  have g2 : [a, b, c, d].getD 2 0 = c := rfl
  have g3 : [a, b, c, d].getD 3 0 = d := rfl
  unfold twin
  rw [g0, g1, g2, g3]
  by_cases h0 : a = b
  · rw [t0 h0, if_pos h0]; rfl
  · by_cases h1 : b = c
    · rw [t1 h0 h1, if_neg h0, if_pos h1]; rfl
    · by_cases h2 : c = d
      · rw [t2 h0 h1 h2, if_neg h0, if_neg h1, if_pos h2]; rfl
      · by_cases h3 : d = a
        · rw [t3 h0 h1 h2 h3, if_neg h0, if_neg h1, if_neg h2, if_pos h3]; rfl
        · rw [t4 h0 h1 h2 h3, if_neg h0, if_neg h1, if_neg h2, if_neg h3]
theorem law_twin_c {a b c d : Int} : (a = b → f_law_twin [encR [a, b, c, d]] = .ok (.va (.int 0))) ∧ (¬ a = b → b = c → f_law_twin [encR [a, b, c, d]] = .ok (.va (.int 1))) ∧ (¬ a = b → ¬ b = c → c = d → f_law_twin [encR [a, b, c, d]] = .ok (.va (.int 2))) ∧
    (¬ a = b → ¬ b = c → ¬ c = d → d = a → f_law_twin [encR [a, b, c, d]] = .ok (.va (.int 3))) ∧ (¬ a = b → ¬ b = c → ¬ c = d → ¬ d = a → f_law_twin [encR [a, b, c, d]] = .ok (.va (.int (-1)))) := by
  have m1 : dMod (.int 1) (.int 4) = .ok (.va (.int 1)) := o_mod (by decide)
  have m2 : dMod (.int 2) (.int 4) = .ok (.va (.int 2)) := o_mod (by decide)
  have m3 : dMod (.int 3) (.int 4) = .ok (.va (.int 3)) := o_mod (by decide)
  have m4 : dMod (.int 4) (.int 4) = .ok (.va (.int 0)) := o_mod (by decide)
  have q1 : (0 : Int) + 1 = 1 := rfl
  have q2 : (1 : Int) + 1 = 2 := rfl
  have q3 : (2 : Int) + 1 = 3 := rfl
  have q4 : (3 : Int) + 1 = 4 := rfl
  unfold f_law_twin F_law_twin
  rw [fn_eq [.va (encR [a, b, c, d]), .no] rfl]
  refine ⟨fun h0 => ?_, fun h0 h1 => ?_, fun h0 h1 h2 => ?_, fun h0 h1 h2 h3 => ?_, fun h0 h1 h2 h3 => ?_⟩
  · subst h0
    simp only [ev_seq, ev_set, ev_op1, ev_op2, ev_call, ev_cons, ev_nil, ev_c, ev_var, ev_tup, ev_lst, ev_cb, ev_fz, ev_lend, ev_and, ev_or, ev_not, ev_chain, ev_if, ev_bm, ev_get2, ev_ixO, ev_sl, ev_some, ev_none, ev_tval, ev_tand, ev_tor, ev_tnot, ev_irange1, ev_irange2, ev_sif, ev_next, ev_ret, ev_retO, ev_raise, ev_app, ev_put, ev_dput, ev_for, ev_while, ev_pub, pub_cons, pub_nil, ev_drop, ev_dnew, res_nx, res_rt, res_xc, R.bind_ok, R.bind_xc, R.out_ok, R.out_xc, Out.bind_nx, Out.bind_rt, Out.bind_xc, Sl.d_va, Sl.d_ow, Sl.frz_va, Sl.frz_ow, Sl.frz_no, List.getElem?_cons_succ, List.getElem?_cons_zero, List.set_cons_succ, List.set_cons_zero, List.length_cons, List.length_nil, List.map_cons, List.map_nil, lim_val, Nat.zero_le, Nat.reduceAdd, Nat.reduceLeDiff, Nat.reduceEqDiff, reduceIte, Nat.zero_add, if_true, if_false, Bool.false_eq_true, Bool.not_true, Bool.not_false, decide_true, decide_false, o_add, o_sub, o_neg, o_lt, o_le, o_gt, o_ge, o_eq, o_ne, o_isN, o_notN, isNon_non, isNon_int, isNon_tup, isNon_lst, o_idxL, o_idxT, o_lenL, o_lenT, o_lenS, o_listL, o_listT, o_tupleL, o_tupleT, o_int, o_intb, o_max2, o_min2, o_slL, o_slT, atD_0, atD_1, atD_2, atD_3, atD_4, atD_5, range_4, range_3, range_2, forD, B_law_twin_1, q1, q2, q3, q4, m1, eq_self]
  · subst h1
    simp only [ev_seq, ev_set, ev_op1, ev_op2, ev_call, ev_cons, ev_nil, ev_c, ev_var, ev_tup, ev_lst, ev_cb, ev_fz, ev_lend, ev_and, ev_or, ev_not, ev_chain, ev_if, ev_bm, ev_get2, ev_ixO, ev_sl, ev_some, ev_none, ev_tval, ev_tand, ev_tor, ev_tnot, ev_irange1, ev_irange2, ev_sif, ev_next, ev_ret, ev_retO, ev_raise, ev_app, ev_put, ev_dput, ev_for, ev_while, ev_pub, pub_cons, pub_nil, ev_drop, ev_dnew, res_nx, res_rt, res_xc, R.bind_ok, R.bind_xc, R.out_ok, R.out_xc, Out.bind_nx, Out.bind_rt, Out.bind_xc, Sl.d_va, Sl.d_ow, Sl.frz_va, Sl.frz_ow, Sl.frz_no, List.getElem?_cons_succ, List.getElem?_cons_zero, List.set_cons_succ, List.set_cons_zero, List.length_cons, List.length_nil, List.map_cons, List.map_nil, lim_val, Nat.zero_le, Nat.reduceAdd, Nat.reduceLeDiff, Nat.reduceEqDiff, reduceIte, Nat.zero_add, if_true, if_false, Bool.false_eq_true, Bool.not_true, Bool.not_false, decide_true, decide_false, o_add, o_sub, o_neg, o_lt, o_le, o_gt, o_ge, o_eq, o_ne, o_isN, o_notN, isNon_non, isNon_int, isNon_tup, isNon_lst, o_idxL, o_idxT, o_lenL, o_lenT, o_lenS, o_listL, o_listT, o_tupleL, o_tupleT, o_int, o_intb, o_max2, o_min2, o_slL, o_slT, atD_0, atD_1, atD_2, atD_3, atD_4, atD_5, range_4, range_3, range_2, forD, B_law_twin_1, q1, q2, q3, q4, m1, m2, h0, eq_self]
  · subst h2
    simp only [ev_seq, ev_set, ev_op1, ev_op2, ev_call, ev_cons, ev_nil, ev_c, ev_var, ev_tup, ev_lst, ev_cb, ev_fz, ev_lend, ev_and, ev_or, ev_not, ev_chain, ev_if, ev_bm, ev_get2, ev_ixO, ev_sl, ev_some, ev_none, ev_tval, ev_tand, ev_tor, ev_tnot, ev_irange1, ev_irange2, ev_sif, ev_next, ev_ret, ev_retO, ev_raise, ev_app, ev_put, ev_dput, ev_for, ev_while, ev_pub, pub_cons, pub_nil, ev_drop, ev_dnew, res_nx, res_rt, res_xc, R.bind_ok, R.bind_xc, R.out_ok, R.out_xc, Out.bind_nx, Out.bind_rt, Out.bind_xc, Sl.d_va, Sl.d_ow, Sl.frz_va, Sl.frz_ow, Sl.frz_no, List.getElem?_cons_succ, List.getElem?_cons_zero, List.set_cons_succ, List.set_cons_zero, List.length_cons, List.length_nil, List.map_cons, List.map_nil, lim_val, Nat.zero_le, Nat.reduceAdd, Nat.reduceLeDiff, Nat.reduceEqDiff, reduceIte, Nat.zero_add, if_true, if_false, Bool.false_eq_true, Bool.not_true, Bool.not_false, decide_true, decide_false, o_add, o_sub, o_neg, o_lt, o_le, o_gt, o_ge, o_eq, o_ne, o_isN, o_notN, isNon_non, isNon_int, isNon_tup, isNon_lst, o_idxL, o_idxT, o_lenL, o_lenT, o_lenS, o_listL, o_listT, o_tupleL, o_tupleT, o_int, o_intb, o_max2, o_min2, o_slL, o_slT, atD_0, atD_1, atD_2, atD_3, atD_4, atD_5, range_4, range_3, range_2, forD, B_law_twin_1, q1, q2, q3, q4, m1, m2, m3, h0, h1, eq_self]
  · subst h3
    simp only [ev_seq, ev_set, ev_op1, ev_op2, ev_call, ev_cons, ev_nil, ev_c, ev_var, ev_tup, ev_lst, ev_cb, ev_fz, ev_lend, ev_and, ev_or, ev_not, ev_chain, ev_if, ev_bm, ev_get2, ev_ixO, ev_sl, ev_some, ev_none, ev_tval, ev_tand, ev_tor, ev_tnot, ev_irange1, ev_irange2, ev_sif, ev_next, ev_ret, ev_retO, ev_raise, ev_app, ev_put, ev_dput, ev_for, ev_while, ev_pub, pub_cons, pub_nil, ev_drop, ev_dnew, res_nx, res_rt, res_xc, R.bind_ok, R.bind_xc, R.out_ok, R.out_xc, Out.bind_nx, Out.bind_rt, Out.bind_xc, Sl.d_va, Sl.d_ow, Sl.frz_va, Sl.frz_ow, Sl.frz_no, List.getElem?_cons_succ, List.getElem?_cons_zero, List.set_cons_succ, List.set_cons_zero, List.length_cons, List.length_nil, List.map_cons, List.map_nil, lim_val, Nat.zero_le, Nat.reduceAdd, Nat.reduceLeDiff, Nat.reduceEqDiff, reduceIte, Nat.zero_add, if_true, if_false, Bool.false_eq_true, Bool.not_true, Bool.not_false, decide_true, decide_false, o_add, o_sub, o_neg, o_lt, o_le, o_gt, o_ge, o_eq, o_ne, o_isN, o_notN, isNon_non, isNon_int, isNon_tup, isNon_lst, o_idxL, o_idxT, o_lenL, o_lenT, o_lenS, o_listL, o_listT, o_tupleL, o_tupleT, o_int, o_intb, o_max2, o_min2, o_slL, o_slT, atD_0, atD_1, atD_2, atD_3, atD_4, atD_5, range_4, range_3, range_2, forD, B_law_twin_1, q1, q2, q3, q4, m1, m2, m3, m4, h0, h1, h2, eq_self]
  · simp only [ev_seq, ev_set, ev_op1, ev_op2, ev_call, ev_cons, ev_nil, ev_c, ev_var, ev_tup, ev_lst, ev_cb, ev_fz, ev_lend, ev_and, ev_or, ev_not, ev_chain, ev_if, ev_bm, ev_get2, ev_ixO, ev_sl, ev_some, ev_none, ev_tval, ev_tand, ev_tor, ev_tnot, ev_irange1, ev_irange2, ev_sif, ev_next, ev_ret, ev_retO, ev_raise, ev_app, ev_put, ev_dput, ev_for, ev_while, ev_pub, pub_cons, pub_nil, ev_drop, ev_dnew, res_nx, res_rt, res_xc, R.bind_ok, R.bind_xc, R.out_ok, R.out_xc, Out.bind_nx, Out.bind_rt, Out.bind_xc, Sl.d_va, Sl.d_ow, Sl.frz_va, Sl.frz_ow, Sl.frz_no, List.getElem?_cons_succ, List.getElem?_cons_zero, List.set_cons_succ, List.set_cons_zero, List.length_cons, List.length_nil, List.map_cons, List.map_nil, lim_val, Nat.zero_le, Nat.reduceAdd, Nat.reduceLeDiff, Nat.reduceEqDiff, reduceIte, Nat.zero_add, if_true, if_false, Bool.false_eq_true, Bool.not_true, Bool.not_false, decide_true, decide_false, o_add, o_sub, o_neg, o_lt, o_le, o_gt, o_ge, o_eq, o_ne, o_isN, o_notN, isNon_non, isNon_int, isNon_tup, isNon_lst, o_idxL, o_idxT, o_lenL, o_lenT, o_lenS, o_listL, o_listT, o_tupleL, o_tupleT, o_int, o_intb, o_max2, o_min2, o_slL, o_slT, atD_0, atD_1, atD_2, atD_3, atD_4, atD_5, range_4, range_3, range_2, forD, B_law_twin_1, q1, q2, q3, q4, m1, m2, m3, m4, h0, h1, h2, h3]
theorem law_twin_ok {r : List Int} (h : r.length = 4) : f_law_twin [encR r] = .ok (.va (match twin r with
    | some k => .int (k : Int)
    | none => (.int (-1)))) := by
  obtain ⟨a, b, c, d, rfl⟩ := four_of h
  obtain ⟨t0, t1, t2, t3, t4⟩ := law_twin_c (a := a) (b := b) (c := c) (d := d)
  have g0 : [a, b, c, d].getD 0 0 = a := rfl
  have g1 : [a, b, c, d].getD 1 0 = b := rfl
  have g2 : [a, b, c, d].getD 2 0 = c := rfl
  have g3 : [a, b, c, d].getD 3 0 = d := rfl
  unfold twin
  rw [g0, g1, g2, g3]
  by_cases h0 : a = b
  · rw [t0 h0, if_pos h0]; rfl
  · by_cases h1 : b = c
    · rw [t1 h0 h1, if_neg h0, if_pos h1]; rfl
    · by_cases h2 : c = d
      · rw [t2 h0 h1 h2, if_neg h0, if_neg h1, if_pos h2]; rfl
      · by_cases h3 : d = a
        · rw [t3 h0 h1 h2 h3, if_neg h0, if_neg h1, if_neg h2, if_pos h3]; rfl
        · rw [t4 h0 h1 h2 h3, if_neg h0, if_neg h1, if_neg h2, if_neg h3]
theorem twin_lt {r : List Int} {k : Nat} (h : twin r = some k) : k < 4 := by
  unfold twin at h
  split at h
  · cases h; omega
  · split at h
    · cases h; omega
    · split at h
      · cases h; omega
      · split at h
        · cases h; omega
        · cases h
/-- the pair that is joined where a curl goes -/
def curlP (r : List Int) (k : Nat) : List Int := [r.getD ((k + 2) % 4) 0, r.getD ((k + 3) % 4) 0]
theorem end_idx {r : List Int} (h : r.length = 4) {e : Nat} (he : e < 4) : dIdx (encR r) (.int (e : Int)) = .ok (.va (.int (r.getD e 0))) := by
  refine idx_seq (.inr rfl) ?_
  rw [atD_nat, List.getElem?_map, List.getElem?_eq_getElem (by omega), getD_eq (by omega)]
  rfl
theorem mod4 (k j : Nat) : dMod (.int ((k : Int) + (j : Int))) (.int 4) = .ok (.va (.int (((k + j) % 4 : Nat) : Int))) := by
  rw [o_mod (by decide)]
  congr 3
theorem uncurled_ok {rs : List (List Int)} {rings at_ : Int} {k : Nat} (h4 : ∀ r ∈ rs, r.length = 4) (hl : rs.length ≤ 100) (h : 0 ≤ at_ ∧ at_ < rs.length) (hk : twin (rs.getD at_.toNat []) = some k) :
    f_uncurled [encS rs rings, .int at_] = .ok (.va (encS (numb (joinL (wo rs [at_]) [curlP (rs.getD at_.toNat []) k] rings).1) (joinL (wo rs [at_]) [curlP (rs.getD at_.toNat []) k] rings).2)) := by
  unfold f_uncurled F_uncurled
  rw [fn_eq [.va (encS rs rings), .va (.int at_), .no, .no, .no] rfl]
  have hr := row_at_ok (rings := rings) h
  have hw := without_ok (rs := rs) (gone := [at_]) (by omega)
  have hw' : f_without [.tup (encRs rs), .lst [.int at_]] = _ := hw
  have hj := joined_ok (a := .lst (encRs (wo rs [at_]))) (b := .lst (encRs [curlP (rs.getD at_.toNat []) k])) (rings := rings) (.inl rfl) (.inl rfl) (wo_four h4) (fun p hp => by rw [List.mem_singleton] at hp; subst hp; rfl) (Nat.le_trans (wo_len _ _) (by omega)) (by simp)
  have hkk : at_.toNat < rs.length := by omega
  have hl4 : (rs.getD at_.toNat []).length = 4 := by rw [getD_eq hkk]; exact h4 _ (List.getElem_mem _)
  have hc := curl_end_ok hl4
  rw [hk] at hc
  have hk4 := twin_lt hk
  generalize rs.getD at_.toNat [] = row at *
  have i2 := end_idx hl4 (e := (k + 2) % 4) (Nat.mod_lt _ (by decide))
  have i3 := end_idx hl4 (e := (k + 3) % 4) (Nat.mod_lt _ (by decide))
  have m2 : dMod (.int ((k : Int) + 2)) (.int 4) = .ok (.va (.int (((k + 2) % 4 : Nat) : Int))) := mod4 k 2
  have m3 : dMod (.int ((k : Int) + 3)) (.int 4) = .ok (.va (.int (((k + 3) % 4 : Nat) : Int))) := mod4 k 3
  rw [show dIdx (encR row) = dIdx (.tup (encI row)) from rfl, o_idxT] at i2 i3
  have hj' : f_joined [.lst (encRs (wo rs [at_])), .int rings, .lst [.tup [.int (row.getD ((k + 2) % 4) 0), .int (row.getD ((k + 3) % 4) 0)]]] = _ := hj
  simp only [ev_seq, ev_set, ev_op1, ev_op2, ev_call, ev_cons, ev_nil, ev_c, ev_var, ev_tup, ev_lst, ev_cb, ev_fz, ev_lend, ev_and, ev_or, ev_not, ev_chain, ev_if, ev_bm, ev_get2, ev_ixO, ev_sl, ev_some, ev_none, ev_tval, ev_tand, ev_tor, ev_tnot, ev_irange1, ev_irange2, ev_sif, ev_next, ev_ret, ev_retO, ev_raise, ev_app, ev_put, ev_dput, ev_for, ev_while, ev_pub, pub_cons, pub_nil, ev_drop, ev_dnew, res_nx, res_rt, res_xc, R.bind_ok, R.bind_xc, R.out_ok, R.out_xc, Out.bind_nx, Out.bind_rt, Out.bind_xc, Sl.d_va, Sl.d_ow, Sl.frz_va, Sl.frz_ow, Sl.frz_no, List.getElem?_cons_succ, List.getElem?_cons_zero, List.set_cons_succ, List.set_cons_zero, List.length_cons, List.length_nil, List.map_cons, List.map_nil, lim_val, Nat.zero_le, Nat.reduceAdd, Nat.reduceLeDiff, Nat.reduceEqDiff, reduceIte, Nat.zero_add, if_true, if_false, Bool.false_eq_true, Bool.not_true, Bool.not_false, decide_true, decide_false, o_add, o_sub, o_neg, o_lt, o_le, o_gt, o_ge, o_eq, o_ne, o_isN, o_notN, isNon_non, isNon_int, isNon_tup, isNon_lst, o_idxL, o_idxT, o_lenL, o_lenT, o_lenS, o_listL, o_listT, o_tupleL, o_tupleT, o_int, o_intb, o_max2, o_min2, o_slL, o_slT, atD_0, atD_1, atD_2, atD_3, atD_4, atD_5, range_4, range_3, range_2, hr, hc, m2, m3, i2, i3, hw', hj']
theorem uncurled_place {rs : List (List Int)} {rings at_ : Int} (h : ¬ (0 ≤ at_ ∧ at_ < rs.length)) : f_uncurled [encS rs rings, .int at_] = .xc 2 := by
  unfold f_uncurled F_uncurled
  rw [fn_eq [.va (encS rs rings), .va (.int at_), .no, .no, .no] rfl]
  have hr := row_at_no (rings := rings) h
  simp only [ev_seq, ev_set, ev_op1, ev_op2, ev_call, ev_cons, ev_nil, ev_c, ev_var, ev_tup, ev_lst, ev_cb, ev_fz, ev_lend, ev_and, ev_or, ev_not, ev_chain, ev_if, ev_bm, ev_get2, ev_ixO, ev_sl, ev_some, ev_none, ev_tval, ev_tand, ev_tor, ev_tnot, ev_irange1, ev_irange2, ev_sif, ev_next, ev_ret, ev_retO, ev_raise, ev_app, ev_put, ev_dput, ev_for, ev_while, ev_pub, pub_cons, pub_nil, ev_drop, ev_dnew, res_nx, res_rt, res_xc, R.bind_ok, R.bind_xc, R.out_ok, R.out_xc, Out.bind_nx, Out.bind_rt, Out.bind_xc, Sl.d_va, Sl.d_ow, Sl.frz_va, Sl.frz_ow, Sl.frz_no, List.getElem?_cons_succ, List.getElem?_cons_zero, List.set_cons_succ, List.set_cons_zero, List.length_cons, List.length_nil, List.map_cons, List.map_nil, lim_val, Nat.zero_le, Nat.reduceAdd, Nat.reduceLeDiff, Nat.reduceEqDiff, reduceIte, Nat.zero_add, if_true, if_false, Bool.false_eq_true, Bool.not_true, Bool.not_false, decide_true, decide_false, o_add, o_sub, o_neg, o_lt, o_le, o_gt, o_ge, o_eq, o_ne, o_isN, o_notN, isNon_non, isNon_int, isNon_tup, isNon_lst, o_idxL, o_idxT, o_lenL, o_lenT, o_lenS, o_listL, o_listT, o_tupleL, o_tupleT, o_int, o_intb, o_max2, o_min2, o_slL, o_slT, atD_0, atD_1, atD_2, atD_3, atD_4, atD_5, range_4, range_3, range_2, hr]
theorem uncurled_move {rs : List (List Int)} {rings at_ : Int} (h4 : ∀ r ∈ rs, r.length = 4) (h : 0 ≤ at_ ∧ at_ < rs.length) (hk : twin (rs.getD at_.toNat []) = none) : f_uncurled [encS rs rings, .int at_] = .xc 3 := by
  unfold f_uncurled F_uncurled
  rw [fn_eq [.va (encS rs rings), .va (.int at_), .no, .no, .no] rfl]
  have hr := row_at_ok (rings := rings) h
  have hkk : at_.toNat < rs.length := by omega
  have hl4 : (rs.getD at_.toNat []).length = 4 := by rw [getD_eq hkk]; exact h4 _ (List.getElem_mem _)
  have hc := curl_end_ok hl4
  rw [hk] at hc
  simp only [ev_seq, ev_set, ev_op1, ev_op2, ev_call, ev_cons, ev_nil, ev_c, ev_var, ev_tup, ev_lst, ev_cb, ev_fz, ev_lend, ev_and, ev_or, ev_not, ev_chain, ev_if, ev_bm, ev_get2, ev_ixO, ev_sl, ev_some, ev_none, ev_tval, ev_tand, ev_tor, ev_tnot, ev_irange1, ev_irange2, ev_sif, ev_next, ev_ret, ev_retO, ev_raise, ev_app, ev_put, ev_dput, ev_for, ev_while, ev_pub, pub_cons, pub_nil, ev_drop, ev_dnew, res_nx, res_rt, res_xc, R.bind_ok, R.bind_xc, R.out_ok, R.out_xc, Out.bind_nx, Out.bind_rt, Out.bind_xc, Sl.d_va, Sl.d_ow, Sl.frz_va, Sl.frz_ow, Sl.frz_no, List.getElem?_cons_succ, List.getElem?_cons_zero, List.set_cons_succ, List.set_cons_zero, List.length_cons, List.length_nil, List.map_cons, List.map_nil, lim_val, Nat.zero_le, Nat.reduceAdd, Nat.reduceLeDiff, Nat.reduceEqDiff, reduceIte, Nat.zero_add, if_true, if_false, Bool.false_eq_true, Bool.not_true, Bool.not_false, decide_true, decide_false, o_add, o_sub, o_neg, o_lt, o_le, o_gt, o_ge, o_eq, o_ne, o_isN, o_notN, isNon_non, isNon_int, isNon_tup, isNon_lst, o_idxL, o_idxT, o_lenL, o_lenT, o_lenS, o_listL, o_listT, o_tupleL, o_tupleT, o_int, o_intb, o_max2, o_min2, o_slL, o_slT, atD_0, atD_1, atD_2, atD_3, atD_4, atD_5, range_4, range_3, range_2, hr, hc]
end DL
set_option maxRecDepth 100000
/-! MS1: sums by power -/
namespace DL
open PySem (Str)
/-- the number at power x of A^pw times the total of r rings -/
def Tp : Nat → Int → Int → Int
  | 0, pw, x => if x = pw then 1 else 0
  | r + 1, pw, x => -(Tp r (pw + 2) x) - Tp r (pw - 2) x
theorem Tp_shift (s : Int) : ∀ (r : Nat) (pw x : Int), Tp r (pw + s) (x + s) = Tp r pw x
  | 0, pw, x => by
    unfold Tp
    by_cases h : x = pw
    · rw [if_pos h, if_pos (by omega)]
    · rw [if_neg h, if_neg (by omega)]
  | r + 1, pw, x => by
    rw [Tp, Tp, show pw + s + 2 = pw + 2 + s by omega, show pw + s - 2 = pw - 2 + s by omega, Tp_shift s r, Tp_shift s r]
abbrev keysZ (l : IK) : List Int := l.map (·.1)
theorem getZ_none {l : IK} {x : Int} (h : x ∉ keysZ l) : getZ l x = 0 := by
  unfold getZ
  cases q : l.find? fun p => p.1 == x with
  | none => rfl
  | some p =>
    have h1 := List.find?_some q
    have h2 := List.mem_of_find?_eq_some q
    exact absurd (List.mem_map.mpr ⟨p, h2, by simpa using h1⟩) h
theorem any_keys {l : IK} {k : Int} : (l.any fun p => p.1 == k) = true ↔ k ∈ keysZ l := by
  rw [List.any_eq_true, List.mem_map]
  constructor
  · rintro ⟨p, h1, h2⟩
    exact ⟨p, h1, by simpa using h2⟩
  · rintro ⟨p, h1, h2⟩
    exact ⟨p, h1, by simpa using h2⟩
theorem getZ_cons (p : Int × Int) (l : IK) (x : Int) : getZ (p :: l) x = if p.1 = x then p.2 else getZ l x := by
  unfold getZ
  rw [List.find?_cons]
  by_cases h : p.1 = x
  · have : (p.1 == x) = true := by simp [h]
    rw [this, if_pos h]
    rfl
  · have : (p.1 == x) = false := by simp [h]
    rw [this, if_neg h]
theorem getZ_map {k v x : Int} : ∀ l : IK, getZ (l.map fun p => if p.1 == k then (p.1, v) else p) x = if x = k then (if k ∈ keysZ l then v else 0) else getZ l x
  | [] => by
    show (0 : Int) = if x = k then (if k ∈ [] then v else 0) else 0
    simp
  | p :: l => by
    have ih := getZ_map (k := k) (v := v) (x := x) l
    rw [List.map_cons, getZ_cons, getZ_cons, ih]
    have hk : (k ∈ keysZ (p :: l)) ↔ (k = p.1 ∨ k ∈ keysZ l) := by
      show k ∈ p.1 :: keysZ l ↔ _
      exact List.mem_cons
    by_cases h1 : p.1 = k
    · have e1 : (p.1 == k) = true := by simp [h1]
      rw [if_pos e1]
      show (if p.1 = x then v else _) = _
      have hk' : k ∈ keysZ (p :: l) := hk.mpr (.inl h1.symm)
      rw [if_pos hk']
      by_cases h2 : p.1 = x
      · rw [if_pos h2, if_pos (by omega)]
      · rw [if_neg h2, if_neg (by omega), if_neg (by omega), if_neg h2]
    · have e1 : ¬ (p.1 == k) = true := by simp [h1]
      rw [if_neg e1]
      by_cases h2 : p.1 = x
      · rw [if_pos h2, if_neg (by omega), if_pos h2]
      · rw [if_neg h2, if_neg h2]
        by_cases h3 : x = k
        · rw [if_pos h3, if_pos h3]
          by_cases h4 : k ∈ keysZ l
          · rw [if_pos h4, if_pos (hk.mpr (.inr h4))]
          · rw [if_neg h4, if_neg (fun z => by rcases hk.mp z with z | z; exact h1 z.symm; exact h4 z)]
        · rw [if_neg h3, if_neg h3]
theorem getZ_put {l : IK} {k v x : Int} : getZ (putZ l k v) x = if x = k then v else getZ l x := by
  unfold putZ
  by_cases h : (l.any fun p => p.1 == k) = true
  · rw [if_pos h, getZ_map, if_pos (any_keys.mp h)]
  · rw [if_neg h]
    have hk : k ∉ keysZ l := fun z => h (any_keys.mpr z)
    unfold getZ
    rw [List.find?_append]
    by_cases e : x = k
    · subst e
      have h0 : l.find? (fun p => p.1 == x) = none := by
        rw [List.find?_eq_none]
        intro p hp z
        exact hk (List.mem_map.mpr ⟨p, hp, by simpa using z⟩)
      rw [h0, if_pos rfl]
      simp
    · rw [if_neg e]
      have e2 : ([(k, v)] : IK).find? (fun p => p.1 == x) = none := by
        rw [List.find?_eq_none]
        intro p hp z
        rw [List.mem_singleton] at hp
        subst hp
        simp at z
        exact e z.symm
      rw [e2, Option.or_none]
theorem getZ_add {l : IK} {k z x : Int} : getZ (addZ l k z) x = getZ l x + if x = k then z else 0 := by
  unfold addZ
  rw [getZ_put]
  by_cases h : x = k
  · rw [if_pos h, if_pos h, h]
  · rw [if_neg h, if_neg h, Int.add_zero]
theorem keys_put (l : IK) (k v : Int) : keysZ (putZ l k v) = if k ∈ keysZ l then keysZ l else keysZ l ++ [k] := by
  unfold putZ
  by_cases h : (l.any fun p => p.1 == k) = true
  · rw [if_pos h, if_pos (any_keys.mp h)]
    show (l.map _).map _ = _
    rw [List.map_map]
    refine List.map_congr_left fun p _ => ?_
    show (if p.1 == k then (p.1, v) else p).1 = p.1
    split <;> rfl
  · rw [if_neg h, if_neg (fun z => h (any_keys.mpr z))]
    show (l ++ _).map _ = _
    rw [List.map_append]
    rfl
/-- no key twice, all between -N and N -/
structure Wf (l : IK) (N : Int) : Prop where
  nd : (keysZ l).Nodup
  rg : ∀ k ∈ keysZ l, -N ≤ k ∧ k ≤ N
theorem Wf.mono {l : IK} {N M : Int} (h : Wf l N) (hl : N ≤ M) : Wf l M := ⟨h.nd, fun k hk => by have := h.rg k hk; omega⟩
theorem Wf.add {l : IK} {N k z : Int} (h : Wf l N) (hk : -N ≤ k ∧ k ≤ N) : Wf (addZ l k z) N := by
  unfold addZ
  refine ⟨?_, fun x hx => ?_⟩
  · rw [keys_put]
    split
    · exact h.nd
    · rename_i q
      exact List.nodup_append.mpr ⟨h.nd, by simp, fun a ha b hb e => by
        rw [List.mem_singleton] at hb
        exact q (hb ▸ e ▸ ha)⟩
  · rw [keys_put] at hx
    split at hx
    · exact h.rg x hx
    · rcases List.mem_append.mp hx with z | z
      · exact h.rg x z
      · rw [List.mem_singleton] at z
        rw [z]
        exact hk
theorem lin_len' : ∀ (k : Nat) (j : Int), ((List.range k).map fun (i : Nat) => j + (i : Int)).length = k := fun k j => by rw [List.length_map, List.length_range]
theorem Wf.len {l : IK} {N : Int} (h : Wf l N) : (l.length : Int) ≤ 2 * N + 1 ∨ l = [] := by
  by_cases hN : 0 ≤ N
  · left
    have hs : keysZ l ⊆ (List.range (2 * N + 1).toNat).map fun (i : Nat) => -N + (i : Int) := fun k hk => by
      have := h.rg k hk
      exact List.mem_map.mpr ⟨(k + N).toNat, List.mem_range.mpr (by omega), by omega⟩
    have := List.Nodup.length_le_of_subset h.nd hs
    rw [lin_len', List.length_map] at this
    omega
  · right
    cases l with
    | nil => rfl
    | cons p l =>
      have := h.rg p.1 (by simp)
      omega
theorem Wf.len2 {l : IK} {N : Int} (h : Wf l N) (hN : 0 ≤ N) : (l.length : Int) ≤ 2 * N + 1 := by
  rcases h.len with q | q
  · exact q
  · rw [q]
    show (0 : Int) ≤ _
    omega
theorem wf_nil (N : Int) : Wf [] N := ⟨by simp, by simp⟩
/-! ### one sum added to another -/
theorem fold_wf {N M sh sg : Int} {o0 : IK} (hs : ∀ k, -M ≤ k → k ≤ M → -N ≤ k + sh ∧ k + sh ≤ N) : ∀ (o l : IK), (∀ p ∈ o, -M ≤ p.1 ∧ p.1 ≤ M) → Wf l N → Wf (o.foldl (fun f p => addZ f (p.1 + sh) (sg * getZ o0 p.1)) l) N
  | [], l, _, h => h
  | p :: o, l, ho, h => by
    rw [List.foldl_cons]
    have hp := ho p List.mem_cons_self
    exact fold_wf hs o _ (fun q hq => ho q (List.mem_cons_of_mem _ hq)) (h.add (hs p.1 hp.1 hp.2))
theorem Wf.addTo {l o : IK} {N M sh sg : Int} (h : Wf l N) (ho : Wf o M) (h1 : M + sh ≤ N) (h2 : M - sh ≤ N) : Wf (DL.addTo l o sh sg) N :=
  fold_wf (N := N) (M := M) (fun k a b => by omega) o l (fun p hp => ho.rg p.1 (List.mem_map.mpr ⟨p, hp, rfl⟩)) h
theorem fold_get {sh sg x : Int} {o0 : IK} : ∀ (o l : IK), (keysZ o).Nodup → getZ (o.foldl (fun f p => addZ f (p.1 + sh) (sg * getZ o0 p.1)) l) x = getZ l x + if x - sh ∈ keysZ o then sg * getZ o0 (x - sh) else 0
  | [], l, _ => by simp
  | p :: o, l, h => by
    have h' := List.nodup_cons.mp h
    rw [List.foldl_cons, fold_get o _ h'.2, getZ_add]
    show _ = getZ l x + if x - sh ∈ p.1 :: keysZ o then _ else 0
    by_cases e : x = p.1 + sh
    · have e1 : x - sh = p.1 := by omega
      have e2 : x - sh ∉ keysZ o := by rw [e1]; exact h'.1
      rw [if_pos e, if_neg e2, if_pos (by rw [e1]; exact List.mem_cons_self), e1, Int.add_zero]
    · have e1 : x - sh ≠ p.1 := by omega
      rw [if_neg e, Int.add_zero]
      by_cases e2 : x - sh ∈ keysZ o
      · rw [if_pos e2, if_pos (List.mem_cons_of_mem _ e2)]
      · rw [if_neg e2, if_neg (fun z => by rcases List.mem_cons.mp z with z | z; exact e1 z; exact e2 z)]
theorem getZ_addTo {l o : IK} {sh sg x : Int} (h : (keysZ o).Nodup) : getZ (DL.addTo l o sh sg) x = getZ l x + sg * getZ o (x - sh) := by
  unfold DL.addTo
  rw [fold_get o l h]
  by_cases e : x - sh ∈ keysZ o
  · rw [if_pos e]
  · rw [if_neg e, getZ_none e, Int.mul_zero]
theorem ringsD_ok : ∀ n : Nat, Wf (ringsD n) (2 * n) ∧ ∀ x, getZ (ringsD n) x = Tp n 0 x
  | 0 => by
    refine ⟨⟨by simp [ringsD], by simp [ringsD]⟩, fun x => ?_⟩
    unfold ringsD getZ Tp
    by_cases h : x = 0
    · simp [h]
    · have : ¬ (0 = x) := fun z => h z.symm
      simp [h, this]
  | n + 1 => by
    obtain ⟨w, g⟩ := ringsD_ok n
    constructor
    · unfold ringsD
      exact ((wf_nil (2 * ((n + 1 : Nat) : Int))).addTo w (by omega) (by omega)).addTo w (by omega) (by omega)
    · intro x
      unfold ringsD
      rw [getZ_addTo w.nd, getZ_addTo w.nd, g, g, Tp]
      have e1 := Tp_shift 2 n 0 (x - 2)
      have e2 := Tp_shift (-2) n 0 (x - -2)
      rw [show x - 2 + 2 = x by omega] at e1
      rw [show x - -2 + -2 = x by omega] at e2
      rw [← e1, ← e2, show (0 : Int) - 2 = 0 + -2 by omega]
      show (0 : Int) + _ + _ = _
      omega
/-! ### rows of powers and numbers -/
theorem ins_perm (x : Int) : ∀ l : List Int, (insI x l).Perm (x :: l)
  | [] => List.Perm.refl _
  | y :: l => by
    unfold insI
    split
    · exact List.Perm.refl _
    · exact ((ins_perm x l).cons y).trans (List.Perm.swap x y l)
theorem srt_perm : ∀ l : List Int, (sortI l).Perm l
  | [] => List.Perm.refl _
  | x :: l => by
    unfold sortI
    exact (ins_perm x _).trans ((srt_perm l).cons x)
theorem ins_le (x : Int) : ∀ l : List Int, l.Pairwise (· ≤ ·) → (insI x l).Pairwise (· ≤ ·)
  | [], _ => by simp [insI]
  | y :: l, h => by
    have h' := List.pairwise_cons.mp h
    unfold insI
    split
    · rename_i c
      exact List.pairwise_cons.mpr ⟨fun z hz => by
        rcases List.mem_cons.mp hz with rfl | m
        · exact c
        · exact Int.le_trans c (h'.1 z m), h⟩
    · rename_i c
      refine List.pairwise_cons.mpr ⟨fun z hz => ?_, ins_le x l h'.2⟩
      rcases List.mem_cons.mp ((ins_perm x l).mem_iff.mp hz) with rfl | m
      · omega
      · exact h'.1 z m
theorem srt_le : ∀ l : List Int, (sortI l).Pairwise (· ≤ ·)
  | [] => by simp [sortI]
  | x :: l => by
    unfold sortI
    exact ins_le x _ (srt_le l)
theorem lt_uniq : ∀ {xs ys : List Int}, xs.Pairwise (· < ·) → ys.Pairwise (· < ·) → (∀ x, x ∈ xs ↔ x ∈ ys) → xs = ys
  | [], [], _, _, _ => rfl
  | [], y :: ys, _, _, h => absurd ((h y).mpr List.mem_cons_self) (by simp)
  | x :: xs, [], _, _, h => absurd ((h x).mp List.mem_cons_self) (by simp)
  | x :: xs, y :: ys, h1, h2, h => by
    have a := List.pairwise_cons.mp h1
    have b := List.pairwise_cons.mp h2
    have e : x = y := by
      rcases List.mem_cons.mp ((h x).mp List.mem_cons_self) with e | m
      · exact e
      · rcases List.mem_cons.mp ((h y).mpr List.mem_cons_self) with e | m'
        · exact e.symm
        · have := a.1 y m'
          have := b.1 x m
          omega
    subst e
    rw [lt_uniq a.2 b.2 fun z => ?_]
    constructor
    · intro m
      rcases List.mem_cons.mp ((h z).mp (List.mem_cons_of_mem _ m)) with e | m'
      · have := a.1 z m; omega
      · exact m'
    · intro m
      rcases List.mem_cons.mp ((h z).mpr (List.mem_cons_of_mem _ m)) with e | m'
      · have := b.1 z m; omega
      · exact m'
/-- the powers, rising, that have a number -/
def powsZ (l : IK) : List Int := (sortI (keysZ l)).filter fun k => !decide (getZ l k = 0)
def rowsZ (l : IK) (sh sg : Int) : List (Int × Int) := (powsZ l).map fun k => (k + sh, sg * getZ l k)
theorem pows_lt {l : IK} (h : (keysZ l).Nodup) : (powsZ l).Pairwise (· < ·) := by
  have hn : (sortI (keysZ l)).Nodup := (srt_perm _).nodup_iff.mpr h
  have h1 := srt_le (keysZ l)
  have h2 : (sortI (keysZ l)).Pairwise (· < ·) := by
    refine (List.Pairwise.and h1 hn).imp fun {a b} q => ?_
    have := q.1
    have := q.2
    omega
  exact h2.filter _
theorem pows_mem {l : IK} {x : Int} : x ∈ powsZ l ↔ getZ l x ≠ 0 := by
  unfold powsZ
  rw [List.mem_filter, (srt_perm _).mem_iff]
  constructor
  · rintro ⟨_, h⟩
    simpa using h
  · intro h
    refine ⟨?_, by simpa using h⟩
    by_cases q : x ∈ keysZ l
    · exact q
    · exact absurd (getZ_none q) h
theorem rows_eq {l1 l2 : IK} {s1 g1 s2 g2 : Int} (h1 : (keysZ l1).Nodup) (h2 : (keysZ l2).Nodup) (hg1 : g1 ≠ 0) (hg2 : g2 ≠ 0) (h : ∀ x, g1 * getZ l1 (x - s1) = g2 * getZ l2 (x - s2)) : rowsZ l1 s1 g1 = rowsZ l2 s2 g2 := by
  have key : ∀ (l : IK) (s g : Int), rowsZ l s g = ((powsZ l).map (· + s)).map fun y => (y, g * getZ l (y - s)) := fun l s g => by
    unfold rowsZ
    rw [List.map_map]
    refine List.map_congr_left fun k _ => ?_
    show _ = (k + s, g * getZ l (k + s - s))
    rw [show k + s - s = k by omega]
  have hA : ∀ (l : IK) (s : Int), (keysZ l).Nodup → ((powsZ l).map (· + s)).Pairwise (· < ·) := fun l s hl => by
    rw [List.pairwise_map]
    exact (pows_lt hl).imp fun {a b} q => by omega
  have hm : ∀ (l : IK) (s x : Int), x ∈ (powsZ l).map (· + s) ↔ getZ l (x - s) ≠ 0 := fun l s x => by
    rw [List.mem_map]
    constructor
    · rintro ⟨k, hk, rfl⟩
      rw [show k + s - s = k by omega]
      exact pows_mem.mp hk
    · intro q
      exact ⟨x - s, pows_mem.mpr q, by omega⟩
  rw [key l1, key l2]
  have e : (powsZ l1).map (· + s1) = (powsZ l2).map (· + s2) := by
    refine lt_uniq (hA l1 s1 h1) (hA l2 s2 h2) fun x => ?_
    rw [hm, hm]
    have hx := h x
    constructor
    · intro q z
      rw [z, Int.mul_zero] at hx
      rcases Int.mul_eq_zero.mp hx with y | y
      · exact hg1 y
      · exact q y
    · intro q z
      rw [z, Int.mul_zero] at hx
      rcases Int.mul_eq_zero.mp hx.symm with y | y
      · exact hg2 y
      · exact q y
  rw [e]
  exact List.map_congr_left fun y _ => by rw [h y]
end DL
set_option maxRecDepth 100000
/-! MS2: all ways of splitting -/
namespace DL
open PySem (Str)
/-! ### choices -/
def binZ : Nat → Nat → Int
  | 0, 0 => 1
  | 0, _ + 1 => 0
  | r + 1, 0 => binZ r 0
  | r + 1, e + 1 => binZ r (e + 1) + binZ r e
theorem bin_zero : ∀ r, binZ r 0 = 1
  | 0 => rfl
  | r + 1 => by rw [binZ, bin_zero r]
theorem bin_big : ∀ r e, r < e → binZ r e = 0
  | 0, e + 1, _ => rfl
  | r + 1, e + 1, h => by rw [binZ, bin_big r (e + 1) (by omega), bin_big r e (by omega)]; rfl
theorem bin_self : ∀ r, binZ r r = 1
  | 0 => rfl
  | r + 1 => by rw [binZ, bin_big r (r + 1) (by omega), bin_self r]; rfl
def rowB (r : Nat) : List Int := (List.range (r + 1)).map fun e => binZ r e
theorem rowB_len (r : Nat) : (rowB r).length = r + 1 := by
  unfold rowB
  rw [List.length_map, List.length_range]
theorem rowB_get {r e : Nat} (h : e ≤ r) : (rowB r).getD e 0 = binZ r e := by
  unfold rowB
  rw [List.getD_eq_getElem?_getD, List.getElem?_map, List.getElem?_range (by omega)]
  rfl
theorem rowB_succ (r : Nat) : rowB (r + 1) = 1 :: ((List.range r).map fun e => binZ r e + binZ r (e + 1)) ++ [1] := by
  unfold rowB
  rw [List.range_succ_eq_map, List.map_cons, List.map_map, bin_zero, List.range_succ, List.map_append, List.cons_append]
  congr 1
  congr 1
  · refine List.map_congr_left fun e _ => ?_
    show binZ (r + 1) (e + 1) = _
    rw [binZ, Int.add_comm]
  · show [binZ (r + 1) (r + 1)] = [1]
    rw [bin_self]
/-- the first n of a row's numbers at the powers p, p - 4, .. -/
def sB (r : Nat) (p x : Int) : Nat → Int
  | 0 => 0
  | n + 1 => sB r p x n + if x = p - 4 * (n : Int) then binZ r n else 0
theorem sB_step (r : Nat) (p x : Int) : ∀ n, sB (r + 1) p x (n + 1) = sB r p x (n + 1) + sB r (p - 4) x n
  | 0 => by
    rw [sB, sB, sB, sB, sB]
    simp only [bin_zero]
    omega
  | n + 1 => by
    have a : sB (r + 1) p x (n + 1 + 1) = sB (r + 1) p x (n + 1) + if x = p - 4 * ((n + 1 : Nat) : Int) then binZ (r + 1) (n + 1) else 0 := rfl
    have b : sB r p x (n + 1 + 1) = sB r p x (n + 1) + if x = p - 4 * ((n + 1 : Nat) : Int) then binZ r (n + 1) else 0 := rfl
    have c : sB r (p - 4) x (n + 1) = sB r (p - 4) x n + if x = p - 4 - 4 * (n : Int) then binZ r n else 0 := rfl
    have ih := sB_step r p x n
    have e1 : (x = p - 4 - 4 * (n : Int)) ↔ (x = p - 4 * ((n + 1 : Nat) : Int)) := by omega
    rw [a, b, c, ih]
    simp only [e1, binZ]
    split <;> omega
theorem sB_T : ∀ (r : Nat) (pw x : Int), Tp r pw x = (1 - 2 * ((r : Int) % 2)) * sB r (pw + 2 * (r : Int)) x (r + 1)
  | 0, pw, x => by
    unfold Tp
    rw [sB, sB]
    simp only [binZ]
    by_cases h : x = pw
    · simp [h]
    · simp [h]
  | r + 1, pw, x => by
    rw [Tp, sB_T r, sB_T r, sB_step]
    have h0 : sB r (pw + 2 * ((r + 1 : Nat) : Int)) x (r + 1 + 1) = sB r (pw + 2 * ((r + 1 : Nat) : Int)) x (r + 1) := by
      rw [sB, bin_big r (r + 1) (by omega)]
      simp
    rw [h0, show pw + 2 + 2 * (r : Int) = pw + 2 * ((r + 1 : Nat) : Int) by omega, show pw - 2 + 2 * (r : Int) = pw + 2 * ((r + 1 : Nat) : Int) - 4 by omega]
    generalize sB r (pw + 2 * ((r + 1 : Nat) : Int)) x (r + 1) = a
    generalize sB r (pw + 2 * ((r + 1 : Nat) : Int) - 4) x (r + 1) = b
    have h2 : (r : Int) % 2 = 0 ∨ (r : Int) % 2 = 1 := by omega
    rcases h2 with h2 | h2
    · rw [h2, show ((r + 1 : Nat) : Int) % 2 = 1 by omega]
      omega
    · rw [h2, show ((r + 1 : Nat) : Int) % 2 = 0 by omega]
      omega
/-- a law's own adding, the row being the choices -/
def addC (l : IK) (pw : Int) (r : Nat) : IK := (List.range (rowB r).length).foldl (fun f (e : Nat) => addZ f (pw + 2 * (r : Int) - 4 * (e : Int)) ((rowB r).getD e 0 * (1 - 2 * ((r : Int) % 2)))) l
theorem addC_ok {l : IK} {pw N : Int} {r : Nat} (h : Wf l N) (h1 : pw + 2 * (r : Int) ≤ N) (h2 : 2 * (r : Int) - pw ≤ N) : Wf (addC l pw r) N ∧ ∀ x, getZ (addC l pw r) x = getZ l x + Tp r pw x := by
  have key : ∀ n, n ≤ r + 1 → Wf ((List.range n).foldl (fun f (e : Nat) => addZ f (pw + 2 * (r : Int) - 4 * (e : Int)) ((rowB r).getD e 0 * (1 - 2 * ((r : Int) % 2)))) l) N ∧
      ∀ x, getZ ((List.range n).foldl (fun f (e : Nat) => addZ f (pw + 2 * (r : Int) - 4 * (e : Int)) ((rowB r).getD e 0 * (1 - 2 * ((r : Int) % 2)))) l) x = getZ l x + (1 - 2 * ((r : Int) % 2)) * sB r (pw + 2 * (r : Int)) x n := by
    intro n
    induction n with
    | zero => exact fun _ => ⟨h, fun x => by rw [sB]; simp⟩
    | succ n ih =>
      intro hn
      obtain ⟨i1, i2⟩ := ih (by omega)
      rw [List.range_succ, List.foldl_append]
      refine ⟨i1.add (by omega), fun x => ?_⟩
      show getZ (addZ _ _ _) x = _
      rw [getZ_add, i2, sB, rowB_get (by omega), Int.mul_add, Int.add_assoc]
      congr 2
      split
      · rw [Int.mul_comm]
      · rw [Int.mul_zero]
  obtain ⟨k1, k2⟩ := key (r + 1) (Nat.le_refl _)
  unfold addC
  rw [rowB_len]
  exact ⟨k1, fun x => by rw [k2, sB_T]⟩
/-! ### ways -/
def waysL : Nat → List (List Int)
  | 0 => [[]]
  | m + 1 => (waysL m).map (· ++ [0]) ++ (waysL m).map (· ++ [1])
theorem waysL_len : ∀ m, (waysL m).length = 2 ^ m
  | 0 => rfl
  | m + 1 => by
    rw [waysL, List.length_append, List.length_map, List.length_map, waysL_len m]
    omega
theorem waysL_mem : ∀ (m : Nat), ∀ w ∈ waysL m, w.length = m ∧ (∀ x ∈ w, x = 0 ∨ x = 1)
  | 0, w, h => by
    rw [waysL, List.mem_singleton] at h
    subst h
    exact ⟨rfl, by simp⟩
  | m + 1, w, h => by
    rw [waysL, List.mem_append, List.mem_map, List.mem_map] at h
    rcases h with ⟨v, hv, rfl⟩ | ⟨v, hv, rfl⟩
    · obtain ⟨a, b⟩ := waysL_mem m v hv
      exact ⟨by rw [List.length_append, a]; rfl, fun x hx => by
        rcases List.mem_append.mp hx with z | z
        · exact b x z
        · rw [List.mem_singleton] at z; exact .inl z⟩
    · obtain ⟨a, b⟩ := waysL_mem m v hv
      exact ⟨by rw [List.length_append, a]; rfl, fun x hx => by
        rcases List.mem_append.mp hx with z | z
        · exact b x z
        · rw [List.mem_singleton] at z; exact .inr z⟩
def sumW : Nat → (List Int → Int) → Int
  | 0, F => F []
  | m + 1, F => sumW m (fun w => F (w ++ [0])) + sumW m (fun w => F (w ++ [1]))
def sumH : Nat → (List Int → Int) → Int
  | 0, F => F []
  | m + 1, F => sumH m (fun w => F (0 :: w)) + sumH m (fun w => F (1 :: w))
theorem sumH_snoc : ∀ (m : Nat) (F : List Int → Int), sumH (m + 1) F = sumH m (fun w => F (w ++ [0])) + sumH m (fun w => F (w ++ [1]))
  | 0, F => rfl
  | m + 1, F => by
    rw [sumH, sumH_snoc m, sumH_snoc m, sumH, sumH]
    simp only [List.cons_append]
    omega
theorem sumW_H : ∀ (m : Nat) (F : List Int → Int), sumW m F = sumH m F
  | 0, F => rfl
  | m + 1, F => by rw [sumW, sumW_H m, sumW_H m, ← sumH_snoc]
theorem ways_sum : ∀ (m : Nat) (F : List Int → Int), ((waysL m).map F).sum = sumW m F
  | 0, F => by simp [waysL, sumW]
  | m + 1, F => by
    rw [waysL, List.map_append, List.map_map, List.map_map, List.sum_append, sumW, ← ways_sum m, ← ways_sum m]
    rfl
theorem sumH_congr : ∀ (m : Nat) {F G : List Int → Int}, (∀ w, w.length = m → (∀ x ∈ w, x = 0 ∨ x = 1) → F w = G w) → sumH m F = sumH m G
  | 0, F, G, h => h [] rfl (by simp)
  | m + 1, F, G, h => by
    rw [sumH, sumH]
    congr 1
    · exact sumH_congr m fun w hw hx => h _ (by simp [hw]) (by
        intro x hm
        rcases List.mem_cons.mp hm with z | z
        · exact .inl z
        · exact hx x z)
    · exact sumH_congr m fun w hw hx => h _ (by simp [hw]) (by
        intro x hm
        rcases List.mem_cons.mp hm with z | z
        · exact .inr z
        · exact hx x z)
/-! ### the pairs of a way -/
def prs (r : List Int) (w : Int) : List (List Int) := if w = 0 then [[r.getD 0 0, r.getD 1 0], [r.getD 2 0, r.getD 3 0]] else [[r.getD 0 0, r.getD 3 0], [r.getD 1 0, r.getD 2 0]]
def pairsW : List (List Int) → List Int → List (List Int)
  | r :: rs, w :: ws => prs r w ++ pairsW rs ws
  | _, _ => []
theorem prs_ok (r : List Int) (w : Int) : (prs r w).length = 2 ∧ ∀ p ∈ prs r w, p.length = 2 := by
  unfold prs
  split
  · exact ⟨rfl, fun p hp => by simp only [List.mem_cons, List.not_mem_nil, or_false] at hp; rcases hp with rfl | rfl <;> rfl⟩
  · exact ⟨rfl, fun p hp => by simp only [List.mem_cons, List.not_mem_nil, or_false] at hp; rcases hp with rfl | rfl <;> rfl⟩
theorem pairsW_two : ∀ (rs : List (List Int)) (w : List Int), ∀ p ∈ pairsW rs w, p.length = 2
  | [], w, p, h => by cases w <;> cases h
  | r :: rs, [], p, h => by cases h
  | r :: rs, w :: ws, p, h => by
    rw [pairsW] at h
    rcases List.mem_append.mp h with z | z
    · exact (prs_ok r w).2 p z
    · exact pairsW_two rs ws p z
theorem pairsW_len : ∀ (rs : List (List Int)) (w : List Int), rs.length = w.length → (pairsW rs w).length = 2 * rs.length
  | [], [], _ => rfl
  | r :: rs, w :: ws, h => by
    rw [pairsW, List.length_append, (prs_ok r w).1, pairsW_len rs ws (by simpa using h), List.length_cons]
    omega
theorem getD_map4 {r : List Int} {f : Int → Int} (h : r.length = 4) {k : Nat} (hk : k < 4) : (r.map f).getD k 0 = f (r.getD k 0) := by
  obtain ⟨a, b, c, d, rfl⟩ := four_of h
  match k, hk with
  | 0, _ => rfl
  | 1, _ => rfl
  | 2, _ => rfl
  | 3, _ => rfl
theorem prs_map {r : List Int} (f : Int → Int) (h : r.length = 4) (w : Int) : prs (r.map f) w = (prs r w).map fun p => p.map f := by
  unfold prs
  rw [getD_map4 h (by decide), getD_map4 h (by decide), getD_map4 h (by decide), getD_map4 h (by decide)]
  split <;> rfl
theorem pairsW_map (f : Int → Int) : ∀ (rs : List (List Int)) (w : List Int), (∀ r ∈ rs, r.length = 4) → pairsW (rs.map fun r => r.map f) w = (pairsW rs w).map fun p => p.map f
  | [], w, _ => by cases w <;> rfl
  | r :: rs, [], _ => rfl
  | r :: rs, w :: ws, h => by
    rw [List.map_cons, pairsW, pairsW, prs_map f (h r List.mem_cons_self), pairsW_map f rs ws fun r m => h r (List.mem_cons_of_mem _ m), List.map_append]
theorem rng_cons (p : List Int) (ps : List (List Int)) : rngL (p :: ps) = (if p.getD 0 0 = p.getD 1 0 then 1 else 0) + rngL (ps.map fun r => r.map (ren (p.getD 1 0) (p.getD 0 0))) := by
  rw [rngL]
theorem rng_nil : rngL [] = 0 := by rw [rngL]
/-- names changed, one to one -/
theorem rng_inj : ∀ (n : Nat) (ps : List (List Int)) (f : Int → Int), ps.length = n → (∀ p ∈ ps, p.length = 2) → (∀ x ∈ ps.flatten, ∀ y ∈ ps.flatten, f x = f y → x = y) → rngL (ps.map fun p => p.map f) = rngL ps
  | 0, ps, f, hn, _, _ => by
    rw [List.length_eq_zero_iff.mp hn]
    rfl
  | n + 1, p :: ps, f, hn, h2, hf => by
    have hn' : ps.length = n := by simpa using hn
    have hp := h2 p List.mem_cons_self
    match p, hp with
    | [a, b], _ =>
      rw [List.map_cons, rng_cons, rng_cons]
      simp only [List.map_cons, List.map_nil, List.getD_cons_zero, List.getD_cons_succ]
      have ha : a ∈ ([a, b] :: ps).flatten := by simp
      have hb : b ∈ ([a, b] :: ps).flatten := by simp
      have hab : (f a = f b) ↔ (a = b) := ⟨hf a ha b hb, fun e => by rw [e]⟩
      have hin : ∀ x ∈ ps.flatten, x ∈ ([a, b] :: ps).flatten := fun x hx => by
        rw [List.flatten_cons]
        exact List.mem_append_right _ hx
      have e1 : ((ps.map fun p => p.map f).map fun r => r.map (ren (f b) (f a))) = ((ps.map fun r => r.map (ren b a)).map fun p => p.map f) := by
        rw [List.map_map, List.map_map]
        refine List.map_congr_left fun q hq => ?_
        show (q.map f).map _ = (q.map _).map f
        rw [List.map_map, List.map_map]
        refine List.map_congr_left fun x hx => ?_
        show ren (f b) (f a) (f x) = f (ren b a x)
        have hx' := hin x (List.mem_flatten.mpr ⟨q, hq, hx⟩)
        unfold ren
        by_cases e : x = b
        · rw [if_pos e, if_pos (by rw [e])]
        · rw [if_neg e, if_neg (fun z => e (hf x hx' b hb z))]
      rw [e1, rng_inj n (ps.map fun r => r.map (ren b a)) f (by rw [List.length_map]; exact hn') (fun q hq => by
        obtain ⟨q0, h0, rfl⟩ := List.mem_map.mp hq
        rw [List.length_map]
        exact h2 q0 (List.mem_cons_of_mem _ h0)) (fun x hx y hy => ?_)]
      · by_cases e : a = b
        · rw [if_pos e, if_pos (hab.mpr e)]
        · rw [if_neg e, if_neg (fun z => e (hab.mp z))]
      · have back : ∀ x, x ∈ (ps.map fun r => r.map (ren b a)).flatten → x ∈ ([a, b] :: ps).flatten := fun x hx => by
          obtain ⟨q, hq, hx⟩ := List.mem_flatten.mp hx
          obtain ⟨q0, h0, rfl⟩ := List.mem_map.mp hq
          obtain ⟨y, hy, rfl⟩ := List.mem_map.mp hx
          unfold ren
          split
          · exact ha
          · exact hin y (List.mem_flatten.mpr ⟨q0, h0, hy⟩)
        exact hf x (back x hx) y (back y hy)
/-- joining, and the pairs of what is left -/
theorem join_rng : ∀ (n : Nat) (rs ps : List (List Int)) (rg : Int), ps.length = n → (∀ r ∈ rs, r.length = 4) → ∃ k : Nat, (joinL rs ps rg).2 = rg + k ∧ ∀ w, k + rngL (pairsW (joinL rs ps rg).1 w) = rngL (ps ++ pairsW rs w)
  | 0, rs, ps, rg, hn, h4 => by
    rw [List.length_eq_zero_iff.mp hn, joinL_nil]
    exact ⟨0, by simp, fun w => by simp⟩
  | n + 1, rs, p :: ps, rg, hn, h4 => by
    have hn' : ps.length = n := by simpa using hn
    rw [joinL_cons]
    obtain ⟨k, h1, h2⟩ := join_rng n (rs.map fun r => r.map (ren (p.getD 1 0) (p.getD 0 0))) (ps.map fun r => r.map (ren (p.getD 1 0) (p.getD 0 0))) (if p.getD 0 0 = p.getD 1 0 then rg + 1 else rg) (by rw [List.length_map]; exact hn') (fun r hr => by
      obtain ⟨r0, h0, rfl⟩ := List.mem_map.mp hr
      rw [List.length_map]
      exact h4 r0 h0)
    refine ⟨(if p.getD 0 0 = p.getD 1 0 then 1 else 0) + k, ?_, fun w => ?_⟩
    · rw [h1]
      split
      · push_cast; omega
      · push_cast; omega
    · rw [Nat.add_assoc, h2 w, List.cons_append, rng_cons, pairsW_map _ _ _ h4, List.map_append]
/-- all ways of splitting rows that leave rg rings -/
def stS (rs : List (List Int)) (rg : Nat) (x : Int) : Int := sumH rs.length fun w => Tp (rg + rngL (pairsW rs w)) ((rs.length : Int) - 2 * w.sum) x
theorem pairsW_sub : ∀ (rs : List (List Int)) (w : List Int), (∀ r ∈ rs, r.length = 4) → ∀ x ∈ (pairsW rs w).flatten, x ∈ rs.flatten
  | [], w, _, x, h => by cases w <;> cases h
  | r :: rs, [], _, x, h => by cases h
  | r :: rs, w :: ws, h4, x, h => by
    rw [pairsW, List.flatten_append, List.mem_append] at h
    rw [List.flatten_cons, List.mem_append]
    rcases h with h | h
    · left
      obtain ⟨a, b, c, d, rfl⟩ := four_of (h4 r List.mem_cons_self)
      unfold prs at h
      simp only [List.getD_cons_zero, List.getD_cons_succ] at h
      split at h
      · simpa [or_assoc] using h
      · simp at h ⊢
        grind
    · exact .inr (pairsW_sub rs ws (fun r m => h4 r (List.mem_cons_of_mem _ m)) x h)
theorem numb_map (rs : List (List Int)) : numb rs = rs.map fun r => r.map (idx (names rs.flatten)) := rfl
theorem rng_numb {rs : List (List Int)} (h4 : ∀ r ∈ rs, r.length = 4) (w : List Int) : rngL (pairsW (numb rs) w) = rngL (pairsW rs w) := by
  rw [numb_map, pairsW_map _ _ _ h4]
  exact rng_inj _ _ _ rfl (pairsW_two rs w) fun x hx y hy e => idx_injOn rs.flatten x (pairsW_sub rs w h4 x hx) y (pairsW_sub rs w h4 y hy) e
theorem stS_numb {rs : List (List Int)} (h4 : ∀ r ∈ rs, r.length = 4) (rg : Nat) (x : Int) : stS (numb rs) rg x = stS rs rg x := by
  unfold stS
  rw [numb_length]
  exact sumH_congr _ fun w _ _ => by rw [rng_numb h4]
theorem stS_nil (rg : Nat) (x : Int) : stS [] rg x = Tp rg 0 x := by
  show Tp (rg + rngL (pairsW [] [])) _ x = _
  rw [show pairsW [] [] = [] from rfl, rng_nil]
  rfl
/-- one crossing split by both ways -/
theorem stS_cons {r : List Int} {rs : List (List Int)} {rg k0 k1 : Nat} {R0 R1 : List (List Int)} (x : Int) (l0 : R0.length = rs.length) (l1 : R1.length = rs.length) (h0 : ∀ w, k0 + rngL (pairsW R0 w) = rngL (prs r 0 ++ pairsW rs w)) (h1 : ∀ w, k1 + rngL (pairsW R1 w) = rngL (prs r 1 ++ pairsW rs w)) :
    stS (r :: rs) rg x = stS R0 (rg + k0) (x - 1) + stS R1 (rg + k1) (x - -1) := by
  unfold stS
  rw [List.length_cons, sumH, l0, l1]
  congr 1
  · refine sumH_congr _ fun w _ _ => ?_
    rw [pairsW, ← h0 w, ← Nat.add_assoc]
    have e := Tp_shift 1 (rg + k0 + rngL (pairsW R0 w)) ((rs.length : Int) - 2 * w.sum) (x - 1)
    rw [← e, List.sum_cons, show x - 1 + 1 = x by omega]
    congr 1
    push_cast
    omega
  · refine sumH_congr _ fun w _ _ => ?_
    rw [pairsW, ← h1 w, ← Nat.add_assoc]
    have e := Tp_shift (-1) (rg + k1 + rngL (pairsW R1 w)) ((rs.length : Int) - 2 * w.sum) (x - -1)
    rw [← e, List.sum_cons, show x - -1 + -1 = x by omega]
    congr 1
    push_cast
    omega
end DL
set_option maxRecDepth 100000
/-! M13: the other place of a line; walks straight on -/
namespace DL
open PySem (Str)
def Vp (m : Nat) (p : Nat × Nat) : Prop := p.1 < m ∧ p.2 < 4
theorem mem_places {m : Nat} {p : Nat × Nat} : p ∈ places m ↔ Vp m p := by
  unfold places Vp
  rw [List.mem_flatMap]
  constructor
  · rintro ⟨k, hk, h⟩
    obtain ⟨e, he, rfl⟩ := List.mem_map.mp h
    exact ⟨List.mem_range.mp hk, List.mem_range.mp he⟩
  · rintro ⟨h1, h2⟩
    exact ⟨p.1, List.mem_range.mpr h1, List.mem_map.mpr ⟨p.2, List.mem_range.mpr h2, rfl⟩⟩
theorem places_nodup (m : Nat) : (places m).Nodup := by
  unfold places
  rw [List.Nodup, List.pairwise_flatMap]
  constructor
  · intro k _
    rw [List.pairwise_map]
    refine List.Pairwise.imp ?_ (List.nodup_range (n := 4))
    intro a b hab e
    exact hab (Prod.mk.inj e).2
  · refine List.Pairwise.imp ?_ (List.nodup_range (n := m))
    intro a b hab x hx y hy e
    obtain ⟨e1, _, rfl⟩ := List.mem_map.mp hx
    obtain ⟨e2, _, rfl⟩ := List.mem_map.mp hy
    exact hab (Prod.mk.inj e).1
theorem places_length (m : Nat) : (places m).length = 4 * m := by
  unfold places
  rw [List.length_flatMap]
  have : ∀ k ∈ List.range m, ((List.range 4).map fun e => (k, e)).length = 4 := fun k _ => by rw [List.length_map, List.length_range]
  rw [List.map_congr_left this, List.map_const', List.sum_replicate_nat, List.length_range]
  omega
def mate (rs : List (List Int)) (p : Nat × Nat) : Nat × Nat := ((plc rs (ent rs p)).find? fun q => decide (q ≠ p)).getD p
def acr (p : Nat × Nat) : Nat × Nat := (p.1, (p.2 + 2) % 4)
theorem acr_v {m : Nat} {p : Nat × Nat} (h : Vp m p) : Vp m (acr p) := ⟨h.1, Nat.mod_lt _ (by decide)⟩
theorem acr_acr {m : Nat} {p : Nat × Nat} (h : Vp m p) : acr (acr p) = p := by
  obtain ⟨a, b⟩ := p
  have := h.2
  simp only [acr, Prod.mk.injEq, true_and]
  simp only at this
  omega
theorem acr_ne {m : Nat} {p : Nat × Nat} (h : Vp m p) : acr p ≠ p := by
  obtain ⟨a, b⟩ := p
  have := h.2
  intro e
  simp only [acr, Prod.mk.injEq, true_and] at e
  simp only at this
  omega
theorem mem_plc {rs : List (List Int)} {line : Int} {p : Nat × Nat} : p ∈ plc rs line ↔ Vp rs.length p ∧ ent rs p = line := by
  unfold plc
  rw [List.mem_filter, mem_places, decide_eq_true_eq]
theorem plc_nodup (rs : List (List Int)) (line : Int) : (plc rs line).Nodup := (places_nodup _).filter _
theorem drawn_line {m : Nat} {rs : List (List Int)} (h : Drawn m rs) {p : Nat × Nat} (hp : Vp m p) : 0 ≤ ent rs p ∧ ent rs p < 2 * (m : Int) := by
  have hm : p ∈ plc rs (ent rs p) := mem_plc.mpr ⟨by rw [h.len]; exact hp, rfl⟩
  have hc := plc_len h.four (ent rs p)
  rw [h.two] at hc
  by_cases c : 0 ≤ ent rs p ∧ ent rs p < 2 * (m : Int)
  · exact c
  · rw [if_neg c] at hc
    rw [List.length_eq_zero_iff.mp hc] at hm
    cases hm
theorem plc_two {m : Nat} {rs : List (List Int)} (h : Drawn m rs) {p : Nat × Nat} (hp : Vp m p) : ∃ a b, plc rs (ent rs p) = [a, b] ∧ a ≠ b ∧ (p = a ∨ p = b) := by
  have hm : p ∈ plc rs (ent rs p) := mem_plc.mpr ⟨by rw [h.len]; exact hp, rfl⟩
  have hc := plc_len h.four (ent rs p)
  rw [h.two, if_pos (drawn_line h hp)] at hc
  have nd := plc_nodup rs (ent rs p)
  match hq : plc rs (ent rs p), hc, hm, nd with
  | [a, b], _, hm, nd =>
    refine ⟨a, b, rfl, ?_, by simpa using hm⟩
    intro e
    rw [e] at nd
    simp at nd
theorem mate_two {m : Nat} {rs : List (List Int)} {a b p : Nat × Nat} (hq : plc rs (ent rs p) = [a, b]) (hab : a ≠ b) (hp : p = a ∨ p = b) : mate rs p = if a = p then b else a := by
  unfold mate
  rw [hq]
  rcases hp with rfl | rfl
  · have : ¬ b = p := fun e => hab e.symm
    simp [List.find?_cons, this]
  · simp [List.find?_cons, hab]
theorem mate_spec {m : Nat} {rs : List (List Int)} (h : Drawn m rs) {p : Nat × Nat} (hp : Vp m p) : Vp m (mate rs p) ∧ mate rs p ≠ p ∧ ent rs (mate rs p) = ent rs p ∧ ∀ q, Vp m q → q ≠ p → ent rs q = ent rs p → q = mate rs p := by
  obtain ⟨a, b, hq, hab, hpa⟩ := plc_two h hp
  have hmt := mate_two (m := m) hq hab hpa
  have ha : a ∈ plc rs (ent rs p) := by rw [hq]; simp
  have hb : b ∈ plc rs (ent rs p) := by rw [hq]; simp
  rw [mem_plc, h.len] at ha hb
  have hall : ∀ q, Vp m q → ent rs q = ent rs p → q = a ∨ q = b := fun q hv he => by
    have : q ∈ plc rs (ent rs p) := mem_plc.mpr ⟨by rw [h.len]; exact hv, he⟩
    rw [hq] at this
    simpa using this
  rcases hpa with rfl | rfl
  · rw [if_pos rfl] at hmt
    rw [hmt]
    exact ⟨hb.1, fun e => hab e.symm, hb.2, fun q hv hne he => (hall q hv he).resolve_left hne⟩
  · rw [if_neg hab] at hmt
    rw [hmt]
    exact ⟨ha.1, hab, ha.2, fun q hv hne he => (hall q hv he).resolve_right hne⟩
theorem mate_mate {m : Nat} {rs : List (List Int)} (h : Drawn m rs) {p : Nat × Nat} (hp : Vp m p) : mate rs (mate rs p) = p := by
  obtain ⟨h1, h2, h3, _⟩ := mate_spec h hp
  obtain ⟨_, _, _, h4⟩ := mate_spec h h1
  exact (h4 p hp (fun e => h2 e.symm) h3.symm).symm
/-! ### the program's and the law's hands -/
theorem eqNP (p q : Nat × Nat) : dEq (encNP p) (encNP q) = .ok (.va (.bl (decide (p = q)))) ∧ dNe (encNP p) (encNP q) = .ok (.va (.bl (!decide (p = q)))) := by
  obtain ⟨a, b⟩ := p
  obtain ⟨c, d⟩ := q
  have hc : cmpD (encNP (a, b)) (encNP (c, d)) = some (decide ((a, b) = (c, d))) := by
    show (if D.lev 6 (encNP (a, b)) && D.lev 6 (encNP (c, d)) then some (beqL 6 (encNP (a, b)) (encNP (c, d))) else none) = _
    rw [show D.lev 6 (encNP (a, b)) = true from lev_row 5 [(a : Int), (b : Int)], show D.lev 6 (encNP (c, d)) = true from lev_row 5 [(c : Int), (d : Int)]]
    rw [Bool.and_self, if_pos rfl]
    show some (((a : Int) == (c : Int)) && (((b : Int) == (d : Int)) && true)) = _
    congr 1
    rw [Bool.eq_iff_iff]
    simp [Int.ofNat_inj]
  unfold dEq dNe
  rw [hc]
  exact ⟨rfl, rfl⟩
theorem across_ok {p : Nat × Nat} : f_across [encNP p] = .ok (.va (encNP (acr p))) := by
  unfold f_across F_across
  rw [fn_eq [.va (encNP p)] rfl]
  have h1 : dMod (.int ((p.2 : Int) + 2)) (.int 4) = .ok (.va (.int (((p.2 + 2) % 4 : Nat) : Int))) := by
    rw [o_mod (by decide)]
    congr 3
  simp only [ev_seq, ev_set, ev_op1, ev_op2, ev_call, ev_cons, ev_nil, ev_c, ev_var, ev_tup, ev_lst, ev_cb, ev_fz, ev_lend, ev_and, ev_or, ev_not, ev_chain, ev_if, ev_bm, ev_get2, ev_ixO, ev_sl, ev_some, ev_none, ev_tval, ev_tand, ev_tor, ev_tnot, ev_irange1, ev_irange2, ev_sif, ev_next, ev_ret, ev_retO, ev_raise, ev_app, ev_put, ev_dput, ev_for, ev_while, ev_pub, pub_cons, pub_nil, ev_drop, ev_dnew, res_nx, res_rt, res_xc, R.bind_ok, R.bind_xc, R.out_ok, R.out_xc, Out.bind_nx, Out.bind_rt, Out.bind_xc, Sl.d_va, Sl.d_ow, Sl.frz_va, Sl.frz_ow, Sl.frz_no, List.getElem?_cons_succ, List.getElem?_cons_zero, List.set_cons_succ, List.set_cons_zero, List.length_cons, List.length_nil, List.map_cons, List.map_nil, lim_val, Nat.zero_le, Nat.reduceAdd, Nat.reduceLeDiff, Nat.reduceEqDiff, reduceIte, Nat.zero_add, if_true, if_false, Bool.false_eq_true, Bool.not_true, Bool.not_false, decide_true, decide_false, o_add, o_sub, o_neg, o_lt, o_le, o_gt, o_ge, o_eq, o_ne, o_isN, o_notN, isNon_non, isNon_int, isNon_tup, isNon_lst, o_idxL, o_idxT, o_lenL, o_lenT, o_lenS, o_listL, o_listT, o_tupleL, o_tupleT, o_int, o_intb, o_max2, o_min2, o_slL, o_slT, atD_0, atD_1, atD_2, atD_3, atD_4, atD_5, range_4, range_3, range_2, h1]
  rfl
theorem far_place_ok {m : Nat} {rs : List (List Int)} {rings : Int} {p : Nat × Nat} (h : Drawn m rs) (hm : m ≤ 100) (hp : Vp m p) : f_far_place [encS rs rings, encNP p] = .ok (.va (encNP (mate rs p))) := by
  unfold f_far_place F_far_place
  rw [fn_eq [.va (encS rs rings), .va (encNP p), .no] rfl]
  obtain ⟨a, b, hq, hab, hpa⟩ := plc_two h hp
  obtain ⟨a', b', hq', he⟩ := ends_ok (rings := rings) h hm (drawn_line h hp)
  rw [hq] at hq'
  simp only [List.cons.injEq, and_true] at hq'
  obtain ⟨rfl, rfl⟩ := hq'
  obtain ⟨i1, i2⟩ := ent_idx h.four (k := p.1) (e := p.2) (by rw [h.len]; exact hp.1) hp.2
  have hmt := mate_two (m := m) hq hab hpa
  have j1 : dIdx (encNP p) (.int 0) = .ok (.va (.int (p.1 : Int))) := rfl
  have j2 : dIdx (encNP p) (.int 1) = .ok (.va (.int (p.2 : Int))) := rfl
  have j3 : dIdx (encS rs rings) (.int 0) = .ok (.va (.tup (encRs rs))) := rfl
  have k1 : dIdx (.tup [encNP a, encNP b]) (.int 0) = .ok (.va (encNP a)) := rfl
  have k2 : dIdx (.tup [encNP a, encNP b]) (.int 1) = .ok (.va (encNP b)) := rfl
  have e1 : dEq (encNP a) (encNP p) = .ok (.va (.bl (decide (a = p)))) := (eqNP a p).1
  rw [ev_seq, ev_set, ev_fz, ev_call, ev_cons, ev_cons, ev_nil]
  simp only [ev_op2, ev_var, ev_c, List.getElem?_cons_succ, List.getElem?_cons_zero, R.bind_ok, Sl.d_va, j1, j2, j3, i1, i2, List.length_cons, List.length_nil, Nat.reduceAdd, if_true, he, R.out_ok, Out.bind_nx, List.set_cons_succ, List.set_cons_zero]
  rw [hmt]
  by_cases c : a = p
  · rw [decide_eq_true c] at e1
    rw [if_pos c]
    simp only [ev_seq, ev_sif, ev_tval, ev_op2, ev_var, ev_c, List.getElem?_cons_succ, List.getElem?_cons_zero, R.bind_ok, Sl.d_va, k1, k2, e1, R.out_ok, if_true, ev_ret, Out.bind_rt, res_rt]
  · rw [decide_eq_false c] at e1
    rw [if_neg c]
    simp only [ev_seq, ev_sif, ev_tval, ev_op2, ev_var, ev_c, List.getElem?_cons_succ, List.getElem?_cons_zero, R.bind_ok, Sl.d_va, k1, k2, e1, R.out_ok, if_false, Bool.false_eq_true, ev_next, ev_ret, Out.bind_nx, Out.bind_rt, res_rt]
theorem findSome_uni {α β : Type} {l : List α} {h : α → Option β} {v : β} (h1 : ∃ x ∈ l, h x = some v) (h2 : ∀ x ∈ l, h x = none ∨ h x = some v) : l.findSome? h = some v := by
  induction l with
  | nil => obtain ⟨x, hx, _⟩ := h1; cases hx
  | cons y l ih =>
    rw [List.findSome?_cons]
    rcases h2 y List.mem_cons_self with q | q
    · rw [q]
      refine ih ?_ fun x m => h2 x (List.mem_cons_of_mem _ m)
      obtain ⟨x, hx, hv⟩ := h1
      rcases List.mem_cons.mp hx with rfl | m
      · rw [q] at hv; cases hv
      · exact ⟨x, m, hv⟩
    · rw [q]
theorem law_mate_ok {m : Nat} {rs : List (List Int)} {p : Nat × Nat} (h : Drawn m rs) (hm : m ≤ 100) (hp : Vp m p) : f_law_mate [.tup (encRs rs), encNP p] = .ok (.va (encNP (mate rs p))) := by
  unfold f_law_mate F_law_mate
  rw [fn_eq [.va (.tup (encRs rs)), .va (encNP p), .no, .no, .no] rfl]
  obtain ⟨i1, i2⟩ := ent_idx h.four (k := p.1) (e := p.2) (by rw [h.len]; exact hp.1) hp.2
  have j1 : dIdx (encNP p) (.int 0) = .ok (.va (.int (p.1 : Int))) := rfl
  have j2 : dIdx (encNP p) (.int 1) = .ok (.va (.int (p.2 : Int))) := rfl
  have hlen : (encRs rs).length = m := by rw [List.length_map, h.len]
  let hit1 : Nat → Nat → Option Sl := fun k e => if ent rs (k, e) = ent rs p ∧ (k, e) ≠ p then some (.va (encNP (k, e))) else none
  let hit2 : Nat → Option Sl := fun k => (List.range 4).findSome? (hit1 k)
  have inner : ∀ (k : Nat) (x : Sl), k < m → match hit2 k with
      | some s => B_law_mate_2 [.va (.tup (encRs rs)), .va (encNP p), .va (.int (ent rs p)), .va (.int (k : Int)), x] = .rt s
      | none => ∃ x', B_law_mate_2 [.va (.tup (encRs rs)), .va (encNP p), .va (.int (ent rs p)), .va (.int (k : Int)), x] = .nx [.va (.tup (encRs rs)), .va (encNP p), .va (.int (ent rs p)), .va (.int (k : Int)), x'] := by
    intro k x hk
    have L := forD_ret (j := 4) (b := B_law_mate_1) (enc := fun i : Nat => D.int (i : Int)) (fun e => ∃ x', e = [.va (.tup (encRs rs)), .va (encNP p), .va (.int (ent rs p)), .va (.int (k : Int)), x']) (hit1 k) (List.range 4) [.va (.tup (encRs rs)), .va (encNP p), .va (.int (ent rs p)), .va (.int (k : Int)), x] ⟨x, rfl⟩ (fun e env he ⟨x', hx⟩ => by
      subst hx
      obtain ⟨a1, a2⟩ := ent_idx h.four (k := k) (e := e) (by rw [h.len]; exact hk) (List.mem_range.mp he)
      have e1 := (eqNP (k, e) p).2
      unfold B_law_mate_1
      simp only [hit1]
      by_cases c1 : ent rs (k, e) = ent rs p
      · by_cases c2 : (k, e) = p
        · rw [if_neg (fun z => z.2 c2)]
          refine ⟨[.va (.tup (encRs rs)), .va (encNP p), .va (.int (ent rs p)), .va (.int (k : Int)), .va (.int (e : Int))], ?_, _, rfl⟩
          rw [decide_eq_true c2] at e1
          simp only [List.set_cons_succ, List.set_cons_zero, ev_sif, ev_tand, ev_tval, ev_op2, ev_var, ev_tup, ev_cons, ev_nil, List.getElem?_cons_succ, List.getElem?_cons_zero, R.bind_ok, Sl.d_va, a1, a2, o_eq, c1, e1, decide_true, Bool.not_true, if_true, R.out_ok, Bool.false_eq_true, if_false, ev_next, List.length_cons, List.length_nil, lim_val, Nat.reduceAdd, Nat.reduceLeDiff]
        · rw [if_pos ⟨c1, c2⟩]
          simp only [List.set_cons_succ, List.set_cons_zero, ev_sif, ev_tand, ev_tval, ev_op2, ev_var, ev_tup, ev_cons, ev_nil, ev_ret, List.getElem?_cons_succ, List.getElem?_cons_zero, R.bind_ok, Sl.d_va, a1, a2, o_eq, c1, e1, c2, decide_true, decide_false, Bool.not_false, if_true, R.out_ok, Bool.false_eq_true, if_false, ev_next, List.length_cons, List.length_nil, lim_val, Nat.reduceAdd, Nat.reduceLeDiff]
      · rw [if_neg (fun z => c1 z.1)]
        refine ⟨_, ?_, .va (.int (e : Int)), rfl⟩
        simp only [List.set_cons_succ, List.set_cons_zero, ev_sif, ev_tand, ev_tval, ev_op2, ev_var, ev_tup, ev_cons, ev_nil, List.getElem?_cons_succ, List.getElem?_cons_zero, R.bind_ok, Sl.d_va, a1, a2, o_eq, c1, decide_false, R.out_ok, Bool.false_eq_true, if_false, ev_next])
    unfold B_law_mate_2
    simp only [hit2]
    rw [ev_for, ev_irange1, ev_c, R.bind_ok, Sl.d_va, range_4, R.out_ok]
    have er : ((List.range 4).map fun i : Nat => D.int (i : Int)) = [.int 0, .int 1, .int 2, .int 3] := rfl
    rw [er] at L
    cases q : (List.range 4).findSome? (hit1 k) with
    | some s => rw [q] at L; exact L
    | none =>
      rw [q] at L
      obtain ⟨e', h1, x', rfl⟩ := L
      exact ⟨x', h1⟩
  have L := forD_ret (j := 3) (b := B_law_mate_2) (enc := fun i : Nat => D.int (i : Int)) (fun e => ∃ y x', e = [.va (.tup (encRs rs)), .va (encNP p), .va (.int (ent rs p)), y, x']) hit2 (List.range m) [.va (.tup (encRs rs)), .va (encNP p), .va (.int (ent rs p)), .no, .no] ⟨_, _, rfl⟩ (fun k env hk ⟨y, x', hx⟩ => by
    subst hx
    have := inner k x' (List.mem_range.mp hk)
    simp only [List.set_cons_succ, List.set_cons_zero]
    cases q : hit2 k with
    | some s => rw [q] at this; exact this
    | none =>
      rw [q] at this
      obtain ⟨x2, h2⟩ := this
      exact ⟨_, h2, _, _, rfl⟩)
  obtain ⟨s1, s2, s3, s4⟩ := mate_spec h hp
  have hf : (List.range m).findSome? hit2 = some (.va (encNP (mate rs p))) := by
    have hz : ∀ k, k < m → ∀ e, e < 4 → hit1 k e = none ∨ hit1 k e = some (.va (encNP (mate rs p))) := by
      intro k hk e he
      simp only [hit1]
      by_cases c : ent rs (k, e) = ent rs p ∧ (k, e) ≠ p
      · rw [if_pos c]
        have := s4 (k, e) ⟨hk, he⟩ c.2 c.1
        rw [← this]
        exact .inr rfl
      · rw [if_neg c]
        exact .inl rfl
    have hz2 : ∀ k, k < m → hit2 k = none ∨ hit2 k = some (.va (encNP (mate rs p))) := by
      intro k hk
      simp only [hit2]
      cases q : (List.range 4).findSome? (hit1 k) with
      | none => exact .inl rfl
      | some s =>
        obtain ⟨e, he, hv⟩ := List.exists_of_findSome?_eq_some q
        rcases hz k hk e (List.mem_range.mp he) with z | z
        · rw [z] at hv; cases hv
        · rw [z] at hv; exact .inr hv.symm
    refine findSome_uni ⟨(mate rs p).1, List.mem_range.mpr s1.1, ?_⟩ fun k hk => hz2 k (List.mem_range.mp hk)
    simp only [hit2]
    refine findSome_uni ⟨(mate rs p).2, List.mem_range.mpr s1.2, ?_⟩ fun e he => hz _ s1.1 e (List.mem_range.mp he)
    simp only [hit1]
    rw [if_pos ⟨s3, s2⟩]
  rw [hf] at L
  simp only at L
  rw [← rng_eq] at L
  rw [ev_seq, ev_set]
  simp only [ev_op2, ev_var, ev_c, List.getElem?_cons_succ, List.getElem?_cons_zero, R.bind_ok, Sl.d_va, j1, j2, i1, i2, R.out_ok, Out.bind_nx, List.set_cons_succ, List.set_cons_zero, ev_seq, ev_for, ev_irange1, ev_cb, ev_cons, ev_nil, o_lenT, hlen, range_nat (show m ≤ 1000000 by omega), L, Out.bind_rt, res_rt]
/-! ### walks -/
def itr {α : Type} (f : α → α) : Nat → α → α
  | 0, x => x
  | n + 1, x => itr f n (f x)
theorem itr_succ {α : Type} (f : α → α) : ∀ (n : Nat) (x : α), itr f (n + 1) x = f (itr f n x)
  | 0, x => rfl
  | n + 1, x => itr_succ f n (f x)
theorem itr_add {α : Type} (f : α → α) : ∀ (n k : Nat) (x : α), itr f (n + k) x = itr f k (itr f n x)
  | 0, k, x => by rw [Nat.zero_add]; rfl
  | n + 1, k, x => by rw [Nat.succ_add]; exact itr_add f n k (f x)
def wh {α : Type} (P : α → Bool) (f : α → α) : Nat → α → α
  | 0, x => x
  | n + 1, x => if P x then wh P f n (f x) else x
theorem wh_stop {α : Type} {P : α → Bool} {f : α → α} : ∀ (n : Nat) (x : α), (∃ k, k < n ∧ P (itr f k x) = false) → ∃ k, k < n ∧ wh P f n x = itr f k x ∧ P (itr f k x) = false ∧ ∀ i, i < k → P (itr f i x) = true
  | 0, x, ⟨k, h, _⟩ => absurd h (Nat.not_lt_zero _)
  | n + 1, x, ⟨k, h, hp⟩ => by
    rw [wh]
    by_cases c : P x = true
    · rw [if_pos c]
      match k, h, hp with
      | 0, _, hp => rw [itr, c] at hp; cases hp
      | k + 1, h, hp =>
        obtain ⟨k', h1, h2, h3, h4⟩ := wh_stop n (f x) ⟨k, by omega, hp⟩
        exact ⟨k' + 1, by omega, h2, h3, fun i hi => match i, hi with
          | 0, _ => c
          | i + 1, hi => h4 i (by omega)⟩
    · rw [if_neg c]
      exact ⟨0, by omega, rfl, by show P x = false; simpa using c, fun i hi => absurd hi (Nat.not_lt_zero _)⟩
theorem whileD_run {S : Type} {c : FT} {b : FS} (E : S → Env) (P : S → Bool) (step : S → S) (I : Nat → S → Prop)
    (h0 : ∀ s, ¬ I 0 s) (hc : ∀ n s, I (n + 1) s → c (E s) = .ok (P s)) (hb : ∀ n s, I (n + 1) s → P s = true → b (E s) = .nx (E (step s)) ∧ I n (step s)) : ∀ n s, I n s → whileD c b n (E s) = .nx (E (wh P step n s))
  | 0, s, h => absurd h (h0 s)
  | n + 1, s, h => by
    show (c (E s)).out (E s) _ = _
    rw [hc n s h, R.out_ok, wh]
    by_cases q : P s = true
    · rw [if_pos q, if_pos q]
      obtain ⟨h1, h2⟩ := hb n s h q
      rw [h1, Out.bind_nx]
      exact whileD_run E P step I h0 hc hb n (step s) h2
    · rw [if_neg q, if_neg q]
/-- a place comes back -/
theorem comes_back {m : Nat} {f : Nat × Nat → Nat × Nat} (hv : ∀ p, Vp m p → Vp m (f p)) (hi : ∀ p q, Vp m p → Vp m q → f p = f q → p = q) {p : Nat × Nat} (hp : Vp m p) : ∃ n, n < 4 * m ∧ itr f (n + 1) p = p := by
  have hvn : ∀ n, Vp m (itr f n p) := fun n => by
    induction n with
    | zero => exact hp
    | succ n ih => rw [itr_succ]; exact hv _ ih
  have hin : ∀ (k n j : Nat), itr f (k + n) p = itr f (k + j) p → itr f n p = itr f j p := by
    intro k
    induction k with
    | zero => intro n j h; simpa using h
    | succ k ih =>
      intro n j h
      have e1 : k + 1 + n = (k + n) + 1 := by omega
      have e2 : k + 1 + j = (k + j) + 1 := by omega
      rw [e1, e2, itr_succ, itr_succ] at h
      exact ih n j (hi _ _ (hvn _) (hvn _) h)
  have hnd : ¬ ((List.range (4 * m + 1)).map fun n => itr f n p).Nodup := by
    intro nd
    have := nd.length_le_of_subset (l₂ := places m) (fun x hx => by
      obtain ⟨n, _, rfl⟩ := List.mem_map.mp hx
      exact mem_places.mpr (hvn n))
    rw [List.length_map, List.length_range, places_length] at this
    omega
  have key : ∃ i j, i < j ∧ j < 4 * m + 1 ∧ itr f i p = itr f j p := by
    apply Classical.byContradiction
    intro no
    apply hnd
    rw [List.Nodup, List.pairwise_map]
    refine List.Pairwise.imp_of_mem ?_ List.pairwise_lt_range
    intro i j _ hj hij e
    exact no ⟨i, j, hij, List.mem_range.mp hj, e⟩
  obtain ⟨i, j, h1, h2, h3⟩ := key
  refine ⟨j - i - 1, by omega, ?_⟩
  have e1 : i = i + 0 := rfl
  have e2 : j = i + (j - i - 1 + 1) := by omega
  rw [e2] at h3
  exact (hin i 0 _ (by simpa using h3)).symm
end DL
set_option maxRecDepth 100000
/-! M15: the mirror; walks that come back to a crossing; the twist -/
namespace DL
open PySem (Str)
def rot : List Int → List Int
  | [a, b, c, d] => [b, c, d, a]
  | r => r
theorem rot_len {r : List Int} (h : r.length = 4) : (rot r).length = 4 := by
  obtain ⟨a, b, c, d, rfl⟩ := four_of h
  rfl
theorem flat_len4 {rs : List (List Int)} (h4 : ∀ r ∈ rs, r.length = 4) (hl : rs.length ≤ 1000) : rs.flatten.length ≤ 100000 := by
  rw [flat4 h4]
  omega
theorem mirrored_ok {rs : List (List Int)} {rings : Int} (h4 : ∀ r ∈ rs, r.length = 4) (hl : rs.length ≤ 1000) : f_mirrored [encS rs rings] = .ok (.va (encS (numb (rs.map rot)) rings)) := by
  unfold f_mirrored F_mirrored
  rw [fn_eq [.va (encS rs rings), .no, .no] rfl]
  have hc := lcm (it := iSeq (eOp2 dIdx (eVar 0) (eC (.int 0)))) (j := 2) (own := [2]) (el := eTup (aCons (eOp2 dIdx (eVar 2) (eC (.int 1))) (aCons (eOp2 dIdx (eVar 2) (eC (.int 2))) (aCons (eOp2 dIdx (eVar 2) (eC (.int 3))) (aCons (eOp2 dIdx (eVar 2) (eC (.int 0))) aNil)))))
    (e := [.va (encS rs rings), .no, .no]) (enc := encR) (fun r => encR (rot r)) rs (by simp only [ev_seq, ev_set, ev_op1, ev_op2, ev_call, ev_cons, ev_nil, ev_c, ev_var, ev_tup, ev_lst, ev_cb, ev_fz, ev_lend, ev_and, ev_or, ev_not, ev_chain, ev_if, ev_bm, ev_get2, ev_ixO, ev_sl, ev_some, ev_none, ev_tval, ev_tand, ev_tor, ev_tnot, ev_irange1, ev_irange2, ev_sif, ev_next, ev_ret, ev_retO, ev_raise, ev_app, ev_put, ev_dput, ev_for, ev_while, ev_pub, pub_cons, pub_nil, ev_drop, ev_dnew, res_nx, res_rt, res_xc, R.bind_ok, R.bind_xc, R.out_ok, R.out_xc, Out.bind_nx, Out.bind_rt, Out.bind_xc, Sl.d_va, Sl.d_ow, Sl.frz_va, Sl.frz_ow, Sl.frz_no, List.getElem?_cons_succ, List.getElem?_cons_zero, List.set_cons_succ, List.set_cons_zero, List.length_cons, List.length_nil, List.map_cons, List.map_nil, lim_val, Nat.zero_le, Nat.reduceAdd, Nat.reduceLeDiff, Nat.reduceEqDiff, reduceIte, Nat.zero_add, if_true, if_false, Bool.false_eq_true, Bool.not_true, Bool.not_false, decide_true, decide_false, o_add, o_sub, o_neg, o_lt, o_le, o_gt, o_ge, o_eq, o_ne, o_isN, o_notN, isNon_non, isNon_int, isNon_tup, isNon_lst, o_idxL, o_idxT, o_lenL, o_lenT, o_lenS, o_listL, o_listT, o_tupleL, o_tupleT, o_int, o_intb, o_max2, o_min2, o_slL, o_slT, atD_0, atD_1, atD_2, atD_3, atD_4, atD_5, range_4, range_3, range_2, ev_iseq]) (by omega) (fun r hr => by
      obtain ⟨a, b, c, d, rfl⟩ := four_of (h4 r hr)
      simp only [ev_seq, ev_set, ev_op1, ev_op2, ev_call, ev_cons, ev_nil, ev_c, ev_var, ev_tup, ev_lst, ev_cb, ev_fz, ev_lend, ev_and, ev_or, ev_not, ev_chain, ev_if, ev_bm, ev_get2, ev_ixO, ev_sl, ev_some, ev_none, ev_tval, ev_tand, ev_tor, ev_tnot, ev_irange1, ev_irange2, ev_sif, ev_next, ev_ret, ev_retO, ev_raise, ev_app, ev_put, ev_dput, ev_for, ev_while, ev_pub, pub_cons, pub_nil, ev_drop, ev_dnew, res_nx, res_rt, res_xc, R.bind_ok, R.bind_xc, R.out_ok, R.out_xc, Out.bind_nx, Out.bind_rt, Out.bind_xc, Sl.d_va, Sl.d_ow, Sl.frz_va, Sl.frz_ow, Sl.frz_no, List.getElem?_cons_succ, List.getElem?_cons_zero, List.set_cons_succ, List.set_cons_zero, List.length_cons, List.length_nil, List.map_cons, List.map_nil, lim_val, Nat.zero_le, Nat.reduceAdd, Nat.reduceLeDiff, Nat.reduceEqDiff, reduceIte, Nat.zero_add, if_true, if_false, Bool.false_eq_true, Bool.not_true, Bool.not_false, decide_true, decide_false, o_add, o_sub, o_neg, o_lt, o_le, o_gt, o_ge, o_eq, o_ne, o_isN, o_notN, isNon_non, isNon_int, isNon_tup, isNon_lst, o_idxL, o_idxT, o_lenL, o_lenT, o_lenS, o_listL, o_listT, o_tupleL, o_tupleT, o_int, o_intb, o_max2, o_min2, o_slL, o_slT, atD_0, atD_1, atD_2, atD_3, atD_4, atD_5, range_4, range_3, range_2, wipe_cons, wipe_nil, rot]
      rfl)
  have h4' : ∀ r ∈ rs.map rot, r.length = 4 := fun r hr => by
    obtain ⟨r0, h0, rfl⟩ := List.mem_map.mp hr
    exact rot_len (h4 r0 h0)
  have hn := numbered_ok (d := .lst (encRs (rs.map rot))) (rowD := encR) (rs := rs.map rot) (.inl rfl) seq_row (flat_len4 h4' (by rw [List.length_map]; exact hl)) (by rw [List.length_map]; omega)
  have e : encRs (rs.map rot) = rs.map fun r => encR (rot r) := List.map_map
  rw [e] at hn
  simp only [ev_seq, ev_set, ev_op1, ev_op2, ev_call, ev_cons, ev_nil, ev_c, ev_var, ev_tup, ev_lst, ev_cb, ev_fz, ev_lend, ev_and, ev_or, ev_not, ev_chain, ev_if, ev_bm, ev_get2, ev_ixO, ev_sl, ev_some, ev_none, ev_tval, ev_tand, ev_tor, ev_tnot, ev_irange1, ev_irange2, ev_sif, ev_next, ev_ret, ev_retO, ev_raise, ev_app, ev_put, ev_dput, ev_for, ev_while, ev_pub, pub_cons, pub_nil, ev_drop, ev_dnew, res_nx, res_rt, res_xc, R.bind_ok, R.bind_xc, R.out_ok, R.out_xc, Out.bind_nx, Out.bind_rt, Out.bind_xc, Sl.d_va, Sl.d_ow, Sl.frz_va, Sl.frz_ow, Sl.frz_no, List.getElem?_cons_succ, List.getElem?_cons_zero, List.set_cons_succ, List.set_cons_zero, List.length_cons, List.length_nil, List.map_cons, List.map_nil, lim_val, Nat.zero_le, Nat.reduceAdd, Nat.reduceLeDiff, Nat.reduceEqDiff, reduceIte, Nat.zero_add, if_true, if_false, Bool.false_eq_true, Bool.not_true, Bool.not_false, decide_true, decide_false, o_add, o_sub, o_neg, o_lt, o_le, o_gt, o_ge, o_eq, o_ne, o_isN, o_notN, isNon_non, isNon_int, isNon_tup, isNon_lst, o_idxL, o_idxT, o_lenL, o_lenT, o_lenS, o_listL, o_listT, o_tupleL, o_tupleT, o_int, o_intb, o_max2, o_min2, o_slL, o_slT, atD_0, atD_1, atD_2, atD_3, atD_4, atD_5, range_4, range_3, range_2, hc, hn]

theorem rot_count {r : List Int} (h : r.length = 4) (v : Int) : (rot r).count v = r.count v := by
  obtain ⟨a, b, c, d, rfl⟩ := four_of h
  simp only [rot, List.count_cons, List.count_nil]
  omega
theorem rot_drawn {m : Nat} {rs : List (List Int)} (h : Drawn m rs) : Drawn m (rs.map rot) := by
  refine ⟨by rw [List.length_map, h.len], fun r hr => ?_, fun v => ?_⟩
  · obtain ⟨r0, h0, rfl⟩ := List.mem_map.mp hr
    exact rot_len (h.four r0 h0)
  · rw [← h.two v, List.count_flatten, List.count_flatten, List.map_map]
    congr 1
    apply List.map_congr_left
    intro r hr
    exact rot_count (h.four r hr) v
def rotP (p : Nat × Nat) : Nat × Nat := (p.1, (p.2 + 1) % 4)
theorem rp_v {m : Nat} {p : Nat × Nat} (h : Vp m p) : Vp m (rotP p) := ⟨h.1, Nat.mod_lt _ (by decide)⟩
theorem rp_inj {m : Nat} {p q : Nat × Nat} (hp : Vp m p) (hq : Vp m q) (e : rotP p = rotP q) : p = q := by
  obtain ⟨a, b⟩ := p
  obtain ⟨c, d⟩ := q
  have h1 := hp.2
  have h2 := hq.2
  simp only [rotP, Prod.mk.injEq] at e h1 h2 ⊢
  omega
theorem ent_rot {m : Nat} {rs : List (List Int)} (h : Drawn m rs) {p : Nat × Nat} (hp : Vp m p) : ent (rs.map rot) p = ent rs (rotP p) := by
  obtain ⟨k, e⟩ := p
  have hk : k < rs.length := by rw [h.len]; exact hp.1
  have he : e < 4 := hp.2
  unfold ent rotP
  simp only
  rw [getD_eq hk, getD_eq (xs := rs.map rot) (by rw [List.length_map]; exact hk), List.getElem_map]
  obtain ⟨a, b, c, d, hr⟩ := four_of (h.four _ (List.getElem_mem hk))
  rw [hr]
  match e, he with
  | 0, _ => rfl
  | 1, _ => rfl
  | 2, _ => rfl
  | 3, _ => rfl
theorem ent_numb {m : Nat} {rs : List (List Int)} (h : Drawn m rs) {p : Nat × Nat} (hp : Vp m p) : ent (numb rs) p = idx (names rs.flatten) (ent rs p) := by
  obtain ⟨k, e⟩ := p
  have hk : k < rs.length := by rw [h.len]; exact hp.1
  have he : e < 4 := hp.2
  have hl := h.four _ (List.getElem_mem hk)
  unfold ent numb
  simp only
  rw [getD_eq hk, getD_eq (xs := rs.map _) (by rw [List.length_map]; exact hk), List.getElem_map, getD_eq (xs := List.map _ _) (by rw [List.length_map]; omega), getD_eq (xs := rs[k]) (by omega), List.getElem_map]
theorem ent_mem {m : Nat} {rs : List (List Int)} (h : Drawn m rs) {p : Nat × Nat} (hp : Vp m p) : ent rs p ∈ rs.flatten := by
  obtain ⟨k, e⟩ := p
  have hk : k < rs.length := by rw [h.len]; exact hp.1
  have he : e < 4 := hp.2
  have hl := h.four _ (List.getElem_mem hk)
  unfold ent
  simp only
  rw [getD_eq hk, getD_eq (by omega)]
  exact List.mem_flatten.mpr ⟨_, List.getElem_mem hk, List.getElem_mem _⟩
theorem idx_inj2 {xs : List Int} {x y : Int} (hx : x ∈ xs) (hy : y ∈ xs) (e : idx (names xs) x = idx (names xs) y) : x = y := by
  have h1 := List.idxOf_lt_length_of_mem (names_mem.mpr hx)
  have h2 := List.idxOf_lt_length_of_mem (names_mem.mpr hy)
  have e1 : (names xs)[(names xs).idxOf x] = x := List.getElem_idxOf h1
  have e2 : (names xs)[(names xs).idxOf y] = y := List.getElem_idxOf h2
  unfold idx at e
  have e3 : (names xs).idxOf x = (names xs).idxOf y := by omega
  rw [← e1, ← e2]
  congr 1
/-- the mirror's hands -/
theorem mate_rot {m : Nat} {rs : List (List Int)} (h : Drawn m rs) {p : Nat × Nat} (hp : Vp m p) : rotP (mate (numb (rs.map rot)) p) = mate rs (rotP p) := by
  have d1 := rot_drawn h
  have d2 := numb_drawn d1
  obtain ⟨s1, s2, s3, _⟩ := mate_spec d2 hp
  obtain ⟨_, _, _, t4⟩ := mate_spec h (rp_v hp)
  refine t4 _ (rp_v s1) (fun e => s2 (rp_inj s1 hp e)) ?_
  rw [ent_numb d1 s1, ent_numb d1 hp] at s3
  have := idx_inj2 (ent_mem d1 s1) (ent_mem d1 hp) s3
  rwa [ent_rot h s1, ent_rot h hp] at this
theorem rp_acr (p : Nat × Nat) : rotP (acr p) = acr (rotP p) := by
  obtain ⟨a, b⟩ := p
  simp only [rotP, acr, Prod.mk.injEq, true_and]
  omega
/-! ### coming back -/
def chi (rs : List (List Int)) (p : Nat × Nat) : Nat × Nat := mate rs (acr p)
def aw (at_ : Nat) (p : Nat × Nat) : Bool := !decide (p.1 = at_)
def ret (rs : List (List Int)) (at_ e : Nat) : Nat × Nat := wh (aw at_) (chi rs) 1000 (mate rs (at_, e))
theorem chi_v {m : Nat} {rs : List (List Int)} (h : Drawn m rs) {p : Nat × Nat} (hp : Vp m p) : Vp m (chi rs p) := (mate_spec h (acr_v hp)).1
theorem acr_inj2 {m : Nat} {p q : Nat × Nat} (hp : Vp m p) (hq : Vp m q) (e : acr p = acr q) : p = q := by
  rw [← acr_acr hp, e, acr_acr hq]
theorem mate_inj2 {m : Nat} {rs : List (List Int)} (h : Drawn m rs) {p q : Nat × Nat} (hp : Vp m p) (hq : Vp m q) (e : mate rs p = mate rs q) : p = q := by
  rw [← mate_mate h hp, e, mate_mate h hq]
theorem chi_inj {m : Nat} {rs : List (List Int)} (h : Drawn m rs) (p q : Nat × Nat) (hp : Vp m p) (hq : Vp m q) (e : chi rs p = chi rs q) : p = q :=
  acr_inj2 hp hq (mate_inj2 h (acr_v hp) (acr_v hq) e)
theorem itr_v {m : Nat} {f : Nat × Nat → Nat × Nat} (hf : ∀ p, Vp m p → Vp m (f p)) : ∀ (n : Nat) {p : Nat × Nat}, Vp m p → Vp m (itr f n p)
  | 0, _, h => h
  | n + 1, _, h => itr_v hf n (hf _ h)
theorem ret_stops {m : Nat} {rs : List (List Int)} (h : Drawn m rs) (hm : m ≤ 100) {at_ e : Nat} (hp : Vp m (at_, e)) : ∃ k, k < 1000 ∧ aw at_ (itr (chi rs) k (mate rs (at_, e))) = false := by
  have hv := (mate_spec h hp).1
  obtain ⟨n, hn, q⟩ := comes_back (f := chi rs) (fun p hp => chi_v h hp) (chi_inj h) hv
  rw [itr_succ] at q
  have hvn := itr_v (f := chi rs) (fun p hp => chi_v h hp) n hv
  have q2 := mate_inj2 h (acr_v hvn) hp q
  refine ⟨n, by omega, ?_⟩
  have q3 := congrArg Prod.fst q2
  simp only [acr] at q3
  unfold aw
  rw [q3]
  simp
theorem wh_at {α : Type} {P : α → Bool} {f : α → α} : ∀ (n k : Nat) (x : α), k < n → P (itr f k x) = false → (∀ i, i < k → P (itr f i x) = true) → wh P f n x = itr f k x
  | 0, k, x, h, _, _ => absurd h (Nat.not_lt_zero _)
  | n + 1, 0, x, _, hp, _ => by
    have : P x = false := hp
    rw [wh, this]
    rfl
  | n + 1, k + 1, x, hk, hp, hb => by
    have : P x = true := hb 0 (by omega)
    rw [wh, if_pos this]
    exact wh_at n k (f x) (by omega) hp fun i hi => hb (i + 1) (by omega)
theorem ret_spec {m : Nat} {rs : List (List Int)} (h : Drawn m rs) (hm : m ≤ 100) {at_ e : Nat} (hp : Vp m (at_, e)) :
    ∃ e', ret rs at_ e = (at_, e') ∧ e' < 4 ∧ e' ≠ e ∧ ret rs at_ e' = (at_, e) := by
  obtain ⟨k, k1, k2, k3, k4⟩ := wh_stop 1000 _ (ret_stops h hm hp)
  have hv := (mate_spec h hp).1
  have hvi : ∀ i, Vp m (itr (chi rs) i (mate rs (at_, e))) := fun i => itr_v (f := chi rs) (fun p hp => chi_v h hp) i hv
  have hk : (itr (chi rs) k (mate rs (at_, e))).1 = at_ := by
    unfold aw at k3
    simpa using k3
  have hne : ∀ i, i < k → (itr (chi rs) i (mate rs (at_, e))).1 ≠ at_ := fun i hi => by
    have := k4 i hi
    unfold aw at this
    simpa using this
  obtain ⟨e', he'⟩ : ∃ e', itr (chi rs) k (mate rs (at_, e)) = (at_, e') := ⟨_, Prod.ext hk rfl⟩
  have hv' : Vp m (at_, e') := by rw [← he']; exact hvi k
  have hs : ∀ i, chi rs (itr (chi rs) i (mate rs (at_, e))) = itr (chi rs) (i + 1) (mate rs (at_, e)) := fun i => (itr_succ _ _ _).symm
  -- the way back
  have back : ∀ i, i < k → itr (chi rs) i (mate rs (at_, e')) = acr (itr (chi rs) (k - 1 - i) (mate rs (at_, e))) := by
    intro i
    induction i with
    | zero =>
      intro hi
      rw [itr, ← he']
      have : k = (k - 1 - 0) + 1 := by omega
      conv => lhs; rw [this, itr_succ]
      unfold chi
      exact mate_mate h (acr_v (hvi _))
    | succ i ih =>
      intro hi
      rw [itr_succ, ih (by omega)]
      have e1 : k - 1 - i = (k - 1 - (i + 1)) + 1 := by omega
      rw [e1, itr_succ]
      show mate rs (acr (acr (mate rs (acr _)))) = _
      rw [acr_acr (mate_spec h (acr_v (hvi _))).1, mate_mate h (acr_v (hvi _))]
  have bend : itr (chi rs) k (mate rs (at_, e')) = (at_, e) := by
    match k, he', back with
    | 0, he', _ =>
      rw [itr] at he' ⊢
      rw [← he', mate_mate h hp]
    | k + 1, he', back =>
      rw [itr_succ, back k (by omega)]
      show mate rs (acr (acr _)) = _
      rw [acr_acr (hvi _)]
      have : k + 1 - 1 - k = 0 := by omega
      rw [this, itr, mate_mate h hp]
  refine ⟨e', by unfold ret; rw [k2, he'], hv'.2, ?_, ?_⟩
  · intro eq
    subst eq
    obtain ⟨j, hj⟩ : ∃ j, k = 2 * j ∨ k = 2 * j + 1 := ⟨k / 2, by omega⟩
    rcases hj with hj | hj
    · match j, hj with
      | 0, hj =>
        rw [Nat.mul_zero] at hj
        rw [hj, itr] at he'
        exact (mate_spec h hp).2.1 he'
      | j + 1, hj =>
        have b := back j (by omega)
        have e1 : k - 1 - j = j + 1 := by omega
        rw [e1, itr_succ] at b
        -- p j = acr (mate (acr (p j)))
        have b2 := congrArg acr b
        rw [acr_acr (chi_v h (hvi j))] at b2
        exact (mate_spec h (acr_v (hvi j))).2.1 b2.symm
    · have b := back j (by omega)
      have e1 : k - 1 - j = j := by omega
      rw [e1] at b
      exact acr_ne (hvi j) b.symm
  · unfold ret
    rw [wh_at 1000 k _ k1 (by rw [bend]; simp [aw]) fun i hi => ?_, bend]
    rw [back i hi]
    have := hne (k - 1 - i) (by omega)
    show (!decide ((itr (chi rs) (k - 1 - i) (mate rs (at_, e))).1 = at_)) = true
    rw [decide_eq_false this]
    rfl
theorem wh_conj {α β : Type} {P : α → Bool} {f : α → α} {P' : β → Bool} {f' : β → β} (g : α → β) (V : α → Prop) (hV : ∀ x, V x → V (f x)) (hf : ∀ x, V x → g (f x) = f' (g x)) (hP : ∀ x, P' (g x) = P x) : ∀ (n : Nat) (x : α), V x → g (wh P f n x) = wh P' f' n (g x)
  | 0, x, _ => rfl
  | n + 1, x, hx => by
    rw [wh, wh, hP]
    by_cases c : P x = true
    · rw [if_pos c, if_pos c, wh_conj g V hV hf hP n (f x) (hV x hx), hf x hx]
    · rw [if_neg c, if_neg c]
theorem ret_rot {m : Nat} {rs : List (List Int)} (h : Drawn m rs) {at_ e : Nat} (hp : Vp m (at_, e)) : rotP (ret (numb (rs.map rot)) at_ e) = ret rs at_ ((e + 1) % 4) := by
  have d2 := numb_drawn (rot_drawn h)
  unfold ret
  rw [wh_conj (P := aw at_) (f := chi (numb (rs.map rot))) (P' := aw at_) (f' := chi rs) rotP (Vp m) (fun x hx => chi_v d2 hx) (fun x hx => by
    unfold chi
    rw [mate_rot h (acr_v hx), rp_acr]) (fun x => rfl) 1000 _ (mate_spec d2 hp).1, mate_rot h hp]
  rfl
theorem vp {m a e : Nat} (h : a < m) (h2 : e < 4) : Vp m (a, e) := ⟨h, h2⟩
def sg (e : Nat) : Int := if e = 3 then 1 else if e = 1 then -1 else 0
def twi (rs : List (List Int)) : Int := (List.range rs.length).foldl (fun (s : Int) at_ => s + sg (ret rs at_ 2).2) 0
theorem sg_rot {m : Nat} {rs : List (List Int)} (h : Drawn m rs) (hm : m ≤ 100) {at_ : Nat} (ha : at_ < m) : sg (ret (numb (rs.map rot)) at_ 2).2 = - sg (ret rs at_ 2).2 := by
  have d2 := numb_drawn (rot_drawn h)
  obtain ⟨a, a1, a2, a3, a4⟩ := ret_spec h hm (at_ := at_) (e := 2) (vp ha (by decide))
  obtain ⟨b, b1, b2, b3, b4⟩ := ret_spec h hm (at_ := at_) (e := 3) (vp ha (by decide))
  obtain ⟨c, c1, c2, c3, c4⟩ := ret_spec d2 hm (at_ := at_) (e := 2) (vp ha (by decide))
  have hr := ret_rot h (at_ := at_) (e := 2) (vp ha (by decide))
  rw [c1, show (2 + 1) % 4 = 3 from rfl, b1] at hr
  have hc : (c + 1) % 4 = b := congrArg Prod.snd hr
  rw [c1, a1]
  simp only
  have i1 : a = 3 → b = 2 := fun e => by
    subst e
    rw [a4] at b1
    exact (congrArg Prod.snd b1).symm
  have i2 : b = 2 → a = 3 := fun e => by
    subst e
    rw [b4] at a1
    exact (congrArg Prod.snd a1).symm
  have i3 : a = b → False := fun e => by
    subst e
    rw [a4] at b4
    have := congrArg Prod.snd b4; simp at this
  have ha : a = 0 ∨ a = 1 ∨ a = 3 := by omega
  have hb : b = 0 ∨ b = 1 ∨ b = 2 := by omega
  have hc2 : c = 3 ∧ b = 0 ∨ c = 0 ∧ b = 1 ∨ c = 1 ∧ b = 2 := by omega
  have j1 := Decidable.not_or_of_imp i1
  have j2 := Decidable.not_or_of_imp i2
  have j3 : ¬ a = b := i3
  clear i1 i2 i3 hc hr a1 a4 b1 b4 c1 c4
  have goal : (c = 3 ∧ a = 1) ∨ (c = 1 ∧ a = 3) ∨ (c = 0 ∧ a = 0) := by omega
  rcases goal with ⟨rfl, rfl⟩ | ⟨rfl, rfl⟩ | ⟨rfl, rfl⟩ <;> rfl
theorem twi_rot {m : Nat} {rs : List (List Int)} (h : Drawn m rs) (hm : m ≤ 100) : twi (numb (rs.map rot)) = - twi rs := by
  have d2 := numb_drawn (rot_drawn h)
  unfold twi
  rw [d2.len, h.len]
  suffices H : ∀ (l : List Nat) (s : Int), (∀ x ∈ l, x < m) → l.foldl (fun (s : Int) at_ => s + sg (ret (numb (rs.map rot)) at_ 2).2) (-s) = -(l.foldl (fun (s : Int) at_ => s + sg (ret rs at_ 2).2) s) by
    have := H (List.range m) 0 fun x hx => List.mem_range.mp hx
    simpa using this
  intro l
  induction l with
  | nil => intro s _; rfl
  | cons x l ih =>
    intro s hx
    rw [List.foldl_cons, List.foldl_cons, ← ih _ fun y hy => hx y (List.mem_cons_of_mem _ hy), sg_rot h hm (hx x List.mem_cons_self)]
    congr 1
    omega
/-! ### the program's and the law's -/
def cI (at_ : Nat) (m : Nat) (rs : List (List Int)) (n : Nat) (p : Nat × Nat) : Prop := Vp m p ∧ ∃ k, k < n ∧ aw at_ (itr (chi rs) k p) = false
theorem cI_step {m : Nat} {rs : List (List Int)} (h : Drawn m rs) {at_ n : Nat} {p : Nat × Nat} (hI : cI at_ m rs (n + 1) p) (hp : aw at_ p = true) : cI at_ m rs n (chi rs p) := by
  obtain ⟨h1, k, h3, h4⟩ := hI
  refine ⟨chi_v h h1, ?_⟩
  match k, h3, h4 with
  | 0, _, h4 => rw [itr, hp] at h4; cases h4
  | k + 1, h3, h4 => exact ⟨k, by omega, h4⟩
theorem p0 (p : Nat × Nat) : dIdx (encNP p) (.int 0) = .ok (.va (.int (p.1 : Int))) := rfl
theorem p1 (p : Nat × Nat) : dIdx (encNP p) (.int 1) = .ok (.va (.int (p.2 : Int))) := rfl
theorem sh0 (rs : List (List Int)) (rings : Int) : dIdx (encS rs rings) (.int 0) = .ok (.va (.tup (encRs rs))) := rfl
theorem amod (p : Nat × Nat) : dMod (.int ((p.2 : Int) + 2)) (.int 4) = .ok (.va (.int (((p.2 + 2) % 4 : Nat) : Int))) := by
  rw [o_mod (by decide)]
  congr 3
theorem ne_at (p : Nat × Nat) (at_ : Nat) : (!decide ((p.1 : Int) = (at_ : Int))) = aw at_ p := by
  unfold aw
  congr 1
  rw [Bool.eq_iff_iff, decide_eq_true_eq, decide_eq_true_eq]
  omega
theorem end_of_return_ok {m : Nat} {rs : List (List Int)} {rings : Int} {at_ : Nat} (h : Drawn m rs) (hm : m ≤ 100) (ha : at_ < m) : f_end_of_return [encS rs rings, .int (at_ : Int)] = .ok (.va (.int ((ret rs at_ 2).2 : Int))) := by
  unfold f_end_of_return F_end_of_return
  rw [fn_eq [.va (encS rs rings), .va (.int (at_ : Int)), .no] rfl]
  have hp : Vp m (at_, 2) := (vp ha (by decide))
  have hf := far_place_ok (rings := rings) h hm hp
  have hf' : f_far_place [encS rs rings, .tup [.int (at_ : Int), .int 2]] = .ok (.va (encNP (mate rs (at_, 2)))) := hf
  have W := whileD_run (c := (tVal (eOp2 dNe (eOp2 dIdx (eVar 2) (eC (.int 0))) (eVar 1)))) (b := B_end_of_return_1)
    (fun p : Nat × Nat => [.va (encS rs rings), .va (.int (at_ : Int)), .va (encNP p)]) (aw at_) (chi rs) (cI at_ m rs) (fun s hs => by obtain ⟨_, k, hk, _⟩ := hs; omega)
    (fun n s hs => by
      simp only [ev_tval, ev_op2, ev_var, ev_c, List.getElem?_cons_succ, List.getElem?_cons_zero, R.bind_ok, Sl.d_va, p0, o_ne, ne_at])
    (fun n s hs hq => by
      refine ⟨?_, cI_step h hs hq⟩
      have hf := far_place_ok (rings := rings) h hm (acr_v hs.1)
      unfold B_end_of_return_1
      simp only [ev_set, ev_fz, ev_call, ev_cons, ev_nil, ev_var, List.getElem?_cons_succ, List.getElem?_cons_zero, List.set_cons_succ, List.set_cons_zero, R.bind_ok, R.out_ok, Sl.d_va, List.length_cons, List.length_nil, Nat.reduceAdd, if_true, across_ok, hf, chi])
    1000 (mate rs (at_, 2)) ⟨(mate_spec h hp).1, ret_stops h hm hp⟩
  simp only [ev_seq, ev_set, ev_fz, ev_call, ev_tup, ev_cons, ev_nil, ev_var, ev_c, ev_op2, List.getElem?_cons_succ, List.getElem?_cons_zero, List.set_cons_succ, List.set_cons_zero, R.bind_ok, R.out_ok, Out.bind_nx, Sl.d_va, List.length_cons, List.length_nil, Nat.reduceAdd, Nat.reduceLeDiff, lim_val, if_true, hf', ev_while, W, ev_ret, p1, res_rt]
  rfl
theorem sg_3 : sg 3 = 1 := rfl
theorem sg_1 : sg 1 = -1 := rfl
theorem sg_0 {e : Nat} (h : ¬ e = 3) (h2 : ¬ e = 1) : sg e = 0 := by unfold sg; rw [if_neg h, if_neg h2]
theorem sg3 (e : Nat) : (decide ((e : Int) = 3)) = decide (e = 3) ∧ (decide ((e : Int) = 1)) = decide (e = 1) := by
  constructor <;> (rw [Bool.eq_iff_iff, decide_eq_true_eq, decide_eq_true_eq]; omega)
theorem twist_ok {m : Nat} {rs : List (List Int)} {rings : Int} (h : Drawn m rs) (hm : m ≤ 100) : f_twist [encS rs rings] = .ok (.va (.int (twi rs))) := by
  unfold f_twist F_twist
  rw [fn_eq [.va (encS rs rings), .no, .no, .no] rfl]
  have hlen : (encRs rs).length = m := by rw [List.length_map, h.len]
  have L := forD_fold (j := 2) (b := B_twist_1) (enc := fun k : Nat => D.int (k : Int)) (fun (s : Int) e => ∃ a b, e = [.va (encS rs rings), .va (.int s), a, b]) (fun (s : Int) at_ => s + sg (ret rs at_ 2).2) (List.range m) 0 [.va (encS rs rings), .va (.int 0), .no, .no] ⟨_, _, rfl⟩
    (fun i x e hx he => by
      obtain ⟨a, b, rfl⟩ := he
      have hxm := List.mem_range.mp (List.mem_of_getElem? hx)
      have hr := end_of_return_ok (rings := rings) h hm hxm
      generalize ((List.range m).take i).foldl (fun (s : Int) at_ => s + sg (ret rs at_ 2).2) 0 = s at *
      generalize (ret rs x 2).2 = e2 at *
      unfold B_twist_1
      refine ⟨[.va (encS rs rings), .va (.int (s + sg e2)), .va (.int (x : Int)), .va (.int (e2 : Int))], ?_, _, _, rfl⟩
      by_cases c3 : e2 = 3
      · subst c3
        simp only [ev_seq, ev_set, ev_op1, ev_op2, ev_call, ev_cons, ev_nil, ev_c, ev_var, ev_tup, ev_lst, ev_cb, ev_fz, ev_lend, ev_and, ev_or, ev_not, ev_chain, ev_if, ev_bm, ev_get2, ev_ixO, ev_sl, ev_some, ev_none, ev_tval, ev_tand, ev_tor, ev_tnot, ev_irange1, ev_irange2, ev_sif, ev_next, ev_ret, ev_retO, ev_raise, ev_app, ev_put, ev_dput, ev_for, ev_while, ev_pub, pub_cons, pub_nil, ev_drop, ev_dnew, res_nx, res_rt, res_xc, R.bind_ok, R.bind_xc, R.out_ok, R.out_xc, Out.bind_nx, Out.bind_rt, Out.bind_xc, Sl.d_va, Sl.d_ow, Sl.frz_va, Sl.frz_ow, Sl.frz_no, List.getElem?_cons_succ, List.getElem?_cons_zero, List.set_cons_succ, List.set_cons_zero, List.length_cons, List.length_nil, List.map_cons, List.map_nil, lim_val, Nat.zero_le, Nat.reduceAdd, Nat.reduceLeDiff, Nat.reduceEqDiff, reduceIte, Nat.zero_add, if_true, if_false, Bool.false_eq_true, Bool.not_true, Bool.not_false, decide_true, decide_false, o_add, o_sub, o_neg, o_lt, o_le, o_gt, o_ge, o_eq, o_ne, o_isN, o_notN, isNon_non, isNon_int, isNon_tup, isNon_lst, o_idxL, o_idxT, o_lenL, o_lenT, o_lenS, o_listL, o_listT, o_tupleL, o_tupleT, o_int, o_intb, o_max2, o_min2, o_slL, o_slT, atD_0, atD_1, atD_2, atD_3, atD_4, atD_5, range_4, range_3, range_2, hr, sg_3, show (decide (((3 : Nat) : Int) = 3)) = true from rfl, show (decide (((3 : Nat) : Int) = 1)) = false from rfl]
      · by_cases c1 : e2 = 1
        · subst c1
          simp only [ev_seq, ev_set, ev_op1, ev_op2, ev_call, ev_cons, ev_nil, ev_c, ev_var, ev_tup, ev_lst, ev_cb, ev_fz, ev_lend, ev_and, ev_or, ev_not, ev_chain, ev_if, ev_bm, ev_get2, ev_ixO, ev_sl, ev_some, ev_none, ev_tval, ev_tand, ev_tor, ev_tnot, ev_irange1, ev_irange2, ev_sif, ev_next, ev_ret, ev_retO, ev_raise, ev_app, ev_put, ev_dput, ev_for, ev_while, ev_pub, pub_cons, pub_nil, ev_drop, ev_dnew, res_nx, res_rt, res_xc, R.bind_ok, R.bind_xc, R.out_ok, R.out_xc, Out.bind_nx, Out.bind_rt, Out.bind_xc, Sl.d_va, Sl.d_ow, Sl.frz_va, Sl.frz_ow, Sl.frz_no, List.getElem?_cons_succ, List.getElem?_cons_zero, List.set_cons_succ, List.set_cons_zero, List.length_cons, List.length_nil, List.map_cons, List.map_nil, lim_val, Nat.zero_le, Nat.reduceAdd, Nat.reduceLeDiff, Nat.reduceEqDiff, reduceIte, Nat.zero_add, if_true, if_false, Bool.false_eq_true, Bool.not_true, Bool.not_false, decide_true, decide_false, o_add, o_sub, o_neg, o_lt, o_le, o_gt, o_ge, o_eq, o_ne, o_isN, o_notN, isNon_non, isNon_int, isNon_tup, isNon_lst, o_idxL, o_idxT, o_lenL, o_lenT, o_lenS, o_listL, o_listT, o_tupleL, o_tupleT, o_int, o_intb, o_max2, o_min2, o_slL, o_slT, atD_0, atD_1, atD_2, atD_3, atD_4, atD_5, range_4, range_3, range_2, hr, sg_1, show (decide (((1 : Nat) : Int) = 3)) = false from rfl, show (decide (((1 : Nat) : Int) = 1)) = true from rfl, Int.sub_eq_add_neg]
        · simp only [ev_seq, ev_set, ev_op1, ev_op2, ev_call, ev_cons, ev_nil, ev_c, ev_var, ev_tup, ev_lst, ev_cb, ev_fz, ev_lend, ev_and, ev_or, ev_not, ev_chain, ev_if, ev_bm, ev_get2, ev_ixO, ev_sl, ev_some, ev_none, ev_tval, ev_tand, ev_tor, ev_tnot, ev_irange1, ev_irange2, ev_sif, ev_next, ev_ret, ev_retO, ev_raise, ev_app, ev_put, ev_dput, ev_for, ev_while, ev_pub, pub_cons, pub_nil, ev_drop, ev_dnew, res_nx, res_rt, res_xc, R.bind_ok, R.bind_xc, R.out_ok, R.out_xc, Out.bind_nx, Out.bind_rt, Out.bind_xc, Sl.d_va, Sl.d_ow, Sl.frz_va, Sl.frz_ow, Sl.frz_no, List.getElem?_cons_succ, List.getElem?_cons_zero, List.set_cons_succ, List.set_cons_zero, List.length_cons, List.length_nil, List.map_cons, List.map_nil, lim_val, Nat.zero_le, Nat.reduceAdd, Nat.reduceLeDiff, Nat.reduceEqDiff, reduceIte, Nat.zero_add, if_true, if_false, Bool.false_eq_true, Bool.not_true, Bool.not_false, decide_true, decide_false, o_add, o_sub, o_neg, o_lt, o_le, o_gt, o_ge, o_eq, o_ne, o_isN, o_notN, isNon_non, isNon_int, isNon_tup, isNon_lst, o_idxL, o_idxT, o_lenL, o_lenT, o_lenS, o_listL, o_listT, o_tupleL, o_tupleT, o_int, o_intb, o_max2, o_min2, o_slL, o_slT, atD_0, atD_1, atD_2, atD_3, atD_4, atD_5, range_4, range_3, range_2, hr, sg3, c3, c1, sg_0 c3 c1, Int.add_zero])
  obtain ⟨e, hw, a, b, rfl⟩ := L
  rw [← rng_eq] at hw
  simp only [ev_seq, ev_set, ev_c, R.out_ok, Out.bind_nx, List.set_cons_succ, List.set_cons_zero, ev_for, ev_irange1, ev_cb, ev_cons, ev_nil, ev_op2, ev_var, List.getElem?_cons_succ, List.getElem?_cons_zero, R.bind_ok, Sl.d_va, sh0, o_lenT, hlen, range_nat (show m ≤ 1000000 by omega), hw, ev_ret, res_rt]
  unfold twi
  rw [h.len]
theorem law_twist_ok {m : Nat} {rs : List (List Int)} (h : Drawn m rs) (hm : m ≤ 100) : f_law_twist [.tup (encRs rs)] = .ok (.va (.int (twi rs))) := by
  unfold f_law_twist F_law_twist
  rw [fn_eq [.va (.tup (encRs rs)), .no, .no, .no] rfl]
  have hlen : (encRs rs).length = m := by rw [List.length_map, h.len]
  have L := forD_fold (j := 2) (b := B_law_twist_2) (enc := fun k : Nat => D.int (k : Int)) (fun (s : Int) e => ∃ a b, e = [.va (.tup (encRs rs)), .va (.int s), a, b]) (fun (s : Int) at_ => s + sg (ret rs at_ 2).2) (List.range m) 0 [.va (.tup (encRs rs)), .va (.int 0), .no, .no] ⟨_, _, rfl⟩
    (fun i x e hx he => by
      obtain ⟨a, b, rfl⟩ := he
      have hxm := List.mem_range.mp (List.mem_of_getElem? hx)
      have hp : Vp m (x, 2) := ⟨hxm, by show (2 : Nat) < 4; decide⟩
      have hf := law_mate_ok h hm hp
      have hf' : f_law_mate [.tup (encRs rs), .tup [.int (x : Int), .int 2]] = .ok (.va (encNP (mate rs (x, 2)))) := hf
      generalize ((List.range m).take i).foldl (fun (s : Int) at_ => s + sg (ret rs at_ 2).2) 0 = s at *
      have W := whileD_run (c := (tVal (eOp2 dNe (eOp2 dIdx (eVar 3) (eC (.int 0))) (eVar 2)))) (b := B_law_twist_1)
        (fun p : Nat × Nat => [.va (.tup (encRs rs)), .va (.int s), .va (.int (x : Int)), .va (encNP p)]) (aw x) (chi rs) (cI x m rs) (fun s hs => by obtain ⟨_, k, hk, _⟩ := hs; omega)
        (fun n s hs => by
          simp only [ev_tval, ev_op2, ev_var, ev_c, List.getElem?_cons_succ, List.getElem?_cons_zero, R.bind_ok, Sl.d_va, p0, o_ne, ne_at])
        (fun n s hs hq => by
          refine ⟨?_, cI_step h hs hq⟩
          have hf := law_mate_ok h hm (acr_v hs.1)
          have hf' : f_law_mate [.tup (encRs rs), .tup [.int (s.1 : Int), .int (((s.2 + 2) % 4 : Nat) : Int)]] = .ok (.va (encNP (mate rs (acr s)))) := hf
          unfold B_law_twist_1
          simp only [ev_set, ev_fz, ev_call, ev_tup, ev_cons, ev_nil, ev_var, ev_op2, ev_c, List.getElem?_cons_succ, List.getElem?_cons_zero, List.set_cons_succ, List.set_cons_zero, R.bind_ok, R.out_ok, Sl.d_va, List.length_cons, List.length_nil, Nat.reduceAdd, Nat.reduceLeDiff, lim_val, if_true, p0, p1, o_add, amod, hf', chi])
        1000 (mate rs (x, 2)) ⟨(mate_spec h hp).1, ret_stops h hm hp⟩
      have hW : whileD (tVal (eOp2 dNe (eOp2 dIdx (eVar 3) (eC (.int 0))) (eVar 2))) B_law_twist_1 1000 [.va (.tup (encRs rs)), .va (.int s), .va (.int (x : Int)), .va (encNP (mate rs (x, 2)))] = .nx [.va (.tup (encRs rs)), .va (.int s), .va (.int (x : Int)), .va (encNP (ret rs x 2))] := W
      unfold B_law_twist_2
      generalize hz : ret rs x 2 = z at *
      obtain ⟨z1, e2⟩ := z
      refine ⟨[.va (.tup (encRs rs)), .va (.int (s + sg e2)), .va (.int (x : Int)), .va (encNP (z1, e2))], ?_, _, _, rfl⟩
      by_cases c3 : e2 = 3
      · subst c3
        simp only [ev_seq, ev_set, ev_op1, ev_op2, ev_call, ev_cons, ev_nil, ev_c, ev_var, ev_tup, ev_lst, ev_cb, ev_fz, ev_lend, ev_and, ev_or, ev_not, ev_chain, ev_if, ev_bm, ev_get2, ev_ixO, ev_sl, ev_some, ev_none, ev_tval, ev_tand, ev_tor, ev_tnot, ev_irange1, ev_irange2, ev_sif, ev_next, ev_ret, ev_retO, ev_raise, ev_app, ev_put, ev_dput, ev_for, ev_while, ev_pub, pub_cons, pub_nil, ev_drop, ev_dnew, res_nx, res_rt, res_xc, R.bind_ok, R.bind_xc, R.out_ok, R.out_xc, Out.bind_nx, Out.bind_rt, Out.bind_xc, Sl.d_va, Sl.d_ow, Sl.frz_va, Sl.frz_ow, Sl.frz_no, List.getElem?_cons_succ, List.getElem?_cons_zero, List.set_cons_succ, List.set_cons_zero, List.length_cons, List.length_nil, List.map_cons, List.map_nil, lim_val, Nat.zero_le, Nat.reduceAdd, Nat.reduceLeDiff, Nat.reduceEqDiff, reduceIte, Nat.zero_add, if_true, if_false, Bool.false_eq_true, Bool.not_true, Bool.not_false, decide_true, decide_false, o_add, o_sub, o_neg, o_lt, o_le, o_gt, o_ge, o_eq, o_ne, o_isN, o_notN, isNon_non, isNon_int, isNon_tup, isNon_lst, o_idxL, o_idxT, o_lenL, o_lenT, o_lenS, o_listL, o_listT, o_tupleL, o_tupleT, o_int, o_intb, o_max2, o_min2, o_slL, o_slT, atD_0, atD_1, atD_2, atD_3, atD_4, atD_5, range_4, range_3, range_2, hf', hW, p1, sg_3, show (decide (((3 : Nat) : Int) = 3)) = true from rfl, show (decide (((3 : Nat) : Int) = 1)) = false from rfl]
      · by_cases c1 : e2 = 1
        · subst c1
          simp only [ev_seq, ev_set, ev_op1, ev_op2, ev_call, ev_cons, ev_nil, ev_c, ev_var, ev_tup, ev_lst, ev_cb, ev_fz, ev_lend, ev_and, ev_or, ev_not, ev_chain, ev_if, ev_bm, ev_get2, ev_ixO, ev_sl, ev_some, ev_none, ev_tval, ev_tand, ev_tor, ev_tnot, ev_irange1, ev_irange2, ev_sif, ev_next, ev_ret, ev_retO, ev_raise, ev_app, ev_put, ev_dput, ev_for, ev_while, ev_pub, pub_cons, pub_nil, ev_drop, ev_dnew, res_nx, res_rt, res_xc, R.bind_ok, R.bind_xc, R.out_ok, R.out_xc, Out.bind_nx, Out.bind_rt, Out.bind_xc, Sl.d_va, Sl.d_ow, Sl.frz_va, Sl.frz_ow, Sl.frz_no, List.getElem?_cons_succ, List.getElem?_cons_zero, List.set_cons_succ, List.set_cons_zero, List.length_cons, List.length_nil, List.map_cons, List.map_nil, lim_val, Nat.zero_le, Nat.reduceAdd, Nat.reduceLeDiff, Nat.reduceEqDiff, reduceIte, Nat.zero_add, if_true, if_false, Bool.false_eq_true, Bool.not_true, Bool.not_false, decide_true, decide_false, o_add, o_sub, o_neg, o_lt, o_le, o_gt, o_ge, o_eq, o_ne, o_isN, o_notN, isNon_non, isNon_int, isNon_tup, isNon_lst, o_idxL, o_idxT, o_lenL, o_lenT, o_lenS, o_listL, o_listT, o_tupleL, o_tupleT, o_int, o_intb, o_max2, o_min2, o_slL, o_slT, atD_0, atD_1, atD_2, atD_3, atD_4, atD_5, range_4, range_3, range_2, hf', hW, p1, sg_1, show (decide (((1 : Nat) : Int) = 3)) = false from rfl, show (decide (((1 : Nat) : Int) = 1)) = true from rfl, Int.sub_eq_add_neg]
        · simp only [ev_seq, ev_set, ev_op1, ev_op2, ev_call, ev_cons, ev_nil, ev_c, ev_var, ev_tup, ev_lst, ev_cb, ev_fz, ev_lend, ev_and, ev_or, ev_not, ev_chain, ev_if, ev_bm, ev_get2, ev_ixO, ev_sl, ev_some, ev_none, ev_tval, ev_tand, ev_tor, ev_tnot, ev_irange1, ev_irange2, ev_sif, ev_next, ev_ret, ev_retO, ev_raise, ev_app, ev_put, ev_dput, ev_for, ev_while, ev_pub, pub_cons, pub_nil, ev_drop, ev_dnew, res_nx, res_rt, res_xc, R.bind_ok, R.bind_xc, R.out_ok, R.out_xc, Out.bind_nx, Out.bind_rt, Out.bind_xc, Sl.d_va, Sl.d_ow, Sl.frz_va, Sl.frz_ow, Sl.frz_no, List.getElem?_cons_succ, List.getElem?_cons_zero, List.set_cons_succ, List.set_cons_zero, List.length_cons, List.length_nil, List.map_cons, List.map_nil, lim_val, Nat.zero_le, Nat.reduceAdd, Nat.reduceLeDiff, Nat.reduceEqDiff, reduceIte, Nat.zero_add, if_true, if_false, Bool.false_eq_true, Bool.not_true, Bool.not_false, decide_true, decide_false, o_add, o_sub, o_neg, o_lt, o_le, o_gt, o_ge, o_eq, o_ne, o_isN, o_notN, isNon_non, isNon_int, isNon_tup, isNon_lst, o_idxL, o_idxT, o_lenL, o_lenT, o_lenS, o_listL, o_listT, o_tupleL, o_tupleT, o_int, o_intb, o_max2, o_min2, o_slL, o_slT, atD_0, atD_1, atD_2, atD_3, atD_4, atD_5, range_4, range_3, range_2, hf', hW, p1, sg3, c3, c1, sg_0 c3 c1, Int.add_zero])
  obtain ⟨e, hw, a, b, rfl⟩ := L
  rw [← rng_eq] at hw
  simp only [ev_seq, ev_set, ev_c, R.out_ok, Out.bind_nx, List.set_cons_succ, List.set_cons_zero, ev_for, ev_irange1, ev_cb, ev_cons, ev_nil, ev_op2, ev_var, List.getElem?_cons_succ, List.getElem?_cons_zero, R.bind_ok, Sl.d_va, o_lenT, hlen, range_nat (show m ≤ 1000000 by omega), hw, ev_ret, res_rt]
  unfold twi
  rw [h.len]
end DL
set_option maxRecDepth 100000
/-! MS3: the walks of the sums -/
namespace DL
open PySem (Str)
theorem ofF_of : ∀ l : IK, ofF (toF l) = some l
  | [] => rfl
  | p :: l => by
    show (ofF (toF l)).map ((p.1, p.2) :: ·) = _
    rw [ofF_of l]
    rfl
theorem toF_keys (l : IK) : (toF l).map (·.1) = keysZ l := by
  unfold toF
  rw [List.map_map]
  rfl
theorem toF_len (l : IK) : (toF l).length = l.length := List.length_map _
theorem addT_ok {i : Nat} {fx fsh fsg : FE} {e : Env} {l o : IK} {sh sg : Int} (he : e[i]? = some (.ow (.dic (toF l)))) (hx : fx e = .ok (.ow (.dic (toF o)))) (hs : fsh e = .ok (.va (.int sh))) (hg : fsg e = .ok (.va (.int sg)))
    (hsz : l.length + o.length < LIM) (h1 : -(2 ^ 64) < sg) (h2 : sg < 2 ^ 64) : sAddT i fx fsh fsg e = .nx (e.set i (.ow (.dic (toF (DL.addTo l o sh sg))))) := by
  unfold sAddT
  rw [he]
  simp only [hx, hs, hg, R.out_ok, Sl.d_va, ofF_of]
  rw [if_pos ⟨hsz, h1, h2⟩]
theorem lawAdd_ok {ch : List D → R Sl} {i : Nat} {fp fr : FE} {e : Env} {l l' : IK} {pw rg : Int} (he : e[i]? = some (.ow (.dic (toF l)))) (hp : fp e = .ok (.va (.int pw))) (hr : fr e = .ok (.va (.int rg))) (hl : lawAddL ch l pw rg = some l') :
    sLawAdd ch i fp fr e = .nx (e.set i (.ow (.dic (toF l')))) := by
  unfold sLawAdd
  rw [he]
  simp only [hp, hr, R.out_ok, Sl.d_va, ofF_of, hl]
theorem lcmO {α : Type} {it : FI} {j : Nat} {el : FE} {own : List Nat} {e : Env} {enc : α → D} (g : α → D) (xs : List α) (hit : it e = .ok (xs.map enc)) (hl : xs.length ≤ 1000000) (h : ∀ x ∈ xs, el ((wipeE e own).set j (.va (enc x))) = .ok (.ow (g x))) :
    eLc it j tYes el own e = .ok (.ow (.lst (xs.map g))) := by
  have := lc_map (j := j) (el := el) (e := wipeE e own) (enc := enc) (g := fun x => Sl.ow (g x)) xs h
  exact lc_ok hit (by rw [List.length_map]; exact hl) this
/-! ### choices, ways, rings -/
theorem choices_ok {r : Nat} (hr : r ≤ 1000) : f_law_choices [.int (r : Int)] = .ok (.va (.lst (encI (rowB r)))) := by
  unfold f_law_choices F_law_choices
  rw [fn_eq [.va (.int (r : Int)), .no, .no, .no, .no] rfl]
  have hrn := range_nat (n := r) (by omega)
  have L := forD_rng (j := 2) (b := B_law_choices_2) r (fun i e => ∃ a b c, e = [.va (.int (r : Int)), .va (.lst (encI (rowB i))), a, b, c]) [.va (.int (r : Int)), .va (.lst (encI (rowB 0))), .no, .no, .no] ⟨_, _, _, rfl⟩
    (fun i e hi ⟨a, b, c, he⟩ => by
      subst he
      have hln : bLen [.lst (encI (rowB i))] = .ok (.va (.int ((i + 1 : Nat) : Int))) := by rw [o_lenL, List.length_map, rowB_len]
      have hri := range_nat (n := i) (by omega)
      have hsub : (((i + 1 : Nat) : Int) - 1) = (i : Int) := by omega
      obtain ⟨y, hy⟩ := forD_app (j := 4) (i := 3) (el := eOp2 dAdd (eOp2 dIdx (eVar 1) (eVar 4)) (eOp2 dIdx (eVar 1) (eOp2 dAdd (eVar 4) (eC (.int 1))))) (enc := fun k : Nat => D.int (k : Int)) (fun k => D.int (binZ i k + binZ i (k + 1)))
        (fun s y => [.va (.int (r : Int)), .va (.lst (encI (rowB i))), .va (.int (i : Int)), .ow (.lst s), y]) (fun s y x => rfl) (fun s x => rfl) (fun s x t => rfl) (List.range i) [.int 1] c (fun k hk s => by
          have hk2 := List.mem_range.mp hk
          have x1 : atD (encI (rowB i)) (k : Int) = some (.int (binZ i k)) := by
            rw [atD_nat, List.getElem?_map, List.getElem?_eq_getElem (by rw [rowB_len]; omega)]
            have := rowB_get (r := i) (e := k) (by omega)
            rw [List.getD_eq_getElem?_getD, List.getElem?_eq_getElem (by rw [rowB_len]; omega)] at this
            exact congrArg (fun z => some (D.int z)) this
          have x2 : atD (encI (rowB i)) ((k : Int) + 1) = some (.int (binZ i (k + 1))) := by
            rw [show (k : Int) + 1 = ((k + 1 : Nat) : Int) from rfl, atD_nat, List.getElem?_map, List.getElem?_eq_getElem (by rw [rowB_len]; omega)]
            have := rowB_get (r := i) (e := k + 1) (by omega)
            rw [List.getD_eq_getElem?_getD, List.getElem?_eq_getElem (by rw [rowB_len]; omega)] at this
            exact congrArg (fun z => some (D.int z)) this
          simp only [ev_seq, ev_set, ev_op1, ev_op2, ev_call, ev_cons, ev_nil, ev_c, ev_var, ev_tup, ev_lst, ev_cb, ev_fz, ev_lend, ev_and, ev_or, ev_not, ev_chain, ev_if, ev_bm, ev_get2, ev_ixO, ev_sl, ev_some, ev_none, ev_tval, ev_tand, ev_tor, ev_tnot, ev_irange1, ev_irange2, ev_sif, ev_next, ev_ret, ev_retO, ev_raise, ev_app, ev_put, ev_dput, ev_for, ev_while, ev_pub, pub_cons, pub_nil, ev_drop, ev_dnew, res_nx, res_rt, res_xc, R.bind_ok, R.bind_xc, R.out_ok, R.out_xc, Out.bind_nx, Out.bind_rt, Out.bind_xc, Sl.d_va, Sl.d_ow, Sl.frz_va, Sl.frz_ow, Sl.frz_no, List.getElem?_cons_succ, List.getElem?_cons_zero, List.set_cons_succ, List.set_cons_zero, List.length_cons, List.length_nil, List.map_cons, List.map_nil, lim_val, Nat.zero_le, Nat.reduceAdd, Nat.reduceLeDiff, Nat.reduceEqDiff, reduceIte, Nat.zero_add, if_true, if_false, Bool.false_eq_true, Bool.not_true, Bool.not_false, decide_true, decide_false, o_add, o_sub, o_neg, o_lt, o_le, o_gt, o_ge, o_eq, o_ne, o_isN, o_notN, isNon_non, isNon_int, isNon_tup, isNon_lst, o_idxL, o_idxT, o_lenL, o_lenT, o_lenS, o_listL, o_listT, o_tupleL, o_tupleT, o_int, o_intb, o_max2, o_min2, o_slL, o_slT, atD_0, atD_1, atD_2, atD_3, atD_4, atD_5, range_4, range_3, range_2, x1, x2]) (by simp; omega)
      rw [← rng_eq] at hy
      have ad : dAdd (.lst ([D.int 1] ++ (List.range i).map fun k => D.int (binZ i k + binZ i (k + 1)))) (.lst [.int 1]) = .ok (.ow (.lst (encI (rowB (i + 1))))) := by
        rw [o_addL (by rw [lim_val]; simp; omega), rowB_succ]
        simp only [List.map_append, List.map_cons, List.map_nil, List.map_map, List.cons_append, List.nil_append]
        rfl
      refine ⟨[.va (.int (r : Int)), .va (.lst (encI (rowB (i + 1)))), .va (.int (i : Int)), .va (.lst ([D.int 1] ++ (List.range i).map fun k => D.int (binZ i k + binZ i (k + 1)))), y], ?_, .va (.int (i : Int)), _, _, rfl⟩
      unfold B_law_choices_2 B_law_choices_1
      simp only [ev_seq, ev_set, ev_op1, ev_op2, ev_call, ev_cons, ev_nil, ev_c, ev_var, ev_tup, ev_lst, ev_cb, ev_fz, ev_lend, ev_and, ev_or, ev_not, ev_chain, ev_if, ev_bm, ev_get2, ev_ixO, ev_sl, ev_some, ev_none, ev_tval, ev_tand, ev_tor, ev_tnot, ev_irange1, ev_irange2, ev_sif, ev_next, ev_ret, ev_retO, ev_raise, ev_app, ev_put, ev_dput, ev_for, ev_while, ev_pub, pub_cons, pub_nil, ev_drop, ev_dnew, res_nx, res_rt, res_xc, R.bind_ok, R.bind_xc, R.out_ok, R.out_xc, Out.bind_nx, Out.bind_rt, Out.bind_xc, Sl.d_va, Sl.d_ow, Sl.frz_va, Sl.frz_ow, Sl.frz_no, List.getElem?_cons_succ, List.getElem?_cons_zero, List.set_cons_succ, List.set_cons_zero, List.length_cons, List.length_nil, List.map_cons, List.map_nil, lim_val, Nat.zero_le, Nat.reduceAdd, Nat.reduceLeDiff, Nat.reduceEqDiff, reduceIte, Nat.zero_add, if_true, if_false, Bool.false_eq_true, Bool.not_true, Bool.not_false, decide_true, decide_false, o_add, o_sub, o_neg, o_lt, o_le, o_gt, o_ge, o_eq, o_ne, o_isN, o_notN, isNon_non, isNon_int, isNon_tup, isNon_lst, o_idxL, o_idxT, o_lenL, o_lenT, o_lenS, o_listL, o_listT, o_tupleL, o_tupleT, o_int, o_intb, o_max2, o_min2, o_slL, o_slT, atD_0, atD_1, atD_2, atD_3, atD_4, atD_5, range_4, range_3, range_2, hln, hsub, hri, hy, ad])
  obtain ⟨e, hL, a, b, c, rfl⟩ := L
  have e0 : encI (rowB 0) = [D.int 1] := rfl
  rw [e0] at hL
  simp only [ev_seq, ev_set, ev_op1, ev_op2, ev_call, ev_cons, ev_nil, ev_c, ev_var, ev_tup, ev_lst, ev_cb, ev_fz, ev_lend, ev_and, ev_or, ev_not, ev_chain, ev_if, ev_bm, ev_get2, ev_ixO, ev_sl, ev_some, ev_none, ev_tval, ev_tand, ev_tor, ev_tnot, ev_irange1, ev_irange2, ev_sif, ev_next, ev_ret, ev_retO, ev_raise, ev_app, ev_put, ev_dput, ev_for, ev_while, ev_pub, pub_cons, pub_nil, ev_drop, ev_dnew, res_nx, res_rt, res_xc, R.bind_ok, R.bind_xc, R.out_ok, R.out_xc, Out.bind_nx, Out.bind_rt, Out.bind_xc, Sl.d_va, Sl.d_ow, Sl.frz_va, Sl.frz_ow, Sl.frz_no, List.getElem?_cons_succ, List.getElem?_cons_zero, List.set_cons_succ, List.set_cons_zero, List.length_cons, List.length_nil, List.map_cons, List.map_nil, lim_val, Nat.zero_le, Nat.reduceAdd, Nat.reduceLeDiff, Nat.reduceEqDiff, reduceIte, Nat.zero_add, if_true, if_false, Bool.false_eq_true, Bool.not_true, Bool.not_false, decide_true, decide_false, o_add, o_sub, o_neg, o_lt, o_le, o_gt, o_ge, o_eq, o_ne, o_isN, o_notN, isNon_non, isNon_int, isNon_tup, isNon_lst, o_idxL, o_idxT, o_lenL, o_lenT, o_lenS, o_listL, o_listT, o_tupleL, o_tupleT, o_int, o_intb, o_max2, o_min2, o_slL, o_slT, atD_0, atD_1, atD_2, atD_3, atD_4, atD_5, range_4, range_3, range_2, hrn, hL]
theorem law_ways_ok {m : Nat} (hm : m ≤ 16) : f_law_ways [.int (m : Int)] = .ok (.va (.lst ((waysL m).map fun w => D.lst (encI w)))) := by
  unfold f_law_ways F_law_ways
  rw [fn_eq [.va (.int (m : Int)), .no, .no, .no] rfl]
  have hrm := range_nat (n := m) (by omega)
  have L := forD_rng (j := 2) (b := B_law_ways_1) m (fun i e => ∃ a b, e = [.va (.int (m : Int)), .va (.lst ((waysL i).map fun w => D.lst (encI w))), a, b]) [.va (.int (m : Int)), .va (.lst [.lst []]), .no, .no] ⟨_, _, rfl⟩
    (fun i e hi ⟨a, b, he⟩ => by
      subst he
      have hwl : (waysL i).length ≤ 65536 := by
        rw [waysL_len]
        exact Nat.le_trans (Nat.pow_le_pow_right (by decide) (show i ≤ 16 by omega)) (by decide)
      have c := fun (v : Int) => lcmO (it := iSeq (eVar 1)) (j := 3) (own := [3]) (el := eOp2 dAdd (eVar 3) (eLst (aCons (eC (.int v)) aNil))) (e := [.va (.int (m : Int)), .va (.lst ((waysL i).map fun w => D.lst (encI w))), .va (.int (i : Int)), b]) (enc := fun w => D.lst (encI w)) (fun w => D.lst (encI (w ++ [v]))) (waysL i) (by simp only [ev_seq, ev_set, ev_op1, ev_op2, ev_call, ev_cons, ev_nil, ev_c, ev_var, ev_tup, ev_lst, ev_cb, ev_fz, ev_lend, ev_and, ev_or, ev_not, ev_chain, ev_if, ev_bm, ev_get2, ev_ixO, ev_sl, ev_some, ev_none, ev_tval, ev_tand, ev_tor, ev_tnot, ev_irange1, ev_irange2, ev_sif, ev_next, ev_ret, ev_retO, ev_raise, ev_app, ev_put, ev_dput, ev_for, ev_while, ev_pub, pub_cons, pub_nil, ev_drop, ev_dnew, res_nx, res_rt, res_xc, R.bind_ok, R.bind_xc, R.out_ok, R.out_xc, Out.bind_nx, Out.bind_rt, Out.bind_xc, Sl.d_va, Sl.d_ow, Sl.frz_va, Sl.frz_ow, Sl.frz_no, List.getElem?_cons_succ, List.getElem?_cons_zero, List.set_cons_succ, List.set_cons_zero, List.length_cons, List.length_nil, List.map_cons, List.map_nil, lim_val, Nat.zero_le, Nat.reduceAdd, Nat.reduceLeDiff, Nat.reduceEqDiff, reduceIte, Nat.zero_add, if_true, if_false, Bool.false_eq_true, Bool.not_true, Bool.not_false, decide_true, decide_false, o_add, o_sub, o_neg, o_lt, o_le, o_gt, o_ge, o_eq, o_ne, o_isN, o_notN, isNon_non, isNon_int, isNon_tup, isNon_lst, o_idxL, o_idxT, o_lenL, o_lenT, o_lenS, o_listL, o_listT, o_tupleL, o_tupleT, o_int, o_intb, o_max2, o_min2, o_slL, o_slT, atD_0, atD_1, atD_2, atD_3, atD_4, atD_5, range_4, range_3, range_2, ev_iseq]) (by omega) (fun w hw => by
        have hl := (waysL_mem i w hw).1
        have ad : dAdd (.lst (encI w)) (.lst [.int v]) = .ok (.ow (.lst (encI (w ++ [v])))) := by
          rw [o_addL (by rw [lim_val, List.length_map]; simp; omega)]
          rw [show encI (w ++ [v]) = encI w ++ [D.int v] from List.map_append]
        simp only [ev_seq, ev_set, ev_op1, ev_op2, ev_call, ev_cons, ev_nil, ev_c, ev_var, ev_tup, ev_lst, ev_cb, ev_fz, ev_lend, ev_and, ev_or, ev_not, ev_chain, ev_if, ev_bm, ev_get2, ev_ixO, ev_sl, ev_some, ev_none, ev_tval, ev_tand, ev_tor, ev_tnot, ev_irange1, ev_irange2, ev_sif, ev_next, ev_ret, ev_retO, ev_raise, ev_app, ev_put, ev_dput, ev_for, ev_while, ev_pub, pub_cons, pub_nil, ev_drop, ev_dnew, res_nx, res_rt, res_xc, R.bind_ok, R.bind_xc, R.out_ok, R.out_xc, Out.bind_nx, Out.bind_rt, Out.bind_xc, Sl.d_va, Sl.d_ow, Sl.frz_va, Sl.frz_ow, Sl.frz_no, List.getElem?_cons_succ, List.getElem?_cons_zero, List.set_cons_succ, List.set_cons_zero, List.length_cons, List.length_nil, List.map_cons, List.map_nil, lim_val, Nat.zero_le, Nat.reduceAdd, Nat.reduceLeDiff, Nat.reduceEqDiff, reduceIte, Nat.zero_add, if_true, if_false, Bool.false_eq_true, Bool.not_true, Bool.not_false, decide_true, decide_false, o_add, o_sub, o_neg, o_lt, o_le, o_gt, o_ge, o_eq, o_ne, o_isN, o_notN, isNon_non, isNon_int, isNon_tup, isNon_lst, o_idxL, o_idxT, o_lenL, o_lenT, o_lenS, o_listL, o_listT, o_tupleL, o_tupleT, o_int, o_intb, o_max2, o_min2, o_slL, o_slT, atD_0, atD_1, atD_2, atD_3, atD_4, atD_5, range_4, range_3, range_2, wipe_cons, wipe_nil, ad])
      have c0 := c 0
      have c1 := c 1
      have ad : dAdd (.lst ((waysL i).map fun w => D.lst (encI (w ++ [0])))) (.lst ((waysL i).map fun w => D.lst (encI (w ++ [1])))) = .ok (.ow (.lst ((waysL (i + 1)).map fun w => D.lst (encI w)))) := by
        rw [o_addL (by rw [lim_val, List.length_map, List.length_map]; omega), waysL, List.map_append, List.map_map, List.map_map]
        rfl
      refine ⟨_, ?_, .va (.int (i : Int)), b, rfl⟩
      unfold B_law_ways_1
      simp only [ev_seq, ev_set, ev_op1, ev_op2, ev_call, ev_cons, ev_nil, ev_c, ev_var, ev_tup, ev_lst, ev_cb, ev_fz, ev_lend, ev_and, ev_or, ev_not, ev_chain, ev_if, ev_bm, ev_get2, ev_ixO, ev_sl, ev_some, ev_none, ev_tval, ev_tand, ev_tor, ev_tnot, ev_irange1, ev_irange2, ev_sif, ev_next, ev_ret, ev_retO, ev_raise, ev_app, ev_put, ev_dput, ev_for, ev_while, ev_pub, pub_cons, pub_nil, ev_drop, ev_dnew, res_nx, res_rt, res_xc, R.bind_ok, R.bind_xc, R.out_ok, R.out_xc, Out.bind_nx, Out.bind_rt, Out.bind_xc, Sl.d_va, Sl.d_ow, Sl.frz_va, Sl.frz_ow, Sl.frz_no, List.getElem?_cons_succ, List.getElem?_cons_zero, List.set_cons_succ, List.set_cons_zero, List.length_cons, List.length_nil, List.map_cons, List.map_nil, lim_val, Nat.zero_le, Nat.reduceAdd, Nat.reduceLeDiff, Nat.reduceEqDiff, reduceIte, Nat.zero_add, if_true, if_false, Bool.false_eq_true, Bool.not_true, Bool.not_false, decide_true, decide_false, o_add, o_sub, o_neg, o_lt, o_le, o_gt, o_ge, o_eq, o_ne, o_isN, o_notN, isNon_non, isNon_int, isNon_tup, isNon_lst, o_idxL, o_idxT, o_lenL, o_lenT, o_lenS, o_listL, o_listT, o_tupleL, o_tupleT, o_int, o_intb, o_max2, o_min2, o_slL, o_slT, atD_0, atD_1, atD_2, atD_3, atD_4, atD_5, range_4, range_3, range_2, c0, c1, ad])
  obtain ⟨e, hL, a, b, rfl⟩ := L
  simp only [ev_seq, ev_set, ev_op1, ev_op2, ev_call, ev_cons, ev_nil, ev_c, ev_var, ev_tup, ev_lst, ev_cb, ev_fz, ev_lend, ev_and, ev_or, ev_not, ev_chain, ev_if, ev_bm, ev_get2, ev_ixO, ev_sl, ev_some, ev_none, ev_tval, ev_tand, ev_tor, ev_tnot, ev_irange1, ev_irange2, ev_sif, ev_next, ev_ret, ev_retO, ev_raise, ev_app, ev_put, ev_dput, ev_for, ev_while, ev_pub, pub_cons, pub_nil, ev_drop, ev_dnew, res_nx, res_rt, res_xc, R.bind_ok, R.bind_xc, R.out_ok, R.out_xc, Out.bind_nx, Out.bind_rt, Out.bind_xc, Sl.d_va, Sl.d_ow, Sl.frz_va, Sl.frz_ow, Sl.frz_no, List.getElem?_cons_succ, List.getElem?_cons_zero, List.set_cons_succ, List.set_cons_zero, List.length_cons, List.length_nil, List.map_cons, List.map_nil, lim_val, Nat.zero_le, Nat.reduceAdd, Nat.reduceLeDiff, Nat.reduceEqDiff, reduceIte, Nat.zero_add, if_true, if_false, Bool.false_eq_true, Bool.not_true, Bool.not_false, decide_true, decide_false, o_add, o_sub, o_neg, o_lt, o_le, o_gt, o_ge, o_eq, o_ne, o_isN, o_notN, isNon_non, isNon_int, isNon_tup, isNon_lst, o_idxL, o_idxT, o_lenL, o_lenT, o_lenS, o_listL, o_listT, o_tupleL, o_tupleT, o_int, o_intb, o_max2, o_min2, o_slL, o_slT, atD_0, atD_1, atD_2, atD_3, atD_4, atD_5, range_4, range_3, range_2, hrm, hL]
theorem law_rings_ok {ps : List (List Int)} (h2 : ∀ p ∈ ps, p.length = 2) (hl : ps.length < 500) : f_law_rings [.lst (encRs ps)] = .ok (.va (.int ((rngL ps : Nat) : Int))) := by
  unfold f_law_rings ringsF
  simp only [rowsD_enc (d := .lst (encRs ps)) (rs := ps) (.inl rfl)]
  rw [if_pos ⟨hl, h2⟩]
theorem rng_le : ∀ (n : Nat) (ps : List (List Int)), ps.length = n → rngL ps ≤ n
  | 0, ps, h => by
    rw [List.length_eq_zero_iff.mp h, rng_nil]
    exact Nat.le_refl _
  | n + 1, p :: ps, h => by
    rw [rng_cons]
    have := rng_le n (ps.map fun r => r.map (ren (p.getD 1 0) (p.getD 0 0))) (by rw [List.length_map]; simpa using h)
    split <;> omega
theorem lawAddL_eq {ch : List D → R Sl} {l : IK} {pw rg : Int} {ds : List D} {row : List Int} (h1 : ch [.int rg] = .ok (.va (.lst ds))) (h2 : intsOf ds = some row) (h3 : l.length + row.length < LIM) :
    lawAddL ch l pw rg = some ((List.range row.length).foldl (fun f (e : Nat) => addZ f (pw + 2 * rg - 4 * (e : Int)) (row.getD e 0 * (1 - 2 * (rg % 2)))) l) := by
  unfold lawAddL
  rw [h1]
  simp only [h2]
  rw [if_pos h3]
theorem lawAddL_ok {l : IK} {pw : Int} {r : Nat} (hr : r ≤ 1000) (hl : l.length ≤ 100000) : lawAddL f_law_choices l pw (r : Int) = some (addC l pw r) := by
  unfold addC
  exact lawAddL_eq (choices_ok hr) (intsOf_enc _) (by rw [rowB_len, lim_val]; omega)
/-! ### all ways, by the law -/
theorem pairsW_take : ∀ (rs : List (List Int)) (w : List Int) (i : Nat), rs.length = w.length → i < rs.length → pairsW (rs.take (i + 1)) (w.take (i + 1)) = pairsW (rs.take i) (w.take i) ++ prs (rs.getD i []) (w.getD i 0)
  | r :: rs, v :: w, 0, h, hi => by
    show prs r v ++ pairsW (rs.take 0) (w.take 0) = [] ++ prs r v
    simp [pairsW]
  | r :: rs, v :: w, i + 1, h, hi => by
    have ih := pairsW_take rs w i (by simpa using h) (by simpa using hi)
    show prs r v ++ pairsW (rs.take (i + 1)) (w.take (i + 1)) = (prs r v ++ pairsW (rs.take i) (w.take i)) ++ prs (rs.getD i []) (w.getD i 0)
    rw [ih, List.append_assoc]
def stepW (rs : List (List Int)) (rg : Nat) (l : IK) (w : List Int) : IK := addC l ((rs.length : Int) - 2 * w.sum) (rg + rngL (pairsW rs w))
theorem sum01 : ∀ w : List Int, (∀ x ∈ w, x = 0 ∨ x = 1) → 0 ≤ w.sum ∧ w.sum ≤ w.length
  | [], _ => ⟨Int.le_refl _, Int.le_refl _⟩
  | x :: w, h => by
    have ih := sum01 w fun y m => h y (List.mem_cons_of_mem _ m)
    have hx := h x List.mem_cons_self
    rw [List.sum_cons, List.length_cons]
    omega
theorem stepW_ok {rs : List (List Int)} {rg : Nat} {w : List Int} {l : IK} (hw : w.length = rs.length) (h01 : ∀ x ∈ w, x = 0 ∨ x = 1) (h : Wf l (5 * (rs.length : Int) + 2 * (rg : Int))) :
    Wf (stepW rs rg l w) (5 * (rs.length : Int) + 2 * (rg : Int)) ∧ ∀ x, getZ (stepW rs rg l w) x = getZ l x + Tp (rg + rngL (pairsW rs w)) ((rs.length : Int) - 2 * w.sum) x := by
  have h1 := rng_le _ (pairsW rs w) rfl
  rw [pairsW_len rs w hw.symm] at h1
  have h2 := sum01 w h01
  unfold stepW
  exact addC_ok h (by push_cast; omega) (by push_cast; omega)
theorem law_total_ok {rs : List (List Int)} {rg : Nat} (h4 : ∀ r ∈ rs, r.length = 4) (hm : rs.length ≤ 16) (hr : rg ≤ 400) :
    ∃ l, f_law_total [.tup (encRs rs), .int (rg : Int)] = .ok (.ow (.dic (toF l))) ∧ Wf l (5 * (rs.length : Int) + 2 * (rg : Int)) ∧ ∀ x, getZ l x = stS rs rg x := by
  have hwl : (waysL rs.length).length ≤ 65536 := by
    rw [waysL_len]
    exact Nat.le_trans (Nat.pow_le_pow_right (by decide) (show rs.length ≤ 16 by omega)) (by decide)
  have fold : ∀ (ws : List (List Int)) (l : IK), (∀ w ∈ ws, w.length = rs.length ∧ ∀ x ∈ w, x = 0 ∨ x = 1) → Wf l (5 * (rs.length : Int) + 2 * (rg : Int)) →
      Wf (ws.foldl (stepW rs rg) l) (5 * (rs.length : Int) + 2 * (rg : Int)) ∧ ∀ x, getZ (ws.foldl (stepW rs rg) l) x = getZ l x + (ws.map fun w => Tp (rg + rngL (pairsW rs w)) ((rs.length : Int) - 2 * w.sum) x).sum := by
    intro ws
    induction ws with
    | nil => exact fun l _ h => ⟨h, fun x => by simp⟩
    | cons w ws ih =>
      intro l hw h
      obtain ⟨a, b⟩ := stepW_ok (hw w List.mem_cons_self).1 (hw w List.mem_cons_self).2 h
      obtain ⟨c, d⟩ := ih (stepW rs rg l w) (fun v m => hw v (List.mem_cons_of_mem _ m)) a
      exact ⟨c, fun x => by rw [List.foldl_cons, d, b, List.map_cons, List.sum_cons, Int.add_assoc]⟩
  obtain ⟨f1, f2⟩ := fold (waysL rs.length) [] (waysL_mem _) (wf_nil _)
  refine ⟨_, ?_, f1, fun x => ?_⟩
  · unfold f_law_total F_law_total
    rw [fn_eq [.va (.tup (encRs rs)), .va (.int (rg : Int)), .no, .no, .no, .no, .no] rfl]
    have hln : bLen [.tup (encRs rs)] = .ok (.va (.int ((rs.length : Nat) : Int))) := by rw [o_lenT, List.length_map]
    have hws := law_ways_ok hm
    have L := forD_inv (j := 3) (b := B_law_total_2) (enc := fun w => D.lst (encI w)) (fun (l : IK) e => (∃ a b c d, e = [.va (.tup (encRs rs)), .va (.int (rg : Int)), .ow (.dic (toF l)), a, b, c, d]) ∧ Wf l (5 * (rs.length : Int) + 2 * (rg : Int))) (stepW rs rg) (waysL rs.length) [] [.va (.tup (encRs rs)), .va (.int (rg : Int)), .ow (.dic []), .no, .no, .no, .no] ⟨⟨_, _, _, _, rfl⟩, wf_nil _⟩
      (fun l w e hw ⟨⟨a, b, c, d, he⟩, wf⟩ => by
        subst he
        obtain ⟨w1, w2⟩ := waysL_mem _ w hw
        have hrn := range_nat (n := rs.length) (by omega)
        have L1 := forD_rng (j := 5) (b := B_law_total_1) rs.length (fun i e => ∃ x y, e = [.va (.tup (encRs rs)), .va (.int (rg : Int)), .ow (.dic (toF l)), .va (.lst (encI w)), .va (.lst (encRs (pairsW (rs.take i) (w.take i)))), x, y]) [.va (.tup (encRs rs)), .va (.int (rg : Int)), .ow (.dic (toF l)), .va (.lst (encI w)), .va (.lst []), c, d] ⟨c, d, by rw [List.take_zero]; cases w <;> rfl⟩
          (fun i e hi ⟨x, y, he⟩ => by
            subst he
            have hrow := row_at_k hi
            have hg : rs.getD i [] = rs[i] := getD_eq hi
            obtain ⟨p, q, s, t, e4⟩ := four_of (h4 _ (List.getElem_mem hi))
            rw [e4] at hrow hg
            have hwi : atD (encI w) (i : Int) = some (.int (w.getD i 0)) := by
              rw [atD_nat, List.getElem?_map, List.getElem?_eq_getElem (by omega), getD_eq (by omega)]
              rfl
            have hpl := pairsW_len (rs.take i) (w.take i) (by rw [List.length_take, List.length_take]; omega)
            rw [List.length_take] at hpl
            have hpt := pairsW_take rs w i w1.symm hi
            rw [hg] at hpt
            have ad : ∀ z : List (List Int), z.length = 2 → dAdd (.lst (encRs (pairsW (rs.take i) (w.take i)))) (.lst (encRs z)) = .ok (.ow (.lst (encRs (pairsW (rs.take i) (w.take i) ++ z)))) := fun z hz => by
              rw [o_addL (by rw [lim_val, List.length_map, List.length_map, hz]; omega)]
              rw [show encRs (pairsW (rs.take i) (w.take i) ++ z) = encRs (pairsW (rs.take i) (w.take i)) ++ encRs z from List.map_append]
            rw [hpt]
            unfold prs
            simp only [List.getD_cons_zero, List.getD_cons_succ]
            unfold B_law_total_1
            by_cases c0 : w.getD i 0 = 0
            · have a1 := ad [[p, q], [s, t]] rfl
              have a1' : dAdd (.lst (encRs (pairsW (rs.take i) (w.take i)))) (.lst [.tup [.int p, .int q], .tup [.int s, .int t]]) = .ok (.ow (.lst (encRs (pairsW (rs.take i) (w.take i) ++ [[p, q], [s, t]])))) := a1
              rw [if_pos c0]
              have d0 := decide_eq_true c0
              refine ⟨_, ?_, .va (.int (i : Int)), .va (encR [p, q, s, t]), rfl⟩
              simp only [ev_seq, ev_set, ev_op1, ev_op2, ev_call, ev_cons, ev_nil, ev_c, ev_var, ev_tup, ev_lst, ev_cb, ev_fz, ev_lend, ev_and, ev_or, ev_not, ev_chain, ev_if, ev_bm, ev_get2, ev_ixO, ev_sl, ev_some, ev_none, ev_tval, ev_tand, ev_tor, ev_tnot, ev_irange1, ev_irange2, ev_sif, ev_next, ev_ret, ev_retO, ev_raise, ev_app, ev_put, ev_dput, ev_for, ev_while, ev_pub, pub_cons, pub_nil, ev_drop, ev_dnew, res_nx, res_rt, res_xc, R.bind_ok, R.bind_xc, R.out_ok, R.out_xc, Out.bind_nx, Out.bind_rt, Out.bind_xc, Sl.d_va, Sl.d_ow, Sl.frz_va, Sl.frz_ow, Sl.frz_no, List.getElem?_cons_succ, List.getElem?_cons_zero, List.set_cons_succ, List.set_cons_zero, List.length_cons, List.length_nil, List.map_cons, List.map_nil, lim_val, Nat.zero_le, Nat.reduceAdd, Nat.reduceLeDiff, Nat.reduceEqDiff, reduceIte, Nat.zero_add, if_true, if_false, Bool.false_eq_true, Bool.not_true, Bool.not_false, decide_true, decide_false, o_add, o_sub, o_neg, o_lt, o_le, o_gt, o_ge, o_eq, o_ne, o_isN, o_notN, isNon_non, isNon_int, isNon_tup, isNon_lst, o_idxL, o_idxT, o_lenL, o_lenT, o_lenS, o_listL, o_listT, o_tupleL, o_tupleT, o_int, o_intb, o_max2, o_min2, o_slL, o_slT, atD_0, atD_1, atD_2, atD_3, atD_4, atD_5, range_4, range_3, range_2, hrow, hwi, d0, a1']
            · have a1 := ad [[p, t], [q, s]] rfl
              have a1' : dAdd (.lst (encRs (pairsW (rs.take i) (w.take i)))) (.lst [.tup [.int p, .int t], .tup [.int q, .int s]]) = .ok (.ow (.lst (encRs (pairsW (rs.take i) (w.take i) ++ [[p, t], [q, s]])))) := a1
              rw [if_neg c0]
              have d0 := decide_eq_false c0
              refine ⟨_, ?_, .va (.int (i : Int)), .va (encR [p, q, s, t]), rfl⟩
              simp only [ev_seq, ev_set, ev_op1, ev_op2, ev_call, ev_cons, ev_nil, ev_c, ev_var, ev_tup, ev_lst, ev_cb, ev_fz, ev_lend, ev_and, ev_or, ev_not, ev_chain, ev_if, ev_bm, ev_get2, ev_ixO, ev_sl, ev_some, ev_none, ev_tval, ev_tand, ev_tor, ev_tnot, ev_irange1, ev_irange2, ev_sif, ev_next, ev_ret, ev_retO, ev_raise, ev_app, ev_put, ev_dput, ev_for, ev_while, ev_pub, pub_cons, pub_nil, ev_drop, ev_dnew, res_nx, res_rt, res_xc, R.bind_ok, R.bind_xc, R.out_ok, R.out_xc, Out.bind_nx, Out.bind_rt, Out.bind_xc, Sl.d_va, Sl.d_ow, Sl.frz_va, Sl.frz_ow, Sl.frz_no, List.getElem?_cons_succ, List.getElem?_cons_zero, List.set_cons_succ, List.set_cons_zero, List.length_cons, List.length_nil, List.map_cons, List.map_nil, lim_val, Nat.zero_le, Nat.reduceAdd, Nat.reduceLeDiff, Nat.reduceEqDiff, reduceIte, Nat.zero_add, if_true, if_false, Bool.false_eq_true, Bool.not_true, Bool.not_false, decide_true, decide_false, o_add, o_sub, o_neg, o_lt, o_le, o_gt, o_ge, o_eq, o_ne, o_isN, o_notN, isNon_non, isNon_int, isNon_tup, isNon_lst, o_idxL, o_idxT, o_lenL, o_lenT, o_lenS, o_listL, o_listT, o_tupleL, o_tupleT, o_int, o_intb, o_max2, o_min2, o_slL, o_slT, atD_0, atD_1, atD_2, atD_3, atD_4, atD_5, range_4, range_3, range_2, hrow, hwi, d0, a1'])
        obtain ⟨e, hL1, x, y, he⟩ := L1
        rw [List.take_length, ← w1, List.take_length] at he
        have hpl := pairsW_len rs w w1.symm
        have hrl := rng_le _ (pairsW rs w) rfl
        rw [hpl] at hrl
        have hrings := law_rings_ok (pairsW_two rs w) (by rw [hpl]; omega)
        have hsum : bSum [.lst (encI w)] = .ok (.va (.int w.sum)) := by
          unfold bSum
          simp only [intsOf_enc]
        have hmul : dMul (.int 2) (.int w.sum) = .ok (.va (.int (2 * w.sum))) := o_mulL (by decide) (by decide)
        have hlen := wf.len2 (by omega)
        have hadd := lawAddL_ok (l := l) (pw := (rs.length : Int) - 2 * w.sum) (r := rg + rngL (pairsW rs w)) (by omega) (by omega)
        have hla := lawAdd_ok (ch := f_law_choices) (i := 2) (fp := eOp2 dSub (eCB bLen (aCons (eVar 0) aNil)) (eOp2 dMul (eC (.int 2)) (eCB bSum (aCons (eVar 3) aNil)))) (fr := eOp2 dAdd (eVar 1) (eCall 1 f_law_rings (aCons (eVar 4) aNil)))
          (e := [.va (.tup (encRs rs)), .va (.int (rg : Int)), .ow (.dic (toF l)), .va (.lst (encI w)), .va (.lst (encRs (pairsW rs w))), x, y]) rfl (by simp only [ev_seq, ev_set, ev_op1, ev_op2, ev_call, ev_cons, ev_nil, ev_c, ev_var, ev_tup, ev_lst, ev_cb, ev_fz, ev_lend, ev_and, ev_or, ev_not, ev_chain, ev_if, ev_bm, ev_get2, ev_ixO, ev_sl, ev_some, ev_none, ev_tval, ev_tand, ev_tor, ev_tnot, ev_irange1, ev_irange2, ev_sif, ev_next, ev_ret, ev_retO, ev_raise, ev_app, ev_put, ev_dput, ev_for, ev_while, ev_pub, pub_cons, pub_nil, ev_drop, ev_dnew, res_nx, res_rt, res_xc, R.bind_ok, R.bind_xc, R.out_ok, R.out_xc, Out.bind_nx, Out.bind_rt, Out.bind_xc, Sl.d_va, Sl.d_ow, Sl.frz_va, Sl.frz_ow, Sl.frz_no, List.getElem?_cons_succ, List.getElem?_cons_zero, List.set_cons_succ, List.set_cons_zero, List.length_cons, List.length_nil, List.map_cons, List.map_nil, lim_val, Nat.zero_le, Nat.reduceAdd, Nat.reduceLeDiff, Nat.reduceEqDiff, reduceIte, Nat.zero_add, if_true, if_false, Bool.false_eq_true, Bool.not_true, Bool.not_false, decide_true, decide_false, o_add, o_sub, o_neg, o_lt, o_le, o_gt, o_ge, o_eq, o_ne, o_isN, o_notN, isNon_non, isNon_int, isNon_tup, isNon_lst, o_idxL, o_idxT, o_lenL, o_lenT, o_lenS, o_listL, o_listT, o_tupleL, o_tupleT, o_int, o_intb, o_max2, o_min2, o_slL, o_slT, atD_0, atD_1, atD_2, atD_3, atD_4, atD_5, range_4, range_3, range_2, hln, hsum, hmul]) (by simp only [ev_seq, ev_set, ev_op1, ev_op2, ev_call, ev_cons, ev_nil, ev_c, ev_var, ev_tup, ev_lst, ev_cb, ev_fz, ev_lend, ev_and, ev_or, ev_not, ev_chain, ev_if, ev_bm, ev_get2, ev_ixO, ev_sl, ev_some, ev_none, ev_tval, ev_tand, ev_tor, ev_tnot, ev_irange1, ev_irange2, ev_sif, ev_next, ev_ret, ev_retO, ev_raise, ev_app, ev_put, ev_dput, ev_for, ev_while, ev_pub, pub_cons, pub_nil, ev_drop, ev_dnew, res_nx, res_rt, res_xc, R.bind_ok, R.bind_xc, R.out_ok, R.out_xc, Out.bind_nx, Out.bind_rt, Out.bind_xc, Sl.d_va, Sl.d_ow, Sl.frz_va, Sl.frz_ow, Sl.frz_no, List.getElem?_cons_succ, List.getElem?_cons_zero, List.set_cons_succ, List.set_cons_zero, List.length_cons, List.length_nil, List.map_cons, List.map_nil, lim_val, Nat.zero_le, Nat.reduceAdd, Nat.reduceLeDiff, Nat.reduceEqDiff, reduceIte, Nat.zero_add, if_true, if_false, Bool.false_eq_true, Bool.not_true, Bool.not_false, decide_true, decide_false, o_add, o_sub, o_neg, o_lt, o_le, o_gt, o_ge, o_eq, o_ne, o_isN, o_notN, isNon_non, isNon_int, isNon_tup, isNon_lst, o_idxL, o_idxT, o_lenL, o_lenT, o_lenS, o_listL, o_listT, o_tupleL, o_tupleT, o_int, o_intb, o_max2, o_min2, o_slL, o_slT, atD_0, atD_1, atD_2, atD_3, atD_4, atD_5, range_4, range_3, range_2, hrings]; rfl) hadd
        simp only [List.set_cons_succ, List.set_cons_zero] at hla
        refine ⟨[.va (.tup (encRs rs)), .va (.int (rg : Int)), .ow (.dic (toF (stepW rs rg l w))), .va (.lst (encI w)), .va (.lst (encRs (pairsW rs w))), x, y], ?_, ⟨_, _, x, y, rfl⟩, (stepW_ok w1 w2 wf).1⟩
        unfold B_law_total_2
        simp only [ev_seq, ev_set, ev_op1, ev_op2, ev_call, ev_cons, ev_nil, ev_c, ev_var, ev_tup, ev_lst, ev_cb, ev_fz, ev_lend, ev_and, ev_or, ev_not, ev_chain, ev_if, ev_bm, ev_get2, ev_ixO, ev_sl, ev_some, ev_none, ev_tval, ev_tand, ev_tor, ev_tnot, ev_irange1, ev_irange2, ev_sif, ev_next, ev_ret, ev_retO, ev_raise, ev_app, ev_put, ev_dput, ev_for, ev_while, ev_pub, pub_cons, pub_nil, ev_drop, ev_dnew, res_nx, res_rt, res_xc, R.bind_ok, R.bind_xc, R.out_ok, R.out_xc, Out.bind_nx, Out.bind_rt, Out.bind_xc, Sl.d_va, Sl.d_ow, Sl.frz_va, Sl.frz_ow, Sl.frz_no, List.getElem?_cons_succ, List.getElem?_cons_zero, List.set_cons_succ, List.set_cons_zero, List.length_cons, List.length_nil, List.map_cons, List.map_nil, lim_val, Nat.zero_le, Nat.reduceAdd, Nat.reduceLeDiff, Nat.reduceEqDiff, reduceIte, Nat.zero_add, if_true, if_false, Bool.false_eq_true, Bool.not_true, Bool.not_false, decide_true, decide_false, o_add, o_sub, o_neg, o_lt, o_le, o_gt, o_ge, o_eq, o_ne, o_isN, o_notN, isNon_non, isNon_int, isNon_tup, isNon_lst, o_idxL, o_idxT, o_lenL, o_lenT, o_lenS, o_listL, o_listT, o_tupleL, o_tupleT, o_int, o_intb, o_max2, o_min2, o_slL, o_slT, atD_0, atD_1, atD_2, atD_3, atD_4, atD_5, range_4, range_3, range_2, hln, hrn, hL1, he]
        exact hla)
    obtain ⟨e, hL, ⟨a, b, c, d, rfl⟩, _⟩ := L
    simp only [ev_seq, ev_set, ev_op1, ev_op2, ev_call, ev_cons, ev_nil, ev_c, ev_var, ev_tup, ev_lst, ev_cb, ev_fz, ev_lend, ev_and, ev_or, ev_not, ev_chain, ev_if, ev_bm, ev_get2, ev_ixO, ev_sl, ev_some, ev_none, ev_tval, ev_tand, ev_tor, ev_tnot, ev_irange1, ev_irange2, ev_sif, ev_next, ev_ret, ev_retO, ev_raise, ev_app, ev_put, ev_dput, ev_for, ev_while, ev_pub, pub_cons, pub_nil, ev_drop, ev_dnew, res_nx, res_rt, res_xc, R.bind_ok, R.bind_xc, R.out_ok, R.out_xc, Out.bind_nx, Out.bind_rt, Out.bind_xc, Sl.d_va, Sl.d_ow, Sl.frz_va, Sl.frz_ow, Sl.frz_no, List.getElem?_cons_succ, List.getElem?_cons_zero, List.set_cons_succ, List.set_cons_zero, List.length_cons, List.length_nil, List.map_cons, List.map_nil, lim_val, Nat.zero_le, Nat.reduceAdd, Nat.reduceLeDiff, Nat.reduceEqDiff, reduceIte, Nat.zero_add, if_true, if_false, Bool.false_eq_true, Bool.not_true, Bool.not_false, decide_true, decide_false, o_add, o_sub, o_neg, o_lt, o_le, o_gt, o_ge, o_eq, o_ne, o_isN, o_notN, isNon_non, isNon_int, isNon_tup, isNon_lst, o_idxL, o_idxT, o_lenL, o_lenT, o_lenS, o_listL, o_listT, o_tupleL, o_tupleT, o_int, o_intb, o_max2, o_min2, o_slL, o_slT, atD_0, atD_1, atD_2, atD_3, atD_4, atD_5, range_4, range_3, range_2, ev_iseq, hln, hws, hL]
  · rw [f2, ways_sum, sumW_H]
    show (0 : Int) + _ = _
    rw [Int.zero_add]
    rfl
end DL
set_option maxRecDepth 100000
/-! MS4: the program's sums; rows that are listed -/
namespace DL
open PySem (Str)
theorem range_get2 (rs : List (List Int)) : ((List.range rs.length).map fun k => rs.getD k []) = rs := by
  apply List.ext_getElem
  · rw [List.length_map, List.length_range]
  · intro i h1 h2
    rw [List.getElem_map, List.getElem_range, getD_eq h2]
theorem joinL_top2 : ∀ (n : Nat) (rs ps : List (List Int)) (rg : Int), ps.length = n → (joinL rs ps rg).2 ≤ rg + n
  | 0, rs, ps, rg, h => by
    rw [List.length_eq_zero_iff.mp h, joinL_nil]
    omega
  | n + 1, rs, q :: ps, rg, h => by
    rw [joinL_cons]
    have := joinL_top2 n (rs.map fun r => r.map (ren (q.getD 1 0) (q.getD 0 0))) (ps.map fun r => r.map (ren (q.getD 1 0) (q.getD 0 0))) (if q.getD 0 0 = q.getD 1 0 then rg + 1 else rg) (by rw [List.length_map]; simpa using h)
    refine Int.le_trans this ?_
    split <;> omega
theorem twi_bound (rs : List (List Int)) : -(rs.length : Int) ≤ twi rs ∧ twi rs ≤ rs.length := by
  have key : ∀ (l : List Nat) (s : Int), s - l.length ≤ l.foldl (fun (s : Int) at_ => s + sg (ret rs at_ 2).2) s ∧ l.foldl (fun (s : Int) at_ => s + sg (ret rs at_ 2).2) s ≤ s + l.length := by
    intro l
    induction l with
    | nil => intro s; simp
    | cons a l ih =>
      intro s
      have := ih (s + sg (ret rs a 2).2)
      have hs : -1 ≤ sg (ret rs a 2).2 ∧ sg (ret rs a 2).2 ≤ 1 := by
        unfold sg
        split
        · omega
        · split <;> omega
      rw [List.foldl_cons, List.length_cons]
      push_cast
      omega
  have := key (List.range rs.length) 0
  rw [List.length_range] at this
  unfold twi
  omega
theorem splitP_ok {rs : List (List Int)} {rings at_ way : Int} (h4 : ∀ r ∈ rs, r.length = 4) (hl : rs.length ≤ 100) (h : 0 ≤ at_ ∧ at_ < rs.length) :
    f_split [encS rs rings, .int at_, .int way] = .ok (.va (encS (numb (joinL (wo rs [at_]) (prs (rs.getD at_.toNat []) way) rings).1) (joinL (wo rs [at_]) (prs (rs.getD at_.toNat []) way) rings).2)) := by
  unfold f_split F_split
  rw [fn_eq [.va (encS rs rings), .va (.int at_), .va (.int way), .no, .no] rfl]
  have hr := row_at_ok (rings := rings) h
  have hw := without_ok (rs := rs) (gone := [at_]) (by omega)
  have hj := joined_ok (a := .lst (encRs (wo rs [at_]))) (b := .lst (encRs (prs (rs.getD at_.toNat []) way))) (rings := rings) (.inl rfl) (.inl rfl) (wo_four h4) ((prs_ok _ _).2) (Nat.le_trans (wo_len _ _) (by omega)) (by rw [(prs_ok _ _).1]; omega)
  have hk : at_.toNat < rs.length := by omega
  have hl4 : (rs.getD at_.toNat []).length = 4 := by rw [getD_eq hk]; exact h4 _ (List.getElem_mem _)
  generalize rs.getD at_.toNat [] = row at *
  obtain ⟨a, b, c, d, rfl⟩ := four_of hl4
  by_cases cw : way = 0
  · have e : prs [a, b, c, d] way = [[a, b], [c, d]] := by unfold prs; rw [if_pos cw]; rfl
    rw [e] at hj ⊢
    have hj' : f_joined [.lst (encRs (wo rs [at_])), .int rings, .lst [.tup [.int a, .int b], .tup [.int c, .int d]]] = _ := hj
    have hw' : f_without [.tup (encRs rs), .lst [.int at_]] = _ := hw
    simp only [ev_seq, ev_set, ev_op1, ev_op2, ev_call, ev_cons, ev_nil, ev_c, ev_var, ev_tup, ev_lst, ev_cb, ev_fz, ev_lend, ev_and, ev_or, ev_not, ev_chain, ev_if, ev_bm, ev_get2, ev_ixO, ev_sl, ev_some, ev_none, ev_tval, ev_tand, ev_tor, ev_tnot, ev_irange1, ev_irange2, ev_sif, ev_next, ev_ret, ev_retO, ev_raise, ev_app, ev_put, ev_dput, ev_for, ev_while, ev_pub, pub_cons, pub_nil, ev_drop, ev_dnew, res_nx, res_rt, res_xc, R.bind_ok, R.bind_xc, R.out_ok, R.out_xc, Out.bind_nx, Out.bind_rt, Out.bind_xc, Sl.d_va, Sl.d_ow, Sl.frz_va, Sl.frz_ow, Sl.frz_no, List.getElem?_cons_succ, List.getElem?_cons_zero, List.set_cons_succ, List.set_cons_zero, List.length_cons, List.length_nil, List.map_cons, List.map_nil, lim_val, Nat.zero_le, Nat.reduceAdd, Nat.reduceLeDiff, Nat.reduceEqDiff, reduceIte, Nat.zero_add, if_true, if_false, Bool.false_eq_true, Bool.not_true, Bool.not_false, decide_true, decide_false, o_add, o_sub, o_neg, o_lt, o_le, o_gt, o_ge, o_eq, o_ne, o_isN, o_notN, isNon_non, isNon_int, isNon_tup, isNon_lst, o_idxL, o_idxT, o_lenL, o_lenT, o_lenS, o_listL, o_listT, o_tupleL, o_tupleT, o_int, o_intb, o_max2, o_min2, o_slL, o_slT, atD_0, atD_1, atD_2, atD_3, atD_4, atD_5, range_4, range_3, range_2, hr, cw, hw', hj']
  · have e : prs [a, b, c, d] way = [[a, d], [b, c]] := by unfold prs; rw [if_neg cw]; rfl
    rw [e] at hj ⊢
    have hj' : f_joined [.lst (encRs (wo rs [at_])), .int rings, .lst [.tup [.int a, .int d], .tup [.int b, .int c]]] = _ := hj
    have hw' : f_without [.tup (encRs rs), .lst [.int at_]] = _ := hw
    simp only [ev_seq, ev_set, ev_op1, ev_op2, ev_call, ev_cons, ev_nil, ev_c, ev_var, ev_tup, ev_lst, ev_cb, ev_fz, ev_lend, ev_and, ev_or, ev_not, ev_chain, ev_if, ev_bm, ev_get2, ev_ixO, ev_sl, ev_some, ev_none, ev_tval, ev_tand, ev_tor, ev_tnot, ev_irange1, ev_irange2, ev_sif, ev_next, ev_ret, ev_retO, ev_raise, ev_app, ev_put, ev_dput, ev_for, ev_while, ev_pub, pub_cons, pub_nil, ev_drop, ev_dnew, res_nx, res_rt, res_xc, R.bind_ok, R.bind_xc, R.out_ok, R.out_xc, Out.bind_nx, Out.bind_rt, Out.bind_xc, Sl.d_va, Sl.d_ow, Sl.frz_va, Sl.frz_ow, Sl.frz_no, List.getElem?_cons_succ, List.getElem?_cons_zero, List.set_cons_succ, List.set_cons_zero, List.length_cons, List.length_nil, List.map_cons, List.map_nil, lim_val, Nat.zero_le, Nat.reduceAdd, Nat.reduceLeDiff, Nat.reduceEqDiff, reduceIte, Nat.zero_add, if_true, if_false, Bool.false_eq_true, Bool.not_true, Bool.not_false, decide_true, decide_false, o_add, o_sub, o_neg, o_lt, o_le, o_gt, o_ge, o_eq, o_ne, o_isN, o_notN, isNon_non, isNon_int, isNon_tup, isNon_lst, o_idxL, o_idxT, o_lenL, o_lenT, o_lenS, o_listL, o_listT, o_tupleL, o_tupleT, o_int, o_intb, o_max2, o_min2, o_slL, o_slT, atD_0, atD_1, atD_2, atD_3, atD_4, atD_5, range_4, range_3, range_2, hr, cw, hw', hj']

theorem wo_head (r : List Int) (rs : List (List Int)) : wo (r :: rs) [0] = rs := by
  unfold wo
  rw [List.length_cons, List.range_succ_eq_map, List.filter_cons_of_neg (by simp), List.filter_map]
  have e : (List.range rs.length).filter ((fun (k : Nat) => !decide ((k : Int) ∈ [(0 : Int)])) ∘ Nat.succ) = List.range rs.length := by
    rw [List.filter_eq_self]
    intro k _
    simp
  rw [e, List.map_map]
  have := range_get2 rs
  exact this
theorem ofRings_ok {rg : Nat} (h : rg ≤ 400) : f_of_rings [.int (rg : Int)] = .ok (.ow (.dic (toF (ringsD rg)))) := by
  unfold f_of_rings ofRingsF
  simp only [Int.toNat_natCast]
  rw [if_pos]
  refine ⟨⟨by omega, by omega⟩, List.all_eq_true.mpr fun i hi => decide_eq_true ?_⟩
  have hi2 := List.mem_range.mp hi
  have := (ringsD_ok i).1.len2 (by omega)
  omega
theorem sheet0_ok {rc : FA → FE} {rg : Nat} (h : rg ≤ 400) : fnOf 2 (F_of_sheet rc) [encS [] (rg : Int)] = .ok (.ow (.dic (toF (ringsD rg)))) := by
  unfold F_of_sheet
  rw [fn_eq [.va (encS [] (rg : Int)), .no] rfl]
  have hr := ofRings_ok h
  simp only [ev_seq, ev_set, ev_op1, ev_op2, ev_call, ev_cons, ev_nil, ev_c, ev_var, ev_tup, ev_lst, ev_cb, ev_fz, ev_lend, ev_and, ev_or, ev_not, ev_chain, ev_if, ev_bm, ev_get2, ev_ixO, ev_sl, ev_some, ev_none, ev_tval, ev_tand, ev_tor, ev_tnot, ev_irange1, ev_irange2, ev_sif, ev_next, ev_ret, ev_retO, ev_raise, ev_app, ev_put, ev_dput, ev_for, ev_while, ev_pub, pub_cons, pub_nil, ev_drop, ev_dnew, res_nx, res_rt, res_xc, R.bind_ok, R.bind_xc, R.out_ok, R.out_xc, Out.bind_nx, Out.bind_rt, Out.bind_xc, Sl.d_va, Sl.d_ow, Sl.frz_va, Sl.frz_ow, Sl.frz_no, List.getElem?_cons_succ, List.getElem?_cons_zero, List.set_cons_succ, List.set_cons_zero, List.length_cons, List.length_nil, List.map_cons, List.map_nil, lim_val, Nat.zero_le, Nat.reduceAdd, Nat.reduceLeDiff, Nat.reduceEqDiff, reduceIte, Nat.zero_add, if_true, if_false, Bool.false_eq_true, Bool.not_true, Bool.not_false, decide_true, decide_false, o_add, o_sub, o_neg, o_lt, o_le, o_gt, o_ge, o_eq, o_ne, o_isN, o_notN, isNon_non, isNon_int, isNon_tup, isNon_lst, o_idxL, o_idxT, o_lenL, o_lenT, o_lenS, o_listL, o_listT, o_tupleL, o_tupleT, o_int, o_intb, o_max2, o_min2, o_slL, o_slT, atD_0, atD_1, atD_2, atD_3, atD_4, atD_5, range_4, range_3, range_2, hr, List.length_nil, Int.ofNat_zero]
theorem of_sheet_ok : ∀ (m n : Nat) (rs : List (List Int)) (rg : Nat), rs.length = m → m ≤ n → m ≤ 10 → (∀ r ∈ rs, r.length = 4) → rg + 2 * m ≤ 400 →
    ∃ l, N_of_sheet n [encS rs (rg : Int)] = .ok (.ow (.dic (toF l))) ∧ Wf l (5 * (m : Int) + 2 * (rg : Int)) ∧ ∀ x, getZ l x = stS rs rg x
  | 0, n, rs, rg, hm, hn, h10, h4, hr => by
    rw [List.length_eq_zero_iff] at hm
    subst hm
    obtain ⟨w, g⟩ := ringsD_ok rg
    refine ⟨ringsD rg, ?_, w.mono (by omega), fun x => by rw [g, stS_nil]⟩
    cases n with
    | zero => exact sheet0_ok (by omega)
    | succ n => exact sheet0_ok (by omega)
  | m + 1, 0, rs, rg, hm, hn, h10, h4, hr => absurd hn (by omega)
  | m + 1, n + 1, r :: rs, rg, hm, hn, h10, h4, hr => by
    have hm' : rs.length = m := by simpa using hm
    have h4' : ∀ r ∈ rs, r.length = 4 := fun q hq => h4 q (List.mem_cons_of_mem _ hq)
    have sp := fun (w : Int) => splitP_ok (rs := r :: rs) (rings := (rg : Int)) (at_ := 0) (way := w) h4 (by rw [hm]; omega) ⟨by decide, by rw [hm]; omega⟩
    have part : ∀ w : Int, ∃ (R : List (List Int)) (k : Nat) (l : IK), f_split [encS (r :: rs) (rg : Int), .int 0, .int w] = .ok (.va (encS R ((rg + k : Nat) : Int))) ∧ R.length = rs.length ∧ k ≤ 2 ∧ (∀ v, k + rngL (pairsW R v) = rngL (prs r w ++ pairsW rs v)) ∧
        N_of_sheet n [encS R ((rg + k : Nat) : Int)] = .ok (.ow (.dic (toF l))) ∧ Wf l (5 * (m : Int) + 2 * ((rg + k : Nat) : Int)) ∧ ∀ x, getZ l x = stS R (rg + k) x := by
      intro w
      have s := sp w
      rw [wo_head] at s
      have e0 : ((r :: rs).getD (0 : Int).toNat []) = r := rfl
      rw [e0] at s
      obtain ⟨k, k1, k2⟩ := join_rng 2 rs (prs r w) (rg : Int) (prs_ok r w).1 h4'
      obtain ⟨j1, j2⟩ := joinL_len 2 rs (prs r w) (rg : Int) (prs_ok r w).1
      have jt := joinL_top2 2 rs (prs r w) (rg : Int) (prs_ok r w).1
      have kk : k ≤ 2 := by omega
      have hlen : (numb (joinL rs (prs r w) (rg : Int)).1).length = rs.length := by rw [numb_length, j1]
      obtain ⟨l, l1, l2, l3⟩ := of_sheet_ok m n (numb (joinL rs (prs r w) (rg : Int)).1) (rg + k) (by rw [hlen, hm']) (by omega) (by omega) (numb_four (j2 h4')) (by omega)
      refine ⟨numb (joinL rs (prs r w) (rg : Int)).1, k, l, by rw [s, k1]; rfl, hlen, kk, fun v => ?_, l1, l2, l3⟩
      rw [rng_numb (j2 h4'), k2]
    obtain ⟨R0, k0, l0, a1, a2, a3, a4, a5, a6, a7⟩ := part 0
    obtain ⟨R1, k1, l1, b1, b2, b3, b4, b5, b6, b7⟩ := part 1
    have w0 : Wf (DL.addTo [] l0 1 1) (5 * ((m + 1 : Nat) : Int) + 2 * (rg : Int)) := (wf_nil _).addTo a6 (by push_cast; omega) (by push_cast; omega)
    have w1 : Wf (DL.addTo (DL.addTo [] l0 1 1) l1 (-1) 1) (5 * ((m + 1 : Nat) : Int) + 2 * (rg : Int)) := w0.addTo b6 (by push_cast; omega) (by push_cast; omega)
    refine ⟨_, ?_, w1, fun x => ?_⟩
    · show fnOf 2 (F_of_sheet (eCall 1 (N_of_sheet n))) [encS (r :: rs) (rg : Int)] = _
      unfold F_of_sheet
      rw [fn_eq [.va (encS (r :: rs) (rg : Int)), .no] rfl]
      have hln : bLen [.tup (encRs (r :: rs))] = .ok (.va (.int ((m + 1 : Nat) : Int))) := by rw [o_lenT, List.length_map, hm]
      have hz : ¬ (((m + 1 : Nat) : Int) = 0) := by omega
      have hz' := decide_eq_false hz
      have hz2 : decide ((((List.map encR rs).length + 1 : Nat) : Int) = 0) = false := decide_eq_false (by omega)
      have z0 := a6.len2 (by push_cast; omega)
      have z1 := b6.len2 (by push_cast; omega)
      have z2 := w0.len2 (by push_cast; omega)
      have s1 := addT_ok (i := 1) (fx := eCall 1 (N_of_sheet n) (aCons (eCall 3 f_split (aCons (eVar 0) (aCons (eC (.int 0)) (aCons (eC (.int 0)) aNil)))) aNil)) (fsh := eC (.int 1)) (fsg := eC (.int 1)) (e := [.va (encS (r :: rs) (rg : Int)), .ow (.dic [])]) (l := []) (o := l0) (sh := 1) (sg := 1) rfl (by simp only [ev_seq, ev_set, ev_op1, ev_op2, ev_call, ev_cons, ev_nil, ev_c, ev_var, ev_tup, ev_lst, ev_cb, ev_fz, ev_lend, ev_and, ev_or, ev_not, ev_chain, ev_if, ev_bm, ev_get2, ev_ixO, ev_sl, ev_some, ev_none, ev_tval, ev_tand, ev_tor, ev_tnot, ev_irange1, ev_irange2, ev_sif, ev_next, ev_ret, ev_retO, ev_raise, ev_app, ev_put, ev_dput, ev_for, ev_while, ev_pub, pub_cons, pub_nil, ev_drop, ev_dnew, res_nx, res_rt, res_xc, R.bind_ok, R.bind_xc, R.out_ok, R.out_xc, Out.bind_nx, Out.bind_rt, Out.bind_xc, Sl.d_va, Sl.d_ow, Sl.frz_va, Sl.frz_ow, Sl.frz_no, List.getElem?_cons_succ, List.getElem?_cons_zero, List.set_cons_succ, List.set_cons_zero, List.length_cons, List.length_nil, List.map_cons, List.map_nil, lim_val, Nat.zero_le, Nat.reduceAdd, Nat.reduceLeDiff, Nat.reduceEqDiff, reduceIte, Nat.zero_add, if_true, if_false, Bool.false_eq_true, Bool.not_true, Bool.not_false, decide_true, decide_false, o_add, o_sub, o_neg, o_lt, o_le, o_gt, o_ge, o_eq, o_ne, o_isN, o_notN, isNon_non, isNon_int, isNon_tup, isNon_lst, o_idxL, o_idxT, o_lenL, o_lenT, o_lenS, o_listL, o_listT, o_tupleL, o_tupleT, o_int, o_intb, o_max2, o_min2, o_slL, o_slT, atD_0, atD_1, atD_2, atD_3, atD_4, atD_5, range_4, range_3, range_2, a1, a5]) rfl rfl (by rw [lim_val]; show 0 + _ < _; push_cast at z0; omega) (by decide) (by decide)
      have s2 := addT_ok (i := 1) (fx := eCall 1 (N_of_sheet n) (aCons (eCall 3 f_split (aCons (eVar 0) (aCons (eC (.int 0)) (aCons (eC (.int 1)) aNil)))) aNil)) (fsh := eOp1 dNeg (eC (.int 1))) (fsg := eC (.int 1)) (e := [.va (encS (r :: rs) (rg : Int)), .ow (.dic (toF (DL.addTo [] l0 1 1)))]) (l := DL.addTo [] l0 1 1) (o := l1) (sh := -1) (sg := 1) rfl (by simp only [ev_seq, ev_set, ev_op1, ev_op2, ev_call, ev_cons, ev_nil, ev_c, ev_var, ev_tup, ev_lst, ev_cb, ev_fz, ev_lend, ev_and, ev_or, ev_not, ev_chain, ev_if, ev_bm, ev_get2, ev_ixO, ev_sl, ev_some, ev_none, ev_tval, ev_tand, ev_tor, ev_tnot, ev_irange1, ev_irange2, ev_sif, ev_next, ev_ret, ev_retO, ev_raise, ev_app, ev_put, ev_dput, ev_for, ev_while, ev_pub, pub_cons, pub_nil, ev_drop, ev_dnew, res_nx, res_rt, res_xc, R.bind_ok, R.bind_xc, R.out_ok, R.out_xc, Out.bind_nx, Out.bind_rt, Out.bind_xc, Sl.d_va, Sl.d_ow, Sl.frz_va, Sl.frz_ow, Sl.frz_no, List.getElem?_cons_succ, List.getElem?_cons_zero, List.set_cons_succ, List.set_cons_zero, List.length_cons, List.length_nil, List.map_cons, List.map_nil, lim_val, Nat.zero_le, Nat.reduceAdd, Nat.reduceLeDiff, Nat.reduceEqDiff, reduceIte, Nat.zero_add, if_true, if_false, Bool.false_eq_true, Bool.not_true, Bool.not_false, decide_true, decide_false, o_add, o_sub, o_neg, o_lt, o_le, o_gt, o_ge, o_eq, o_ne, o_isN, o_notN, isNon_non, isNon_int, isNon_tup, isNon_lst, o_idxL, o_idxT, o_lenL, o_lenT, o_lenS, o_listL, o_listT, o_tupleL, o_tupleT, o_int, o_intb, o_max2, o_min2, o_slL, o_slT, atD_0, atD_1, atD_2, atD_3, atD_4, atD_5, range_4, range_3, range_2, b1, b5]) rfl rfl (by rw [lim_val]; push_cast at z1 z2; omega) (by decide) (by decide)
      simp only [List.set_cons_succ, List.set_cons_zero] at s1 s2
      simp only [ev_seq, ev_set, ev_op1, ev_op2, ev_call, ev_cons, ev_nil, ev_c, ev_var, ev_tup, ev_lst, ev_cb, ev_fz, ev_lend, ev_and, ev_or, ev_not, ev_chain, ev_if, ev_bm, ev_get2, ev_ixO, ev_sl, ev_some, ev_none, ev_tval, ev_tand, ev_tor, ev_tnot, ev_irange1, ev_irange2, ev_sif, ev_next, ev_ret, ev_retO, ev_raise, ev_app, ev_put, ev_dput, ev_for, ev_while, ev_pub, pub_cons, pub_nil, ev_drop, ev_dnew, res_nx, res_rt, res_xc, R.bind_ok, R.bind_xc, R.out_ok, R.out_xc, Out.bind_nx, Out.bind_rt, Out.bind_xc, Sl.d_va, Sl.d_ow, Sl.frz_va, Sl.frz_ow, Sl.frz_no, List.getElem?_cons_succ, List.getElem?_cons_zero, List.set_cons_succ, List.set_cons_zero, List.length_cons, List.length_nil, List.map_cons, List.map_nil, lim_val, Nat.zero_le, Nat.reduceAdd, Nat.reduceLeDiff, Nat.reduceEqDiff, reduceIte, Nat.zero_add, if_true, if_false, Bool.false_eq_true, Bool.not_true, Bool.not_false, decide_true, decide_false, o_add, o_sub, o_lt, o_le, o_gt, o_ge, o_eq, o_ne, o_isN, o_notN, isNon_non, isNon_int, isNon_tup, isNon_lst, o_idxL, o_idxT, o_lenL, o_lenT, o_lenS, o_listL, o_listT, o_tupleL, o_tupleT, o_int, o_intb, o_max2, o_min2, o_slL, o_slT, atD_0, atD_1, atD_2, atD_3, atD_4, atD_5, range_4, range_3, range_2, hln, hz', hz2, s1, s2]
    · rw [getZ_addTo b6.nd, getZ_addTo a6.nd, a7, b7, stS_cons x a2 b2 a4 b4]
      show (0 : Int) + 1 * _ + 1 * _ = _
      omega
/-! ### what is listed -/
theorem sorted_dic {l : IK} (h : l.length ≤ 1000) : bSortedA [.dic (toF l)] = .ok (.ow (.lst (encI (sortI (keysZ l))))) := by
  unfold bSortedA
  simp only [toF_keys, toF_len]
  rw [if_pos h]
theorem getA_in {l : IK} {k : Int} (h : k ∈ keysZ l) : getA (toF l) k = some (.int (getZ l k)) := by
  obtain ⟨p, hp, rfl⟩ := List.mem_map.mp h
  unfold getA toF getZ
  rw [List.find?_map]
  have e : ((fun q : Int × Fv => q.1 == p.1) ∘ fun q : Int × Int => (q.1, Fv.int q.2)) = fun q => q.1 == p.1 := rfl
  rw [e]
  cases q : l.find? fun q => q.1 == p.1 with
  | none => exact absurd (List.find?_eq_none.mp q p hp) (by simp)
  | some q => rfl
theorem get_dic {l : IK} {k : Int} (h : k ∈ keysZ l) : dGetK (.dic (toF l)) (.int k) = .ok (.va (.int (getZ l k))) := by
  unfold dGetK
  simp only [getA_in h]
  rfl
theorem keys_le (l : IK) : (sortI (keysZ l)).length = l.length := by
  rw [(srt_perm _).length_eq, List.length_map]
theorem listed_ok {l : IK} {sh sg : Int} (h : l.length ≤ 1000) (h1 : -(2 ^ 64) < sg) (h2 : sg < 2 ^ 64) : f_law_listed [.dic (toF l), .int sh, .int sg] = .ok (.ow (.lst ((rowsZ l sh sg).map encP))) := by
  unfold f_law_listed F_law_listed
  rw [fn_eq [.va (.dic (toF l)), .va (.int sh), .va (.int sg), .no] rfl]
  have so := sorted_dic h
  have hc := lcf (it := iSeq (eCB bSortedA (aCons (eVar 0) aNil))) (j := 3) (own := [3]) (c := tVal (eOp2 dNe (eOp2 dGetK (eVar 0) (eVar 3)) (eC (.int 0)))) (el := eTup (aCons (eOp2 dAdd (eVar 3) (eVar 1)) (aCons (eOp2 dMul (eVar 2) (eOp2 dGetK (eVar 0) (eVar 3))) aNil)))
    (e := [.va (.dic (toF l)), .va (.int sh), .va (.int sg), .no]) (enc := D.int) (fun k => !decide (getZ l k = 0)) (fun k => encP (k + sh, sg * getZ l k)) (sortI (keysZ l)) (by simp only [ev_seq, ev_set, ev_op1, ev_op2, ev_call, ev_cons, ev_nil, ev_c, ev_var, ev_tup, ev_lst, ev_cb, ev_fz, ev_lend, ev_and, ev_or, ev_not, ev_chain, ev_if, ev_bm, ev_get2, ev_ixO, ev_sl, ev_some, ev_none, ev_tval, ev_tand, ev_tor, ev_tnot, ev_irange1, ev_irange2, ev_sif, ev_next, ev_ret, ev_retO, ev_raise, ev_app, ev_put, ev_dput, ev_for, ev_while, ev_pub, pub_cons, pub_nil, ev_drop, ev_dnew, res_nx, res_rt, res_xc, R.bind_ok, R.bind_xc, R.out_ok, R.out_xc, Out.bind_nx, Out.bind_rt, Out.bind_xc, Sl.d_va, Sl.d_ow, Sl.frz_va, Sl.frz_ow, Sl.frz_no, List.getElem?_cons_succ, List.getElem?_cons_zero, List.set_cons_succ, List.set_cons_zero, List.length_cons, List.length_nil, List.map_cons, List.map_nil, lim_val, Nat.zero_le, Nat.reduceAdd, Nat.reduceLeDiff, Nat.reduceEqDiff, reduceIte, Nat.zero_add, if_true, if_false, Bool.false_eq_true, Bool.not_true, Bool.not_false, decide_true, decide_false, o_add, o_sub, o_neg, o_lt, o_le, o_gt, o_ge, o_eq, o_ne, o_isN, o_notN, isNon_non, isNon_int, isNon_tup, isNon_lst, o_idxL, o_idxT, o_lenL, o_lenT, o_lenS, o_listL, o_listT, o_tupleL, o_tupleT, o_int, o_intb, o_max2, o_min2, o_slL, o_slT, atD_0, atD_1, atD_2, atD_3, atD_4, atD_5, range_4, range_3, range_2, ev_iseq, so]) (by rw [keys_le]; omega)
    (fun k hk => by
      have g := get_dic ((srt_perm _).mem_iff.mp hk)
      simp only [ev_seq, ev_set, ev_op1, ev_op2, ev_call, ev_cons, ev_nil, ev_c, ev_var, ev_tup, ev_lst, ev_cb, ev_fz, ev_lend, ev_and, ev_or, ev_not, ev_chain, ev_if, ev_bm, ev_get2, ev_ixO, ev_sl, ev_some, ev_none, ev_tval, ev_tand, ev_tor, ev_tnot, ev_irange1, ev_irange2, ev_sif, ev_next, ev_ret, ev_retO, ev_raise, ev_app, ev_put, ev_dput, ev_for, ev_while, ev_pub, pub_cons, pub_nil, ev_drop, ev_dnew, res_nx, res_rt, res_xc, R.bind_ok, R.bind_xc, R.out_ok, R.out_xc, Out.bind_nx, Out.bind_rt, Out.bind_xc, Sl.d_va, Sl.d_ow, Sl.frz_va, Sl.frz_ow, Sl.frz_no, List.getElem?_cons_succ, List.getElem?_cons_zero, List.set_cons_succ, List.set_cons_zero, List.length_cons, List.length_nil, List.map_cons, List.map_nil, lim_val, Nat.zero_le, Nat.reduceAdd, Nat.reduceLeDiff, Nat.reduceEqDiff, reduceIte, Nat.zero_add, if_true, if_false, Bool.false_eq_true, Bool.not_true, Bool.not_false, decide_true, decide_false, o_add, o_sub, o_neg, o_lt, o_le, o_gt, o_ge, o_eq, o_ne, o_isN, o_notN, isNon_non, isNon_int, isNon_tup, isNon_lst, o_idxL, o_idxT, o_lenL, o_lenT, o_lenS, o_listL, o_listT, o_tupleL, o_tupleT, o_int, o_intb, o_max2, o_min2, o_slL, o_slT, atD_0, atD_1, atD_2, atD_3, atD_4, atD_5, range_4, range_3, range_2, wipe_cons, wipe_nil, g])
    (fun k hk _ => by
      have g := get_dic ((srt_perm _).mem_iff.mp hk)
      have m : dMul (.int sg) (.int (getZ l k)) = .ok (.va (.int (sg * getZ l k))) := o_mulL h1 h2
      simp only [ev_seq, ev_set, ev_op1, ev_op2, ev_call, ev_cons, ev_nil, ev_c, ev_var, ev_tup, ev_lst, ev_cb, ev_fz, ev_lend, ev_and, ev_or, ev_not, ev_chain, ev_if, ev_bm, ev_get2, ev_ixO, ev_sl, ev_some, ev_none, ev_tval, ev_tand, ev_tor, ev_tnot, ev_irange1, ev_irange2, ev_sif, ev_next, ev_ret, ev_retO, ev_raise, ev_app, ev_put, ev_dput, ev_for, ev_while, ev_pub, pub_cons, pub_nil, ev_drop, ev_dnew, res_nx, res_rt, res_xc, R.bind_ok, R.bind_xc, R.out_ok, R.out_xc, Out.bind_nx, Out.bind_rt, Out.bind_xc, Sl.d_va, Sl.d_ow, Sl.frz_va, Sl.frz_ow, Sl.frz_no, List.getElem?_cons_succ, List.getElem?_cons_zero, List.set_cons_succ, List.set_cons_zero, List.length_cons, List.length_nil, List.map_cons, List.map_nil, lim_val, Nat.zero_le, Nat.reduceAdd, Nat.reduceLeDiff, Nat.reduceEqDiff, reduceIte, Nat.zero_add, if_true, if_false, Bool.false_eq_true, Bool.not_true, Bool.not_false, decide_true, decide_false, o_add, o_sub, o_neg, o_lt, o_le, o_gt, o_ge, o_eq, o_ne, o_isN, o_notN, isNon_non, isNon_int, isNon_tup, isNon_lst, o_idxL, o_idxT, o_lenL, o_lenT, o_lenS, o_listL, o_listT, o_tupleL, o_tupleT, o_int, o_intb, o_max2, o_min2, o_slL, o_slT, atD_0, atD_1, atD_2, atD_3, atD_4, atD_5, range_4, range_3, range_2, wipe_cons, wipe_nil, g, m])
  simp only [ev_seq, ev_set, ev_op1, ev_op2, ev_call, ev_cons, ev_nil, ev_c, ev_var, ev_tup, ev_lst, ev_cb, ev_fz, ev_lend, ev_and, ev_or, ev_not, ev_chain, ev_if, ev_bm, ev_get2, ev_ixO, ev_sl, ev_some, ev_none, ev_tval, ev_tand, ev_tor, ev_tnot, ev_irange1, ev_irange2, ev_sif, ev_next, ev_ret, ev_retO, ev_raise, ev_app, ev_put, ev_dput, ev_for, ev_while, ev_pub, pub_cons, pub_nil, ev_drop, ev_dnew, res_nx, res_rt, res_xc, R.bind_ok, R.bind_xc, R.out_ok, R.out_xc, Out.bind_nx, Out.bind_rt, Out.bind_xc, Sl.d_va, Sl.d_ow, Sl.frz_va, Sl.frz_ow, Sl.frz_no, List.getElem?_cons_succ, List.getElem?_cons_zero, List.set_cons_succ, List.set_cons_zero, List.length_cons, List.length_nil, List.map_cons, List.map_nil, lim_val, Nat.zero_le, Nat.reduceAdd, Nat.reduceLeDiff, Nat.reduceEqDiff, reduceIte, Nat.zero_add, if_true, if_false, Bool.false_eq_true, Bool.not_true, Bool.not_false, decide_true, decide_false, o_add, o_sub, o_neg, o_lt, o_le, o_gt, o_ge, o_eq, o_ne, o_isN, o_notN, isNon_non, isNon_int, isNon_tup, isNon_lst, o_idxL, o_idxT, o_lenL, o_lenT, o_lenS, o_listL, o_listT, o_tupleL, o_tupleT, o_int, o_intb, o_max2, o_min2, o_slL, o_slT, atD_0, atD_1, atD_2, atD_3, atD_4, atD_5, range_4, range_3, range_2, hc]
  unfold rowsZ powsZ
  rw [List.map_map]
  rfl
theorem as_rows_ok {l : IK} (h : l.length ≤ 1000) : f_as_rows [.dic (toF l)] = .ok (.ow (.lst ((rowsZ l 0 1).map encP))) := by
  unfold f_as_rows F_as_rows
  rw [fn_eq [.va (.dic (toF l)), .no] rfl]
  have so := sorted_dic h
  have hc := lcf (it := iSeq (eCB bSortedA (aCons (eVar 0) aNil))) (j := 1) (own := [1]) (c := tVal (eOp2 dNe (eOp2 dGetK (eVar 0) (eVar 1)) (eC (.int 0)))) (el := eTup (aCons (eVar 1) (aCons (eOp2 dGetK (eVar 0) (eVar 1)) aNil)))
    (e := [.va (.dic (toF l)), .no]) (enc := D.int) (fun k => !decide (getZ l k = 0)) (fun k => encP (k, getZ l k)) (sortI (keysZ l)) (by simp only [ev_seq, ev_set, ev_op1, ev_op2, ev_call, ev_cons, ev_nil, ev_c, ev_var, ev_tup, ev_lst, ev_cb, ev_fz, ev_lend, ev_and, ev_or, ev_not, ev_chain, ev_if, ev_bm, ev_get2, ev_ixO, ev_sl, ev_some, ev_none, ev_tval, ev_tand, ev_tor, ev_tnot, ev_irange1, ev_irange2, ev_sif, ev_next, ev_ret, ev_retO, ev_raise, ev_app, ev_put, ev_dput, ev_for, ev_while, ev_pub, pub_cons, pub_nil, ev_drop, ev_dnew, res_nx, res_rt, res_xc, R.bind_ok, R.bind_xc, R.out_ok, R.out_xc, Out.bind_nx, Out.bind_rt, Out.bind_xc, Sl.d_va, Sl.d_ow, Sl.frz_va, Sl.frz_ow, Sl.frz_no, List.getElem?_cons_succ, List.getElem?_cons_zero, List.set_cons_succ, List.set_cons_zero, List.length_cons, List.length_nil, List.map_cons, List.map_nil, lim_val, Nat.zero_le, Nat.reduceAdd, Nat.reduceLeDiff, Nat.reduceEqDiff, reduceIte, Nat.zero_add, if_true, if_false, Bool.false_eq_true, Bool.not_true, Bool.not_false, decide_true, decide_false, o_add, o_sub, o_neg, o_lt, o_le, o_gt, o_ge, o_eq, o_ne, o_isN, o_notN, isNon_non, isNon_int, isNon_tup, isNon_lst, o_idxL, o_idxT, o_lenL, o_lenT, o_lenS, o_listL, o_listT, o_tupleL, o_tupleT, o_int, o_intb, o_max2, o_min2, o_slL, o_slT, atD_0, atD_1, atD_2, atD_3, atD_4, atD_5, range_4, range_3, range_2, ev_iseq, so]) (by rw [keys_le]; omega)
    (fun k hk => by
      have g := get_dic ((srt_perm _).mem_iff.mp hk)
      simp only [ev_seq, ev_set, ev_op1, ev_op2, ev_call, ev_cons, ev_nil, ev_c, ev_var, ev_tup, ev_lst, ev_cb, ev_fz, ev_lend, ev_and, ev_or, ev_not, ev_chain, ev_if, ev_bm, ev_get2, ev_ixO, ev_sl, ev_some, ev_none, ev_tval, ev_tand, ev_tor, ev_tnot, ev_irange1, ev_irange2, ev_sif, ev_next, ev_ret, ev_retO, ev_raise, ev_app, ev_put, ev_dput, ev_for, ev_while, ev_pub, pub_cons, pub_nil, ev_drop, ev_dnew, res_nx, res_rt, res_xc, R.bind_ok, R.bind_xc, R.out_ok, R.out_xc, Out.bind_nx, Out.bind_rt, Out.bind_xc, Sl.d_va, Sl.d_ow, Sl.frz_va, Sl.frz_ow, Sl.frz_no, List.getElem?_cons_succ, List.getElem?_cons_zero, List.set_cons_succ, List.set_cons_zero, List.length_cons, List.length_nil, List.map_cons, List.map_nil, lim_val, Nat.zero_le, Nat.reduceAdd, Nat.reduceLeDiff, Nat.reduceEqDiff, reduceIte, Nat.zero_add, if_true, if_false, Bool.false_eq_true, Bool.not_true, Bool.not_false, decide_true, decide_false, o_add, o_sub, o_neg, o_lt, o_le, o_gt, o_ge, o_eq, o_ne, o_isN, o_notN, isNon_non, isNon_int, isNon_tup, isNon_lst, o_idxL, o_idxT, o_lenL, o_lenT, o_lenS, o_listL, o_listT, o_tupleL, o_tupleT, o_int, o_intb, o_max2, o_min2, o_slL, o_slT, atD_0, atD_1, atD_2, atD_3, atD_4, atD_5, range_4, range_3, range_2, wipe_cons, wipe_nil, g])
    (fun k hk _ => by
      have g := get_dic ((srt_perm _).mem_iff.mp hk)
      simp only [ev_seq, ev_set, ev_op1, ev_op2, ev_call, ev_cons, ev_nil, ev_c, ev_var, ev_tup, ev_lst, ev_cb, ev_fz, ev_lend, ev_and, ev_or, ev_not, ev_chain, ev_if, ev_bm, ev_get2, ev_ixO, ev_sl, ev_some, ev_none, ev_tval, ev_tand, ev_tor, ev_tnot, ev_irange1, ev_irange2, ev_sif, ev_next, ev_ret, ev_retO, ev_raise, ev_app, ev_put, ev_dput, ev_for, ev_while, ev_pub, pub_cons, pub_nil, ev_drop, ev_dnew, res_nx, res_rt, res_xc, R.bind_ok, R.bind_xc, R.out_ok, R.out_xc, Out.bind_nx, Out.bind_rt, Out.bind_xc, Sl.d_va, Sl.d_ow, Sl.frz_va, Sl.frz_ow, Sl.frz_no, List.getElem?_cons_succ, List.getElem?_cons_zero, List.set_cons_succ, List.set_cons_zero, List.length_cons, List.length_nil, List.map_cons, List.map_nil, lim_val, Nat.zero_le, Nat.reduceAdd, Nat.reduceLeDiff, Nat.reduceEqDiff, reduceIte, Nat.zero_add, if_true, if_false, Bool.false_eq_true, Bool.not_true, Bool.not_false, decide_true, decide_false, o_add, o_sub, o_neg, o_lt, o_le, o_gt, o_ge, o_eq, o_ne, o_isN, o_notN, isNon_non, isNon_int, isNon_tup, isNon_lst, o_idxL, o_idxT, o_lenL, o_lenT, o_lenS, o_listL, o_listT, o_tupleL, o_tupleT, o_int, o_intb, o_max2, o_min2, o_slL, o_slT, atD_0, atD_1, atD_2, atD_3, atD_4, atD_5, range_4, range_3, range_2, wipe_cons, wipe_nil, g])
  simp only [ev_seq, ev_set, ev_op1, ev_op2, ev_call, ev_cons, ev_nil, ev_c, ev_var, ev_tup, ev_lst, ev_cb, ev_fz, ev_lend, ev_and, ev_or, ev_not, ev_chain, ev_if, ev_bm, ev_get2, ev_ixO, ev_sl, ev_some, ev_none, ev_tval, ev_tand, ev_tor, ev_tnot, ev_irange1, ev_irange2, ev_sif, ev_next, ev_ret, ev_retO, ev_raise, ev_app, ev_put, ev_dput, ev_for, ev_while, ev_pub, pub_cons, pub_nil, ev_drop, ev_dnew, res_nx, res_rt, res_xc, R.bind_ok, R.bind_xc, R.out_ok, R.out_xc, Out.bind_nx, Out.bind_rt, Out.bind_xc, Sl.d_va, Sl.d_ow, Sl.frz_va, Sl.frz_ow, Sl.frz_no, List.getElem?_cons_succ, List.getElem?_cons_zero, List.set_cons_succ, List.set_cons_zero, List.length_cons, List.length_nil, List.map_cons, List.map_nil, lim_val, Nat.zero_le, Nat.reduceAdd, Nat.reduceLeDiff, Nat.reduceEqDiff, reduceIte, Nat.zero_add, if_true, if_false, Bool.false_eq_true, Bool.not_true, Bool.not_false, decide_true, decide_false, o_add, o_sub, o_neg, o_lt, o_le, o_gt, o_ge, o_eq, o_ne, o_isN, o_notN, isNon_non, isNon_int, isNon_tup, isNon_lst, o_idxL, o_idxT, o_lenL, o_lenT, o_lenS, o_listL, o_listT, o_tupleL, o_tupleT, o_int, o_intb, o_max2, o_min2, o_slL, o_slT, atD_0, atD_1, atD_2, atD_3, atD_4, atD_5, range_4, range_3, range_2, hc]
  unfold rowsZ powsZ
  rw [List.map_map]
  congr 3
  refine List.map_congr_left fun k _ => ?_
  show encP (k, getZ l k) = encP (k + 0, 1 * getZ l k)
  rw [Int.add_zero, Int.one_mul]
theorem rowsZ_len (l : IK) (sh sg : Int) : (rowsZ l sh sg).length ≤ l.length := by
  unfold rowsZ powsZ
  rw [List.length_map]
  exact Nat.le_trans (List.length_filter_le _ _) (Nat.le_of_eq (keys_le l))
theorem alike_ok {L : List (Int × Int)} (h : L.length ≤ 1000) : f_law_alike [.lst (L.map encP), .lst (L.map encP)] = .ok (.va (.bl true)) := by
  unfold f_law_alike F_law_alike
  rw [fn_eq [.va (.lst (L.map encP)), .va (.lst (L.map encP)), .no] rfl]
  have hrn := range_nat (n := L.length) (by omega)
  have W := forD_rng (j := 2) (b := B_law_alike_1) L.length (fun _ e => ∃ a, e = [.va (.lst (L.map encP)), .va (.lst (L.map encP)), a]) [.va (.lst (L.map encP)), .va (.lst (L.map encP)), .no] ⟨_, rfl⟩
    (fun i e hi ⟨a, he⟩ => by
      subst he
      have hx : atD (L.map encP) (i : Int) = some (encP L[i]) := by rw [atD_nat, List.getElem?_map, List.getElem?_eq_getElem hi]; rfl
      have hself := dNe_self (d := encP L[i]) rfl
      have n2' : dNe (.int ((2 : Nat) : Int)) (.int 2) = .ok (.va (.bl false)) := rfl
      have n2 : dNe (.int (((0 + 1 + 1 : Nat)) : Int)) (.int 2) = .ok (.va (.bl false)) := rfl
      refine ⟨[.va (.lst (L.map encP)), .va (.lst (L.map encP)), .va (.int (i : Int))], ?_, _, rfl⟩
      unfold B_law_alike_1
      simp only [ev_seq, ev_set, ev_op1, ev_op2, ev_call, ev_cons, ev_nil, ev_c, ev_var, ev_tup, ev_lst, ev_cb, ev_fz, ev_lend, ev_and, ev_or, ev_not, ev_chain, ev_if, ev_bm, ev_get2, ev_ixO, ev_sl, ev_some, ev_none, ev_tval, ev_tand, ev_tor, ev_tnot, ev_irange1, ev_irange2, ev_sif, ev_next, ev_ret, ev_retO, ev_raise, ev_app, ev_put, ev_dput, ev_for, ev_while, ev_pub, pub_cons, pub_nil, ev_drop, ev_dnew, res_nx, res_rt, res_xc, R.bind_ok, R.bind_xc, R.out_ok, R.out_xc, Out.bind_nx, Out.bind_rt, Out.bind_xc, Sl.d_va, Sl.d_ow, Sl.frz_va, Sl.frz_ow, Sl.frz_no, List.getElem?_cons_succ, List.getElem?_cons_zero, List.set_cons_succ, List.set_cons_zero, List.length_cons, List.length_nil, List.map_cons, List.map_nil, lim_val, Nat.zero_le, Nat.reduceAdd, Nat.reduceLeDiff, Nat.reduceEqDiff, reduceIte, Nat.zero_add, if_true, if_false, Bool.false_eq_true, Bool.not_true, Bool.not_false, decide_true, decide_false, o_add, o_sub, o_neg, o_lt, o_le, o_gt, o_ge, o_eq, o_ne, o_isN, o_notN, isNon_non, isNon_int, isNon_tup, isNon_lst, o_idxL, o_idxT, o_lenL, o_lenT, o_lenS, o_listL, o_listT, o_tupleL, o_tupleT, o_int, o_intb, o_max2, o_min2, o_slL, o_slT, atD_0, atD_1, atD_2, atD_3, atD_4, atD_5, range_4, range_3, range_2, hx, isi_tup, whole_ok, hself, n2, n2', Int.cast_ofNat_Int])
  obtain ⟨e, hW, a, rfl⟩ := W
  have il : bIsi "list" [.lst (L.map encP)] = .ok (.va (.bl true)) := by simp [bIsi, isTy]
  have ez : decide ((L.length : Int) = (L.length : Int)) = true := decide_eq_true rfl
  simp only [ev_seq, ev_set, ev_op1, ev_op2, ev_call, ev_cons, ev_nil, ev_c, ev_var, ev_tup, ev_lst, ev_cb, ev_fz, ev_lend, ev_and, ev_or, ev_not, ev_chain, ev_if, ev_bm, ev_get2, ev_ixO, ev_sl, ev_some, ev_none, ev_tval, ev_tand, ev_tor, ev_tnot, ev_irange1, ev_irange2, ev_sif, ev_next, ev_ret, ev_retO, ev_raise, ev_app, ev_put, ev_dput, ev_for, ev_while, ev_pub, pub_cons, pub_nil, ev_drop, ev_dnew, res_nx, res_rt, res_xc, R.bind_ok, R.bind_xc, R.out_ok, R.out_xc, Out.bind_nx, Out.bind_rt, Out.bind_xc, Sl.d_va, Sl.d_ow, Sl.frz_va, Sl.frz_ow, Sl.frz_no, List.getElem?_cons_succ, List.getElem?_cons_zero, List.set_cons_succ, List.set_cons_zero, List.length_cons, List.length_nil, List.map_cons, List.map_nil, lim_val, Nat.zero_le, Nat.reduceAdd, Nat.reduceLeDiff, Nat.reduceEqDiff, reduceIte, Nat.zero_add, if_true, if_false, Bool.false_eq_true, Bool.not_true, Bool.not_false, decide_true, decide_false, o_add, o_sub, o_neg, o_lt, o_le, o_gt, o_ge, o_eq, o_ne, o_isN, o_notN, isNon_non, isNon_int, isNon_tup, isNon_lst, o_idxL, o_idxT, o_lenL, o_lenT, o_lenS, o_listL, o_listT, o_tupleL, o_tupleT, o_int, o_intb, o_max2, o_min2, o_slL, o_slT, atD_0, atD_1, atD_2, atD_3, atD_4, atD_5, range_4, range_3, range_2, il, List.length_map, hrn, hW, ez]
/-! ### the program's totals -/
theorem total_ok {m rg : Nat} {rs : List (List Int)} (hm : rs.length = m) (h10 : m ≤ 10) (h4 : ∀ r ∈ rs, r.length = 4) (hr : rg ≤ 100) :
    ∃ l, f_total [encS rs (rg : Int)] = .ok (.ow (.lst ((rowsZ l 0 1).map encP))) ∧ Wf l 300 ∧ ∀ x, getZ l x = stS rs rg x := by
  obtain ⟨l, l1, l2, l3⟩ := of_sheet_ok m 10 rs rg hm (by omega) h10 h4 (by omega)
  have w := l2.mono (M := 300) (by omega)
  have hl := w.len2 (by decide)
  refine ⟨l, ?_, w, l3⟩
  have as := as_rows_ok (l := l) (by omega)
  have l1' : f_of_sheet [encS rs (rg : Int)] = _ := l1
  unfold f_total F_total
  rw [fn_eq [.va (encS rs (rg : Int))] rfl]
  simp only [ev_seq, ev_set, ev_op1, ev_op2, ev_call, ev_cons, ev_nil, ev_c, ev_var, ev_tup, ev_lst, ev_cb, ev_fz, ev_lend, ev_and, ev_or, ev_not, ev_chain, ev_if, ev_bm, ev_get2, ev_ixO, ev_sl, ev_some, ev_none, ev_tval, ev_tand, ev_tor, ev_tnot, ev_irange1, ev_irange2, ev_sif, ev_next, ev_ret, ev_retO, ev_raise, ev_app, ev_put, ev_dput, ev_for, ev_while, ev_pub, pub_cons, pub_nil, ev_drop, ev_dnew, res_nx, res_rt, res_xc, R.bind_ok, R.bind_xc, R.out_ok, R.out_xc, Out.bind_nx, Out.bind_rt, Out.bind_xc, Sl.d_va, Sl.d_ow, Sl.frz_va, Sl.frz_ow, Sl.frz_no, List.getElem?_cons_succ, List.getElem?_cons_zero, List.set_cons_succ, List.set_cons_zero, List.length_cons, List.length_nil, List.map_cons, List.map_nil, lim_val, Nat.zero_le, Nat.reduceAdd, Nat.reduceLeDiff, Nat.reduceEqDiff, reduceIte, Nat.zero_add, if_true, if_false, Bool.false_eq_true, Bool.not_true, Bool.not_false, decide_true, decide_false, o_add, o_sub, o_neg, o_lt, o_le, o_gt, o_ge, o_eq, o_ne, o_isN, o_notN, isNon_non, isNon_int, isNon_tup, isNon_lst, o_idxL, o_idxT, o_lenL, o_lenT, o_lenS, o_listL, o_listT, o_tupleL, o_tupleT, o_int, o_intb, o_max2, o_min2, o_slL, o_slT, atD_0, atD_1, atD_2, atD_3, atD_4, atD_5, range_4, range_3, range_2, l1', as]
theorem straight_ok {m rg : Nat} {rs : List (List Int)} (hd : Drawn m rs) (h10 : m ≤ 10) (hr : rg ≤ 100) :
    ∃ l, f_straight [encS rs (rg : Int)] = .ok (.ow (.lst ((rowsZ l 0 1).map encP))) ∧ Wf l 400 ∧ ∀ x, getZ l x = (1 - 2 * (twi rs % 2)) * stS rs rg (x - -3 * twi rs) := by
  obtain ⟨l, l1, l2, l3⟩ := of_sheet_ok m 10 rs rg hd.len (by omega) h10 hd.four (by omega)
  have hw := twist_ok (rings := (rg : Int)) hd (by omega)
  have hb := twi_bound rs
  rw [hd.len] at hb
  generalize twi rs = w at *
  have m1 : dMod (.int w) (.int 2) = .ok (.va (.int (w % 2))) := o_mod (by decide)
  have m2 : dMul (.int 2) (.int (w % 2)) = .ok (.va (.int (2 * (w % 2)))) := o_mulL (by decide) (by decide)
  have m3 : dMul (.int (-3)) (.int w) = .ok (.va (.int (-3 * w))) := o_mulL (by decide) (by decide)
  have q0 := Int.emod_nonneg w (show (2 : Int) ≠ 0 by decide)
  have q1 := Int.emod_lt_of_pos w (show (0 : Int) < 2 by decide)
  have w1 : Wf (DL.addTo [] l (-3 * w) (1 - 2 * (w % 2))) 400 := (wf_nil _).addTo l2 (by omega) (by omega)
  have z0 := l2.len2 (by omega)
  have z1 := w1.len2 (by decide)
  refine ⟨_, ?_, w1, fun x => ?_⟩
  · have as := as_rows_ok (l := DL.addTo [] l (-3 * w) (1 - 2 * (w % 2))) (by omega)
    have l1' : f_of_sheet [encS rs (rg : Int)] = _ := l1
    unfold f_straight F_straight
    rw [fn_eq [.va (encS rs (rg : Int)), .no, .no, .no] rfl]
    have s1 := addT_ok (i := 3) (fx := eCall 1 f_of_sheet (aCons (eVar 0) aNil)) (fsh := eOp2 dMul (eOp1 dNeg (eC (.int 3))) (eVar 1)) (fsg := eVar 2) (e := [.va (encS rs (rg : Int)), .va (.int w), .va (.int (1 - 2 * (w % 2))), .ow (.dic [])]) (l := []) (o := l) (sh := -3 * w) (sg := 1 - 2 * (w % 2)) rfl (by simp only [ev_seq, ev_set, ev_op1, ev_op2, ev_call, ev_cons, ev_nil, ev_c, ev_var, ev_tup, ev_lst, ev_cb, ev_fz, ev_lend, ev_and, ev_or, ev_not, ev_chain, ev_if, ev_bm, ev_get2, ev_ixO, ev_sl, ev_some, ev_none, ev_tval, ev_tand, ev_tor, ev_tnot, ev_irange1, ev_irange2, ev_sif, ev_next, ev_ret, ev_retO, ev_raise, ev_app, ev_put, ev_dput, ev_for, ev_while, ev_pub, pub_cons, pub_nil, ev_drop, ev_dnew, res_nx, res_rt, res_xc, R.bind_ok, R.bind_xc, R.out_ok, R.out_xc, Out.bind_nx, Out.bind_rt, Out.bind_xc, Sl.d_va, Sl.d_ow, Sl.frz_va, Sl.frz_ow, Sl.frz_no, List.getElem?_cons_succ, List.getElem?_cons_zero, List.set_cons_succ, List.set_cons_zero, List.length_cons, List.length_nil, List.map_cons, List.map_nil, lim_val, Nat.zero_le, Nat.reduceAdd, Nat.reduceLeDiff, Nat.reduceEqDiff, reduceIte, Nat.zero_add, if_true, if_false, Bool.false_eq_true, Bool.not_true, Bool.not_false, decide_true, decide_false, o_add, o_sub, o_neg, o_lt, o_le, o_gt, o_ge, o_eq, o_ne, o_isN, o_notN, isNon_non, isNon_int, isNon_tup, isNon_lst, o_idxL, o_idxT, o_lenL, o_lenT, o_lenS, o_listL, o_listT, o_tupleL, o_tupleT, o_int, o_intb, o_max2, o_min2, o_slL, o_slT, atD_0, atD_1, atD_2, atD_3, atD_4, atD_5, range_4, range_3, range_2, l1']) (by simp only [ev_seq, ev_set, ev_op1, ev_op2, ev_call, ev_cons, ev_nil, ev_c, ev_var, ev_tup, ev_lst, ev_cb, ev_fz, ev_lend, ev_and, ev_or, ev_not, ev_chain, ev_if, ev_bm, ev_get2, ev_ixO, ev_sl, ev_some, ev_none, ev_tval, ev_tand, ev_tor, ev_tnot, ev_irange1, ev_irange2, ev_sif, ev_next, ev_ret, ev_retO, ev_raise, ev_app, ev_put, ev_dput, ev_for, ev_while, ev_pub, pub_cons, pub_nil, ev_drop, ev_dnew, res_nx, res_rt, res_xc, R.bind_ok, R.bind_xc, R.out_ok, R.out_xc, Out.bind_nx, Out.bind_rt, Out.bind_xc, Sl.d_va, Sl.d_ow, Sl.frz_va, Sl.frz_ow, Sl.frz_no, List.getElem?_cons_succ, List.getElem?_cons_zero, List.set_cons_succ, List.set_cons_zero, List.length_cons, List.length_nil, List.map_cons, List.map_nil, lim_val, Nat.zero_le, Nat.reduceAdd, Nat.reduceLeDiff, Nat.reduceEqDiff, reduceIte, Nat.zero_add, if_true, if_false, Bool.false_eq_true, Bool.not_true, Bool.not_false, decide_true, decide_false, o_add, o_sub, o_neg, o_lt, o_le, o_gt, o_ge, o_eq, o_ne, o_isN, o_notN, isNon_non, isNon_int, isNon_tup, isNon_lst, o_idxL, o_idxT, o_lenL, o_lenT, o_lenS, o_listL, o_listT, o_tupleL, o_tupleT, o_int, o_intb, o_max2, o_min2, o_slL, o_slT, atD_0, atD_1, atD_2, atD_3, atD_4, atD_5, range_4, range_3, range_2, m3]) rfl (by rw [lim_val]; show 0 + _ < _; omega) (by omega) (by omega)
    simp only [List.set_cons_succ, List.set_cons_zero] at s1
    simp only [ev_seq, ev_set, ev_op1, ev_op2, ev_call, ev_cons, ev_nil, ev_c, ev_var, ev_tup, ev_lst, ev_cb, ev_fz, ev_lend, ev_and, ev_or, ev_not, ev_chain, ev_if, ev_bm, ev_get2, ev_ixO, ev_sl, ev_some, ev_none, ev_tval, ev_tand, ev_tor, ev_tnot, ev_irange1, ev_irange2, ev_sif, ev_next, ev_ret, ev_retO, ev_raise, ev_app, ev_put, ev_dput, ev_for, ev_while, ev_pub, pub_cons, pub_nil, ev_drop, ev_dnew, res_nx, res_rt, res_xc, R.bind_ok, R.bind_xc, R.out_ok, R.out_xc, Out.bind_nx, Out.bind_rt, Out.bind_xc, Sl.d_va, Sl.d_ow, Sl.frz_va, Sl.frz_ow, Sl.frz_no, List.getElem?_cons_succ, List.getElem?_cons_zero, List.set_cons_succ, List.set_cons_zero, List.length_cons, List.length_nil, List.map_cons, List.map_nil, lim_val, Nat.zero_le, Nat.reduceAdd, Nat.reduceLeDiff, Nat.reduceEqDiff, reduceIte, Nat.zero_add, if_true, if_false, Bool.false_eq_true, Bool.not_true, Bool.not_false, decide_true, decide_false, o_add, o_sub, o_neg, o_lt, o_le, o_gt, o_ge, o_eq, o_ne, o_isN, o_notN, isNon_non, isNon_int, isNon_tup, isNon_lst, o_idxL, o_idxT, o_lenL, o_lenT, o_lenS, o_listL, o_listT, o_tupleL, o_tupleT, o_int, o_intb, o_max2, o_min2, o_slL, o_slT, atD_0, atD_1, atD_2, atD_3, atD_4, atD_5, range_4, range_3, range_2, hw, m1, m2, s1, as]
  · rw [getZ_addTo l2.nd, l3]
    show (0 : Int) + _ = _
    omega
end DL
set_option maxRecDepth 100000
namespace DL
open PySem (Str)
theorem law_k12_true (ns : List Int) (hl : ns.length ≤ 63) : f_law_k12 [.scr ns] = .ok (.va (.bl true)) := by
  unfold f_law_k12 F_law_k12
  rw [fn_eq [.va (.scr ns), .no, .no, .no, .no, .no] rfl]
  have d0 : dMod (.int (cell ns 0)) (.int 5) = .ok (.va (.int (cell ns 0 % 5))) := o_mod (by decide)
  have d1 : dMod (.int (cell ns 1)) (.int 7) = .ok (.va (.int (cell ns 1 % 7))) := o_mod (by decide)
  have d2 : dMod (.int (cell ns 2)) (.int 8) = .ok (.va (.int (cell ns 2 % 8))) := o_mod (by decide)
  have d3 : dMod (.int (cell ns 0 % 5)) (.int 2) = .ok (.va (.int (cell ns 0 % 5 % 2))) := o_mod (by decide)
  have d4 : dMod (.int (cell ns 1)) (.int 61) = .ok (.va (.int (cell ns 1 % 61))) := o_mod (by decide)
  have d5 : dFloor (.int (cell ns 0)) (.int 5) = .ok (.va (.int (cell ns 0 / 5))) := o_floor (by decide)
  have d6 : dMod (.int (cell ns 0 / 5)) (.int 5) = .ok (.va (.int (cell ns 0 / 5 % 5))) := o_mod (by decide)
  have head : ∃ m rg : Nat, m ≤ 9 ∧ rg ≤ 60 ∧ ∀ t : FS, ((sSeq (sSet 1 (eOp2 dMod (eCall 2 f_law_cell_at (aCons (eVar 0) (aCons (eC (.int 0)) aNil))) (eC (.int 5))))
  (sSeq (sSet 2 (eOp2 dMod (eCall 2 f_law_cell_at (aCons (eVar 0) (aCons (eC (.int 1)) aNil))) (eC (.int 7))))
  (sSeq (sIf (tVal (eOp2 dEq (eOp2 dMod (eCall 2 f_law_cell_at (aCons (eVar 0) (aCons (eC (.int 2)) aNil))) (eC (.int 8))) (eC (.int 1)))) (sSeq (sSet 1 (eOp2 dMod (eVar 1) (eC (.int 2))))
  (sSet 2 (eOp2 dMod (eCall 2 f_law_cell_at (aCons (eVar 0) (aCons (eC (.int 1)) aNil))) (eC (.int 61))))) sNext)
  (sSeq (sIf (tVal (eOp2 dEq (eOp2 dMod (eCall 2 f_law_cell_at (aCons (eVar 0) (aCons (eC (.int 2)) aNil))) (eC (.int 8))) (eC (.int 2)))) (sSet 1 (eOp2 dAdd (eC (.int 5)) (eOp2 dMod (eOp2 dFloor (eCall 2 f_law_cell_at (aCons (eVar 0) (aCons (eC (.int 0)) aNil))) (eC (.int 5))) (eC (.int 5))))) sNext) t)))) [.va (.scr ns), .no, .no, .no, .no, .no]) = t [.va (.scr ns), .va (.int (m : Int)), .va (.int (rg : Int)), .no, .no, .no] := by
    have c0 := cell_at_ok (ns := ns) (k := 0) (by decide)
    have c1 := cell_at_ok (ns := ns) (k := 1) (by decide)
    have c2 := cell_at_ok (ns := ns) (k := 2) (by decide)
    by_cases e1 : cell ns 2 % 8 = 1
    · obtain ⟨m, hm⟩ : ∃ m : Nat, cell ns 0 % 5 % 2 = (m : Int) := ⟨(cell ns 0 % 5 % 2).toNat, by omega⟩
      obtain ⟨g, hg⟩ : ∃ g : Nat, cell ns 1 % 61 = (g : Int) := ⟨(cell ns 1 % 61).toNat, by omega⟩
      refine ⟨m, g, by omega, by omega, fun t => ?_⟩
      simp only [ev_seq, ev_set, ev_op1, ev_op2, ev_call, ev_cons, ev_nil, ev_c, ev_var, ev_tup, ev_lst, ev_cb, ev_fz, ev_lend, ev_and, ev_or, ev_not, ev_chain, ev_if, ev_bm, ev_get2, ev_ixO, ev_sl, ev_some, ev_none, ev_tval, ev_tand, ev_tor, ev_tnot, ev_irange1, ev_irange2, ev_sif, ev_next, ev_ret, ev_retO, ev_raise, ev_app, ev_put, ev_dput, ev_for, ev_while, ev_pub, pub_cons, pub_nil, ev_drop, ev_dnew, res_nx, res_rt, res_xc, R.bind_ok, R.bind_xc, R.out_ok, R.out_xc, Out.bind_nx, Out.bind_rt, Out.bind_xc, Sl.d_va, Sl.d_ow, Sl.frz_va, Sl.frz_ow, Sl.frz_no, List.getElem?_cons_succ, List.getElem?_cons_zero, List.set_cons_succ, List.set_cons_zero, List.length_cons, List.length_nil, List.map_cons, List.map_nil, lim_val, Nat.zero_le, Nat.reduceAdd, Nat.reduceLeDiff, Nat.reduceEqDiff, reduceIte, Nat.zero_add, if_true, if_false, Bool.false_eq_true, Bool.not_true, Bool.not_false, decide_true, decide_false, o_add, o_sub, o_neg, o_lt, o_le, o_gt, o_ge, o_eq, o_ne, o_isN, o_notN, isNon_non, isNon_int, isNon_tup, isNon_lst, o_idxL, o_idxT, o_lenL, o_lenT, o_lenS, o_listL, o_listT, o_tupleL, o_tupleT, o_int, o_intb, o_max2, o_min2, o_slL, o_slT, atD_0, atD_1, atD_2, atD_3, atD_4, atD_5, range_4, range_3, range_2, Int.reduceEq, c0, c1, c2, d0, d1, d2, d3, d4, e1, hm, hg]
    · by_cases e2 : cell ns 2 % 8 = 2
      · obtain ⟨m, hm⟩ : ∃ m : Nat, 5 + cell ns 0 / 5 % 5 = (m : Int) := ⟨(5 + cell ns 0 / 5 % 5).toNat, by omega⟩
        obtain ⟨g, hg⟩ : ∃ g : Nat, cell ns 1 % 7 = (g : Int) := ⟨(cell ns 1 % 7).toNat, by omega⟩
        refine ⟨m, g, by omega, by omega, fun t => ?_⟩
        simp only [ev_seq, ev_set, ev_op1, ev_op2, ev_call, ev_cons, ev_nil, ev_c, ev_var, ev_tup, ev_lst, ev_cb, ev_fz, ev_lend, ev_and, ev_or, ev_not, ev_chain, ev_if, ev_bm, ev_get2, ev_ixO, ev_sl, ev_some, ev_none, ev_tval, ev_tand, ev_tor, ev_tnot, ev_irange1, ev_irange2, ev_sif, ev_next, ev_ret, ev_retO, ev_raise, ev_app, ev_put, ev_dput, ev_for, ev_while, ev_pub, pub_cons, pub_nil, ev_drop, ev_dnew, res_nx, res_rt, res_xc, R.bind_ok, R.bind_xc, R.out_ok, R.out_xc, Out.bind_nx, Out.bind_rt, Out.bind_xc, Sl.d_va, Sl.d_ow, Sl.frz_va, Sl.frz_ow, Sl.frz_no, List.getElem?_cons_succ, List.getElem?_cons_zero, List.set_cons_succ, List.set_cons_zero, List.length_cons, List.length_nil, List.map_cons, List.map_nil, lim_val, Nat.zero_le, Nat.reduceAdd, Nat.reduceLeDiff, Nat.reduceEqDiff, reduceIte, Nat.zero_add, if_true, if_false, Bool.false_eq_true, Bool.not_true, Bool.not_false, decide_true, decide_false, o_add, o_sub, o_neg, o_lt, o_le, o_gt, o_ge, o_eq, o_ne, o_isN, o_notN, isNon_non, isNon_int, isNon_tup, isNon_lst, o_idxL, o_idxT, o_lenL, o_lenT, o_lenS, o_listL, o_listT, o_tupleL, o_tupleT, o_int, o_intb, o_max2, o_min2, o_slL, o_slT, atD_0, atD_1, atD_2, atD_3, atD_4, atD_5, range_4, range_3, range_2, Int.reduceEq, c0, c1, c2, d0, d1, d2, d3, d4, d5, d6, e1, e2, hm, hg]
      · obtain ⟨m, hm⟩ : ∃ m : Nat, cell ns 0 % 5 = (m : Int) := ⟨(cell ns 0 % 5).toNat, by omega⟩
        obtain ⟨g, hg⟩ : ∃ g : Nat, cell ns 1 % 7 = (g : Int) := ⟨(cell ns 1 % 7).toNat, by omega⟩
        refine ⟨m, g, by omega, by omega, fun t => ?_⟩
        simp only [ev_seq, ev_set, ev_op1, ev_op2, ev_call, ev_cons, ev_nil, ev_c, ev_var, ev_tup, ev_lst, ev_cb, ev_fz, ev_lend, ev_and, ev_or, ev_not, ev_chain, ev_if, ev_bm, ev_get2, ev_ixO, ev_sl, ev_some, ev_none, ev_tval, ev_tand, ev_tor, ev_tnot, ev_irange1, ev_irange2, ev_sif, ev_next, ev_ret, ev_retO, ev_raise, ev_app, ev_put, ev_dput, ev_for, ev_while, ev_pub, pub_cons, pub_nil, ev_drop, ev_dnew, res_nx, res_rt, res_xc, R.bind_ok, R.bind_xc, R.out_ok, R.out_xc, Out.bind_nx, Out.bind_rt, Out.bind_xc, Sl.d_va, Sl.d_ow, Sl.frz_va, Sl.frz_ow, Sl.frz_no, List.getElem?_cons_succ, List.getElem?_cons_zero, List.set_cons_succ, List.set_cons_zero, List.length_cons, List.length_nil, List.map_cons, List.map_nil, lim_val, Nat.zero_le, Nat.reduceAdd, Nat.reduceLeDiff, Nat.reduceEqDiff, reduceIte, Nat.zero_add, if_true, if_false, Bool.false_eq_true, Bool.not_true, Bool.not_false, decide_true, decide_false, o_add, o_sub, o_neg, o_lt, o_le, o_gt, o_ge, o_eq, o_ne, o_isN, o_notN, isNon_non, isNon_int, isNon_tup, isNon_lst, o_idxL, o_idxT, o_lenL, o_lenT, o_lenS, o_listL, o_listT, o_tupleL, o_tupleT, o_int, o_intb, o_max2, o_min2, o_slL, o_slT, atD_0, atD_1, atD_2, atD_3, atD_4, atD_5, range_4, range_3, range_2, Int.reduceEq, c0, c1, c2, d0, d1, d2, e1, e2, hm, hg]
  obtain ⟨m, rg, hm, hr, hh⟩ := head
  rw [hh]
  obtain ⟨rs, rs0, h1, h2, d, _, _⟩ := sheet_ok (ns := ns) (start := 3) (m := m) (fx := []) (by decide) (by omega) (by simp) (by simp)
  have h1' : f_law_rows [.scr ns, .int 3, .int m, .lst []] = .ok (.ow (.lst (encRs rs0))) := h1
  obtain ⟨l, l1, l2, l3⟩ := law_total_ok (rs := rs) (rg := rg) d.four (by rw [d.len]; omega) (by omega)
  obtain ⟨a, a1, a2, a3⟩ := total_ok (rg := rg) d.len (by omega) d.four (by omega)
  obtain ⟨b, b1, b2, b3⟩ := straight_ok (rg := rg) d (by omega) (by omega)
  have hlen := d.len
  have z0 := l2.len2 (by omega)
  rw [hlen] at z0
  have hw := law_twist_ok d (by omega)
  generalize twi rs = w at *
  have q0 := Int.emod_nonneg w (show (2 : Int) ≠ 0 by decide)
  have q1 := Int.emod_lt_of_pos w (show (0 : Int) < 2 by decide)
  have m1 : dMod (.int w) (.int 2) = .ok (.va (.int (w % 2))) := o_mod (by decide)
  have m2 : dMul (.int 2) (.int (w % 2)) = .ok (.va (.int (2 * (w % 2)))) := o_mulL (by decide) (by decide)
  have m3 : dMul (.int (-3)) (.int w) = .ok (.va (.int (-3 * w))) := o_mulL (by decide) (by decide)
  have s1 := listed_ok (l := l) (sh := 0) (sg := 1) (by omega) (by decide) (by decide)
  have s2 := listed_ok (l := l) (sh := -3 * w) (sg := 1 - 2 * (w % 2)) (by omega) (by omega) (by omega)
  have e1 : rowsZ l 0 1 = rowsZ a 0 1 := rows_eq l2.nd a2.nd (by decide) (by decide) fun x => by rw [l3, a3]
  have e2 : rowsZ l (-3 * w) (1 - 2 * (w % 2)) = rowsZ b 0 1 := rows_eq l2.nd b2.nd (by omega) (by decide) fun x => by rw [l3, b3, Int.one_mul, Int.sub_zero]
  rw [e1] at s1
  rw [e2] at s2
  have y1 := rowsZ_len a 0 1
  have y2 := rowsZ_len b 0 1
  have y3 := a2.len2 (by decide)
  have y4 := b2.len2 (by decide)
  have k1 := alike_ok (L := rowsZ a 0 1) (by omega)
  have k2 := alike_ok (L := rowsZ b 0 1) (by omega)
  simp only [ev_seq, ev_set, ev_op1, ev_op2, ev_call, ev_cons, ev_nil, ev_c, ev_var, ev_tup, ev_lst, ev_cb, ev_fz, ev_lend, ev_and, ev_or, ev_not, ev_chain, ev_if, ev_bm, ev_get2, ev_ixO, ev_sl, ev_some, ev_none, ev_tval, ev_tand, ev_tor, ev_tnot, ev_irange1, ev_irange2, ev_sif, ev_next, ev_ret, ev_retO, ev_raise, ev_app, ev_put, ev_dput, ev_for, ev_while, ev_pub, pub_cons, pub_nil, ev_drop, ev_dnew, res_nx, res_rt, res_xc, R.bind_ok, R.bind_xc, R.out_ok, R.out_xc, Out.bind_nx, Out.bind_rt, Out.bind_xc, Sl.d_va, Sl.d_ow, Sl.frz_va, Sl.frz_ow, Sl.frz_no, List.getElem?_cons_succ, List.getElem?_cons_zero, List.set_cons_succ, List.set_cons_zero, List.length_cons, List.length_nil, List.map_cons, List.map_nil, lim_val, Nat.zero_le, Nat.reduceAdd, Nat.reduceLeDiff, Nat.reduceEqDiff, reduceIte, Nat.zero_add, if_true, if_false, Bool.false_eq_true, Bool.not_true, Bool.not_false, decide_true, decide_false, o_add, o_sub, o_neg, o_lt, o_le, o_gt, o_ge, o_eq, o_ne, o_isN, o_notN, isNon_non, isNon_int, isNon_tup, isNon_lst, o_idxL, o_idxT, o_lenL, o_lenT, o_lenS, o_listL, o_listT, o_tupleL, o_tupleT, o_int, o_intb, o_max2, o_min2, o_slL, o_slT, atD_0, atD_1, atD_2, atD_3, atD_4, atD_5, range_4, range_3, range_2, h1', h2, l1, a1, s1, k1, hw, b1, m1, m2, m3, s2, k2]
end DL
set_option maxRecDepth 100000
/-! DL: the plain data's operations are what the model does (over HandS). -/
namespace DL
open PySem PySem.Spec PyProof.Rows L2

/-! ### heaps that grow -/
def Ex (H H' : Hp) : Prop := ∀ a o, H a = some o → H' a = some o
theorem Ex.refl (H : Hp) : Ex H H := fun _ _ h => h
theorem Ex.trans {H H1 H2 : Hp} (a : Ex H H1) (b : Ex H1 H2) : Ex H H2 := fun x o h => b x o (a x o h)
theorem Ex.new {H : Hp} {p : Addr} {o : HO} (h : H p = none) : Ex H (upd H p o) := fun a u e => by
  rw [upd_ne (ne_of_none e h)]
  exact e
/-- o may have been locked meanwhile -/
def Lk (o o' : HO) : Prop := o' = o ∨ ∃ ob kvs, o = .dK kvs ∧ o' = .frz ob (.dK kvs)
theorem Lk.refl (o : HO) : Lk o o := .inl rfl
theorem Lk.trans {a b c : HO} (h : Lk a b) (k : Lk b c) : Lk a c := by
  rcases h with rfl | ⟨ob, kvs, rfl, rfl⟩
  · exact k
  · rcases k with rfl | ⟨_, _, e, _⟩
    · exact .inr ⟨ob, kvs, rfl, rfl⟩
    · cases e
/-- from the read part Hf of H to the read part Hf' of H' -/
structure Grow (Hf H Hf' H' : Hp) : Prop where
  sub : Ex Hf' H'
  old : Ex Hf Hf'
  kept : ∀ a o, H a = some o → Hf a = none → H' a = some o ∧ Hf' a = none
theorem Grow.refl {Hf H : Hp} (h : Ex Hf H) : Grow Hf H Hf H := ⟨h, .refl Hf, fun _ _ e n => ⟨e, n⟩⟩
theorem Grow.trans {Hf H Hf1 H1 Hf2 H2 : Hp} (a : Grow Hf H Hf1 H1) (b : Grow Hf1 H1 Hf2 H2) : Grow Hf H Hf2 H2 :=
  ⟨b.sub, a.old.trans b.old, fun x o e n => by
    obtain ⟨e1, n1⟩ := a.kept x o e n
    exact b.kept x o e1 n1⟩
/-- an object that is new stands nowhere before -/
theorem Grow.fresh {Hf H Hf' H' : Hp} (g : Grow Hf H Hf' H') (s : Ex Hf H) {p : Addr} (h : H' p = none) : H p = none := by
  cases e : H p with
  | none => rfl
  | some o =>
    cases e2 : Hf p with
    | none =>
      obtain ⟨q, _⟩ := g.kept p o e e2
      rw [h] at q; cases q
    | some u =>
      have := g.sub p u (g.old p u e2)
      rw [h] at this; cases this
theorem Grow.new {Hf H : Hp} {p : Addr} {o : HO} (s : Ex Hf H) (h : H p = none) : Grow Hf H (upd Hf p o) (upd H p o) := by
  have hf : Hf p = none := by
    cases e : Hf p with
    | none => rfl
    | some u =>
      have := s p u e
      rw [h] at this; cases this
  refine ⟨fun a u e => ?_, fun a u e => by rw [upd_ne (ne_of_none e hf)]; exact e, fun a u e n => ?_⟩
  · by_cases ha : a = p
    · subst ha
      rw [upd_same] at e ⊢
      exact e
    · rw [upd_ne ha] at e ⊢
      exact s a u e
  · have ha : a ≠ p := ne_of_none e h
    rw [upd_ne ha, upd_ne ha]
    exact ⟨e, n⟩
/-- a new object that is not read yet -/
theorem Grow.newO {Hf H : Hp} {p : Addr} {o : HO} (s : Ex Hf H) (h : H p = none) : Grow Hf H Hf (upd H p o) := by
  refine ⟨s.trans (Ex.new h), .refl Hf, fun a u e n => ?_⟩
  rw [upd_ne (ne_of_none e h)]
  exact ⟨e, n⟩
theorem Ex.none_of {Hf H : Hp} (s : Ex Hf H) {p : Addr} (h : H p = none) : Hf p = none := by
  cases e : Hf p with
  | none => rfl
  | some u =>
    have := s p u e
    rw [h] at this; cases this
/-- what is held alone is laid open -/
theorem Grow.open {Hf H Hf1 H1 : Hp} {p : Addr} {o : HO} (s : Ex Hf H) (g : Grow Hf H Hf1 H1) (hp : H p = none) (hn : Hf1 p = none) (ho : H1 p = some o) : Grow Hf H (upd Hf1 p o) H1 := by
  refine ⟨fun a u e => ?_, fun a u e => ?_, fun a u e n => ?_⟩
  · by_cases ha : a = p
    · subst ha
      rw [upd_same] at e; cases e
      exact ho
    · rw [upd_ne ha] at e
      exact g.sub a u e
  · have ha : a ≠ p := ne_of_none (s a u e) hp
    rw [upd_ne ha]
    exact g.old a u e
  · have ha : a ≠ p := ne_of_none e hp
    rw [upd_ne ha]
    exact g.kept a u e n

/-! ### data in a heap -/
def kqV (p : Int × Fv) : Key × V := (.inl p.1, match p.2 with
  | .int i => .int i
  | .bl b => .bl b)
def Fv.v : Fv → V
  | .int i => .int i
  | .bl b => .bl b
theorem kqV_eq (p : Int × Fv) : kqV p = (.inl p.1, p.2.v) := by
  obtain ⟨k, v⟩ := p
  cases v <;> rfl
mutual
inductive Rep (K : PySem.W.Frag) (H : Hp) : D → V → Prop
  | non : Rep K H .non .non
  | bl (b : Bool) : Rep K H (.bl b) (.bl b)
  | int (i : Int) : Rep K H (.int i) (.int i)
  | str (x : Str) : Rep K H (.str x) (.str x)
  | lst {a : Addr} {vs : List V} {ds : List D} : H a = some (.lst vs) → RepL K H ds vs → Rep K H (.lst ds) (.ref a)
  | tup {a : Addr} {vs : List V} {ds : List D} : H a = some (.tup vs) → RepL K H ds vs → Rep K H (.tup ds) (.ref a)
  | dic {a : Addr} {kvs : List (Int × Fv)} : Rd H a (.dK (kvs.map kqV)) → Rep K H (.dic kvs) (.ref a)
  | scr {a : Addr} {ns : List Int} : SqL K H a (ns.map V.int) → Rep K H (.scr ns) (.ref a)
  | adr (a : Addr) : Rep K H (.adr a) (.ref a)
inductive RepL (K : PySem.W.Frag) (H : Hp) : List D → List V → Prop
  | nil : RepL K H [] []
  | cons {d : D} {ds : List D} {v : V} {vs : List V} : Rep K H d v → RepL K H ds vs → RepL K H (d :: ds) (v :: vs)
end
/-- what Rep leans on is kept, or locked -/
def Lo (H H' : Hp) : Prop := ∀ a o, H a = some o → ∃ o', H' a = some o' ∧ Lk o o'
theorem Lo.refl (H : Hp) : Lo H H := fun _ o e => ⟨o, e, .refl o⟩
theorem Lo.trans {H H1 H2 : Hp} (a : Lo H H1) (b : Lo H1 H2) : Lo H H2 := fun x o e => by
  obtain ⟨o1, e1, l1⟩ := a x o e
  obtain ⟨o2, e2, l2⟩ := b x o1 e1
  exact ⟨o2, e2, l1.trans l2⟩
theorem Ex.lo {H H' : Hp} (h : Ex H H') : Lo H H' := fun a o e => ⟨o, h a o e, .refl o⟩
theorem Grow.lo {Hf H Hf' H' : Hp} (g : Grow Hf H Hf' H') : Lo Hf Hf' := g.old.lo
theorem Lo.rd {H H' : Hp} (l : Lo H H') {a : Addr} {kvs : List (Key × V)} (h : Rd H a (.dK kvs)) : Rd H' a (.dK kvs) := by
  rcases h with h | ⟨ob, h⟩
  · obtain ⟨o', e, k⟩ := l a _ h
    rcases k with rfl | ⟨ob, kvs', e1, rfl⟩
    · exact .inl e
    · cases e1
      exact .inr ⟨ob, e⟩
  · obtain ⟨o', e, k⟩ := l a _ h
    rcases k with rfl | ⟨_, _, e1, _⟩
    · exact .inr ⟨ob, e⟩
    · cases e1
theorem Lo.lst {H H' : Hp} (l : Lo H H') {a : Addr} {vs : List V} (h : H a = some (.lst vs)) : H' a = some (.lst vs) := by
  obtain ⟨o', e, k⟩ := l a _ h
  rcases k with rfl | ⟨_, _, e1, _⟩
  · exact e
  · cases e1
theorem Lo.tup {H H' : Hp} (l : Lo H H') {a : Addr} {vs : List V} (h : H a = some (.tup vs)) : H' a = some (.tup vs) := by
  obtain ⟨o', e, k⟩ := l a _ h
  rcases k with rfl | ⟨_, _, e1, _⟩
  · exact e
  · cases e1
theorem Lo.sql {K : PySem.W.Frag} {H H' : Hp} (l : Lo H H') {a : Addr} {vs : List V} (h : SqL K H a vs) : SqL K H' a vs := by
  rcases h with (h | ⟨ob, h⟩) | h
  · exact .inl (.inl (l.lst h))
  · obtain ⟨o', e, k⟩ := l a _ h
    rcases k with rfl | ⟨_, _, e1, _⟩
    · exact .inl (.inr ⟨ob, e⟩)
    · cases e1
  · exact .inr h
section
variable {K : PySem.W.Frag} {H H' : Hp}
mutual
theorem Rep.mono (l : Lo H H') : ∀ {d : D} {v : V}, Rep K H d v → Rep K H' d v
  | _, _, .non => .non
  | _, _, .bl b => .bl b
  | _, _, .int i => .int i
  | _, _, .str x => .str x
  | _, _, .lst h r => .lst (l.lst h) (RepL.mono l r)
  | _, _, .tup h r => .tup (l.tup h) (RepL.mono l r)
  | _, _, .dic h => .dic (l.rd h)
  | _, _, .scr h => .scr (l.sql h)
  | _, _, .adr a => .adr a
theorem RepL.mono (l : Lo H H') : ∀ {ds : List D} {vs : List V}, RepL K H ds vs → RepL K H' ds vs
  | _, _, .nil => .nil
  | _, _, .cons r t => .cons (Rep.mono l r) (RepL.mono l t)
end
theorem RepL.length : ∀ {ds : List D} {vs : List V}, RepL K H ds vs → ds.length = vs.length
  | _, _, .nil => rfl
  | _, _, .cons _ t => by rw [List.length_cons, List.length_cons, RepL.length t]
theorem RepL.get : ∀ {ds : List D} {vs : List V} {i : Nat} {d : D}, RepL K H ds vs → ds[i]? = some d → ∃ v, vs[i]? = some v ∧ Rep K H d v
  | _, _, _, _, .nil, e => by simp at e
  | _, _, 0, _, .cons r _, e => by
    have e1 := Option.some.inj e
    subst e1
    exact ⟨_, rfl, r⟩
  | _, _, i + 1, d, .cons _ t, e => by
    obtain ⟨v, h1, h2⟩ := RepL.get (i := i) (d := d) t (by simpa using e)
    exact ⟨v, by simpa using h1, h2⟩
theorem RepL.append : ∀ {ds es : List D} {vs us : List V}, RepL K H ds vs → RepL K H es us → RepL K H (ds ++ es) (vs ++ us)
  | _, _, _, _, .nil, s => s
  | _, _, _, _, .cons r t, s => .cons r (RepL.append t s)
theorem RepL.set {d : D} {v : V} (r : Rep K H d v) : ∀ {ds : List D} {vs : List V} (i : Nat), RepL K H ds vs → RepL K H (ds.set i d) (vs.set i v)
  | _, _, _, .nil => .nil
  | _, _, 0, .cons _ t => .cons r t
  | _, _, i + 1, .cons q t => .cons q (RepL.set r i t)
theorem RepL.take : ∀ {ds : List D} {vs : List V} (n : Nat), RepL K H ds vs → RepL K H (ds.take n) (vs.take n)
  | _, _, 0, _ => .nil
  | _, _, _ + 1, .nil => .nil
  | _, _, n + 1, .cons r t => .cons r (RepL.take n t)
theorem RepL.drop : ∀ {ds : List D} {vs : List V} (n : Nat), RepL K H ds vs → RepL K H (ds.drop n) (vs.drop n)
  | _, _, 0, r => r
  | _, _, _ + 1, .nil => .nil
  | _, _, n + 1, .cons _ t => RepL.drop n t
theorem RepL.ints : ∀ {ds : List D} {vs : List V} {ns : List Int}, RepL K H ds vs → intsOf ds = some ns → vs = ns.map V.int
  | _, _, _, .nil, e => by
    have e1 := Option.some.inj e
    subst e1
    rfl
  | _, _, ns, .cons r t, e => by
    cases r with
    | int i =>
      rename_i ds' vs'
      cases q : intsOf ds' with
      | none => simp [intsOf, q] at e
      | some ms =>
        have e1 : i :: ms = ns := by
          simp only [intsOf, q, Option.map_some] at e
          exact Option.some.inj e
        subst e1
        rw [RepL.ints t q]
        rfl
    | _ => simp [intsOf] at e
theorem RepL.ofInts (ns : List Int) : RepL K H (ns.map D.int) (ns.map V.int) := by
  induction ns with
  | nil => exact .nil
  | cons n ns ih => exact .cons (.int n) ih
/-- flat data does not lean on the heap -/
theorem Rep.flat {d : D} {v : V} (f : d.flat = true) (r : Rep K H d v) (H2 : Hp) : Rep K H2 d v := by
  cases r with
  | non => exact .non
  | bl b => exact .bl b
  | int i => exact .int i
  | str x => exact .str x
  | _ => exact absurd (show false = true from f) Bool.false_ne_true
theorem RepL.flats : ∀ {ds : List D} {vs : List V}, ds.all D.flat = true → RepL K H ds vs → ∀ H2 : Hp, RepL K H2 ds vs
  | _, _, _, .nil, _ => .nil
  | _, _, f, .cons r t, H2 => by
    rw [List.all_cons, Bool.and_eq_true] at f
    exact .cons (r.flat f.1 H2) (RepL.flats f.2 t H2)
end

/-- the object at p is held alone, its items are read in Hf -/
def OwnAt (K : PySem.W.Frag) (Hf H : Hp) (d : D) (p : Addr) : Prop := match d with
  | .lst ds => ∃ vs, H p = some (.lst vs) ∧ RepL K Hf ds vs
  | .dic kvs => H p = some (.dK (kvs.map kqV))
  | _ => False
/-- an expression's value behind it: from H to Hf', H' -/
def SlV (K : PySem.W.Frag) (H Hf' H' : Hp) (s : Sl) (v : V) : Prop := match s with
  | .no => False
  | .va d => Rep K Hf' d v
  | .ow d => ∃ p, v = .ref p ∧ H p = none ∧ Hf' p = none ∧ OwnAt K Hf' H' d p
def SlotR (K : PySem.W.Frag) (H0 Hf H : Hp) (s : Sl) (o : Option V) : Prop := match s with
  | .no => True
  | .va d => ∃ v, o = some v ∧ Rep K Hf d v
  | .ow d => ∃ p, o = some (.ref p) ∧ H0 p = none ∧ Hf p = none ∧ OwnAt K Hf H d p
/-- slot i holds the object at p alone -/
def OwnsAt (env : Env) (σ : L2.St) (i : Nat) (p : Addr) : Prop := (∃ d, env[i]? = some (.ow d)) ∧ σ[i]? = some (some (.ref p))
structure EnvR (K : PySem.W.Frag) (H0 Hf H : Hp) (env : Env) (σ : L2.St) : Prop where
  len : env.length = σ.length
  slot : ∀ (i : Nat) (s : Sl) (o : Option V), env[i]? = some s → σ[i]? = some o → SlotR K H0 Hf H s o
  apart : ∀ (i j : Nat) (p : Addr), OwnsAt env σ i p → OwnsAt env σ j p → i = j

section
variable {K : PySem.W.Frag} {H0 Hf H Hf' H' : Hp} {env : Env} {σ : L2.St}
theorem OwnAt.some {d : D} {p : Addr} (h : OwnAt K Hf H d p) : ∃ o, H p = some o := by
  cases d with
  | lst ds => obtain ⟨vs, e, _⟩ := h; exact ⟨_, e⟩
  | dic kvs => exact ⟨_, h⟩
  | _ => exact False.elim h
theorem OwnAt.grow {d : D} {p : Addr} (h : OwnAt K Hf H d p) (g : Grow Hf H Hf' H') (n : Hf p = none) : OwnAt K Hf' H' d p ∧ Hf' p = none := by
  obtain ⟨o, e⟩ := h.some
  obtain ⟨e1, n1⟩ := g.kept p o e n
  cases d with
  | lst ds =>
    obtain ⟨vs, e2, r⟩ := h
    rw [e] at e2; cases e2
    exact ⟨⟨vs, e1, r.mono g.lo⟩, n1⟩
  | dic kvs =>
    have e2 : H p = Option.some (.dK (kvs.map kqV)) := h
    rw [e] at e2; cases e2
    exact ⟨e1, n1⟩
  | _ => exact False.elim h
theorem EnvR.grow (x : EnvR K H0 Hf H env σ) (g : Grow Hf H Hf' H') : EnvR K H0 Hf' H' env σ :=
  ⟨x.len, fun i s o e1 e2 => by
    have q := x.slot i s o e1 e2
    cases s with
    | no => trivial
    | va d => obtain ⟨v, e, r⟩ := q; exact ⟨v, e, r.mono g.lo⟩
    | ow d =>
      obtain ⟨p, e, h0, n, w⟩ := q
      obtain ⟨w', n'⟩ := w.grow g n
      exact ⟨p, e, h0, n', w'⟩, x.apart⟩
theorem EnvR.any (x : EnvR K H0 Hf H env σ) {i : Nat} {s : Sl} (e : env[i]? = some s) : ∃ o, σ[i]? = some o ∧ SlotR K H0 Hf H s o := by
  have hi := (List.getElem?_eq_some_iff.mp e).1
  have hj : i < σ.length := by rw [← x.len]; exact hi
  exact ⟨σ[i], List.getElem?_eq_getElem hj, x.slot i s _ e (List.getElem?_eq_getElem hj)⟩
/-- a new temporary is laid open -/
theorem SlV.rep {s : Sl} {v : V} (sub : Ex Hf H) (g : Grow Hf H Hf' H') (h : SlV K H Hf' H' s v) : ∃ Hf2, Grow Hf H Hf2 H' ∧ Rep K Hf2 s.d v := by
  cases s with
  | no => exact False.elim h
  | va d => exact ⟨Hf', g, h⟩
  | ow d =>
    obtain ⟨p, rfl, hp, n, w⟩ := h
    obtain ⟨o, e⟩ := w.some
    refine ⟨upd Hf' p o, Grow.open sub g hp n e, ?_⟩
    cases d with
    | lst ds =>
      obtain ⟨vs, e2, r⟩ := w
      rw [e] at e2; cases e2
      exact .lst upd_same (r.mono (Ex.new n).lo)
    | dic kvs =>
      have e2 : H' p = some (.dK (kvs.map kqV)) := w
      rw [e] at e2; cases e2
      exact .dic (.inl upd_same)
    | _ => exact False.elim w
end
end DL
set_option maxRecDepth 100000
namespace DL
open PySem PySem.Spec PyProof.Rows L2

/-- what is wanted behind an expression -/
def PostE (K : PySem.W.Frag) (W : WX) (cls : Nat → Addr) (Hf H : Hp) (σ : L2.St) (r : R Sl) (Q : VK) : Prop := match r with
  | .ok s => ∀ v Hf' H', Grow Hf H Hf' H' → SlV K H Hf' H' s v → Q v H'
  | .xc c => ∀ Hf' H', Grow Hf H Hf' H' → W (.ref (cls c)) none σ H'
  | .bad => False
/-- behind a reading whose outcome is not held -/
def PostX (W : WX) (cls : Nat → Addr) (Hf H : Hp) (σ : L2.St) {α : Type} (r : R α) (P : α → Prop) : Prop := match r with
  | .ok a => P a
  | .xc c => ∀ Hf' H', Grow Hf H Hf' H' → W (.ref (cls c)) none σ H'
  | .bad => False
structure DE (K : PySem.W.Frag) (W : WX) (cls : Nat → Addr) (t : TE) (f : FE) : Prop where
  run : ∀ (H0 Hf H : Hp) (env : Env) (σ : L2.St) (Q : VK), Ex Hf H → EnvR K H0 Hf H env σ → PostE K W cls Hf H σ (f env) Q → t σ H Q
structure DT (K : PySem.W.Frag) (W : WX) (cls : Nat → Addr) (t : TT) (f : FT) : Prop where
  run : ∀ (H0 Hf H : Hp) (env : Env) (σ : L2.St) (Q : Bool → Hp → Prop), Ex Hf H → EnvR K H0 Hf H env σ →
    PostX W cls Hf H σ (f env) (fun b => ∀ Hf' H', Grow Hf H Hf' H' → Q b H') → t σ H Q
structure DA (K : PySem.W.Frag) (W : WX) (cls : Nat → Addr) (t : TA) (f : FA) : Prop where
  run : ∀ (H0 Hf H : Hp) (env : Env) (σ : L2.St) (Q : List V → Hp → Prop), Ex Hf H → EnvR K H0 Hf H env σ →
    PostX W cls Hf H σ (f env) (fun ds => ∀ vs Hf' H', Grow Hf H Hf' H' → RepL K Hf' ds vs → Q vs H') → t σ H Q
structure DO (K : PySem.W.Frag) (W : WX) (cls : Nat → Addr) (t : TO) (f : Env → R (Option Int)) : Prop where
  run : ∀ (H0 Hf H : Hp) (env : Env) (σ : L2.St) (Q : Option Int → Hp → Prop), Ex Hf H → EnvR K H0 Hf H env σ →
    PostX W cls Hf H σ (f env) (fun o => ∀ Hf' H', Grow Hf H Hf' H' → Q o H') → t σ H Q
/-- an iterator that tells the items of ds, in any heap that has what Hf has -/
structure JOk (K : PySem.W.Frag) (J : It) (Hf : Hp) (ds : List D) : Prop where
  go : ∀ i H, Lo Hf H → i < ds.length → J.go i H
  yld : ∀ i H x H', Lo Hf H → i < ds.length → J.yld i H x H' → H' = H ∧ ∃ d, ds[i]? = some d ∧ Rep K Hf d x
  stop : ∀ i H, Lo Hf H → ds.length ≤ i → J.stop i H
structure DI (K : PySem.W.Frag) (W : WX) (cls : Nat → Addr) (t : TI) (f : FI) : Prop where
  run : ∀ (H0 Hf H : Hp) (env : Env) (σ : L2.St) (Q : It → Hp → Prop), Ex Hf H → EnvR K H0 Hf H env σ →
    PostX W cls Hf H σ (f env) (fun ds => ∀ J Hf' H', Grow Hf H Hf' H' → JOk K J Hf' ds → Q J H') → t σ H Q

section
variable {K : PySem.W.Frag} {W : WX} {cls : Nat → Addr}
theorem PostX.mono {Hf H : Hp} {σ : L2.St} {α : Type} {r : R α} {P P' : α → Prop} (h : PostX W cls Hf H σ r P) (k : ∀ a, P a → P' a) : PostX W cls Hf H σ r P' := by
  cases r with
  | ok a => exact k a h
  | xc c => exact h
  | bad => exact h
theorem PostX.grow {Hf H Hf1 H1 : Hp} {σ : L2.St} {α : Type} {r : R α} {P : α → Prop} (h : PostX W cls Hf H σ r P) (g : Grow Hf H Hf1 H1) : PostX W cls Hf1 H1 σ r P := by
  cases r with
  | ok a => exact h
  | xc c => exact fun Hf' H' g' => h Hf' H' (g.trans g')
  | bad => exact h
theorem PostX.bind {Hf H : Hp} {σ : L2.St} {α β : Type} {r : R α} {f : α → R β} {P : β → Prop} (h : PostX W cls Hf H σ (r.bind f) P) : PostX W cls Hf H σ r (fun a => PostX W cls Hf H σ (f a) P) := by
  cases r with
  | ok a => exact h
  | xc c => exact h
  | bad => exact h
theorem PostE.x {Hf H : Hp} {σ : L2.St} {r : R Sl} {Q : VK} (h : PostE K W cls Hf H σ r Q) : PostX W cls Hf H σ r (fun s => ∀ v Hf' H', Grow Hf H Hf' H' → SlV K H Hf' H' s v → Q v H') := by
  cases r with
  | ok a => exact h
  | xc c => exact h
  | bad => exact h
theorem PostX.e {Hf H : Hp} {σ : L2.St} {r : R Sl} {Q : VK} (h : PostX W cls Hf H σ r (fun s => ∀ v Hf' H', Grow Hf H Hf' H' → SlV K H Hf' H' s v → Q v H')) : PostE K W cls Hf H σ r Q := by
  cases r with
  | ok a => exact h
  | xc c => exact h
  | bad => exact h
theorem SlV.back {Hf H Hf1 H1 Hf2 H2 : Hp} {s : Sl} {v : V} (sub : Ex Hf H) (g : Grow Hf H Hf1 H1) (h : SlV K H1 Hf2 H2 s v) : SlV K H Hf2 H2 s v := by
  cases s with
  | no => exact h
  | va d => exact h
  | ow d => obtain ⟨p, e, hp, r⟩ := h; exact ⟨p, e, g.fresh sub hp, r⟩
theorem PostE.grow {Hf H Hf1 H1 : Hp} {σ : L2.St} {r : R Sl} {Q : VK} (sub : Ex Hf H) (h : PostE K W cls Hf H σ r Q) (g : Grow Hf H Hf1 H1) : PostE K W cls Hf1 H1 σ r Q := by
  cases r with
  | ok a => exact fun v Hf' H' g' q => h v Hf' H' (g.trans g') (q.back sub g)
  | xc c => exact fun Hf' H' g' => h Hf' H' (g.trans g')
  | bad => exact h
/-- one expression, then the rest, by its value -/
theorem DE.then {t : TE} {f : FE} (d : DE K W cls t f) {H0 Hf H : Hp} {env : Env} {σ : L2.St} {Q : VK} {β : Type} {k : Sl → R β} {P : β → Prop} (sub : Ex Hf H) (x : EnvR K H0 Hf H env σ)
    (h : PostX W cls Hf H σ ((f env).bind k) P)
    (go : ∀ s v Hf' H', Grow Hf H Hf' H' → Rep K Hf' s.d v → PostX W cls Hf' H' σ (k s) P → Q v H') : t σ H Q := by
  refine d.run H0 Hf H env σ Q sub x ?_
  cases e : f env with
  | ok s =>
    intro v Hf' H' g q
    obtain ⟨Hf2, g2, r⟩ := q.rep sub g
    rw [e] at h
    exact go s v Hf2 H' g2 r (h.grow g2)
  | xc c => rw [e] at h; exact h
  | bad => rw [e] at h; exact h

/-! ### names, constants -/
theorem de_var {i : Nat} : DE K W cls (L2.tVar i) (eVar i) := by
  refine ⟨fun H0 Hf H env σ Q sub x h => ?_⟩
  unfold eVar at h
  cases e : env[i]? with
  | none => rw [e] at h; exact h.elim
  | some s =>
    rw [e] at h
    cases s with
    | va d =>
      obtain ⟨o, eo, v, ev, r⟩ := x.any e
      subst ev
      exact ⟨v, eo, h v Hf H (.refl sub) r⟩
    | no => exact h.elim
    | ow d => exact h.elim
theorem de_c {d : D} {v : V} (r : ∀ H : Hp, Rep K H d v) : DE K W cls (tC v) (eC d) :=
  ⟨fun H0 Hf H env σ Q sub x h => h v Hf H (.refl sub) (r Hf)⟩
theorem de_int {i : Int} : DE K W cls (tC (.int i)) (eC (.int i)) := de_c fun _ => .int i
theorem de_bl {b : Bool} : DE K W cls (tC (.bl b)) (eC (.bl b)) := de_c fun _ => .bl b
theorem de_non : DE K W cls (tC .non) (eC .non) := de_c fun _ => .non
theorem de_str {x : Str} : DE K W cls (tC (.str x)) (eC (.str x)) := de_c fun _ => .str x

/-! ### operations on values -/
/-- what an operation of two values comes to -/
def RR (K : PySem.W.Frag) (r : R2) (g : D → D → R Sl) : Prop := ∀ (Hf H : Hp) (a b : D) (x y : V) (Q : VK), Ex Hf H → Rep K Hf a x → Rep K Hf b y →
  PostE K (fun _ _ _ _ => False) (fun _ => 0) Hf H [] (g a b) Q → r x y H Q
def RU1 (K : PySem.W.Frag) (r : V → Hp → VK → Prop) (g : D → R Sl) : Prop := ∀ (Hf H : Hp) (a : D) (x : V) (Q : VK), Ex Hf H → Rep K Hf a x →
  PostE K (fun _ _ _ _ => False) (fun _ => 0) Hf H [] (g a) Q → r x H Q
def RCB (K : PySem.W.Frag) (r : List V → Hp → VK → Prop) (g : List D → R Sl) : Prop := ∀ (Hf H : Hp) (as : List D) (xs : List V) (Q : VK), Ex Hf H → RepL K Hf as xs →
  PostE K (fun _ _ _ _ => False) (fun _ => 0) Hf H [] (g as) Q → r xs H Q
def NoXc {α β : Type} (g : α → R β) : Prop := ∀ a c, g a ≠ .xc c
/-- an operation lets no error out: what it is asked is what was asked -/
theorem PostX.noxc {Hf H : Hp} {σ : L2.St} {r : R Sl} {Q : VK} (hn : ∀ c, r ≠ .xc c) (h : PostX W cls Hf H σ r (fun s => ∀ v Hf' H', Grow Hf H Hf' H' → SlV K H Hf' H' s v → Q v H')) :
    PostE K (fun _ _ _ _ => False) (fun _ => 0) Hf H [] r Q := by
  cases r with
  | ok a => exact h
  | xc c => exact absurd rfl (hn c)
  | bad => exact h
theorem postE_ok_grow {Hf H Hf1 H1 : Hp} {s : Sl} {Q : VK} {v : V} (sub : Ex Hf H) (g : Grow Hf H Hf1 H1) (h : PostX W cls Hf1 H1 [] (R.ok s) (fun s => ∀ v Hf' H', Grow Hf H Hf' H' → SlV K H Hf' H' s v → Q v H')) : True := trivial
/-- widen what follows an operation behind some growth -/
theorem PostX.behind {Hf H Hf1 H1 : Hp} {σ : L2.St} {r : R Sl} {Q : VK} (sub : Ex Hf H) (g : Grow Hf H Hf1 H1) (h : PostX W cls Hf1 H1 σ r (fun s => ∀ v Hf' H', Grow Hf H Hf' H' → SlV K H Hf' H' s v → Q v H')) :
    PostX W cls Hf1 H1 σ r (fun s => ∀ v Hf' H', Grow Hf1 H1 Hf' H' → SlV K H1 Hf' H' s v → Q v H') :=
  h.mono fun s k v Hf' H' g' q => k v Hf' H' (g.trans g') (q.back sub g)
theorem de_op1 {r : V → Hp → VK → Prop} {g : D → R Sl} {ta : TE} {fa : FE} (hr : RU1 K r g) (hn : NoXc g) (ha : DE K W cls ta fa) : DE K W cls (tUn r ta) (eOp1 g fa) := by
  refine ⟨fun H0 Hf H env σ Q sub x h => ?_⟩
  refine ha.then sub x h.x fun s v Hf1 H1 g1 r1 q => ?_
  exact hr Hf1 H1 s.d v Q g1.sub r1 ((q.behind sub g1).noxc (hn _))
theorem de_op2 {r : R2} {g : D → D → R Sl} {ta tb : TE} {fa fb : FE} (hr : RR K r g) (hn : ∀ a, NoXc (g a)) (ha : DE K W cls ta fa) (hb : DE K W cls tb fb) : DE K W cls (tOp r ta tb) (eOp2 g fa fb) := by
  refine ⟨fun H0 Hf H env σ Q sub x h => ?_⟩
  refine ha.then sub x h.x fun s v Hf1 H1 g1 r1 q => ?_
  refine hb.then g1.sub (x.grow g1) q fun s2 v2 Hf2 H2 g2 r2 q2 => ?_
  exact hr Hf2 H2 s.d s2.d v v2 Q g2.sub (r1.mono g2.lo) r2 ((q2.behind sub (g1.trans g2)).noxc (hn _ _))
theorem da_nil : DA K W cls tNil aNil := ⟨fun H0 Hf H env σ Q sub x h => h [] Hf H (.refl sub) .nil⟩
theorem da_cons {ta : TE} {fa : FE} {tr : TA} {fr : FA} (ha : DE K W cls ta fa) (hr : DA K W cls tr fr) : DA K W cls (tCons ta tr) (aCons fa fr) := by
  refine ⟨fun H0 Hf H env σ Q sub x h => ?_⟩
  refine ha.then sub x h fun s v Hf1 H1 g1 r1 q => ?_
  refine hr.run H0 Hf1 H1 env σ _ g1.sub (x.grow g1) (q.bind.mono fun ds k vs Hf2 H2 g2 r2 => ?_)
  exact k (v :: vs) Hf2 H2 (g1.trans g2) (.cons (r1.mono g2.lo) r2)
/-- arguments, then the rest -/
theorem DA.then {t : TA} {f : FA} (d : DA K W cls t f) {H0 Hf H : Hp} {env : Env} {σ : L2.St} {Q : List V → Hp → Prop} {β : Type} {k : List D → R β} {P : β → Prop} (sub : Ex Hf H) (x : EnvR K H0 Hf H env σ)
    (h : PostX W cls Hf H σ ((f env).bind k) P)
    (go : ∀ ds vs Hf' H', Grow Hf H Hf' H' → RepL K Hf' ds vs → PostX W cls Hf' H' σ (k ds) P → Q vs H') : t σ H Q := by
  refine d.run H0 Hf H env σ Q sub x (h.bind.mono fun ds q vs Hf' H' g r => go ds vs Hf' H' g r (q.grow g))
theorem lim_le {n : Nat} (h : n ≤ LIM) : n ≤ sizeLine := by
  rw [sizeLine_eq]
  unfold LIM at h
  omega
theorem lim_lt {n : Nat} (h : n < LIM) : n < sizeLine := by
  rw [sizeLine_eq]
  unfold LIM at h
  omega
theorem de_tup {ta : TA} {fa : FA} (ha : DA K W cls ta fa) : DE K W cls (tTup ta) (eTup fa) := by
  refine ⟨fun H0 Hf H env σ Q sub x h => ?_⟩
  refine ha.then sub x h.x fun ds vs Hf1 H1 g1 r1 q => ?_
  by_cases hl : ds.length ≤ LIM
  · rw [if_pos hl] at q
    refine ⟨by rw [← r1.length]; exact lim_le hl, fun p hp => ?_⟩
    have hn : Hf1 p = none := g1.sub.none_of hp
    exact q _ _ _ (g1.trans (Grow.new g1.sub hp)) (.tup upd_same (r1.mono (Ex.new hn).lo))
  · rw [if_neg hl] at q
    exact q.elim
theorem de_lst {ta : TA} {fa : FA} (ha : DA K W cls ta fa) : DE K W cls (tLst ta) (eLst fa) := by
  refine ⟨fun H0 Hf H env σ Q sub x h => ?_⟩
  refine ha.then sub x h.x fun ds vs Hf1 H1 g1 r1 q => ?_
  by_cases hl : ds.length ≤ LIM
  · rw [if_pos hl] at q
    refine ⟨by rw [← r1.length]; exact lim_le hl, fun p hp => ?_⟩
    have hn : Hf1 p = none := g1.sub.none_of hp
    exact q (.ref p) Hf1 _ (g1.trans (Grow.newO g1.sub hp)) ⟨p, rfl, g1.fresh sub hp, hn, vs, upd_same, r1⟩
  · rw [if_neg hl] at q
    exact q.elim
theorem de_cb {r : List V → Hp → VK → Prop} {g : List D → R Sl} {ta : TA} {fa : FA} (hr : RCB K r g) (hn : NoXc g) (ha : DA K W cls ta fa) : DE K W cls (tCB r ta) (eCB g fa) := by
  refine ⟨fun H0 Hf H env σ Q sub x h => ?_⟩
  refine ha.then sub x h.x fun ds vs Hf1 H1 g1 r1 q => ?_
  exact hr Hf1 H1 ds vs Q g1.sub r1 ((q.behind sub g1).noxc (hn _))
/-- one test, then the rest -/
theorem DT.then {t : TT} {f : FT} (d : DT K W cls t f) {H0 Hf H : Hp} {env : Env} {σ : L2.St} {Q : Bool → Hp → Prop} {β : Type} {k : Bool → R β} {P : β → Prop} (sub : Ex Hf H) (x : EnvR K H0 Hf H env σ)
    (h : PostX W cls Hf H σ ((f env).bind k) P)
    (go : ∀ b Hf' H', Grow Hf H Hf' H' → PostX W cls Hf' H' σ (k b) P → Q b H') : t σ H Q :=
  d.run H0 Hf H env σ Q sub x (h.bind.mono fun b q Hf' H' g => go b Hf' H' g (q.grow g))
theorem de_if {tc : TT} {fc : FT} {ta tb : TE} {fa fb : FE} (hc : DT K W cls tc fc) (ha : DE K W cls ta fa) (hb : DE K W cls tb fb) : DE K W cls (tIf tc ta tb) (eIf fc fa fb) := by
  refine ⟨fun H0 Hf H env σ Q sub x h => ?_⟩
  refine hc.then sub x h.x fun b Hf1 H1 g1 q => ?_
  cases b with
  | true => exact ha.run H0 Hf1 H1 env σ Q g1.sub (x.grow g1) (PostX.e (q.behind sub g1))
  | false => exact hb.run H0 Hf1 H1 env σ Q g1.sub (x.grow g1) (PostX.e (q.behind sub g1))
theorem Rep.bl_inv {Hf : Hp} {b : Bool} {v : V} (r : Rep K Hf (.bl b) v) : v = .bl b := by cases r; rfl
theorem Rep.int_inv {Hf : Hp} {i : Int} {v : V} (r : Rep K Hf (.int i) v) : v = .int i := by cases r; rfl
theorem Rep.str_inv {Hf : Hp} {i : Str} {v : V} (r : Rep K Hf (.str i) v) : v = .str i := by cases r; rfl
theorem Rep.non_inv {Hf : Hp} {v : V} (r : Rep K Hf .non v) : v = .non := by cases r; rfl
theorem de_andV {ta tb : TE} {fa fb : FE} (ha : DE K W cls ta fa) (hb : DE K W cls tb fb) : DE K W cls (tAndV ta tb) (eAnd fa fb) := by
  refine ⟨fun H0 Hf H env σ Q sub x h => ?_⟩
  refine ha.then sub x h.x fun s v Hf1 H1 g1 r1 q => ?_
  cases e : s.d with
  | bl k =>
    rw [e] at q r1
    refine ⟨k, r1.bl_inv, ?_⟩
    cases k with
    | true =>
      show tb σ H1 Q
      exact hb.run H0 Hf1 H1 env σ Q g1.sub (x.grow g1) (PostX.e (q.behind sub g1))
    | false =>
      show Q (.bl false) H1
      exact q _ _ _ g1 (.bl false)
  | _ => rw [e] at q; exact q.elim
theorem de_orV {ta tb : TE} {fa fb : FE} (ha : DE K W cls ta fa) (hb : DE K W cls tb fb) : DE K W cls (tOrV ta tb) (eOr fa fb) := by
  refine ⟨fun H0 Hf H env σ Q sub x h => ?_⟩
  refine ha.then sub x h.x fun s v Hf1 H1 g1 r1 q => ?_
  cases e : s.d with
  | bl k =>
    rw [e] at q r1
    refine ⟨k, r1.bl_inv, ?_⟩
    cases k with
    | false =>
      show tb σ H1 Q
      exact hb.run H0 Hf1 H1 env σ Q g1.sub (x.grow g1) (PostX.e (q.behind sub g1))
    | true =>
      show Q (.bl true) H1
      exact q _ _ _ g1 (.bl true)
  | _ => rw [e] at q; exact q.elim
theorem de_notV {ta : TE} {fa : FE} (ha : DE K W cls ta fa) : DE K W cls (tNotV ta) (eNot fa) := by
  refine ⟨fun H0 Hf H env σ Q sub x h => ?_⟩
  refine ha.then sub x h.x fun s v Hf1 H1 g1 r1 q => ?_
  cases e : s.d with
  | bl k =>
    rw [e] at q r1
    exact ⟨k, r1.bl_inv, q _ _ _ g1 (.bl (!k))⟩
  | _ => rw [e] at q; exact q.elim
/-- an operation gives a value that is told -/
theorem RR.give {r : R2} {g : D → D → R Sl} (hr : RR K r g) (hn : ∀ a, NoXc (g a)) {Hf H : Hp} {σ : L2.St} {a b : D} {x y : V} {Q : VK} {β : Type} {k : Sl → R β} {P : β → Prop} (sub : Ex Hf H) (r1 : Rep K Hf a x) (r2 : Rep K Hf b y)
    (h : PostX W cls Hf H σ ((g a b).bind k) P) (go : ∀ s v Hf' H', Grow Hf H Hf' H' → Rep K Hf' s.d v → PostX W cls Hf' H' σ (k s) P → Q v H') : r x y H Q := by
  refine hr Hf H a b x y Q sub r1 r2 ?_
  cases e : g a b with
  | ok s =>
    intro v Hf' H' g' q
    obtain ⟨Hf2, g2, rr⟩ := q.rep sub g'
    rw [e] at h
    exact go s v Hf2 H' g2 rr (h.grow g2)
  | xc c => exact absurd e (hn a b c)
  | bad => rw [e] at h; exact h
theorem de_chain {r r' : R2} {g g' : D → D → R Sl} {ta tb tc : TE} {fa fb fc : FE} (hr : RR K r g) (hn : ∀ a, NoXc (g a)) (hr' : RR K r' g') (hn' : ∀ a, NoXc (g' a)) (ha : DE K W cls ta fa) (hb : DE K W cls tb fb) (hc : DE K W cls tc fc) :
    DE K W cls (tChain r r' ta tb tc) (eChain g g' fa fb fc) := by
  refine ⟨fun H0 Hf H env σ Q sub x h => ?_⟩
  refine ha.then sub x h.x fun s v Hf1 H1 g1 r1 q => ?_
  refine hb.then g1.sub (x.grow g1) q fun s2 v2 Hf2 H2 g2 r2 q2 => ?_
  have g12 := g1.trans g2
  refine hr.give hn g2.sub (r1.mono g2.lo) r2 q2 fun s3 v3 Hf3 H3 g3 r3 q3 => ?_
  have g13 := g12.trans g3
  cases e : s3.d with
  | bl k =>
    rw [e] at q3 r3
    refine ⟨k, r3.bl_inv, ?_⟩
    cases k with
    | false =>
      show Q (.bl false) H3
      exact q3 _ _ _ g13 (.bl false)
    | true =>
      show tc σ H3 fun w' H4 => r' v2 w' H4 Q
      refine hc.then g3.sub (x.grow g13) q3 fun s4 v4 Hf4 H4 g4 r4 q4 => ?_
      exact hr' Hf4 H4 s2.d s4.d v2 v4 Q g4.sub (r2.mono (g3.trans g4).lo) r4 ((q4.behind sub (g13.trans g4)).noxc (hn' _ _))
  | _ => rw [e] at q3; exact q3.elim
theorem do_none : DO K W cls tNoPart oNone := ⟨fun H0 Hf H env σ Q sub x h => h Hf H (.refl sub)⟩
theorem do_some {ta : TE} {fa : FE} (ha : DE K W cls ta fa) : DO K W cls (tPart ta) (oSome fa) := by
  refine ⟨fun H0 Hf H env σ Q sub x h => ?_⟩
  refine ha.then sub x h fun s v Hf1 H1 g1 r1 q => ?_
  cases e : s.d with
  | int i =>
    rw [e] at q r1
    exact ⟨i, r1.int_inv, q Hf1 H1 g1⟩
  | _ => rw [e] at q; exact q.elim
def RSl (K : PySem.W.Frag) (r : V → Option Int → Option Int → Hp → VK → Prop) (g : D → Option Int → Option Int → R Sl) : Prop := ∀ (Hf H : Hp) (a : D) (x : V) (lo hi : Option Int) (Q : VK), Ex Hf H → Rep K Hf a x →
  PostE K (fun _ _ _ _ => False) (fun _ => 0) Hf H [] (g a lo hi) Q → r x lo hi H Q
theorem DO.then {t : TO} {f : Env → R (Option Int)} (d : DO K W cls t f) {H0 Hf H : Hp} {env : Env} {σ : L2.St} {Q : Option Int → Hp → Prop} {β : Type} {k : Option Int → R β} {P : β → Prop} (sub : Ex Hf H) (x : EnvR K H0 Hf H env σ)
    (h : PostX W cls Hf H σ ((f env).bind k) P)
    (go : ∀ b Hf' H', Grow Hf H Hf' H' → PostX W cls Hf' H' σ (k b) P → Q b H') : t σ H Q :=
  d.run H0 Hf H env σ Q sub x (h.bind.mono fun b q Hf' H' g => go b Hf' H' g (q.grow g))
theorem de_sl {r : V → Option Int → Option Int → Hp → VK → Prop} {g : D → Option Int → Option Int → R Sl} {ta : TE} {fa : FE} {tl th : TO} {fl fh : Env → R (Option Int)} (hr : RSl K r g) (hn : ∀ a l h c, g a l h ≠ .xc c)
    (ha : DE K W cls ta fa) (hl : DO K W cls tl fl) (hh : DO K W cls th fh) : DE K W cls (tSl r ta tl th) (eSl g fa fl fh) := by
  refine ⟨fun H0 Hf H env σ Q sub x h => ?_⟩
  refine ha.then sub x h.x fun s v Hf1 H1 g1 r1 q => ?_
  refine hl.then g1.sub (x.grow g1) q fun o1 Hf2 H2 g2 q2 => ?_
  refine hh.then g2.sub (x.grow (g1.trans g2)) q2 fun o2 Hf3 H3 g3 q3 => ?_
  exact hr Hf3 H3 s.d v o1 o2 Q g3.sub (r1.mono (g2.trans g3).lo) ((q3.behind sub ((g1.trans g2).trans g3)).noxc (hn _ _ _))

/-! ### tests -/
theorem dt_val {ta : TE} {fa : FE} (ha : DE K W cls ta fa) : DT K W cls (tTest ta) (tVal fa) := by
  refine ⟨fun H0 Hf H env σ Q sub x h => ?_⟩
  refine ha.then sub x h fun s v Hf1 H1 g1 r1 q => ?_
  cases e : s.d with
  | bl k =>
    rw [e] at q r1
    exact ⟨k, r1.bl_inv, q Hf1 H1 g1⟩
  | _ => rw [e] at q; exact q.elim
theorem dt_valB {ta : TE} {fa : FE} (ha : DE K W cls ta fa) : DT K W cls (tB ta) (tVal fa) := ⟨(dt_val ha).run⟩
theorem dt_and {tc td : TT} {fc fd : FT} (hc : DT K W cls tc fc) (hd : DT K W cls td fd) : DT K W cls (L2.tAnd tc td) (tAnd fc fd) := by
  refine ⟨fun H0 Hf H env σ Q sub x h => ?_⟩
  refine hc.then sub x h fun b Hf1 H1 g1 q => ?_
  cases b with
  | true =>
    show td σ H1 Q
    exact hd.run H0 Hf1 H1 env σ Q g1.sub (x.grow g1) (q.mono fun b k Hf2 H2 g2 => k Hf2 H2 (g1.trans g2))
  | false =>
    show Q false H1
    exact q Hf1 H1 g1
theorem dt_or {tc td : TT} {fc fd : FT} (hc : DT K W cls tc fc) (hd : DT K W cls td fd) : DT K W cls (L2.tOr tc td) (tOr fc fd) := by
  refine ⟨fun H0 Hf H env σ Q sub x h => ?_⟩
  refine hc.then sub x h fun b Hf1 H1 g1 q => ?_
  cases b with
  | false =>
    show td σ H1 Q
    exact hd.run H0 Hf1 H1 env σ Q g1.sub (x.grow g1) (q.mono fun b k Hf2 H2 g2 => k Hf2 H2 (g1.trans g2))
  | true =>
    show Q true H1
    exact q Hf1 H1 g1
theorem dt_not {tc : TT} {fc : FT} (hc : DT K W cls tc fc) : DT K W cls (L2.tNot tc) (tNot fc) := by
  refine ⟨fun H0 Hf H env σ Q sub x h => ?_⟩
  refine hc.then sub x h fun b Hf1 H1 g1 q => ?_
  exact q Hf1 H1 g1
theorem dt_yes : DT K W cls L2.tYes tYes := ⟨fun H0 Hf H env σ Q sub x h => h Hf H (.refl sub)⟩

/-! ### an item of a list that a slot holds -/
theorem nx_idx : ∀ a, NoXc (dIdx a) := by
  intro a b c
  unfold dIdx
  split <;> (try split) <;> (try split) <;> (intro h; cases h)
theorem rr_ix : RR K (rIx K) dIdx := by
  intro Hf H a b x y Q sub r1 r2 h
  unfold dIdx at h
  split at h
  · rename_i ds i
    split at h
    · rename_i d e
      cases r1 with
      | lst ha rl =>
        rename_i p vs
        cases r2
        obtain ⟨j, ej, hj⟩ : ∃ j, ixOf ds.length i = some j ∧ ds[j]? = some d := by
          unfold atD at e
          cases q : ixOf ds.length i with
          | none => rw [q] at e; cases e
          | some j => rw [q] at e; exact ⟨j, rfl, e⟩
        obtain ⟨v, hv, rv⟩ := rl.get hj
        refine .inl ⟨p, vs, i, v, rfl, rfl, SqL.of (sub _ _ ha), ?_, h v Hf H (.refl sub) rv⟩
        show (ixOf vs.length i).bind _ = _
        rw [← rl.length, ej]
        exact hv
    · exact h.elim
  · rename_i ds i
    split at h
    · rename_i d e
      cases r1 with
      | tup ha rl =>
        rename_i p vs
        cases r2
        obtain ⟨j, ej, hj⟩ : ∃ j, ixOf ds.length i = some j ∧ ds[j]? = some d := by
          unfold atD at e
          cases q : ixOf ds.length i with
          | none => rw [q] at e; cases e
          | some j => rw [q] at e; exact ⟨j, rfl, e⟩
        obtain ⟨v, hv, rv⟩ := rl.get hj
        refine .inr (.inl ⟨p, vs, i, v, rfl, rfl, SqT.of (sub _ _ ha), ?_, h v Hf H (.refl sub) rv⟩)
        show (ixOf vs.length i).bind _ = _
        rw [← rl.length, ej]
        exact hv
    · exact h.elim
  · rename_i ns i
    split at h
    · rename_i d e
      cases r1 with
      | scr ha =>
        rename_i p
        cases r2
        refine .inl ⟨p, ns.map V.int, i, .int d, rfl, rfl, (Ex.lo sub).sql ha, ?_, h (.int d) Hf H (.refl sub) (.int d)⟩
        unfold atD at e
        show (ixOf (ns.map V.int).length i).bind _ = _
        rw [List.length_map]
        cases q : ixOf ns.length i with
        | none => rw [q] at e; cases e
        | some j =>
          rw [q] at e
          show (ns.map V.int)[j]? = _
          have e' : ns[j]? = some d := e
          rw [List.getElem?_map, e']
          rfl
    · exact h.elim
  · rename_i z i
    by_cases hl : z.length ≤ LIM
    · rw [if_pos hl] at h
      split at h
      · rename_i c e
        cases r1
        cases r2
        exact .inr (.inr ⟨z, i, c, rfl, rfl, lim_le hl, e, h _ Hf H (.refl sub) (.str _)⟩)
      · exact h.elim
    · rw [if_neg hl] at h
      exact h.elim
  · exact h.elim
theorem de_ix {ta tb : TE} {fa fb : FE} (ha : DE K W cls ta fa) (hb : DE K W cls tb fb) : DE K W cls (tOp (rIx K) ta tb) (eOp2 dIdx fa fb) := de_op2 rr_ix nx_idx ha hb
theorem de_ixO {i : Nat} {ta : TE} {fa : FE} (ha : DE K W cls ta fa) : DE K W cls (tOp (rIx K) (L2.tVar i) ta) (eIxO i fa) := by
  refine ⟨fun H0 Hf H env σ Q sub x h => ?_⟩
  unfold eIxO at h
  split at h
  · rename_i ds e
    obtain ⟨o, eo, p, ev, h0, n, w⟩ := x.any e
    subst ev
    refine ⟨.ref p, eo, ?_⟩
    refine ha.then sub x h.x fun s v Hf1 H1 g1 r1 q => ?_
    cases es : s.d with
    | int k =>
      rw [es] at q r1
      dsimp only at q
      split at q
      · rename_i d ed
        obtain ⟨⟨vs, hp, rl⟩, n1⟩ := w.grow g1 n
        obtain ⟨j, ej, hj⟩ : ∃ j, ixOf ds.length k = some j ∧ ds[j]? = some d := by
          unfold atD at ed
          cases q : ixOf ds.length k with
          | none => rw [q] at ed; cases ed
          | some j => rw [q] at ed; exact ⟨j, rfl, ed⟩
        obtain ⟨v', hv, rv⟩ := rl.get hj
        refine .inl ⟨p, vs, k, v', rfl, r1.int_inv, SqL.of hp, ?_, q v' Hf1 H1 g1 rv⟩
        show (ixOf vs.length k).bind _ = _
        rw [← rl.length, ej]
        exact hv
      · exact q.elim
    | _ => rw [es] at q; exact q.elim
  · rename_i d e
    obtain ⟨o, eo, v0, ev, r0⟩ := x.any e
    subst ev
    refine ⟨v0, eo, ?_⟩
    refine ha.then sub x h.x fun s v Hf1 H1 g1 r1 q => ?_
    exact rr_ix Hf1 H1 d s.d v0 v Q g1.sub (r0.mono g1.lo) r1 ((q.behind sub g1).noxc (nx_idx _ _))
  · exact h.elim
end
end DL
set_option maxRecDepth 100000
namespace DL
open PySem PySem.Spec PyProof.Rows L2
section
variable {K : PySem.W.Frag} {W : WX} {cls : Nat → Addr}

/-! ### a look through what is held alone -/
open Classical in
/-- the read part with all that the slots hold -/
noncomputable def openH (env : Env) (σ : L2.St) (Hf H : Hp) : Hp := fun a => if ∃ i, OwnsAt env σ i a then H a else Hf a
section
variable {H0 Hf H : Hp} {env : Env} {σ : L2.St}
theorem openH_own {i : Nat} {p : Addr} (o : OwnsAt env σ i p) : openH env σ Hf H p = H p := by
  unfold openH
  rw [if_pos ⟨i, o⟩]
theorem openH_not {p : Addr} (o : ¬ ∃ i, OwnsAt env σ i p) : openH env σ Hf H p = Hf p := by
  unfold openH
  rw [if_neg o]
theorem EnvR.own (x : EnvR K H0 Hf H env σ) {i : Nat} {p : Addr} (o : OwnsAt env σ i p) : ∃ d, env[i]? = some (.ow d) ∧ H0 p = none ∧ Hf p = none ∧ OwnAt K Hf H d p := by
  obtain ⟨⟨d, e⟩, e2⟩ := o
  obtain ⟨p', ep, h0, n, w⟩ := x.slot i _ _ e e2
  cases ep
  exact ⟨d, e, h0, n, w⟩
theorem openH_sub (x : EnvR K H0 Hf H env σ) (sub : Ex Hf H) : Ex (openH env σ Hf H) H := fun a o e => by
  by_cases h : ∃ i, OwnsAt env σ i a
  · obtain ⟨i, hi⟩ := h
    rw [openH_own hi] at e
    exact e
  · rw [openH_not h] at e
    exact sub a o e
theorem openH_ex (x : EnvR K H0 Hf H env σ) : Ex Hf (openH env σ Hf H) := fun a o e => by
  by_cases h : ∃ i, OwnsAt env σ i a
  · obtain ⟨i, hi⟩ := h
    obtain ⟨_, _, _, n, _⟩ := x.own hi
    rw [n] at e; cases e
  · rw [openH_not h]
    exact e
theorem EnvR.openAll (x : EnvR K H0 Hf H env σ) (sub : Ex Hf H) : EnvR K H0 (openH env σ Hf H) H (env.map Sl.frz) σ := by
  refine ⟨by rw [List.length_map]; exact x.len, fun i s o e1 e2 => ?_, fun i j p h1 h2 => ?_⟩
  · rw [List.getElem?_map] at e1
    cases q : env[i]? with
    | none => rw [q] at e1; cases e1
    | some s0 =>
      rw [q] at e1
      have es : s0.frz = s := Option.some.inj e1
      have z := x.slot i s0 o q e2
      cases s0 with
      | no => subst es; trivial
      | va d =>
        subst es
        obtain ⟨v, ev, r⟩ := z
        exact ⟨v, ev, r.mono (openH_ex x).lo⟩
      | ow d =>
        subst es
        obtain ⟨p, ev, h0, n, w⟩ := z
        have ow : OwnsAt env σ i p := ⟨⟨d, q⟩, by rw [e2, ev]⟩
        refine ⟨.ref p, ev, ?_⟩
        cases d with
        | lst ds =>
          obtain ⟨vs, hp, r⟩ := w
          exact .lst (by rw [openH_own ow]; exact hp) (r.mono (openH_ex x).lo)
        | dic kvs => exact .dic (.inl (by rw [openH_own ow]; exact w))
        | _ => exact False.elim w
  · obtain ⟨⟨d, e⟩, _⟩ := h1
    rw [List.getElem?_map] at e
    cases q : env[i]? with
    | none => rw [q] at e; cases e
    | some s0 =>
      rw [q] at e
      cases s0 <;> cases e
end
open Classical in
/-- what is read behind a look: what was read before, and what is new -/
noncomputable def backH (Hf H Hf2 : Hp) : Hp := fun a => if H a = none then Hf2 a else (match Hf a with
  | none => none
  | some _ => Hf2 a)
theorem backH_grow {Hf Hq H Hf2 H' : Hp} (sub : Ex Hf H) (ex : Ex Hf Hq) (subq : Ex Hq H) (g : Grow Hq H Hf2 H') : Grow Hf H (backH Hf H Hf2) H' := by
  refine ⟨fun a o e => ?_, fun a o e => ?_, fun a o e n => ?_⟩
  · unfold backH at e
    by_cases h : H a = none
    · rw [if_pos h] at e
      exact g.sub a o e
    · rw [if_neg h] at e
      cases q : Hf a with
      | none => rw [q] at e; cases e
      | some u => rw [q] at e; exact g.sub a o e
  · have e' := g.old a o (ex a o e)
    unfold backH
    rw [if_neg (by rw [sub a o e]; intro z; cases z), e]
    exact e'
  · have hb : backH Hf H Hf2 a = none := by
      unfold backH
      rw [if_neg (by rw [e]; intro z; cases z), n]
    refine ⟨?_, hb⟩
    cases q : Hq a with
    | none => exact (g.kept a o e q).1
    | some u =>
      have e2 := subq a u q
      rw [e] at e2
      cases e2
      exact g.sub a _ (g.old a _ q)
theorem backH_tup {Hf Hq H Hf2 H' : Hp} (sub : Ex Hf H) (subq : Ex Hq H) (g : Grow Hq H Hf2 H') (ho : ∀ a o, Hq a = some o → Hf a = none → (∃ vs, o = .lst vs) ∨ ∃ kvs, o = .dK kvs) {a : Addr} {vs : List V} (e : Hf2 a = some (.tup vs)) :
    backH Hf H Hf2 a = some (.tup vs) := by
  unfold backH
  by_cases h : H a = none
  · rw [if_pos h]
    exact e
  · rw [if_neg h]
    cases q : Hf a with
    | some u => exact e
    | none =>
      exfalso
      cases q2 : Hq a with
      | some u =>
        have e2 := g.old a u q2
        rw [e] at e2
        cases e2
        rcases ho a _ q2 q with ⟨_, z⟩ | ⟨_, z⟩ <;> cases z
      | none =>
        cases q3 : H a with
        | none => exact h q3
        | some u =>
          have := (g.kept a u q3 q2).2
          rw [e] at this
          cases this
theorem openH_kind {H0 Hf H : Hp} {env : Env} {σ : L2.St} (x : EnvR K H0 Hf H env σ) : ∀ a o, openH env σ Hf H a = some o → Hf a = none → (∃ vs, o = .lst vs) ∨ ∃ kvs, o = .dK kvs := fun a o e n => by
  by_cases h : ∃ i, OwnsAt env σ i a
  · obtain ⟨i, hi⟩ := h
    rw [openH_own hi] at e
    obtain ⟨d, _, _, _, w⟩ := x.own hi
    cases d with
    | lst ds =>
      obtain ⟨vs, hp, _⟩ := w
      rw [e] at hp
      cases hp
      exact .inl ⟨_, rfl⟩
    | dic kvs =>
      have w' : H a = some (.dK (kvs.map kqV)) := w
      rw [e] at w'
      cases w'
      exact .inr ⟨_, rfl⟩
    | _ => exact False.elim w
  · rw [openH_not h, n] at e
    cases e
theorem de_lend {ta : TE} {fa : FE} (ha : DE K W cls ta fa) : DE K W cls ta (eLend fa) := by
  refine ⟨fun H0 Hf H env σ Q sub x h => ?_⟩
  have subq := openH_sub x sub
  have ex := openH_ex x
  have kind := openH_kind x
  have y := x.openAll sub
  generalize openH env σ Hf H = Hq at subq ex kind y
  refine ha.run H0 Hq H (env.map Sl.frz) σ Q subq y ?_
  unfold eLend at h
  cases e : fa (env.map Sl.frz) with
  | bad => rw [e] at h; exact h
  | xc c =>
    rw [e] at h
    exact fun Hf' H' g => h _ H' (backH_grow sub ex subq g)
  | ok s =>
    rw [e] at h
    change PostE K W cls Hf H σ (if s.loose = true then R.ok s else R.bad) Q at h
    by_cases hl : s.loose = true
    · rw [if_pos hl] at h
      intro v Hf2 H' g q
      refine h v (backH Hf H Hf2) H' (backH_grow sub ex subq g) ?_
      cases s with
      | no => exact q
      | va d =>
        cases d with
        | tup ds =>
          cases q with
          | tup hp rl => exact .tup (backH_tup sub subq g kind hp) (rl.flats hl _)
        | non => exact Rep.flat rfl q _
        | bl b => exact Rep.flat rfl q _
        | int i => exact Rep.flat rfl q _
        | str z => exact Rep.flat rfl q _
        | lst ds => exact absurd (show false = true from hl) Bool.false_ne_true
        | dic ds => exact absurd (show false = true from hl) Bool.false_ne_true
        | scr ds => exact absurd (show false = true from hl) Bool.false_ne_true
        | adr n => exact absurd (show false = true from hl) Bool.false_ne_true
      | ow d =>
        cases d with
        | lst ds =>
          obtain ⟨p, ev, hp, n, vs, hv, rl⟩ := q
          refine ⟨p, ev, hp, ?_, vs, hv, rl.flats hl _⟩
          unfold backH
          rw [if_pos hp]
          exact n
        | _ => exact absurd (show false = true from hl) Bool.false_ne_true
    · rw [if_neg hl] at h
      exact h.elim
end
end DL
set_option maxRecDepth 100000
namespace DL
open PySem PySem.Spec PyProof.Rows L2
section
variable {K : PySem.W.Frag} {W : WX} {cls : Nat → Addr}

/-! ### what is walked -/
theorem Rep.lst_inv {Hf : Hp} {ds : List D} {v : V} (r : Rep K Hf (.lst ds) v) : ∃ a vs, v = .ref a ∧ Hf a = some (.lst vs) ∧ RepL K Hf ds vs := by
  cases r with
  | lst h l => exact ⟨_, _, rfl, h, l⟩
theorem Rep.tup_inv {Hf : Hp} {ds : List D} {v : V} (r : Rep K Hf (.tup ds) v) : ∃ a vs, v = .ref a ∧ Hf a = some (.tup vs) ∧ RepL K Hf ds vs := by
  cases r with
  | tup h l => exact ⟨_, _, rfl, h, l⟩
theorem Rep.dic_inv {Hf : Hp} {kvs : List (Int × Fv)} {v : V} (r : Rep K Hf (.dic kvs) v) : ∃ a, v = .ref a ∧ Rd Hf a (.dK (kvs.map kqV)) := by
  cases r with
  | dic h => exact ⟨_, rfl, h⟩
/-- two readings of a list are one -/
theorem sql_lst {H : Hp} {a : Addr} {vs us : List V} (h : H a = some (.lst vs)) (q : Rd H a (.lst us)) : us = vs := by
  rcases q with q | ⟨o, q⟩
  · rw [h] at q; cases q; rfl
  · rw [h] at q; cases q
theorem jok_list {Hf : Hp} {a : Addr} {vs : List V} {ds : List D} (h : Hf a = some (.lst vs)) (r : RepL K Hf ds vs) : JOk K (Itl K a) Hf ds where
  go := fun i H l hi => by
    have hv : i < vs.length := by rw [← r.length]; exact hi
    exact ⟨vs, vs[i], SqL.of (l.lst h), List.getElem?_eq_getElem hv⟩
  yld := fun i H x H' l hv y => by
    obtain ⟨rfl, f⟩ := y
    refine ⟨rfl, ?_⟩
    have e := f vs (SqL.of (l.lst h))
    obtain ⟨v, e1, rv⟩ := r.get (List.getElem?_eq_getElem hv)
    rw [e1] at e
    cases e
    exact ⟨_, List.getElem?_eq_getElem hv, rv⟩
  stop := fun i H l hi => ⟨vs, SqL.of (l.lst h), by rw [← r.length]; exact hi⟩
theorem jok_tup {Hf : Hp} {a : Addr} {vs : List V} {ds : List D} (h : Hf a = some (.tup vs)) (r : RepL K Hf ds vs) : JOk K (Itt K a) Hf ds where
  go := fun i H l hi => by
    have hv : i < vs.length := by rw [← r.length]; exact hi
    exact ⟨vs, vs[i], SqT.of (l.tup h), List.getElem?_eq_getElem hv⟩
  yld := fun i H x H' l hv y => by
    obtain ⟨rfl, f⟩ := y
    refine ⟨rfl, ?_⟩
    have e := f vs (SqT.of (l.tup h))
    obtain ⟨v, e1, rv⟩ := r.get (List.getElem?_eq_getElem hv)
    rw [e1] at e
    cases e
    exact ⟨_, List.getElem?_eq_getElem hv, rv⟩
  stop := fun i H l hi => ⟨vs, SqT.of (l.tup h), by rw [← r.length]; exact hi⟩
theorem rng_len (lo : Int) (n : Nat) : (rng lo n).length = n := by
  unfold rng
  rw [List.length_map, List.length_range]
theorem rng_get {lo : Int} {n i : Nat} (h : i < n) : (rng lo n)[i]? = some (.int (lo + (i : Nat))) := by
  unfold rng
  rw [List.getElem?_map, List.getElem?_range h]
  rfl
theorem jok_rng {Hf : Hp} {lo : Int} {n : Nat} : JOk K (Itr lo n) Hf (rng lo n) where
  go := fun i H l hi => by
    rw [rng_len] at hi
    exact hi
  yld := fun i H x H' l hi y => by
    rw [rng_len] at hi
    obtain ⟨rfl, rfl⟩ := y
    exact ⟨rfl, _, rng_get hi, .int _⟩
  stop := fun i H l hi => by
    rw [rng_len] at hi
    exact hi
theorem jok_str {Hf : Hp} {z : Str} : JOk K (Its z) Hf (z.cps.toList.map fun c => .str ⟨#[c]⟩) where
  go := fun i H l hi => by
    rw [List.length_map, Array.length_toList] at hi
    exact hi
  yld := fun i H x H' l hi y => by
    obtain ⟨rfl, c, hc, rfl⟩ := y
    refine ⟨rfl, .str ⟨#[c]⟩, ?_, .str _⟩
    rw [List.getElem?_map, Array.getElem?_toList, hc]
    rfl
  stop := fun i H l hi => by
    rw [List.length_map, Array.length_toList] at hi
    exact hi
/-- a list or a tuple, whichever comes -/
def iBoth (K : PySem.W.Frag) (tl : TE) : TI := fun σ H R => tl σ H fun x H1 => (∃ a, x = .ref a ∧ (∃ xs, SqL K H1 a xs) ∧ R (Itl K a) H1) ∨ (∃ a, x = .ref a ∧ (∃ xs, SqT K H1 a xs) ∧ R (Itt K a) H1)
theorem pi_both {X : Cx} {tg l : Expr} {tl : TE} (hl : PE X l tl) : PI X tg l (iBoth X.K tl) := by
  refine ⟨fun pins s σ H R I h => ?_⟩
  refine thn (hl.run pins s σ H _ I h) fun v s1 ⟨x, H1, I1, r1, q1⟩ => ?_
  rcases q1 with ⟨a, e, ⟨xs, hq⟩, q⟩ | ⟨a, e, ⟨xs, hq⟩, q⟩
  · subst e
    cases r1
    obtain ⟨its, rv, p, hz⟩ := I1.list hq
    refine wpAny_pyIter_list p.isList ?_
    exact pi_one (tk := s1.toks) I1 _ (turn_list a _) ⟨_, Heap.get?_push_size _ rfl, rfl, rfl⟩ q
  · subst e
    cases r1
    obtain ⟨its, rv, p, hz⟩ := I1.tuple hq
    refine wpAny_pyIter_tuple (show s1.heap.IsTuple a its.toArray from p) ?_
    exact pi_one (tk := s1.toks) I1 _ (turn_tuple a _) ⟨_, Heap.get?_push_size _ rfl, rfl, rfl⟩ q
theorem di_seq {ta : TE} {fa : FE} (ha : DE K W cls ta fa) : DI K W cls (iBoth K ta) (iSeq fa) := by
  refine ⟨fun H0 Hf H env σ Q sub x h => ?_⟩
  refine ha.then sub x h fun s v Hf1 H1 g1 r1 q => ?_
  cases e : s.d with
  | lst ds =>
    rw [e] at q r1
    obtain ⟨a, vs, rfl, hp, rl⟩ := r1.lst_inv
    exact .inl ⟨a, rfl, ⟨vs, SqL.of (g1.sub _ _ hp)⟩, q _ Hf1 H1 g1 (jok_list hp rl)⟩
  | tup ds =>
    rw [e] at q r1
    obtain ⟨a, vs, rfl, hp, rl⟩ := r1.tup_inv
    exact .inr ⟨a, rfl, ⟨vs, SqT.of (g1.sub _ _ hp)⟩, q _ Hf1 H1 g1 (jok_tup hp rl)⟩
  | _ => rw [e] at q; exact q.elim
theorem di_range1 {ta : TE} {fa : FE} (ha : DE K W cls ta fa) : DI K W cls (iRng1 (tCons ta tNil)) (iRange1 fa) := by
  refine ⟨fun H0 Hf H env σ Q sub x h => ?_⟩
  refine ha.then sub x h fun s v Hf1 H1 g1 r1 q => ?_
  cases e : s.d with
  | int j =>
    rw [e] at q r1
    unfold rangeD at q
    dsimp only at q
    by_cases hj : -(2 ^ 62) ≤ j ∧ j < 2 ^ 62
    · rw [if_pos hj] at q
      refine ⟨j, by rw [r1.int_inv], hj.1, hj.2, q _ Hf1 H1 g1 jok_rng⟩
    · rw [if_neg hj] at q
      exact q.elim
  | _ => rw [e] at q; exact q.elim
theorem di_range2 {ta tb : TE} {fa fb : FE} (ha : DE K W cls ta fa) (hb : DE K W cls tb fb) : DI K W cls (iRng2 (tCons ta (tCons tb tNil))) (iRange2 fa fb) := by
  refine ⟨fun H0 Hf H env σ Q sub x h => ?_⟩
  refine ha.then sub x h fun s v Hf1 H1 g1 r1 q => ?_
  refine hb.then g1.sub (x.grow g1) q fun s2 v2 Hf2 H2 g2 r2 q2 => ?_
  have r1' := r1.mono g2.lo
  cases e : s.d with
  | int i =>
    cases e2 : s2.d with
    | int j =>
      rw [e] at r1'
      rw [e2] at r2
      rw [e, e2] at q2
      unfold range2D at q2
      dsimp only at q2
      by_cases hj : (-(2 ^ 62) ≤ i ∧ i < 2 ^ 62) ∧ -(2 ^ 62) ≤ j ∧ j < 2 ^ 62
      · rw [if_pos hj] at q2
        refine ⟨i, j, by rw [r1'.int_inv, r2.int_inv], ⟨hj.1.1, hj.1.2, hj.2.1, hj.2.2⟩, q2 _ Hf2 H2 (g1.trans g2) jok_rng⟩
      · rw [if_neg hj] at q2
        exact q2.elim
    | _ => rw [e, e2] at q2; exact q2.elim
  | _ => rw [e] at q2; exact q2.elim
theorem di_str {ta : TE} {fa : FE} (ha : DE K W cls ta fa) : DI K W cls (L2.iStr ta) (iStr fa) := by
  refine ⟨fun H0 Hf H env σ Q sub x h => ?_⟩
  refine ha.then sub x h fun s v Hf1 H1 g1 r1 q => ?_
  cases e : s.d with
  | str z =>
    rw [e] at q r1
    exact ⟨z, r1.str_inv, q _ _ H1 g1 jok_str⟩
  | _ => rw [e] at q; exact q.elim

/-! ### comprehensions -/
theorem wipe_get (σ : L2.St) : ∀ (vs : List Nat) (i : Nat), (wipe σ vs)[i]? = if i ∈ vs then (σ[i]?).map (fun _ => none) else σ[i]?
  | [], i => by simp [wipe]
  | v :: vs, i => by
    unfold wipe
    by_cases hi : v = i
    · subst hi
      rw [if_pos List.mem_cons_self, List.getElem?_set]
      rw [if_pos rfl]
      by_cases hl : v < (wipe σ vs).length
      · rw [if_pos hl]
        rw [wipe_length] at hl
        rw [List.getElem?_eq_getElem hl]
        rfl
      · rw [if_neg hl]
        rw [wipe_length] at hl
        rw [List.getElem?_eq_none (by omega)]
        rfl
    · rw [List.getElem?_set_ne hi, wipe_get σ vs i]
      by_cases hm : i ∈ vs
      · rw [if_pos hm, if_pos (List.mem_cons_of_mem _ hm)]
      · rw [if_neg hm, if_neg (by simp only [List.mem_cons, not_or]; exact ⟨fun e => hi e.symm, hm⟩)]
theorem wipe_set (σ : L2.St) {vs : List Nat} {j : Nat} (hj : j ∈ vs) (x : V) : wipe ((wipe σ vs).set j (some x)) vs = wipe σ vs := by
  refine List.ext_getElem? fun i => ?_
  rw [wipe_get, List.getElem?_set, wipe_get]
  by_cases hi : i ∈ vs
  · rw [if_pos hi, if_pos hi]
    by_cases e : j = i
    · subst e
      rw [if_pos rfl]
      by_cases hl : j < (wipe σ vs).length
      · rw [if_pos hl]
        rw [wipe_length] at hl
        rw [List.getElem?_eq_getElem hl]
        rfl
      · rw [if_neg hl]
        rw [wipe_length] at hl
        rw [List.getElem?_eq_none (by omega)]
    · rw [if_neg e]
      cases σ[i]? <;> rfl
  · have e : j ≠ i := fun e => hi (e ▸ hj)
    simp only [hi, e, if_false]
theorem wipeE_length (e : Env) : ∀ vs : List Nat, (wipeE e vs).length = e.length
  | [] => rfl
  | v :: vs => by unfold wipeE; rw [List.length_set, wipeE_length e vs]
theorem wipeE_get (e : Env) : ∀ (vs : List Nat) (i : Nat), (wipeE e vs)[i]? = if i ∈ vs then (e[i]?).map (fun _ => Sl.no) else e[i]?
  | [], i => by simp [wipeE]
  | v :: vs, i => by
    unfold wipeE
    by_cases hi : v = i
    · subst hi
      rw [if_pos List.mem_cons_self, List.getElem?_set]
      rw [if_pos rfl]
      by_cases hl : v < (wipeE e vs).length
      · rw [if_pos hl]
        rw [wipeE_length] at hl
        rw [List.getElem?_eq_getElem hl]
        rfl
      · rw [if_neg hl]
        rw [wipeE_length] at hl
        rw [List.getElem?_eq_none (by omega)]
        rfl
    · rw [List.getElem?_set_ne hi, wipeE_get e vs i]
      by_cases hm : i ∈ vs
      · rw [if_pos hm, if_pos (List.mem_cons_of_mem _ hm)]
      · rw [if_neg hm, if_neg (by simp only [List.mem_cons, not_or]; exact ⟨fun e => hi e.symm, hm⟩)]
/-- slots set alike -/
theorem EnvR.setVa {H0 Hf H : Hp} {env : Env} {σ : L2.St} (x : EnvR K H0 Hf H env σ) {j : Nat} {d : D} {v : V} (r : Rep K Hf d v) : EnvR K H0 Hf H (env.set j (.va d)) (σ.set j (some v)) := by
  refine ⟨by rw [List.length_set, List.length_set]; exact x.len, fun i s o e1 e2 => ?_, fun a b p h1 h2 => ?_⟩
  · rw [List.getElem?_set] at e1 e2
    by_cases hj : j = i
    · rw [if_pos hj] at e1 e2
      split at e1
      · cases e1
        split at e2
        · cases e2
          exact ⟨v, rfl, r⟩
        · cases e2
      · cases e1
    · rw [if_neg hj] at e1 e2
      exact x.slot i s o e1 e2
  · have back : ∀ a, OwnsAt (env.set j (.va d)) (σ.set j (some v)) a p → OwnsAt env σ a p := fun a ⟨⟨d', e1⟩, e2⟩ => by
      rw [List.getElem?_set] at e1 e2
      by_cases hj : j = a
      · rw [if_pos hj] at e1
        split at e1 <;> cases e1
      · rw [if_neg hj] at e1 e2
        exact ⟨⟨d', e1⟩, e2⟩
    exact x.apart a b p (back a h1) (back b h2)
theorem EnvR.wiped {H0 Hf H : Hp} {env : Env} {σ : L2.St} (x : EnvR K H0 Hf H env σ) (vs : List Nat) : EnvR K H0 Hf H (wipeE env vs) (wipe σ vs) := by
  refine ⟨by rw [wipeE_length, wipe_length]; exact x.len, fun i s o e1 e2 => ?_, fun a b p h1 h2 => ?_⟩
  · rw [wipeE_get] at e1
    rw [wipe_get] at e2
    by_cases hi : i ∈ vs
    · rw [if_pos hi] at e1
      cases q : env[i]? with
      | none => rw [q] at e1; cases e1
      | some s0 => rw [q] at e1; cases e1; trivial
    · rw [if_neg hi] at e1 e2
      exact x.slot i s o e1 e2
  · have back : ∀ a, OwnsAt (wipeE env vs) (wipe σ vs) a p → OwnsAt env σ a p := fun a ⟨⟨d', e1⟩, e2⟩ => by
      rw [wipeE_get] at e1
      rw [wipe_get] at e2
      by_cases hi : a ∈ vs
      · rw [if_pos hi] at e1
        cases q : env[a]? with
        | none => rw [q] at e1; cases e1
        | some s0 => rw [q] at e1; cases e1
      · rw [if_neg hi] at e1 e2
        exact ⟨⟨d', e1⟩, e2⟩
    exact x.apart a b p (back a h1) (back b h2)
abbrev W0 : WX := fun _ _ _ _ => False
/-- a growth whose new list (held by nobody known) changes -/
theorem Grow.upd {Hf H Hf' H' : Hp} {p : Addr} {o : HO} (g : Grow Hf H Hf' H') (hp : H p = none) (hn : Hf' p = none) : Grow Hf H Hf' (L2.upd H' p o) := by
  refine ⟨fun a u e => ?_, g.old, fun a u e n => ?_⟩
  · rw [upd_ne (ne_of_none e hn)]
    exact g.sub a u e
  · rw [upd_ne (ne_of_none e hp)]
    exact g.kept a u e n
theorem de_lc {wi : TI} {fi : FI} {j : Nat} {tt : TT} {fc : FT} {te : TE} {fe : FE} {own : List Nat} (hi : DI K W cls wi fi) (hc : DT K W0 cls tt fc) (he : DE K W0 cls te fe) (hj : j ∈ own) : DE K W cls (tLc wi (gName j) tt te own) (eLc fi j fc fe own) := by
  refine ⟨fun H0 Hf H env σ Q sub x h => ?_⟩
  refine hi.run H0 Hf H env σ _ sub x ?_
  unfold eLc at h
  cases ef : fi env with
  | bad => rw [ef] at h; exact h
  | xc c => rw [ef] at h; exact h
  | ok ds =>
    rw [ef] at h
    intro J Hf1 H1 g1 jk Dl hD
    change PostE K W cls Hf H σ (if ds.length ≤ LIM then _ else R.bad) Q at h
    by_cases hl : ds.length ≤ LIM
    · rw [if_pos hl] at h
      cases el : lcLoop j fc fe (wipeE env own) ds with
      | bad => rw [el] at h; exact h.elim
      | xc c => rw [el] at h; exact h.elim
      | ok zs =>
        rw [el] at h
        have hn1 : Hf1 Dl = none := g1.sub.none_of hD
        have x1 := (x.grow g1).wiped own
        refine ⟨fun i m H' => m = ds.length - i ∧ i ≤ ds.length ∧ ∃ Hf' ys vs rest, Grow Hf1 H1 Hf' H' ∧ Hf' Dl = none ∧ H' Dl = some (.lst vs) ∧ RepL K Hf' ys vs ∧ ys.length ≤ i ∧
          lcLoop j fc fe (wipeE env own) (ds.drop i) = .ok rest ∧ zs = ys ++ rest, ⟨ds.length, by simp, Nat.zero_le _, Hf1, [], [], zs, (Grow.refl g1.sub).upd hD hn1, hn1, upd_same, .nil, Nat.zero_le _, by rw [List.drop_zero]; exact el, rfl⟩, ?_⟩
        rintro i m H' ⟨rfl, hile, Hf', ys, vs, rest, g2, n2, e2, rl, hys, elr, ez⟩
        have lo2 : Lo Hf1 H' := (g2.old.trans g2.sub).lo
        by_cases hlt : i < ds.length
        · refine .inr ⟨jk.go i H' lo2 hlt, fun H'' => ds.length - (i + 1) = ds.length - (i + 1) ∧ i + 1 ≤ ds.length ∧ ∃ Hf' ys vs rest, Grow Hf1 H1 Hf' H'' ∧ Hf' Dl = none ∧ H'' Dl = some (.lst vs) ∧ RepL K Hf' ys vs ∧ ys.length ≤ i + 1 ∧
            lcLoop j fc fe (wipeE env own) (ds.drop (i + 1)) = .ok rest ∧ zs = ys ++ rest, fun H'' hN => ⟨_, by omega, hN⟩, fun v H'' hy => ?_⟩
          obtain ⟨rfl, d, ed, rd⟩ := jk.yld i H' v H'' lo2 hlt hy
          have edr : ds.drop i = d :: ds.drop (i + 1) := by
            rw [List.drop_eq_getElem_cons hlt]
            rw [List.getElem?_eq_getElem hlt] at ed
            cases ed
            rfl
          rw [edr] at elr
          have xj : EnvR K H0 Hf' H'' ((wipeE env own).set j (.va d)) ((wipe σ own).set j (some v)) := (x1.grow g2).setVa (rd.mono g2.lo)
          show wipe ((wipe σ own).set j (some v)) own = wipe σ own ∧ _
          refine ⟨wipe_set σ hj v, ?_⟩
          unfold lcLoop at elr
          refine hc.run H0 Hf' H'' _ _ _ g2.sub xj ?_
          cases ec : fc ((wipeE env own).set j (.va d)) with
          | bad => rw [ec] at elr; cases elr
          | xc c => rw [ec] at elr; cases elr
          | ok b =>
            rw [ec] at elr
            intro Hf3 H3 g3
            obtain ⟨e3, n3⟩ := g3.kept Dl _ e2 n2
            cases b with
            | false =>
              show _ ∧ _
              exact ⟨rfl, hlt, Hf3, ys, vs, rest, g2.trans g3, n3, e3, rl.mono g3.lo, by omega, elr, ez⟩
            | true =>
              show te _ H3 _
              dsimp only at elr
              refine he.run H0 Hf3 H3 _ _ _ g3.sub (xj.grow g3) ?_
              cases ee : fe ((wipeE env own).set j (.va d)) with
              | bad => rw [ee] at elr; cases elr
              | xc c => rw [ee] at elr; cases elr
              | ok s =>
                rw [ee] at elr
                dsimp only at elr
                cases er : lcLoop j fc fe (wipeE env own) (ds.drop (i + 1)) with
                | bad => rw [er] at elr; cases elr
                | xc c => rw [er] at elr; cases elr
                | ok rest' =>
                  rw [er] at elr
                  have e5 : s.d :: rest' = rest := by injection elr
                  intro v4 Hf4 H4 g4 q4
                  obtain ⟨Hf5, g5, r5⟩ := q4.rep g3.sub g4
                  obtain ⟨e6, n6⟩ := g5.kept Dl _ e3 n3
                  have g25 := (g2.trans g3).trans g5
                  refine ⟨vs, e6, lim_lt (by rw [← rl.length]; omega), rfl, hlt, Hf5, ys ++ [s.d], vs ++ [v4], rest', g25.upd hD n6, n6, upd_same, (rl.mono (g3.trans g5).lo).append (.cons r5 .nil), ?_, rfl, ?_⟩
                  · rw [List.length_append]
                    exact Nat.succ_le_succ hys
                  · rw [ez, ← e5, List.append_assoc]
                    rfl
        · refine .inl ⟨jk.stop i H' lo2 (by omega), ?_⟩
          have e0 : ds.drop i = [] := List.drop_eq_nil_of_le (by omega)
          rw [e0] at elr
          have er : [] = rest := by
            unfold lcLoop at elr
            injection elr
          rw [← er, List.append_nil] at ez
          subst ez
          exact h (.ref Dl) Hf' H' (g1.trans g2) ⟨Dl, rfl, g1.fresh sub hD, n2, vs, e2, rl⟩
    · rw [if_neg hl] at h
      exact h.elim
end
end DL
set_option maxRecDepth 100000
namespace DL
open PySem PySem.Spec PyProof.Rows L2
section
variable {K : PySem.W.Frag} {W : WX} {cls : Nat → Addr}
/-! ### statements -/
/-- Hb, H0: what was read, and the heap, at the def's entry; Hf, H: now -/
structure St0 (K : PySem.W.Frag) (Hb H0 Hf H : Hp) (env : Env) (σ : L2.St) : Prop where
  base : Ex Hb H0
  grow : Grow Hb H0 Hf H
  env : EnvR K H0 Hf H env σ
def PostS (K : PySem.W.Frag) (W : WX) (cls : Nat → Addr) (Hb H0 Hs : Hp) (o : Out) (D : Ends) : Prop := match o with
  | .nx e => ∀ Hf H σ, Lo Hs Hf → St0 K Hb H0 Hf H e σ → D.nx σ H
  | .rt s => ∀ v Hf H, Grow Hb H0 Hf H → SlV K H0 Hf H s v → D.rt v H
  | .xc c e => ∀ Hf H σ, Lo Hs Hf → St0 K Hb H0 Hf H e σ → W (.ref (cls c)) none σ H
  | .bad => False
structure DS (K : PySem.W.Frag) (W : WX) (cls : Nat → Addr) (t : TS) (F : FS) : Prop where
  run : ∀ (Hb H0 Hf H : Hp) (env : Env) (σ : L2.St) (D : Ends), St0 K Hb H0 Hf H env σ → PostS K W cls Hb H0 Hf (F env) D → t D σ H
theorem St0.step {Hb H0 Hf H Hf' H' : Hp} {env : Env} {σ : L2.St} (x : St0 K Hb H0 Hf H env σ) (g : Grow Hf H Hf' H') : St0 K Hb H0 Hf' H' env σ := ⟨x.base, x.grow.trans g, x.env.grow g⟩
theorem St0.sub {Hb H0 Hf H : Hp} {env : Env} {σ : L2.St} (x : St0 K Hb H0 Hf H env σ) : Ex Hf H := x.grow.sub
theorem PostS.mono {Hb H0 Hs Hs' : Hp} {o : Out} {D : Ends} (h : PostS K W cls Hb H0 Hs o D) (l : Lo Hs Hs') : PostS K W cls Hb H0 Hs' o D := by
  cases o with
  | nx e => exact fun Hf H σ l' x => h Hf H σ (l.trans l') x
  | rt s => exact h
  | xc c e => exact fun Hf H σ l' x => h Hf H σ (l.trans l') x
  | bad => exact h
/-- an expression of a statement -/
theorem St0.expr {Hb H0 Hf H : Hp} {env : Env} {σ : L2.St} (x : St0 K Hb H0 Hf H env σ) {t : TE} {f : FE} (d : DE K W cls t f) {D : Ends} {k : Sl → Out} {Q : VK} (h : PostS K W cls Hb H0 Hf ((f env).out env k) D)
    (go : ∀ s v Hf' H', Grow Hf H Hf' H' → SlV K H Hf' H' s v → PostS K W cls Hb H0 Hf' (k s) D → Q v H') : t σ H Q := by
  refine d.run H0 Hf H env σ Q x.sub x.env ?_
  cases e : f env with
  | ok s => rw [e] at h; exact fun v Hf' H' g q => go s v Hf' H' g q (h.mono g.lo)
  | xc c => rw [e] at h; exact fun Hf' H' g => h Hf' H' σ g.lo (x.step g)
  | bad => rw [e] at h; exact h
/-- .. by its value -/
theorem St0.exprV {Hb H0 Hf H : Hp} {env : Env} {σ : L2.St} (x : St0 K Hb H0 Hf H env σ) {t : TE} {f : FE} (d : DE K W cls t f) {D : Ends} {k : Sl → Out} {Q : VK} (h : PostS K W cls Hb H0 Hf ((f env).out env k) D)
    (go : ∀ s v Hf' H', Grow Hf H Hf' H' → Rep K Hf' s.d v → PostS K W cls Hb H0 Hf' (k s) D → Q v H') : t σ H Q := by
  refine d.run H0 Hf H env σ Q x.sub x.env ?_
  cases e : f env with
  | ok s =>
    rw [e] at h
    intro v Hf' H' g q
    obtain ⟨Hf2, g2, r⟩ := q.rep x.sub g
    exact go s v Hf2 H' g2 r (PostS.mono h g2.lo)
  | xc c => rw [e] at h; exact fun Hf' H' g => h Hf' H' σ g.lo (x.step g)
  | bad => rw [e] at h; exact h
theorem St0.testX {α : Type} {Hb H0 Hf H : Hp} {env : Env} {σ : L2.St} (x : St0 K Hb H0 Hf H env σ) {r : R α} {D : Ends} {k : α → Out} {P : α → Prop} (h : PostS K W cls Hb H0 Hf (r.out env k) D) (go : ∀ a, PostS K W cls Hb H0 Hf (k a) D → P a) : PostX W cls Hf H σ r P := by
  cases r with
  | ok s => exact go s h
  | xc c => exact fun Hf' H' g => h Hf' H' σ g.lo (x.step g)
  | bad => exact h
theorem ds_next : DS K W cls tNext sNext := ⟨fun Hb H0 Hf H env σ D x h => h Hf H σ (Lo.refl _) x⟩
theorem ds_seq {t u : TS} {F G : FS} (ht : DS K W cls t F) (hu : DS K W cls u G) : DS K W cls (tSeq t u) (sSeq F G) := by
  refine ⟨fun Hb H0 Hf H env σ D x h => ?_⟩
  refine ht.run Hb H0 Hf H env σ _ x ?_
  unfold sSeq at h
  cases e : F env with
  | nx e' => rw [e] at h; exact fun Hf' H' σ' l x' => hu.run Hb H0 Hf' H' e' σ' D x' (PostS.mono h l)
  | rt s => rw [e] at h; exact h
  | xc c e' => rw [e] at h; exact h
  | bad => rw [e] at h; exact h
/-- one statement alone: t = its own reading -/
theorem EnvR.setSl {H0 Hf H Hf' H' : Hp} {env : Env} {σ : L2.St} {j : Nat} {s : Sl} {v : V} (x : EnvR K H0 Hf H env σ) (ex : Ex H0 H) (g : Grow Hf H Hf' H') (q : SlV K H Hf' H' s v) : EnvR K H0 Hf' H' (env.set j s) (σ.set j (some v)) := by
  cases s with
  | no => exact q.elim
  | va d => exact (x.grow g).setVa q
  | ow d =>
    obtain ⟨p, rfl, hp, hn, w⟩ := q
    have y := x.grow g
    refine ⟨by rw [List.length_set, List.length_set]; exact y.len, fun i s o e1 e2 => ?_, fun a b p' h1 h2 => ?_⟩
    · rw [List.getElem?_set] at e1 e2
      by_cases hj : j = i
      · rw [if_pos hj] at e1 e2
        split at e1
        · cases e1
          split at e2
          · cases e2
            exact ⟨p, rfl, ex.none_of hp, hn, w⟩
          · cases e2
        · cases e1
      · rw [if_neg hj] at e1 e2
        exact y.slot i s o e1 e2
    · have back : ∀ a, OwnsAt (env.set j (.ow d)) (σ.set j (some (.ref p))) a p' → a = j ∧ p' = p ∨ a ≠ j ∧ OwnsAt env σ a p' := fun a ⟨⟨d', e1⟩, e2⟩ => by
        rw [List.getElem?_set] at e1 e2
        by_cases hj : j = a
        · rw [if_pos hj] at e2
          split at e2
          · cases e2
            exact .inl ⟨hj.symm, rfl⟩
          · cases e2
        · rw [if_neg hj] at e1 e2
          exact .inr ⟨Ne.symm hj, ⟨d', e1⟩, e2⟩
      have old : ∀ a, OwnsAt env σ a p → False := fun a o => by
        obtain ⟨d', _, _, _, w'⟩ := x.own o
        obtain ⟨u, hu⟩ := w'.some
        rw [hp] at hu
        cases hu
      rcases back a h1 with ⟨ra, rp⟩ | ⟨na, oa⟩
      · rcases back b h2 with ⟨rb, _⟩ | ⟨nb, ob⟩
        · rw [ra, rb]
        · rw [rp] at ob
          exact (old b ob).elim
      · rcases back b h2 with ⟨rb, rp⟩ | ⟨nb, ob⟩
        · rw [rp] at oa
          exact (old a oa).elim
        · exact x.apart a b p' oa ob
theorem St0.ex0 {Hb H0 Hf H : Hp} {env : Env} {σ : L2.St} (x : St0 K Hb H0 Hf H env σ) : Ex H0 H := fun a o e => by
  cases q : Hb a with
  | none => exact (x.grow.kept a o e q).1
  | some u =>
    have e1 := x.base a u q
    rw [e] at e1
    cases e1
    exact x.grow.sub a _ (x.grow.old a _ q)
theorem ds_set {i : Nat} {te : TE} {fe : FE} (he : DE K W cls te fe) : DS K W cls (tAsg te (gName i)) (sSet i fe) := by
  refine ⟨fun Hb H0 Hf H env σ D x h => ?_⟩
  refine x.expr he h fun s v Hf' H' g q k => ?_
  show D.nx (σ.set i (some v)) H'
  exact k Hf' H' _ (Lo.refl _) ⟨x.base, x.grow.trans g, x.env.setSl x.ex0 g q⟩
theorem ds_drop {te : TE} {fe : FE} (he : DE K W cls te fe) : DS K W cls (tDrop te) (sDrop fe) := by
  refine ⟨fun Hb H0 Hf H env σ D x h => ?_⟩
  exact x.expr he h fun s v Hf' H' g q k => k Hf' H' σ (Lo.refl _) (x.step g)
theorem SlV.from0 {H0 H Hf' H' : Hp} {s : Sl} {v : V} (ex : Ex H0 H) (q : SlV K H Hf' H' s v) : SlV K H0 Hf' H' s v := by
  cases s with
  | no => exact q
  | va d => exact q
  | ow d => obtain ⟨p, e, hp, r⟩ := q; exact ⟨p, e, ex.none_of hp, r⟩
theorem ds_ret {te : TE} {fe : FE} (he : DE K W cls te fe) : DS K W cls (tRet te) (sRet fe) := by
  refine ⟨fun Hb H0 Hf H env σ D x h => ?_⟩
  exact x.expr he h fun s v Hf' H' g q k => k v Hf' H' (x.grow.trans g) (q.from0 x.ex0)
theorem ds_if {tc : TT} {fc : FT} {t u : TS} {F G : FS} (hc : DT K W cls tc fc) (ht : DS K W cls t F) (hu : DS K W cls u G) : DS K W cls (tIfS tc t u) (sIf fc F G) := by
  refine ⟨fun Hb H0 Hf H env σ D x h => ?_⟩
  refine hc.run H0 Hf H env σ _ x.sub x.env (x.testX h fun b k Hf' H' g => ?_)
  cases b with
  | true =>
    show t D σ H'
    exact ht.run Hb H0 Hf' H' env σ D (x.step g) (k.mono g.lo)
  | false =>
    show u D σ H'
    exact hu.run Hb H0 Hf' H' env σ D (x.step g) (k.mono g.lo)
/-- an error raised: the class's number -/
theorem ds_raise {c : Nat} : DS K W cls (fun _ σ H => W (.ref (cls c)) none σ H) (sRaise c) := ⟨fun Hb H0 Hf H env σ D x h => h Hf H σ (Lo.refl _) x⟩

/-! ### changes of what a slot holds alone -/
theorem EnvR.put {H0 Hf H : Hp} {env : Env} {σ : L2.St} {i : Nat} {p : Addr} {d d' : D} {o : HO} (x : EnvR K H0 Hf H env σ) (ei : env[i]? = some (.ow d)) (es : σ[i]? = some (some (.ref p))) (w : OwnAt K Hf (upd H p o) d' p) :
    EnvR K H0 Hf (upd H p o) (env.set i (.ow d')) σ := by
  have own : OwnsAt env σ i p := ⟨⟨d, ei⟩, es⟩
  refine ⟨by rw [List.length_set]; exact x.len, fun j s ob e1 e2 => ?_, fun a b q h1 h2 => ?_⟩
  · rw [List.getElem?_set] at e1
    by_cases hj : i = j
    · subst hj
      rw [if_pos rfl] at e1
      split at e1
      · cases e1
        rw [es] at e2
        cases e2
        obtain ⟨_, _, h0, n, _⟩ := x.own own
        exact ⟨p, rfl, h0, n, w⟩
      · cases e1
    · rw [if_neg hj] at e1
      have z := x.slot j s ob e1 e2
      cases s with
      | no => trivial
      | va d => exact z
      | ow d =>
        obtain ⟨p', ep, h0, n, w'⟩ := z
        have ne : p' ≠ p := fun e => hj (x.apart i j p own ⟨⟨d, e1⟩, by rw [e2, ep, e]⟩)
        refine ⟨p', ep, h0, n, ?_⟩
        cases d with
        | lst ds =>
          obtain ⟨vs, hp, r⟩ := w'
          exact ⟨vs, by rw [upd_ne ne]; exact hp, r⟩
        | dic kvs =>
          show upd H p o p' = _
          rw [upd_ne ne]
          exact w'
        | _ => exact w'.elim
  · have back : ∀ a, OwnsAt (env.set i (.ow d')) σ a q → OwnsAt env σ a q := fun a ⟨⟨d2, e1⟩, e2⟩ => by
      rw [List.getElem?_set] at e1
      by_cases hj : i = a
      · subst hj
        exact ⟨⟨d, ei⟩, e2⟩
      · rw [if_neg hj] at e1
        exact ⟨⟨d2, e1⟩, e2⟩
    exact x.apart a b q (back a h1) (back b h2)
theorem St0.put {Hb H0 Hf H : Hp} {env : Env} {σ : L2.St} {i : Nat} {p : Addr} {d d' : D} {o : HO} (x : St0 K Hb H0 Hf H env σ) (ei : env[i]? = some (.ow d)) (es : σ[i]? = some (some (.ref p))) (w : OwnAt K Hf (upd H p o) d' p) :
    St0 K Hb H0 Hf (upd H p o) (env.set i (.ow d')) σ := by
  obtain ⟨_, _, h0, n, _⟩ := x.env.own ⟨⟨d, ei⟩, es⟩
  exact ⟨x.base, x.grow.upd h0 n, x.env.put ei es w⟩
/-- what slot i holds, behind a growth -/
theorem St0.held {Hb H0 Hf H : Hp} {env : Env} {σ : L2.St} {i : Nat} {ds : List D} (x : St0 K Hb H0 Hf H env σ) (ei : env[i]? = some (.ow (.lst ds))) : ∃ p vs, σ[i]? = some (some (.ref p)) ∧ Hf p = none ∧ H p = some (.lst vs) ∧ RepL K Hf ds vs := by
  obtain ⟨o, eo, p, ev, h0, n, vs, hp, r⟩ := x.env.any ei
  subst ev
  exact ⟨p, vs, eo, n, hp, r⟩
theorem ds_app {i : Nat} {te : TE} {fe : FE} (he : DE K W cls te fe) : DS K W cls (tDrop (tBM K "list" rAppend (L2.tVar i) (tCons te tNil))) (sApp i fe) := by
  refine ⟨fun Hb H0 Hf H env σ D x h => ?_⟩
  unfold sApp at h
  split at h
  · rename_i ds ei
    obtain ⟨p, vs, es, n, hp, r⟩ := x.held ei
    refine ⟨.ref p, es, .inl ⟨rfl, vs, SqL.of hp⟩, ?_⟩
    refine x.exprV he h fun s v Hf2 H1 g2 rv k => ?_
    have l2 : Lo Hf2 Hf2 := Lo.refl _
    have x2 := x.step g2
    obtain ⟨p', vs', es', n', hp', r'⟩ := x2.held ei
    rw [es] at es'
    cases es'
    by_cases hl : ds.length < LIM
    · rw [if_pos hl] at k
      refine ⟨p, vs', v, rfl, rfl, hp', lim_lt (by rw [← r'.length]; exact hl), k Hf2 _ σ l2 (x2.put ei es ⟨_, upd_same, r'.append (.cons rv .nil)⟩)⟩
    · rw [if_neg hl] at k
      exact k.elim
  · exact h.elim
theorem ds_put {i : Nat} {te tk : TE} {fe fk : FE} (hk : DE K W cls tk fk) (he : DE K W cls te fe) : DS K W cls (tAsg te (gSub (L2.tVar i) tk rSetL)) (sPut i fk fe) := by
  refine ⟨fun Hb H0 Hf H env σ D x h => ?_⟩
  unfold sPut at h
  split at h
  · rename_i ds ei
    refine x.exprV he h fun s v Hf2 H1 g2 rv k => ?_
    have x2 := x.step g2
    obtain ⟨p, vs, es, n, hp, r⟩ := x2.held ei
    refine ⟨.ref p, es, ?_⟩
    refine x2.exprV hk k fun s2 v2 Hf4 H3 g4 rv2 k3 => ?_
    have l4 : Lo Hf4 Hf4 := Lo.refl _
    have x4 := x2.step g4
    obtain ⟨p', vs', es', n', hp', r'⟩ := x4.held ei
    rw [es] at es'
    cases es'
    cases e2 : s2.d with
    | int j =>
      rw [e2] at k3 rv2
      dsimp only at k3
      by_cases hj : 0 ≤ j ∧ j < ds.length
      · rw [if_pos hj] at k3
        refine ⟨p, vs', j, j.toNat, rfl, rv2.int_inv, hp', ?_, k3 Hf4 _ σ l4 (x4.put ei es ⟨_, upd_same, r'.set (rv.mono g4.lo) j.toNat⟩)⟩
        unfold ixN
        rw [if_pos hj.1, if_pos (by rw [← r'.length]; exact hj.2)]
      · rw [if_neg hj] at k3
        exact k3.elim
    | _ => rw [e2] at k3; exact k3.elim
  · exact h.elim

/-! ### loops -/
theorem for_core {J : It} {ds : List D} {j : Nat} {tb : TS} {F : FS} {Hb H0 Hf1 H1 : Hp} {env : Env} {σ : L2.St} {D : Ends} (hb : DS K W cls tb F) (x1 : St0 K Hb H0 Hf1 H1 env σ) (jk : JOk K J Hf1 ds)
    (k : PostS K W cls Hb H0 Hf1 (forD j F ds env) D) : ∃ W : Nat → Nat → L2.St → Hp → Prop, (∃ m, W 0 m σ H1) ∧ ∀ i m σ H, W i m σ H →
  (J.stop i H ∧ D.nx σ H) ∨ (J.go i H ∧ ∃ N : L2.St → Hp → Prop, (∀ σ' H', N σ' H' → ∃ m', m' < m ∧ W (i + 1) m' σ' H') ∧ ∀ x H', J.yld i H x H' → gName j x σ H' fun σ2 H2 => tb { D with nx := N, ct := N, bk := D.nx } σ2 H2) := by
  refine ⟨fun i m σ' H' => m = ds.length - i ∧ i ≤ ds.length ∧ ∃ Hf' env', St0 K Hb H0 Hf' H' env' σ' ∧ Lo Hf1 Hf' ∧ PostS K W cls Hb H0 Hf' (forD j F (ds.drop i) env') D,
    ⟨ds.length, by simp, Nat.zero_le _, Hf1, env, x1, Lo.refl _, by rw [List.drop_zero]; exact k⟩, ?_⟩
  rintro i m σ' H' ⟨rfl, hile, Hf', env', x', lo, k'⟩
  have lo2 : Lo Hf1 H' := lo.trans x'.sub.lo
  by_cases hlt : i < ds.length
  · refine .inr ⟨jk.go i H' lo2 hlt, fun σ'' H'' => i + 1 ≤ ds.length ∧ ∃ Hf' env', St0 K Hb H0 Hf' H'' env' σ'' ∧ Lo Hf1 Hf' ∧ PostS K W cls Hb H0 Hf' (forD j F (ds.drop (i + 1)) env') D,
      fun σ'' H'' hN => ⟨_, by omega, rfl, hN⟩, fun v H'' hy => ?_⟩
    obtain ⟨rfl, d, ed, rd⟩ := jk.yld i H' v H'' lo2 hlt hy
    have edr : ds.drop i = d :: ds.drop (i + 1) := by
      rw [List.drop_eq_getElem_cons hlt]
      rw [List.getElem?_eq_getElem hlt] at ed
      cases ed
      rfl
    rw [edr] at k'
    show tb _ (σ'.set j (some v)) H''
    refine hb.run Hb H0 Hf' H'' (env'.set j (.va d)) (σ'.set j (some v)) _ ⟨x'.base, x'.grow, x'.env.setVa (rd.mono lo)⟩ ?_
    unfold forD at k'
    cases e : F (env'.set j (.va d)) with
    | nx e' => rw [e] at k'; exact fun Hf2 H2 σ2 l2 x2 => ⟨hlt, Hf2, e', x2, lo.trans l2, PostS.mono k' l2⟩
    | rt s => rw [e] at k'; exact k'
    | xc c e' => rw [e] at k'; exact k'
    | bad => rw [e] at k'; exact k'
  · refine .inl ⟨jk.stop i H' lo2 (by omega), ?_⟩
    have e0 : ds.drop i = [] := List.drop_eq_nil_of_le (by omega)
    rw [e0] at k'
    exact k' Hf' H' σ' (Lo.refl _) x'
theorem ds_for {wi : TI} {fi : FI} {j : Nat} {tb : TS} {F : FS} (hi : DI K W cls wi fi) (hb : DS K W cls tb F) : DS K W cls (tFor wi (gName j) tb) (sFor fi j F) := by
  refine ⟨fun Hb H0 Hf H env σ D x h => ?_⟩
  refine hi.run H0 Hf H env σ _ x.sub x.env (x.testX h fun ds k J Hf1 H1 g1 jk => ?_)
  exact for_core hb (x.step g1) jk (PostS.mono k g1.lo)
/-- the keys of a dict that is locked from then on -/
def iKeysL (td : TE) : TI := fun σ H R => td σ H fun x H1 => ∃ d kvs, x = .ref d ∧ H1 d = some (.dK kvs) ∧ ∀ od, R (Itk d od kvs) (upd H1 d (.frz od (.dK kvs)))
theorem pi_keysL {X : Cx} {tg e : Expr} {td : TE} (he : PE X e td) : PI X tg e (iKeysL td) := by
  refine ⟨fun pins s σ H R I h => ?_⟩
  refine thn (he.run pins s σ H _ I h) fun u s1 ⟨x, H1, I1, rx, d, kvs, ex, hd, q⟩ => ?_
  subst ex
  obtain rfl : u = Value.ref d := rx
  obtain ⟨od, I2⟩ := I1.lock hd trivial
  obtain ⟨hs, hgd, hx, es, ep, vs, hdt, hsz, kv, hm⟩ := I2.frzK upd_same
  refine iter_keys hs hgd hx hdt (pi_one (tk := s1.toks) I2 _ (turn_keys _ hdt) ⟨_, Heap.get?_push_size _ rfl, rfl, ?_⟩ (q od))
  rw [hsz] <;> rfl
theorem jok_keys {Hf : Hp} {d : Addr} {od : Obj} {kvs : List (Int × Fv)} (h : Hf d = some (.frz od (.dK (kvs.map kqV)))) : JOk K (Itk d od (kvs.map kqV)) Hf (kvs.map fun p => .int p.1) := by
  have fz : ∀ H : Hp, Lo Hf H → H d = some (.frz od (.dK (kvs.map kqV))) := fun H l => by
    obtain ⟨o', e, k⟩ := l d _ h
    rcases k with rfl | ⟨_, _, e1, _⟩
    · exact e
    · cases e1
  refine ⟨fun i H l hi => ⟨fz H l, by rw [List.length_map] at hi ⊢; exact hi⟩, fun i H x H' l hi y => ?_, fun i H l hi => ⟨fz H l, by rw [List.length_map] at hi ⊢; exact hi⟩⟩
  obtain ⟨rfl, k, v, e, rfl⟩ := y
  rw [List.getElem?_map] at e
  cases q : kvs[i]? with
  | none => rw [q] at e; cases e
  | some p =>
    rw [q] at e
    have e1 : kqV p = (k, v) := Option.some.inj e
    rw [kqV_eq] at e1
    have e2 := congrArg Prod.fst e1
    dsimp only at e2
    subst e2
    exact ⟨rfl, .int p.1, by rw [List.getElem?_map, q]; rfl, .int _⟩
theorem di_keys {ta : TE} {fa : FE} (ha : DE K W cls ta fa) : DI K W cls (iKeysL ta) (iKeys fa) := by
  refine ⟨fun H0 Hf H env σ Q sub x h => ?_⟩
  refine ha.run H0 Hf H env σ _ sub x ?_
  unfold iKeys at h
  cases e : fa env with
  | bad => rw [e] at h; exact h
  | xc c => rw [e] at h; exact h
  | ok s =>
    rw [e] at h
    intro v Hf1 H1 g1 q
    dsimp only [R.bind] at h
    split at h
    · rename_i kvs
      obtain ⟨p, rfl, hp, hn, w⟩ := q
      have w' : H1 p = some (.dK (kvs.map kqV)) := w
      refine ⟨p, kvs.map kqV, rfl, w', fun od => ?_⟩
      refine h _ (upd Hf1 p (.frz od (.dK (kvs.map kqV)))) _ ?_ (jok_keys upd_same)
      refine ⟨fun a o e => ?_, fun a o e => ?_, fun a o e n => ?_⟩
      · by_cases ha : a = p
        · subst ha
          rw [upd_same] at e ⊢
          exact e
        · rw [upd_ne ha] at e ⊢
          exact g1.sub a o e
      · rw [upd_ne (ne_of_none (sub a o e) hp)]
        exact g1.old a o e
      · have ha := ne_of_none e hp
        rw [upd_ne ha, upd_ne ha]
        exact g1.kept a o e n
    · exact h.elim
/-- slot i's object is laid open, its content as o says -/
theorem St0.lay {Hb H0 Hf H : Hp} {env : Env} {σ : L2.St} {i : Nat} {p : Addr} {d : D} {o : HO} (x : St0 K Hb H0 Hf H env σ) (ei : env[i]? = some (.ow d)) (es : σ[i]? = some (some (.ref p))) (r : Rep K (upd Hf p o) d (.ref p)) :
    St0 K Hb H0 (upd Hf p o) (upd H p o) (env.set i (.va d)) σ ∧ Lo Hf (upd Hf p o) := by
  have own : OwnsAt env σ i p := ⟨⟨d, ei⟩, es⟩
  obtain ⟨_, _, h0, n, _⟩ := x.env.own own
  have lo : Lo Hf (upd Hf p o) := (Ex.new n).lo
  refine ⟨⟨x.base, ⟨fun a u e => ?_, fun a u e => ?_, fun a u e n' => ?_⟩, ⟨by rw [List.length_set]; exact x.env.len, fun j s ob e1 e2 => ?_, fun a b q h1 h2 => ?_⟩⟩, lo⟩
  · by_cases ha : a = p
    · subst ha
      rw [upd_same] at e ⊢
      exact e
    · rw [upd_ne ha] at e ⊢
      exact x.sub a u e
  · rw [upd_ne (ne_of_none (x.base a u e) h0)]
    exact x.grow.old a u e
  · have ha := ne_of_none e h0
    rw [upd_ne ha, upd_ne ha]
    exact x.grow.kept a u e n'
  · rw [List.getElem?_set] at e1
    by_cases hj : i = j
    · subst hj
      rw [if_pos rfl] at e1
      split at e1
      · cases e1
        rw [es] at e2
        cases e2
        exact ⟨_, rfl, r⟩
      · cases e1
    · rw [if_neg hj] at e1
      have z := x.env.slot j s ob e1 e2
      cases s with
      | no => trivial
      | va d => obtain ⟨v, ev, rv⟩ := z; exact ⟨v, ev, rv.mono lo⟩
      | ow d =>
        obtain ⟨p', ep, h0', n', w'⟩ := z
        have ne : p' ≠ p := fun e => hj (x.env.apart i j p own ⟨⟨d, e1⟩, by rw [e2, ep, e]⟩)
        refine ⟨p', ep, h0', by rw [upd_ne ne]; exact n', ?_⟩
        cases d with
        | lst ds =>
          obtain ⟨vs, hp, rl⟩ := w'
          exact ⟨vs, by rw [upd_ne ne]; exact hp, rl.mono lo⟩
        | dic kvs =>
          show upd H p o p' = _
          rw [upd_ne ne]
          exact w'
        | _ => exact w'.elim
  · have back : ∀ a, OwnsAt (env.set i (.va d)) σ a q → OwnsAt env σ a q := fun a ⟨⟨d2, e1⟩, e2⟩ => by
      rw [List.getElem?_set] at e1
      by_cases hj : i = a
      · rw [if_pos hj] at e1
        split at e1 <;> cases e1
      · rw [if_neg hj] at e1
        exact ⟨⟨d2, e1⟩, e2⟩
    exact x.env.apart a b q (back a h1) (back b h2)
theorem upd_id {H : Hp} {p : Addr} {o : HO} (h : H p = some o) : upd H p o = H := by
  funext a
  unfold upd
  split
  · rename_i e
    rw [e, h]
  · rfl
theorem ds_forK {i j : Nat} {tb : TS} {F : FS} (hb : DS K W cls tb F) : DS K W cls (tFor (iKeysL (L2.tVar i)) (gName j) tb) (sForK i j F) := by
  refine ⟨fun Hb H0 Hf H env σ D x h => ?_⟩
  unfold sForK at h
  split at h
  · rename_i kvs ei
    obtain ⟨ob, eo, p, ev, h0, n, w⟩ := x.env.any ei
    subst ev
    have w' : H p = some (.dK (kvs.map kqV)) := w
    refine ⟨.ref p, eo, p, kvs.map kqV, rfl, w', fun od => ?_⟩
    obtain ⟨x', lo⟩ := x.lay (o := .frz od (.dK (kvs.map kqV))) ei eo (.dic (.inr ⟨od, upd_same⟩))
    exact for_core hb x' (jok_keys upd_same) (PostS.mono h lo)
  · exact h.elim
theorem set_same {α : Type} : ∀ {l : List α} {i : Nat} {a : α}, l[i]? = some a → l.set i a = l
  | [], _, _, h => by simp at h
  | x :: l, 0, a, h => by
    have e := Option.some.inj h
    subst e
    rfl
  | x :: l, i + 1, a, h => by
    show x :: l.set i a = x :: l
    rw [set_same (l := l) (i := i) (by simpa using h)]
theorem pub_one {Hb H0 Hf H : Hp} {env : Env} {σ : L2.St} {i : Nat} {s : Sl} (x : St0 K Hb H0 Hf H env σ) (ei : env[i]? = some s) : ∃ Hf', St0 K Hb H0 Hf' H (env.set i s.frz) σ ∧ Lo Hf Hf' := by
  cases s with
  | no => exact ⟨Hf, by show St0 K Hb H0 Hf H (env.set i .no) σ; rw [set_same ei]; exact x, Lo.refl _⟩
  | va d => exact ⟨Hf, by show St0 K Hb H0 Hf H (env.set i (.va d)) σ; rw [set_same ei]; exact x, Lo.refl _⟩
  | ow d =>
    obtain ⟨ob, eo, p, ev, h0, n, w⟩ := x.env.any ei
    subst ev
    obtain ⟨o, ho⟩ := w.some
    have r : Rep K (upd Hf p o) d (.ref p) := by
      cases d with
      | lst ds =>
        obtain ⟨vs, hp, rl⟩ := w
        rw [ho] at hp; cases hp
        exact .lst upd_same (rl.mono (Ex.new n).lo)
      | dic kvs =>
        have w' : H p = some (.dK (kvs.map kqV)) := w
        rw [ho] at w'; cases w'
        exact .dic (.inl upd_same)
      | _ => exact w.elim
    obtain ⟨x', lo⟩ := x.lay ei eo r
    rw [upd_id ho] at x'
    exact ⟨_, x', lo⟩
theorem pub_all {Hb H0 H : Hp} {σ : L2.St} : ∀ (is : List Nat) (Hf : Hp) (env : Env), St0 K Hb H0 Hf H env σ → ∃ Hf', St0 K Hb H0 Hf' H (pubE is env) σ ∧ Lo Hf Hf'
  | [], Hf, env, x => ⟨Hf, x, Lo.refl _⟩
  | i :: is, Hf, env, x => by
    unfold pubE
    rw [List.foldl_cons]
    cases e : env[i]? with
    | none => exact pub_all is Hf env x
    | some s =>
      obtain ⟨Hf1, x1, l1⟩ := pub_one x e
      obtain ⟨Hf2, x2, l2⟩ := pub_all is Hf1 _ x1
      exact ⟨Hf2, x2, l1.trans l2⟩
theorem ds_pub {is : List Nat} {t : TS} {F : FS} (h : DS K W cls t F) : DS K W cls t (sPub is F) := by
  refine ⟨fun Hb H0 Hf H env σ D x k => ?_⟩
  obtain ⟨Hf', x', lo⟩ := pub_all is Hf env x
  exact h.run Hb H0 Hf' H _ σ D x' (PostS.mono k lo)
theorem ds_while {n : Nat} {tc : TT} {fc : FT} {tb : TS} {F : FS} (hc : DT K W cls tc fc) (hb : DS K W cls tb F) : DS K W cls (tWhile tc tb) (sWhile n fc F) := by
  refine ⟨fun Hb H0 Hf H env σ D x h => ?_⟩
  refine ⟨fun m σ' H' => ∃ Hf' env', St0 K Hb H0 Hf' H' env' σ' ∧ PostS K W cls Hb H0 Hf' (whileD fc F m env') D, ⟨n, Hf, env, x, h⟩, ?_⟩
  rintro m σ' H' ⟨Hf', env', x', k⟩
  cases m with
  | zero => exact k.elim
  | succ m =>
    unfold whileD at k
    refine hc.run H0 Hf' H' env' σ' _ x'.sub x'.env (x'.testX k fun b k Hf1 H1 g1 => ?_)
    have x1 := x'.step g1
    cases b with
    | true =>
      show ∃ N : L2.St → Hp → Prop, _
      refine ⟨fun σ'' H'' => ∃ Hf' env', St0 K Hb H0 Hf' H'' env' σ'' ∧ PostS K W cls Hb H0 Hf' (whileD fc F m env') D, fun σ'' H'' hN => ⟨m, Nat.lt_succ_self m, hN⟩, ?_⟩
      have k2 := PostS.mono k g1.lo
      refine hb.run Hb H0 Hf1 H1 env' σ' _ x1 ?_
      rw [if_pos rfl] at k2
      cases e : F env' with
      | nx e' => rw [e] at k2; exact fun Hf2 H2 σ2 l2 x2 => ⟨Hf2, e', x2, PostS.mono k2 l2⟩
      | rt s => rw [e] at k2; exact k2
      | xc c e' => rw [e] at k2; exact k2
      | bad => rw [e] at k2; exact k2
    | false =>
      show D.nx σ' H1
      exact k Hf1 H1 σ' g1.lo x1
/-! ### dicts -/
theorem find_kq (k : Int) : ∀ kvs : List (Int × Fv), ((kvs.map kqV).find? fun kv => decide (kv.1 = (Sum.inl k : Key))) = (kvs.find? fun p => p.1 == k).map kqV
  | [] => rfl
  | p :: r => by
    have e : decide ((kqV p).1 = (Sum.inl k : Key)) = (p.1 == k) := by
      rw [kqV_eq]
      exact key_ll p.1 k
    rw [List.map_cons, List.find?_cons, List.find?_cons, e]
    cases (p.1 == k) with
    | true => rfl
    | false => exact find_kq k r
theorem val_get (kvs : List (Int × Fv)) (k : Int) : valV (kvs.map kqV) (Sum.inl k : Key) = (getA kvs k).map Fv.v := by
  unfold valV getA
  rw [find_kq]
  cases kvs.find? fun p => p.1 == k with
  | none => rfl
  | some p =>
    show some (kqV p).2 = some p.2.v
    rw [kqV_eq]
theorem any_kq (k : Int) : ∀ kvs : List (Int × Fv), ((kvs.map kqV).any fun kv => decide (kv.1 = (Sum.inl k : Key))) = kvs.any fun p => p.1 == k
  | [] => rfl
  | p :: r => by
    have e : decide ((kqV p).1 = (Sum.inl k : Key)) = (p.1 == k) := by
      rw [kqV_eq]
      exact key_ll p.1 k
    rw [List.map_cons, List.any_cons, List.any_cons, e, any_kq k r]
theorem put_kq (kvs : List (Int × Fv)) (k : Int) (v : Fv) : putK (kvs.map kqV) (Sum.inl k : Key) v.v = (putA kvs k v).map kqV := by
  unfold putK putA
  rw [any_kq]
  by_cases h : (kvs.any fun p => p.1 == k) = true
  · rw [if_pos h, if_pos h, List.map_map, List.map_map]
    refine List.map_congr_left fun p _ => ?_
    show (if (kqV p).1 = (Sum.inl k : Key) then ((kqV p).1, v.v) else kqV p) = kqV (if (p.1 == k) = true then (p.1, v) else p)
    rw [kqV_eq]
    by_cases e : p.1 = k
    · rw [if_pos (by rw [e]), if_pos (by simp [e]), kqV_eq]
    · rw [if_neg (fun q => e (Sum.inl.inj q)), if_neg (by simp [e]), kqV_eq]
  · rw [if_neg h, if_neg h, List.map_append]
    congr 1
theorem fv_rep {Hf : Hp} {d : D} {f : Fv} {v : V} (h : d.fv? = some f) (r : Rep K Hf d v) : v = f.v := by
  cases r with
  | int i => cases h; rfl
  | bl b => cases h; rfl
  | _ => cases h
theorem putA_length (kvs : List (Int × Fv)) (k : Int) (v : Fv) : (putA kvs k v).length ≤ kvs.length + 1 := by
  unfold putA
  split
  · rw [List.length_map]; omega
  · rw [List.length_append]; exact Nat.le_refl _
theorem ds_dput {i : Nat} {te tk : TE} {fe fk : FE} (hk : DE K W cls tk fk) (he : DE K W cls te fe) : DS K W cls (L2.sDPut (L2.tVar i) tk te) (sDPut i fk fe) := by
  refine ⟨fun Hb H0 Hf H env σ D x h => ?_⟩
  unfold sDPut at h
  split at h
  · rename_i kvs ei
    refine x.exprV he h fun s v Hf2 H1 g2 rv k => ?_
    have x2 := x.step g2
    obtain ⟨ob, eo, p, ev, h0, n, w⟩ := x2.env.any ei
    subst ev
    refine ⟨.ref p, eo, ?_⟩
    refine x2.exprV hk k fun s2 v2 Hf4 H3 g4 rv2 k3 => ?_
    have x4 := x2.step g4
    obtain ⟨ob', eo', p', ev', h0', n', w'⟩ := x4.env.any ei
    subst ev'
    rw [eo] at eo'
    cases eo'
    have w4 : H3 p = some (.dK (kvs.map kqV)) := w'
    cases e2 : s2.d with
    | int j =>
      rw [e2] at k3 rv2
      cases ef : s.d.fv? with
      | none => rw [ef] at k3; exact k3.elim
      | some f =>
        rw [ef] at k3
        dsimp only at k3
        by_cases hl : kvs.length < LIM
        · rw [if_pos hl] at k3
          have ev4 : v = f.v := fv_rep ef rv
          have ek : v2 = kV (Sum.inl j) := rv2.int_inv
          subst ev4 ek
          refine ⟨p, _, rfl, DPut.k w4 (by rw [List.length_map]; exact lim_lt hl), ?_⟩
          refine k3 Hf4 _ σ (Lo.refl _) (x4.put ei eo ?_)
          show upd H3 p _ p = _
          rw [upd_same, put_kq]
        · rw [if_neg hl] at k3
          exact k3.elim
    | _ => rw [e2] at k3; exact k3.elim
  · exact h.elim
theorem rr_dget {Hf H : Hp} {a b : D} {x y : V} (sub : Ex Hf H) (r1 : Rep K Hf a x) (r2 : Rep K Hf b y) {kvs : List (Int × Fv)} {k : Int} (ea : a = .dic kvs) (eb : b = .int k) : ∃ p, x = .ref p ∧ DGet H p y ((getA kvs k).map Fv.v) := by
  subst ea eb
  obtain ⟨p, rfl, hp⟩ := r1.dic_inv
  rw [r2.int_inv]
  exact ⟨p, rfl, .inl ⟨kvs.map kqV, Sum.inl k, sub.lo.rd hp, rfl, (val_get kvs k).symm⟩⟩
theorem Rep.fv {Hf : Hp} (f : Fv) : Rep K Hf f.d f.v := by
  cases f with
  | int i => exact .int i
  | bl b => exact .bl b
theorem de_dget {ta tb : TE} {fa fb : FE} (ha : DE K W cls ta fa) (hb : DE K W cls tb fb) : DE K W cls (tDGet ta tb) (eOp2 dGetK fa fb) := by
  refine ⟨fun H0 Hf H env σ Q sub x h => ?_⟩
  refine ha.then sub x h.x fun s v Hf1 H1 g1 r1 q => ?_
  refine hb.then g1.sub (x.grow g1) q fun s2 v2 Hf2 H2 g2 r2 q2 => ?_
  have r1' := r1.mono g2.lo
  unfold dGetK at q2
  split at q2
  · rename_i kvs k ea eb
    split at q2
    · rename_i f ef
      obtain ⟨p, rfl, dg⟩ := rr_dget g2.sub r1' r2 ea eb
      rw [ef] at dg
      exact ⟨p, f.v, rfl, dg, q2 _ _ _ (g1.trans g2) (Rep.fv f)⟩
    · exact q2.elim
  · exact q2.elim
theorem de_dnotin {ta tb : TE} {fa fb : FE} (ha : DE K W cls ta fa) (hb : DE K W cls tb fb) : DE K W cls (tDNotIn ta tb) (eOp2 dNotInK fa fb) := by
  refine ⟨fun H0 Hf H env σ Q sub x h => ?_⟩
  refine ha.then sub x h.x fun s v Hf1 H1 g1 r1 q => ?_
  refine hb.then g1.sub (x.grow g1) q fun s2 v2 Hf2 H2 g2 r2 q2 => ?_
  have r1' := r1.mono g2.lo
  unfold dNotInK at q2
  split at q2
  · rename_i k kvs eb ea
    obtain ⟨p, rfl, dg⟩ := rr_dget g2.sub r2 r1' ea eb
    refine ⟨p, _, rfl, dg, ?_⟩
    refine q2 _ _ _ (g1.trans g2) ?_
    have e : ((getA kvs k).map Fv.v).isSome = (getA kvs k).isSome := by cases getA kvs k <;> rfl
    rw [e]
    exact .bl _
  · exact q2.elim
theorem de_dget2 {ta tb tc : TE} {fa fb fc : FE} (ha : DE K W cls ta fa) (hb : DE K W cls tb fb) (hc : DE K W cls tc fc) : DE K W cls (tDGet2 ta tb tc) (eGet2 fa fb fc) := by
  refine ⟨fun H0 Hf H env σ Q sub x h => ?_⟩
  refine ha.then sub x h.x fun s v Hf1 H1 g1 r1 q => ?_
  split at q
  · rename_i kvs ea
    rw [ea] at r1
    obtain ⟨p, rfl, hp⟩ := r1.dic_inv
    refine ⟨p, rfl, .inl ⟨_, g1.sub.lo.rd hp⟩, ?_⟩
    refine hb.then g1.sub (x.grow g1) q fun s2 v2 Hf2 H2 g2 r2 q2 => ?_
    refine hc.then g2.sub (x.grow (g1.trans g2)) q2 fun s3 v3 Hf3 H3 g3 r3 q3 => ?_
    unfold dGet2 at q3
    split at q3
    · rename_i k z eb ec
      have r2' := r2.mono g3.lo
      rw [eb] at r2'
      rw [ec] at r3
      obtain ⟨p', e', dg⟩ := rr_dget g3.sub ((Rep.dic hp : Rep K Hf1 (.dic kvs) (.ref p)).mono (g2.trans g3).lo) r2' rfl rfl
      cases e'
      refine ⟨_, dg, q3 _ Hf3 H3 ((g1.trans g2).trans g3) ?_⟩
      rw [r3.int_inv]
      cases getA kvs k with
      | none => exact .int z
      | some f => exact Rep.fv f
    · exact q3.elim
  · exact q.elim
end
end DL
set_option maxRecDepth 100000
namespace DL
open PySem PySem.Spec PyProof.Rows L2
section
variable {K : PySem.W.Frag} {W : WX} {cls : Nat → Addr}
/-! ### defs and calls -/
def PostF (K : PySem.W.Frag) (cls : Nat → Addr) (Hb H : Hp) (r : R Sl) (Q : VK) (E : XK) : Prop := match r with
  | .ok s => ∀ v Hf' H', Grow Hb H Hf' H' → SlV K H Hf' H' s v → Q v H'
  | .xc c => ∀ Hf' H', Grow Hb H Hf' H' → E (.ref (cls c)) none H'
  | .bad => False
/-- a def's promise: it is the function f of data -/
def spF (K : PySem.W.Frag) (cls : Nat → Addr) (n : Nat) (f : List D → R Sl) : Sp := fun vs H Q E => vs.length = n ∧ ∃ (ds : List D) (Hb : Hp), Ex Hb H ∧ RepL K Hb ds vs ∧ PostF K cls Hb H (f ds) Q E
theorem de_call {n : Nat} {f : List D → R Sl} {ta : TA} {fa : FA} (ha : DA K W cls ta fa) : DE K W cls (tCallS (spF K cls n f) (WE W) ta) (eCall n f fa) := by
  refine ⟨fun H0 Hf H env σ Q sub x h => ?_⟩
  refine ha.then sub x h.x fun ds vs Hf1 H1 g1 r1 q => ?_
  by_cases hn : ds.length = n
  · rw [if_pos hn] at q
    refine ⟨by rw [← r1.length]; exact hn, ds, Hf1, g1.sub, r1, ?_⟩
    cases e : f ds with
    | ok s => rw [e] at q; exact fun v Hf' H' g' k => q v Hf' H' (g1.trans g') (k.back sub g1)
    | xc c => rw [e] at q; exact q
    | bad => rw [e] at q; exact q
  · rw [if_neg hn] at q
    exact q.elim
theorem start_env {Hb H : Hp} (N : List Str) {ds : List D} {vs : List V} (r : RepL K Hb ds vs) (hl : vs.length ≤ N.length) : EnvR K H Hb H (ds.map Sl.va ++ List.replicate (N.length - ds.length) .no) (start N vs) := by
  have el := r.length
  have noown : ∀ (i : Nat) (d : D), (ds.map Sl.va ++ List.replicate (N.length - ds.length) Sl.no)[i]? ≠ some (Sl.ow d) := fun i d e => by
    have m := List.mem_of_getElem? e
    rcases List.mem_append.mp m with m | m
    · obtain ⟨_, _, z⟩ := List.mem_map.mp m
      cases z
    · have := (List.mem_replicate.mp m).2
      cases this
  refine ⟨?_, fun i s o e1 e2 => ?_, fun i j p h1 h2 => ?_⟩
  · unfold L2.start
    rw [List.length_append, List.length_append, List.length_map, List.length_map, List.length_replicate, List.length_replicate, el]
  · unfold L2.start at e2
    by_cases hi : i < ds.length
    · rw [List.getElem?_append_left (by rw [List.length_map]; exact hi), List.getElem?_map, List.getElem?_eq_getElem hi] at e1
      cases e1
      rw [List.getElem?_append_left (by rw [List.length_map]; omega), List.getElem?_map] at e2
      obtain ⟨v, ev, rv⟩ := r.get (List.getElem?_eq_getElem hi)
      rw [ev] at e2
      cases e2
      exact ⟨v, rfl, rv⟩
    · rw [List.getElem?_append_right (by rw [List.length_map]; omega), List.getElem?_replicate] at e1
      split at e1
      · cases e1
        trivial
      · cases e1
  · obtain ⟨⟨d, e⟩, _⟩ := h1
    exact absurd e (noown i d)
/-- THE RULE for a def -/
theorem fn_ok {P : Program} {w : World} {mg : Str → Option Value} {base : Heap} {x qual : Str} {st : Stmt} {f : Addr} {fd : FuncData} {N ps : List Str} {k : Nat} {F : FS} (Fn : Fun K x qual st f fd) (S : FnScope N ps (defScope st))
    (hbody : ∀ (cdv : Value) (A : Around) (outer : List PySem.Env) (s : Shared) (H : Hp) (E : XK), Room k (A.deeper (envOfC qual (defScope st) s.heap.objs.size f cdv)) →
      ∃ t, PSs (cxOf (L2.CX P w) P w K mg base N qual (defScope st) f cdv A outer s H E) (defBody st) t ∧ DS K (fun c d _ H => E c d H) cls t F) :
    FnOk P w K mg base (L2.CX P w) (k + 1) f fd ps (spF K cls ps.length (fnOf N.length F)) := by
  refine Fn.okX S (fun vs H Q E h => h.1) fun cdv A outer s H vs Q E hr h => ?_
  obtain ⟨hl, ds, Hb, sub, r, post⟩ := h
  obtain ⟨t, ht, hd⟩ := hbody cdv A outer s H E hr
  have hpl : ps.length ≤ N.length := by
    have := congrArg List.length S.pre
    rw [List.length_take] at this
    omega
  refine ⟨t, ht, hd.run Hb H Hb H _ (start N vs) _ ⟨sub, Grow.refl sub, start_env N r (by rw [hl]; exact hpl)⟩ ?_⟩
  unfold fnOf at post
  cases e : F (ds.map Sl.va ++ List.replicate (N.length - ds.length) .no) with
  | nx e' => rw [e] at post; exact fun Hf' H' σ l x => post .non Hf' H' x.grow .non
  | rt s => rw [e] at post; exact fun v Hf' H' g q => post v Hf' H' g q
  | xc c e' => rw [e] at post; exact fun Hf' H' σ l x => post Hf' H' x.grow
  | bad => rw [e] at post; exact post
/-- a def that may be called by its name -/
structure Cal (P : Program) (w : World) (K : PySem.W.Frag) (mg : Str → Option Value) (base : Heap) (cls : Nat → Addr) (x : Str) (ps : List Str) (k : Nat) (f : List D → R Sl) : Prop where
  ex : ∃ (fa : Addr) (fd : FuncData), FnOk P w K mg base (L2.CX P w) k fa fd ps (spF K cls ps.length f) ∧ mg x = some (.ref fa) ∧ PySem.W.keepIn K (.ref fa) = true ∧ Binds K fd ps []
theorem pe_cal {X : Cx} {W : WX} {cls : Nat → Addr} {x : Str} {ps : List Str} {k : Nat} {f : List D → R Sl} {p pos : Pos} {e : Expr} {es : List Expr} {t : TA} (C : Cal X.prog X.w X.K X.mg X.base cls x ps k f) (hr : Room k X.A) (hg : Gl X x) (tk : Takes X W) (ha : PA X (e :: es) t)
    (hdb : (x == ("__debug__" : Str)) = false := by decide) (he : starEach (e :: es) X.env = (false, eval e X.env) :: starEach es X.env := by rfl) (hpl : (backTo pos (starEach es X.env)).any (·.1) = false := by rfl) :
    PE X (.Call (.Name x p) (e :: es) [] pos) (tCallS (spF X.K cls ps.length f) (WE W) t) := by
  obtain ⟨fa, fd, F, hm, hk, hb⟩ := C.ex
  exact pe_callS F hr hg hm hk hb (fun σ => passAt tk σ) ha hdb he hpl
theorem Cal.mono {P : Program} {w : World} {mg : Str → Option Value} {base : Heap} {x : Str} {ps : List Str} {j k : Nat} {f : List D → R Sl} (C : Cal P w K mg base cls x ps j f) (h : j ≤ k) : Cal P w K mg base cls x ps k f := by
  obtain ⟨fa, fd, F, r⟩ := C.ex
  exact ⟨fa, fd, F.mono h, r⟩

/-! ### try -/
theorem pss_when {X : Cx} {st : List Stmt} {P : Prop} {t : TS} (h : P → PSs X st t) : PSs X st (fun D σ H => P ∧ t D σ H) := ⟨fun pins s σ H D I q => (h q.1).run pins s σ H D I q.2⟩
/-- except X: a suite that asks nothing of the error -/
theorem ds_try {cE : Value} {tb : WX → TS} {ts : Addr → Value → Option Addr → TS} {F G : FS} (hb : ∀ W, DS K W cls (tb W) F) (hs : ∀ a c d, DS K W0 cls (ts a c d) G) (hx : ∀ c, PySem.W.exmOne K (.ref (cls c)) cE = some true) (hG : ∀ e c e', G e ≠ .xc c e') :
    DS K W cls (fun D σ H => tb (wOnly K cE ts (fun _ _ _ _ => False) D) D σ H) (sTry F fun _ => G) := by
  refine ⟨fun Hb H0 Hf H env σ D x h => ?_⟩
  refine (hb _).run Hb H0 Hf H env σ D x ?_
  unfold sTry at h
  cases e : F env with
  | nx e' => rw [e] at h; exact h
  | rt s => rw [e] at h; exact h
  | bad => rw [e] at h; exact h
  | xc c e' =>
    rw [e] at h
    intro Hf' H' σ' l' x'
    refine ⟨true, hx c, fun _ a ha => ?_, fun z => by cases z⟩
    refine (hs a _ none).run Hb H0 Hf' H' e' σ' D x' ?_
    have h2 : PostS K W cls Hb H0 Hf (G e') D := h
    have h3 := PostS.mono h2 l'
    cases eg : G e' with
    | nx e2 => rw [eg] at h3; exact h3
    | rt s => rw [eg] at h3; exact h3
    | bad => rw [eg] at h3; exact h3
    | xc c2 e2 => exact absurd eg (hG _ _ _)
/-- the six marks -/
def marksOf (c : Nat) : List Bool := [c == 0, c == 1, c == 2, c == 3, c == 4, true]
/-- what the suite of the six marks does: at the slot im a new list of them, whatever stood there -/
def SuiteOk (K : PySem.W.Frag) (cls : Nat → Addr) (ix im : Nat) (ts : Addr → Value → Option Addr → TS) : Prop := ∀ (a : Addr) (c : Nat) (D : Ends) (σ : L2.St) (H : Hp), c < 5 → σ[ix]? = some (some (.ref a)) → im < σ.length →
  (∀ p H', H p = none → Ex H H' → H' p = some (.lst ((marksOf c).map V.bl)) → D.nx (σ.set im (some (.ref p))) H') → ts a (.ref (cls c)) none D σ H
theorem grow_plus {Hf H H' : Hp} (sub : Ex Hf H) (ex : Ex H H') : Grow Hf H Hf H' := ⟨sub.trans ex, Ex.refl _, fun a o e n => ⟨ex a o e, n⟩⟩
theorem ds_told {cE : Value} {ix im : Nat} {tb : WX → TS} {ts : Addr → Value → Option Addr → TS} {F : FS} (hb : ∀ W, DS K W cls (tb W) F) (hs : SuiteOk K cls ix im ts) (hx : ∀ c, c < 5 → PySem.W.exmOne K (.ref (cls c)) cE = some true) (hne : ix ≠ im)
    (hfit : ∀ env c e', F env = .xc c e' → e' = env) :
    DS K W cls (fun D σ H => tb (wAs K cE ix ts (fun _ _ _ _ => False) D) D σ H) (sTold ix im F) := by
  refine ⟨fun Hb H0 Hf H env σ D x h => ?_⟩
  unfold sTold at h
  by_cases hl : ix < env.length ∧ im < env.length
  · rw [if_pos hl] at h
    refine (hb _).run Hb H0 Hf H env σ D x ?_
    cases e : F env with
    | nx e' => rw [e] at h; exact h
    | rt s => rw [e] at h; exact h
    | bad => rw [e] at h; exact h
    | xc c e' =>
      rw [e] at h
      intro Hf' H' σ' l' x'
      have h2 : PostS K W cls Hb H0 Hf (if c < 5 then .nx ((e'.set ix .no).set im (.ow (.lst [.bl (c == 0), .bl (c == 1), .bl (c == 2), .bl (c == 3), .bl (c == 4), .bl true]))) else .bad) D := h
      by_cases hc : c < 5
      · rw [if_pos hc] at h2
        have el : σ'.length = env.length := by rw [← x'.env.len]; rw [hfit env c e' e]
        refine ⟨true, hx c hc, fun _ a ha => ?_, fun z => by cases z⟩
        refine hs a c _ (σ'.set ix (some (.ref a))) H' hc (by rw [List.getElem?_set_self (by rw [el]; exact hl.1)]) (by rw [List.length_set, el]; exact hl.2) fun p H2 hp ex hv => ?_
        have g : Grow Hf' H' Hf' H2 := grow_plus x'.sub ex
        have n : Hf' p = none := x'.sub.none_of hp
        have es : ((σ'.set ix (some (.ref a))).set im (some (.ref p))).set ix none = (σ'.set ix none).set im (some (.ref p)) := by
          rw [List.set_comm _ _ (Ne.symm hne), List.set_set]
        show D.nx (((σ'.set ix (some (.ref a))).set im (some (.ref p))).set ix none) H2
        rw [es]
        refine h2 Hf' H2 _ l' ⟨x'.base, x'.grow.trans g, ?_⟩
        have xno : EnvR K H0 Hf' H' (e'.set ix .no) (σ'.set ix none) := by
          refine ⟨by rw [List.length_set, List.length_set]; exact x'.env.len, fun i s o e1 e2 => ?_, fun i j q h1 h2 => ?_⟩
          · rw [List.getElem?_set] at e1 e2
            by_cases hj : ix = i
            · rw [if_pos hj] at e1
              split at e1
              · cases e1; trivial
              · cases e1
            · rw [if_neg hj] at e1 e2
              exact x'.env.slot i s o e1 e2
          · have back : ∀ i, OwnsAt (e'.set ix .no) (σ'.set ix none) i q → OwnsAt e' σ' i q := fun i ⟨⟨d', e1⟩, e2⟩ => by
              rw [List.getElem?_set] at e1 e2
              by_cases hj : ix = i
              · rw [if_pos hj] at e1
                split at e1 <;> cases e1
              · rw [if_neg hj] at e1 e2
                exact ⟨⟨d', e1⟩, e2⟩
            exact x'.env.apart i j q (back i h1) (back j h2)
        refine xno.setSl x'.ex0 g (s := .ow _) ⟨p, rfl, hp, n, _, hv, ?_⟩
        exact .cons (.bl _) (.cons (.bl _) (.cons (.bl _) (.cons (.bl _) (.cons (.bl _) (.cons (.bl _) .nil)))))
      · rw [if_neg hc] at h2
        exact h2.elim
  · rw [if_neg hl] at h
    exact h.elim
theorem sSet_xc (i : Nat) (a : FE) : ∀ env c e', sSet i a env = .xc c e' → e' = env := by
  intro env c e' h
  unfold sSet at h
  cases q : a env with
  | ok s => rw [q] at h; cases h
  | xc c' => rw [q] at h; cases h; rfl
  | bad => rw [q] at h; cases h
end
end DL
set_option maxRecDepth 100000
namespace DL
open PySem PySem.Spec PyProof.Rows L2
theorem OpR.or {X : Cx} {f : Value → Value → Sem Value} {r r' : R2} (h : OpR X f r) (h' : OpR X f r') : OpR X f (fun x y H Q => r x y H Q ∨ r' x y H Q) := by
  intro pins s σ H x y v u Q I rx ry q
  rcases q with q | q
  · exact h pins s σ H x y v u Q I rx ry q
  · exact h' pins s σ H x y v u Q I rx ry q
section
variable {K : PySem.W.Frag}
theorem nx_of {α β : Type} {g : α → R β} (h : ∀ a c, g a ≠ .xc c) : NoXc g := h

/-! ### + -/
def rAddG (K : PySem.W.Frag) : R2 := fun x y H Q => rI0 (fun i j => .int (i + j)) x y H Q ∨ rCat x y H Q ∨ rCatA K x y H Q ∨ (∃ i j, x = .str i ∧ y = .str j ∧ i.length + j.length ≤ sizeLine ∧ Q (.str (i ++ j)) H)
theorem op_addG {X : Cx} : OpR X (binaryOp .Add) (rAddG X.K) := OpR.or op_add (OpR.or op_cat (OpR.or op_catA op_add_str))
theorem nx_add : ∀ a, NoXc (dAdd a) := by
  intro a b c h
  unfold dAdd at h
  split at h <;> (try split at h) <;> cases h
theorem rr_add : RR K (rAddG K) dAdd := by
  intro Hf H a b x y Q sub r1 r2 h
  unfold dAdd at h
  split at h
  · rename_i i j
    exact .inl ⟨i, j, r1.int_inv, r2.int_inv, h _ Hf H (.refl sub) (.int _)⟩
  · rename_i as bs
    split at h
    · rename_i hl
      obtain ⟨p, vs, rfl, hp, rl⟩ := r1.lst_inv
      obtain ⟨q, us, rfl, hq, rl2⟩ := r2.lst_inv
      refine .inr (.inl ⟨p, q, vs, us, rfl, rfl, sub _ _ hp, sub _ _ hq, by rw [← rl.length, ← rl2.length]; exact lim_le hl, fun z hz => ?_⟩)
      exact h (.ref z) Hf _ (Grow.newO sub hz) ⟨z, rfl, hz, sub.none_of hz, _, upd_same, rl.append rl2⟩
    · exact h.elim
  · rename_i as bs
    split at h
    · rename_i hl
      obtain ⟨p, vs, rfl, hp, rl⟩ := r1.tup_inv
      obtain ⟨q, us, rfl, hq, rl2⟩ := r2.tup_inv
      refine .inr (.inr (.inl ⟨p, q, vs, us, rfl, rfl, SqT.of (sub _ _ hp), SqT.of (sub _ _ hq), by rw [← rl.length, ← rl2.length]; exact lim_le hl, fun e => ?_, fun _ e => ?_, fun _ _ z hz => ?_⟩))
      · subst e
        have e2 : as = [] := List.eq_nil_of_length_eq_zero (by rw [rl.length]; rfl)
        subst e2
        exact h (.ref q) Hf H (.refl sub) (.tup hq rl2)
      · subst e
        have e2 : bs = [] := List.eq_nil_of_length_eq_zero (by rw [rl2.length]; rfl)
        subst e2
        refine h (.ref p) Hf H (.refl sub) (.tup hp ?_)
        rw [List.append_nil]
        exact rl
      · exact h (.ref z) _ _ (Grow.new sub hz) (.tup upd_same ((rl.append rl2).mono (Ex.new (sub.none_of hz)).lo))
    · exact h.elim
  · rename_i as bs
    split at h
    · rename_i hl
      exact .inr (.inr (.inr ⟨as, bs, r1.str_inv, r2.str_inv, lim_le hl, h _ Hf H (.refl sub) (.str _)⟩))
    · exact h.elim
  · exact h.elim
/-! ### numbers -/
theorem rr_int {C : Int → Int → Prop} {g : Int → Int → V} {f : D → D → R Sl} (hf : ∀ (Hf H : Hp) (a b : D) (Q : VK), Ex Hf H → PostE K (fun _ _ _ _ => False) (fun _ => 0) Hf H [] (f a b) Q → ∃ i j, a = .int i ∧ b = .int j ∧ C i j ∧ Q (g i j) H) : RR K (rI C g) f := by
  intro Hf H a b x y Q sub r1 r2 h
  obtain ⟨i, j, rfl, rfl, hc, q⟩ := hf Hf H a b Q sub h
  exact ⟨i, j, r1.int_inv, r2.int_inv, hc, q⟩
theorem rr_int0 {g : Int → Int → V} {f : D → D → R Sl} (hf : ∀ (Hf H : Hp) (a b : D) (Q : VK), Ex Hf H → PostE K (fun _ _ _ _ => False) (fun _ => 0) Hf H [] (f a b) Q → ∃ i j, a = .int i ∧ b = .int j ∧ Q (g i j) H) : RR K (rI0 g) f := by
  intro Hf H a b x y Q sub r1 r2 h
  obtain ⟨i, j, rfl, rfl, q⟩ := hf Hf H a b Q sub h
  exact ⟨i, j, r1.int_inv, r2.int_inv, q⟩
theorem nx_sub : ∀ a, NoXc (dSub a) := by
  intro a b c h
  unfold dSub at h
  split at h <;> cases h
theorem rr_sub : RR K (rI0 fun i j => .int (i - j)) dSub := rr_int0 fun Hf H a b Q sub h => by
  unfold dSub at h
  split at h
  · exact ⟨_, _, rfl, rfl, h _ Hf H (.refl sub) (.int _)⟩
  · exact h.elim
theorem nx_mul : ∀ a, NoXc (dMul a) := by
  intro a b c h
  unfold dMul at h
  split at h <;> (try split at h) <;> cases h
theorem rr_mul : RR K (rI CMul fun i j => .int (i * j)) dMul := rr_int fun Hf H a b Q sub h => by
  unfold dMul at h
  split at h
  · rename_i i j
    split at h
    · rename_i hs
      refine ⟨_, _, rfl, rfl, ?_, h _ Hf H (.refl sub) (.int _)⟩
      rw [Bool.or_eq_true] at hs
      rcases hs with hs | hs
      · exact .inl (of_decide_eq_true hs)
      · exact .inr (of_decide_eq_true hs)
    · exact h.elim
  · exact h.elim
theorem nx_floor : ∀ a, NoXc (dFloor a) := by
  intro a b c h
  unfold dFloor at h
  split at h <;> (try split at h) <;> cases h
theorem rr_floor : RR K (rI CDiv fun i j => .int (i / j)) dFloor := rr_int fun Hf H a b Q sub h => by
  unfold dFloor at h
  split at h
  · split at h
    · rename_i hs
      exact ⟨_, _, rfl, rfl, hs, h _ Hf H (.refl sub) (.int _)⟩
    · exact h.elim
  · exact h.elim
theorem nx_mod : ∀ a, NoXc (dMod a) := by
  intro a b c h
  unfold dMod at h
  split at h <;> (try split at h) <;> cases h
theorem rr_mod : RR K (rI (fun _ j => 0 < j) fun i j => .int (i % j)) dMod := rr_int fun Hf H a b Q sub h => by
  unfold dMod at h
  split at h
  · split at h
    · rename_i hs
      exact ⟨_, _, rfl, rfl, hs, h _ Hf H (.refl sub) (.int _)⟩
    · exact h.elim
  · exact h.elim
theorem nx_pow : ∀ a, NoXc (dPow a) := by
  intro a b c h
  unfold dPow at h
  split at h <;> (try split at h) <;> cases h
theorem rr_pow : RR K (rI CPow fun i j => .int (i ^ j.toNat)) dPow := rr_int fun Hf H a b Q sub h => by
  unfold dPow at h
  split at h
  · split at h
    · rename_i hs
      exact ⟨_, _, rfl, rfl, ⟨hs.1.1, hs.1.2, hs.2⟩, h _ Hf H (.refl sub) (.int _)⟩
    · exact h.elim
  · exact h.elim
theorem nx_neg : NoXc dNeg := by
  intro a c h
  unfold dNeg at h
  split at h <;> cases h
theorem ru_neg : RU1 K (rU fun i => .int (-i)) dNeg := by
  intro Hf H a x Q sub r1 h
  unfold dNeg at h
  split at h
  · exact ⟨_, r1.int_inv, h _ Hf H (.refl sub) (.int _)⟩
  · exact h.elim
theorem nx_lt : ∀ a, NoXc (dLt a) := by
  intro a b c h
  unfold dLt at h
  split at h <;> cases h
theorem rr_lt : RR K (rI0 fun i j => .bl (decide (i < j))) dLt := rr_int0 fun Hf H a b Q sub h => by
  unfold dLt at h
  split at h
  · exact ⟨_, _, rfl, rfl, h _ Hf H (.refl sub) (.bl _)⟩
  · exact h.elim
theorem nx_le : ∀ a, NoXc (dLe a) := by
  intro a b c h
  unfold dLe at h
  split at h <;> cases h
theorem rr_le : RR K (rI0 fun i j => .bl (decide (i ≤ j))) dLe := rr_int0 fun Hf H a b Q sub h => by
  unfold dLe at h
  split at h
  · exact ⟨_, _, rfl, rfl, h _ Hf H (.refl sub) (.bl _)⟩
  · exact h.elim
theorem nx_gt : ∀ a, NoXc (dGt a) := by
  intro a b c h
  unfold dGt at h
  split at h <;> cases h
theorem rr_gt : RR K (rI0 fun i j => .bl (decide (j < i))) dGt := rr_int0 fun Hf H a b Q sub h => by
  unfold dGt at h
  split at h
  · exact ⟨_, _, rfl, rfl, h _ Hf H (.refl sub) (.bl _)⟩
  · exact h.elim
theorem nx_ge : ∀ a, NoXc (dGe a) := by
  intro a b c h
  unfold dGe at h
  split at h <;> cases h
theorem rr_ge : RR K (rI0 fun i j => .bl (decide (j ≤ i))) dGe := rr_int0 fun Hf H a b Q sub h => by
  unfold dGe at h
  split at h
  · exact ⟨_, _, rfl, rfl, h _ Hf H (.refl sub) (.bl _)⟩
  · exact h.elim
/-! ### ==, != -/
def toPy : Nat → D → PyData
  | _, .non => .none
  | _, .bl b => .bool b
  | _, .int i => .int i
  | _, .str x => .str x
  | n + 1, .lst ds => .list (ds.map (toPy n))
  | n + 1, .tup ds => .tuple (ds.map (toPy n))
  | _, _ => .none
theorem strOk_of {x : Str} (h : (x.cps.toList.all (fun c => decide (32 ≤ c ∧ c < 127)) && decide (x.length ≤ 100)) = true) : PyData.strOk x = true := by
  rw [Bool.and_eq_true] at h
  unfold PyData.strOk
  rw [← Array.all_toList]
  refine List.all_eq_true.mpr fun c hc => ?_
  have := of_decide_eq_true (List.all_eq_true.mp h.1 c hc)
  exact decide_eq_true (by omega)
theorem canLay_map (f : D → PyData) : ∀ ds : List D, (∀ d ∈ ds, (f d).canLay0 = true) → PyData.canLayAll0 (ds.map f) = true
  | [], _ => rfl
  | d :: r, h => by
    rw [List.map_cons]
    show ((f d).canLay0 && PyData.canLayAll0 (r.map f)) = true
    rw [Bool.and_eq_true]
    exact ⟨h d List.mem_cons_self, canLay_map f r fun e he => h e (List.mem_cons_of_mem _ he)⟩
theorem depth_map (f : D → PyData) (n : Nat) : ∀ ds : List D, (∀ d ∈ ds, (f d).depth ≤ n) → PyData.depthAll (ds.map f) ≤ n
  | [], _ => Nat.zero_le _
  | d :: r, h => by
    rw [List.map_cons]
    show max (f d).depth (PyData.depthAll (r.map f)) ≤ n
    exact Nat.max_le.mpr ⟨h d List.mem_cons_self, depth_map f n r fun e he => h e (List.mem_cons_of_mem _ he)⟩
theorem lev_ok : ∀ (n : Nat) (d : D), d.lev n = true → (toPy n d).canLay0 = true ∧ (toPy n d).depth ≤ n
  | 0, d, h => by
    cases d with
    | non => exact ⟨rfl, Nat.le_refl _⟩
    | bl b => exact ⟨rfl, Nat.le_refl _⟩
    | int i => exact ⟨rfl, Nat.le_refl _⟩
    | str x => exact ⟨strOk_of h, Nat.le_refl _⟩
    | _ => cases (show false = true from h)
  | n + 1, d, h => by
    cases d with
    | non => exact ⟨rfl, Nat.zero_le _⟩
    | bl b => exact ⟨rfl, Nat.zero_le _⟩
    | int i => exact ⟨rfl, Nat.zero_le _⟩
    | str x => exact ⟨strOk_of h, Nat.zero_le _⟩
    | lst ds =>
      have h' := List.all_eq_true.mp (show ds.all (D.lev n) = true from h)
      exact ⟨canLay_map _ ds fun d hd => (lev_ok n d (h' d hd)).1, Nat.succ_le_succ (depth_map _ n ds fun d hd => (lev_ok n d (h' d hd)).2)⟩
    | tup ds =>
      have h' := List.all_eq_true.mp (show ds.all (D.lev n) = true from h)
      exact ⟨canLay_map _ ds fun d hd => (lev_ok n d (h' d hd)).1, Nat.succ_le_succ (depth_map _ n ds fun d hd => (lev_ok n d (h' d hd)).2)⟩
    | _ => cases (show false = true from h)
theorem lev_shaped {n : Nat} (hn : n ≤ 64) {d : D} (h : d.lev n = true) : SeqAt.shaped (toPy n d) = true := by
  obtain ⟨h1, h2⟩ := lev_ok n d h
  show (_ && _) = true
  rw [Bool.and_eq_true]
  exact ⟨h1, decide_eq_true (Nat.le_trans h2 hn)⟩
theorem eqv_list (f g : D → PyData) (h : D → D → Bool) : ∀ (as bs : List D), (∀ a ∈ as, ∀ b ∈ bs, PyData.eqv (f a) (g b) = h a b) → PyData.eqvAll (as.map f) (bs.map g) = allEq h as bs
  | [], [], _ => rfl
  | [], _ :: _, _ => rfl
  | _ :: _, [], _ => rfl
  | a :: as, b :: bs, k => by
    rw [List.map_cons, List.map_cons]
    show (PyData.eqv (f a) (g b) && PyData.eqvAll (as.map f) (bs.map g)) = (h a b && allEq h as bs)
    rw [k a List.mem_cons_self b List.mem_cons_self, eqv_list f g h as bs fun x hx y hy => k x (List.mem_cons_of_mem _ hx) y (List.mem_cons_of_mem _ hy)]
theorem eqv_beq : ∀ (n : Nat) (a b : D), a.lev n = true → b.lev n = true → PyData.eqv (toPy n a) (toPy n b) = beqL n a b
  | 0, a, b, ha, hb => by
    cases a <;> cases b <;> first
      | rfl
      | (cases (show false = true from ha))
      | (cases (show false = true from hb))
  | n + 1, a, b, ha, hb => by
    cases a with
    | lst as =>
      cases b with
      | lst bs => exact eqv_list _ _ _ as bs fun x hx y hy => eqv_beq n x y (List.all_eq_true.mp (show as.all (D.lev n) = true from ha) x hx) (List.all_eq_true.mp (show bs.all (D.lev n) = true from hb) y hy)
      | dic _ => cases (show false = true from hb)
      | scr _ => cases (show false = true from hb)
      | adr _ => cases (show false = true from hb)
      | _ => rfl
    | tup as =>
      cases b with
      | tup bs => exact eqv_list _ _ _ as bs fun x hx y hy => eqv_beq n x y (List.all_eq_true.mp (show as.all (D.lev n) = true from ha) x hx) (List.all_eq_true.mp (show bs.all (D.lev n) = true from hb) y hy)
      | dic _ => cases (show false = true from hb)
      | scr _ => cases (show false = true from hb)
      | adr _ => cases (show false = true from hb)
      | _ => rfl
    | dic _ => cases (show false = true from ha)
    | scr _ => cases (show false = true from ha)
    | adr _ => cases (show false = true from ha)
    | _ =>
      cases b <;> first
        | rfl
        | (cases (show false = true from hb))
theorem dp_list {H : Hp} (f : D → PyData) : ∀ (ds : List D) (vs : List V), RepL K H ds vs → (∀ d ∈ ds, ∀ v, Rep K H d v → Dp K H v (f d)) → DpAll K H vs (ds.map f)
  | _, _, .nil, _ => .nil
  | _, _, .cons r t, h => .cons (h _ List.mem_cons_self _ r) (dp_list f _ _ t fun d hd => h d (List.mem_cons_of_mem _ hd))
theorem dp_of {H : Hp} : ∀ (n : Nat) (d : D) (v : V), d.lev n = true → Rep K H d v → Dp K H v (toPy n d)
  | 0, d, v, h, r => by
    cases r with
    | non => exact .non
    | bl b => exact .bl b
    | int i => exact .int i
    | str x => exact .str x
    | _ => cases (show false = true from h)
  | n + 1, d, v, h, r => by
    cases r with
    | non => exact .non
    | bl b => exact .bl b
    | int i => exact .int i
    | str x => exact .str x
    | lst hp rl => exact .lst (SqL.of hp) (dp_list _ _ _ rl fun d hd v r => dp_of n d v (List.all_eq_true.mp (show List.all _ (D.lev n) = true from h) d hd) r)
    | tup hp rl => exact .tup (SqT.of hp) (dp_list _ _ _ rl fun d hd v r => dp_of n d v (List.all_eq_true.mp (show List.all _ (D.lev n) = true from h) d hd) r)
    | _ => cases (show false = true from h)
def rEqG (K : PySem.W.Frag) : R2 := fun x y H Q => L2.rEq x y H Q ∨ rEqD K x y H Q
def rNeG (K : PySem.W.Frag) : R2 := fun x y H Q => L2.rNe x y H Q ∨ rNeD K x y H Q
theorem op_eqG {X : Cx} (hu : X.A.units + 64 < cLine) : OpR X (compareOp .Eq) (rEqG X.K) := OpR.or op_eq (op_eqD hu)
theorem op_neG {X : Cx} (hu : X.A.units + 64 < cLine) : OpR X (compareOp .NotEq) (rNeG X.K) := OpR.or op_ne (op_neD hu)
theorem nx_eq : ∀ a, NoXc (dEq a) := by
  intro a b c h
  unfold dEq at h
  split at h <;> cases h
theorem nx_ne : ∀ a, NoXc (dNe a) := by
  intro a b c h
  unfold dNe at h
  split at h <;> cases h
theorem cmp_rel {Hf H : Hp} {a b : D} {x y : V} {k : Bool} (sub : Ex Hf H) (r1 : Rep K Hf a x) (r2 : Rep K Hf b y) (h : cmpD a b = some k) :
    (scal x y = true ∧ decide (x = y) = k) ∨ ∃ d e, Dp K H x d ∧ Dp K H y e ∧ SeqAt.shaped d = true ∧ SeqAt.shaped e = true ∧ PyData.eqv d e = k := by
  unfold cmpD at h
  split at h
  · rename_i i j
    rw [r1.int_inv, r2.int_inv]
    refine .inl ⟨rfl, ?_⟩
    have e := Option.some.inj h
    rw [← e]
    by_cases hij : i = j
    · rw [hij]; simp
    · rw [decide_eq_false hij, decide_eq_false]
      intro z
      exact hij (V.int.inj z)
  · rename_i i j
    rw [r1.bl_inv, r2.bl_inv]
    refine .inl ⟨rfl, ?_⟩
    have e := Option.some.inj h
    rw [← e]
    by_cases hij : i = j
    · rw [hij]; simp
    · rw [decide_eq_false hij, decide_eq_false]
      intro z
      exact hij (V.bl.inj z)
  · rename_i i j
    rw [r1.str_inv, r2.str_inv]
    refine .inl ⟨rfl, ?_⟩
    have e := Option.some.inj h
    rw [← e]
    by_cases hij : i = j
    · rw [hij]; simp
    · rw [decide_eq_false hij, decide_eq_false]
      intro z
      exact hij (V.str.inj z)
  · split at h
    · rename_i hl
      rw [Bool.and_eq_true] at hl
      refine .inr ⟨_, _, dp_of 6 _ _ hl.1 (r1.mono sub.lo), dp_of 6 _ _ hl.2 (r2.mono sub.lo), lev_shaped (by decide) hl.1, lev_shaped (by decide) hl.2, ?_⟩
      rw [eqv_beq 6 _ _ hl.1 hl.2]
      exact Option.some.inj h
    · cases h
theorem rr_eq : RR K (rEqG K) dEq := by
  intro Hf H a b x y Q sub r1 r2 h
  unfold dEq at h
  split at h
  · rename_i k e
    have q := h (.bl k) Hf H (.refl sub) (.bl k)
    rcases cmp_rel sub r1 r2 e with ⟨h1, h2⟩ | ⟨d, e', d1, d2, s1, s2, h2⟩
    · exact .inl ⟨h1, by rw [h2]; exact q⟩
    · exact .inr ⟨d, e', d1, d2, s1, s2, by rw [h2]; exact q⟩
  · exact h.elim
theorem rr_ne : RR K (rNeG K) dNe := by
  intro Hf H a b x y Q sub r1 r2 h
  unfold dNe at h
  split at h
  · rename_i k e
    have q := h (.bl (!k)) Hf H (.refl sub) (.bl (!k))
    rcases cmp_rel sub r1 r2 e with ⟨h1, h2⟩ | ⟨d, e', d1, d2, s1, s2, h2⟩
    · exact .inl ⟨h1, by rw [h2]; exact q⟩
    · exact .inr ⟨d, e', d1, d2, s1, s2, by rw [h2]; exact q⟩
  · exact h.elim
/-! ### is None -/
def rIsN : R2 := fun x y H Q => y = .non ∧ Q (.bl (decide (x = .non))) H
def rNotN : R2 := fun x y H Q => y = .non ∧ Q (.bl (!decide (x = .non))) H
def dIsN2 (x _y : D) : R Sl := dIsN x
theorem isNon_rep {Hf : Hp} {a : D} {x : V} (r : Rep K Hf a x) : decide (x = .non) = a.isNon := by
  cases r <;> simp [D.isNon]
theorem de_isN {W : WX} {cls : Nat → Addr} {ta : TE} {fa : FE} (ha : DE K W cls ta fa) : DE K W cls (tOp rIsN ta (tC .non)) (eOp1 dIsN fa) := by
  refine ⟨fun H0 Hf H env σ Q sub x h => ?_⟩
  refine ha.then sub x h.x fun s v Hf1 H1 g1 r1 q => ?_
  refine ⟨rfl, ?_⟩
  rw [isNon_rep r1]
  exact q _ Hf1 H1 g1 (.bl _)
theorem de_notN {W : WX} {cls : Nat → Addr} {ta : TE} {fa : FE} (ha : DE K W cls ta fa) : DE K W cls (tOp rNotN ta (tC .non)) (eOp1 dNotN fa) := by
  refine ⟨fun H0 Hf H env σ Q sub x h => ?_⟩
  refine ha.then sub x h.x fun s v Hf1 H1 g1 r1 q => ?_
  refine ⟨rfl, ?_⟩
  rw [isNon_rep r1]
  exact q _ Hf1 H1 g1 (.bl _)
theorem op_isN' {X : Cx} : OpR X (compareOp .Is) rIsN := op_isN
theorem op_notN' {X : Cx} : OpR X (compareOp .IsNot) rNotN := op_notN
/-! ### not in -/
theorem nx_notIn : ∀ a, NoXc (dNotIn a) := by
  intro a b c h
  unfold dNotIn at h
  split at h <;> (try split at h) <;> cases h
theorem flat_ints {Hf : Hp} {i : Int} : ∀ {ds : List D} {vs : List V}, RepL K Hf ds vs → allInt ds = true → vs.all flatV = true ∧ inV (.int i) vs = ds.any fun d => flatEq d (.int i)
  | _, _, .nil, _ => ⟨rfl, rfl⟩
  | _, _, .cons r t, h => by
    unfold allInt at h
    rw [List.all_cons, Bool.and_eq_true] at h
    obtain ⟨h1, h2⟩ := flat_ints (i := i) t h.2
    cases r with
    | int k =>
      refine ⟨by rw [List.all_cons, h1]; rfl, ?_⟩
      unfold inV at h2 ⊢
      rw [List.any_cons, List.any_cons, h2]
      rfl
    | _ => exact absurd (show false = true from h.1) Bool.false_ne_true
theorem rr_notIn : RR K (rIn K true) dNotIn := by
  intro Hf H a b x y Q sub r1 r2 h
  unfold dNotIn at h
  split at h
  · rename_i i ds
    split at h
    · rename_i ha
      obtain ⟨p, vs, rfl, hp, rl⟩ := r2.lst_inv
      obtain ⟨h1, h2⟩ := flat_ints (i := i) rl ha
      rw [r1.int_inv]
      refine ⟨p, vs, rfl, .inl (SqL.of (sub _ _ hp)), rfl, h1, ?_⟩
      show Q (.bl (!inV (.int i) vs)) H
      rw [h2]
      exact h _ Hf H (.refl sub) (.bl _)
    · exact h.elim
  · rename_i i ds
    split at h
    · rename_i ha
      obtain ⟨p, vs, rfl, hp, rl⟩ := r2.tup_inv
      obtain ⟨h1, h2⟩ := flat_ints (i := i) rl ha
      rw [r1.int_inv]
      refine ⟨p, vs, rfl, .inr (SqT.of (sub _ _ hp)), rfl, h1, ?_⟩
      show Q (.bl (!inV (.int i) vs)) H
      rw [h2]
      exact h _ Hf H (.refl sub) (.bl _)
    · exact h.elim
  · exact h.elim
def rNotInS : R2 := fun x y H Q => ∃ (c : Nat) (z : Str), x = .str ⟨#[c]⟩ ∧ y = .str z ∧ Q (.bl (!decide (c ∈ z.cps.toList))) H
theorem op_notInS {X : Cx} : OpR X (compareOp .NotIn) rNotInS := op_notIn_sign
theorem nx_notInS : ∀ a, NoXc (dNotInS a) := by
  intro a b c h
  unfold dNotInS at h
  split at h <;> (try split at h) <;> cases h
theorem one_sign {x : Str} (h : x.cps.size = 1) : x = ⟨#[x.cps.getD 0 0]⟩ := by
  obtain ⟨⟨l⟩⟩ := x
  match l, h with
  | [c], _ => rfl
theorem rr_notInS : RR K rNotInS dNotInS := by
  intro Hf H a b x y Q sub r1 r2 h
  unfold dNotInS at h
  split at h
  · rename_i i z
    split at h
    · rename_i ha
      refine ⟨i.cps.getD 0 0, z, ?_, r2.str_inv, h _ Hf H (.refl sub) (.bl _)⟩
      rw [r1.str_inv, ← one_sign ha]
    · exact h.elim
  · exact h.elim
/-! ### slices -/
def rSlG (K : PySem.W.Frag) : V → Option Int → Option Int → Hp → VK → Prop := fun x lo hi H Q => rSlL K x lo hi H Q ∨ rSlA K x lo hi H Q ∨ rSlS x lo hi H Q
theorem sl_G {X : Cx} : SlR X (rSlG X.K) := SlR.or sl_list (SlR.or sl_tupA sl_str)
theorem nx_sl : ∀ a l h c, dSl a l h ≠ .xc c := by
  intro a l h c e
  unfold dSl at e
  split at e <;> (try split at e) <;> cases e
theorem sIx_eq (n d : Nat) (o : Option Int) : HT.sIx n d o = sIxD n d o := by cases o <;> rfl
theorem cut_rep {Hf : Hp} {ds : List D} {vs : List V} (rl : RepL K Hf ds vs) (lo hi : Option Int) : RepL K Hf (cutD ds lo hi) (cutV vs lo hi) := by
  unfold cutD cutV
  rw [← rl.length, sIx_eq, sIx_eq]
  exact (rl.drop _).take _
theorem rr_sl : RSl K (rSlG K) dSl := by
  intro Hf H a x lo hi Q sub r1 h
  unfold dSl at h
  split at h
  · obtain ⟨p, vs, rfl, hp, rl⟩ := r1.lst_inv
    refine .inl ⟨p, vs, rfl, SqL.of (sub _ _ hp), fun z hz => ?_⟩
    exact h (.ref z) Hf _ (Grow.newO sub hz) ⟨z, rfl, hz, sub.none_of hz, _, upd_same, cut_rep rl lo hi⟩
  · rename_i ds
    obtain ⟨p, vs, rfl, hp, rl⟩ := r1.tup_inv
    refine .inr (.inl ⟨p, vs, rfl, SqT.of (sub _ _ hp), fun e => ?_, fun e z hz => ?_⟩)
    · refine h (.ref p) Hf H (.refl sub) (.tup hp ?_)
      have ec : cutD ds lo hi = ds := by
        unfold cutD
        rw [rl.length, ← sIx_eq, ← sIx_eq, e.1, e.2, Nat.sub_zero, List.drop_zero, ← rl.length, List.take_length]
      rw [ec]
      exact rl
    · exact h (.ref z) _ _ (Grow.new sub hz) (.tup upd_same ((cut_rep rl lo hi).mono (Ex.new (sub.none_of hz)).lo))
  · rename_i z
    split at h
    · rename_i hl
      refine .inr (.inr ⟨z, r1.str_inv, lim_le hl, ?_⟩)
      have e : cutS z lo hi = ⟨(cutD z.cps.toList lo hi).toArray⟩ := by
        unfold cutS cutD
        rw [sIx_eq, sIx_eq, Array.length_toList]
        rfl
      rw [e]
      exact h _ Hf H (.refl sub) (.str _)
    · exact h.elim
  · exact h.elim
end
end DL
set_option maxRecDepth 100000
namespace DL
open PySem PySem.Spec PyProof.Rows L2
section
variable {K : PySem.W.Frag}
theorem RepL.nil_inv {Hf : Hp} {vs : List V} (r : RepL K Hf [] vs) : vs = [] := by cases r; rfl
theorem RepL.one {Hf : Hp} {d : D} {vs : List V} (r : RepL K Hf [d] vs) : ∃ v, vs = [v] ∧ Rep K Hf d v := by
  cases r with
  | cons h t => cases t; exact ⟨_, rfl, h⟩
theorem RepL.two {Hf : Hp} {d e : D} {vs : List V} (r : RepL K Hf [d, e] vs) : ∃ v u, vs = [v, u] ∧ Rep K Hf d v ∧ Rep K Hf e u := by
  cases r with
  | cons h t =>
    obtain ⟨u, rfl, h2⟩ := t.one
    exact ⟨_, _, rfl, h, h2⟩
theorem Rep.scr_inv {Hf : Hp} {ns : List Int} {v : V} (r : Rep K Hf (.scr ns) v) : ∃ a, v = .ref a ∧ SqL K Hf a (ns.map V.int) := by
  cases r with
  | scr h => exact ⟨_, rfl, h⟩
/-! ### len -/
def rLenG (K : PySem.W.Frag) : List V → Hp → VK → Prop := fun xs H Q => ∃ x n, xs = [x] ∧ LenV K x H n ∧ Q (.int n) H
theorem call_lenG {X : Cx} : CallR X (.builtin "len") (rLenG X.K) := call_len
theorem nx_len : NoXc bLen := by
  intro a c h
  unfold bLen at h
  split at h <;> (try split at h) <;> cases h
theorem rc_len : RCB K (rLenG K) bLen := by
  intro Hf H as xs Q sub r h
  unfold bLen at h
  split at h
  · obtain ⟨v, rfl, r1⟩ := r.one
    obtain ⟨p, vs, rfl, hp, rl⟩ := r1.lst_inv
    exact ⟨_, vs.length, rfl, .inl ⟨vs, SqL.of (sub _ _ hp), rfl⟩, by rw [← rl.length]; exact h _ Hf H (.refl sub) (.int _)⟩
  · obtain ⟨v, rfl, r1⟩ := r.one
    obtain ⟨p, vs, rfl, hp, rl⟩ := r1.tup_inv
    exact ⟨_, vs.length, rfl, .inr ⟨vs, SqT.of (sub _ _ hp), rfl⟩, by rw [← rl.length]; exact h _ Hf H (.refl sub) (.int _)⟩
  · rename_i ns
    obtain ⟨v, rfl, r1⟩ := r.one
    obtain ⟨p, rfl, hp⟩ := r1.scr_inv
    exact ⟨_, ns.length, rfl, .inl ⟨_, sub.lo.sql hp, by rw [List.length_map]⟩, h _ Hf H (.refl sub) (.int _)⟩
  · rename_i z
    split at h
    · rename_i hl
      obtain ⟨v, rfl, r1⟩ := r.one
      exact ⟨_, z.length, rfl, by rw [r1.str_inv]; exact ⟨lim_le hl, rfl⟩, h _ Hf H (.refl sub) (.int _)⟩
    · exact h.elim
  · exact h.elim
def rLenD : List V → Hp → VK → Prop := fun xs H Q => ∃ a kvs, xs = [V.ref a] ∧ Rd H a (.dK kvs) ∧ Q (.int kvs.length) H
theorem call_lenDG {X : Cx} : CallR X (.builtin "len") rLenD := by
  intro pins s σ H xs us Q I r h
  obtain ⟨a, kvs, rfl, ha, q⟩ := h
  obtain ⟨u, rfl, ru⟩ := vals1 r
  cases ru
  exact d_len I ha fun t s' I' => ⟨.int kvs.length, H, I', ⟨t, rfl⟩, q⟩
theorem nx_lenD : NoXc bLenD := by
  intro a c h
  unfold bLenD at h
  split at h <;> cases h
theorem rc_lenD : RCB K rLenD bLenD := by
  intro Hf H as xs Q sub r h
  unfold bLenD at h
  split at h
  · obtain ⟨v, rfl, r1⟩ := r.one
    obtain ⟨p, rfl, hp⟩ := r1.dic_inv
    exact ⟨p, _, rfl, sub.lo.rd hp, by rw [List.length_map]; exact h _ Hf H (.refl sub) (.int _)⟩
  · exact h.elim
/-! ### list, tuple -/
def rListG (K : PySem.W.Frag) : List V → Hp → VK → Prop := fun xs H Q => ∃ p ys, xs = [.ref p] ∧ (SqL K H p ys ∨ SqT K H p ys) ∧ ∀ l, H l = none → Q (.ref l) (upd H l (.lst ys))
theorem call_listG {X : Cx} : CallR X (.type "list") (rListG X.K) := call_list_of
theorem nx_list : NoXc bList := by
  intro a c h
  unfold bList at h
  split at h <;> cases h
theorem rc_list : RCB K (rListG K) bList := by
  intro Hf H as xs Q sub r h
  unfold bList at h
  split at h
  · obtain ⟨v, rfl, r1⟩ := r.one
    obtain ⟨p, vs, rfl, hp, rl⟩ := r1.lst_inv
    refine ⟨p, vs, rfl, .inl (SqL.of (sub _ _ hp)), fun z hz => ?_⟩
    exact h (.ref z) Hf _ (Grow.newO sub hz) ⟨z, rfl, hz, sub.none_of hz, _, upd_same, rl⟩
  · obtain ⟨v, rfl, r1⟩ := r.one
    obtain ⟨p, vs, rfl, hp, rl⟩ := r1.tup_inv
    refine ⟨p, vs, rfl, .inr (SqT.of (sub _ _ hp)), fun z hz => ?_⟩
    exact h (.ref z) Hf _ (Grow.newO sub hz) ⟨z, rfl, hz, sub.none_of hz, _, upd_same, rl⟩
  · exact h.elim
def rTupleG (K : PySem.W.Frag) : List V → Hp → VK → Prop := fun xs H Q => ∃ p ys, xs = [.ref p] ∧ ((SqL K H p ys ∧ ∀ l, H l = none → Q (.ref l) (upd H l (.tup ys))) ∨ (SqT K H p ys ∧ Q (.ref p) H))
theorem call_tupleG {X : Cx} : CallR X (.type "tuple") (rTupleG X.K) := call_tuple_of
theorem nx_tuple : NoXc bTuple := by
  intro a c h
  unfold bTuple at h
  split at h <;> cases h
theorem rc_tuple : RCB K (rTupleG K) bTuple := by
  intro Hf H as xs Q sub r h
  unfold bTuple at h
  split at h
  · obtain ⟨v, rfl, r1⟩ := r.one
    obtain ⟨p, vs, rfl, hp, rl⟩ := r1.lst_inv
    refine ⟨p, vs, rfl, .inl ⟨SqL.of (sub _ _ hp), fun z hz => ?_⟩⟩
    exact h (.ref z) _ _ (Grow.new sub hz) (.tup upd_same (rl.mono (Ex.new (sub.none_of hz)).lo))
  · obtain ⟨v, rfl, r1⟩ := r.one
    obtain ⟨p, vs, rfl, hp, rl⟩ := r1.tup_inv
    exact ⟨p, vs, rfl, .inr ⟨SqT.of (sub _ _ hp), h (.ref p) Hf H (.refl sub) (.tup hp rl)⟩⟩
  · exact h.elim
/-! ### max, min, sum, int -/
def rMax2 : List V → Hp → VK → Prop := fun xs H Q => ∃ i j, xs = [.int i, .int j] ∧ Q (.int (if j > i then j else i)) H
def rMin2 : List V → Hp → VK → Prop := fun xs H Q => ∃ i j, xs = [.int i, .int j] ∧ Q (.int (if j < i then j else i)) H
theorem call_max2G {X : Cx} (hc : X.calm = true) : CallR X (.builtin "max") rMax2 := call_max2 hc
theorem call_min2G {X : Cx} (hc : X.calm = true) : CallR X (.builtin "min") rMin2 := call_min2 hc
theorem nx_max2 : NoXc bMax2 := by
  intro a c h
  unfold bMax2 at h
  split at h <;> cases h
theorem nx_min2 : NoXc bMin2 := by
  intro a c h
  unfold bMin2 at h
  split at h <;> cases h
theorem rc_max2 : RCB K rMax2 bMax2 := by
  intro Hf H as xs Q sub r h
  unfold bMax2 at h
  split at h
  · obtain ⟨v, u, rfl, r1, r2⟩ := r.two
    exact ⟨_, _, by rw [r1.int_inv, r2.int_inv], h _ Hf H (.refl sub) (.int _)⟩
  · exact h.elim
theorem rc_min2 : RCB K rMin2 bMin2 := by
  intro Hf H as xs Q sub r h
  unfold bMin2 at h
  split at h
  · obtain ⟨v, u, rfl, r1, r2⟩ := r.two
    exact ⟨_, _, by rw [r1.int_inv, r2.int_inv], h _ Hf H (.refl sub) (.int _)⟩
  · exact h.elim
def rInt1 : List V → Hp → VK → Prop := fun xs H Q => (∃ i, xs = [.int i] ∧ Q (.int i) H) ∨ ∃ k, xs = [.bl k] ∧ Q (.int (if k then 1 else 0)) H
theorem call_int1G {X : Cx} : CallR X (.type "int") rInt1 := call_int1
theorem nx_int : NoXc bInt := by
  intro a c h
  unfold bInt at h
  split at h <;> cases h
theorem rc_int : RCB K rInt1 bInt := by
  intro Hf H as xs Q sub r h
  unfold bInt at h
  split at h
  · obtain ⟨v, rfl, r1⟩ := r.one
    exact .inl ⟨_, by rw [r1.int_inv], h _ Hf H (.refl sub) (.int _)⟩
  · obtain ⟨v, rfl, r1⟩ := r.one
    exact .inr ⟨_, by rw [r1.bl_inv], h _ Hf H (.refl sub) (.int _)⟩
  · exact h.elim
theorem nx_sum : NoXc bSum := by
  intro a c h
  unfold bSum at h
  split at h <;> (try split at h) <;> cases h
theorem rc_sum : RCB K (rSum K) bSum := by
  intro Hf H as xs Q sub r h
  unfold bSum at h
  split at h
  · split at h
    · rename_i e
      obtain ⟨v, rfl, r1⟩ := r.one
      obtain ⟨p, vs, rfl, hp, rl⟩ := r1.lst_inv
      have ev := rl.ints e
      subst ev
      exact ⟨p, _, rfl, SqL.of (sub _ _ hp), h _ Hf H (.refl sub) (.int _)⟩
    · exact h.elim
  · exact h.elim
theorem foldmax_mem : ∀ (xs : List Int) (x : Int), (xs.foldl (fun a b => if a < b then b else a) x) ∈ x :: xs ∧ ∀ y, y ∈ x :: xs → y ≤ xs.foldl (fun a b => if a < b then b else a) x
  | [], x => ⟨List.mem_cons_self, fun y hy => by
    rcases List.mem_cons.mp hy with rfl | hy
    · exact Int.le_refl _
    · cases hy⟩
  | b :: r, x => by
    rw [List.foldl_cons]
    obtain ⟨h1, h2⟩ := foldmax_mem r (if x < b then b else x)
    by_cases hb : x < b
    · rw [if_pos hb] at h1 h2 ⊢
      refine ⟨List.mem_cons_of_mem _ h1, fun y hy => ?_⟩
      rcases List.mem_cons.mp hy with rfl | hy
      · exact Int.le_trans (Int.le_of_lt hb) (h2 b List.mem_cons_self)
      · exact h2 y hy
    · rw [if_neg hb] at h1 h2 ⊢
      refine ⟨?_, fun y hy => ?_⟩
      · rcases List.mem_cons.mp h1 with e | h1
        · rw [e]; exact List.mem_cons_self
        · exact List.mem_cons_of_mem _ (List.mem_cons_of_mem _ h1)
      · rcases List.mem_cons.mp hy with rfl | hy
        · exact h2 _ List.mem_cons_self
        · rcases List.mem_cons.mp hy with rfl | hy
          · exact Int.le_trans (by omega) (h2 x List.mem_cons_self)
          · exact h2 y (List.mem_cons_of_mem _ hy)
theorem foldmin_mem : ∀ (xs : List Int) (x : Int), (xs.foldl (fun a b => if b < a then b else a) x) ∈ x :: xs ∧ ∀ y, y ∈ x :: xs → xs.foldl (fun a b => if b < a then b else a) x ≤ y
  | [], x => ⟨List.mem_cons_self, fun y hy => by
    rcases List.mem_cons.mp hy with rfl | hy
    · exact Int.le_refl _
    · cases hy⟩
  | b :: r, x => by
    rw [List.foldl_cons]
    obtain ⟨h1, h2⟩ := foldmin_mem r (if b < x then b else x)
    by_cases hb : b < x
    · rw [if_pos hb] at h1 h2 ⊢
      refine ⟨List.mem_cons_of_mem _ h1, fun y hy => ?_⟩
      rcases List.mem_cons.mp hy with rfl | hy
      · exact Int.le_trans (h2 b List.mem_cons_self) (Int.le_of_lt hb)
      · exact h2 y hy
    · rw [if_neg hb] at h1 h2 ⊢
      refine ⟨?_, fun y hy => ?_⟩
      · rcases List.mem_cons.mp h1 with e | h1
        · rw [e]; exact List.mem_cons_self
        · exact List.mem_cons_of_mem _ (List.mem_cons_of_mem _ h1)
      · rcases List.mem_cons.mp hy with rfl | hy
        · exact h2 _ List.mem_cons_self
        · rcases List.mem_cons.mp hy with rfl | hy
          · exact Int.le_trans (h2 x List.mem_cons_self) (by omega)
          · exact h2 y (List.mem_cons_of_mem _ hy)
theorem nx_maxL : NoXc bMaxL := by
  intro a c h
  unfold bMaxL at h
  split at h <;> (try split at h) <;> cases h
theorem nx_minL : NoXc bMinL := by
  intro a c h
  unfold bMinL at h
  split at h <;> (try split at h) <;> cases h
theorem rc_maxL : RCB K (rMax K) bMaxL := by
  intro Hf H as xs Q sub r h
  unfold bMaxL at h
  split at h
  · split at h
    · rename_i x ys e
      obtain ⟨v, rfl, r1⟩ := r.one
      obtain ⟨p, vs, rfl, hp, rl⟩ := r1.lst_inv
      have ev := rl.ints e
      subst ev
      refine ⟨p, _, rfl, SqL.of (sub _ _ hp), Nat.succ_pos _, fun m hm hle => ?_⟩
      obtain ⟨h1, h2⟩ := foldmax_mem ys x
      have e1 : m = maxL (x :: ys) := Int.le_antisymm (h2 m hm) (hle _ h1)
      rw [e1]
      exact h _ Hf H (.refl sub) (.int _)
    · exact h.elim
  · exact h.elim
theorem rc_minL : RCB K (rMin K) bMinL := by
  intro Hf H as xs Q sub r h
  unfold bMinL at h
  split at h
  · split at h
    · rename_i x ys e
      obtain ⟨v, rfl, r1⟩ := r.one
      obtain ⟨p, vs, rfl, hp, rl⟩ := r1.lst_inv
      have ev := rl.ints e
      subst ev
      refine ⟨p, _, rfl, SqL.of (sub _ _ hp), Nat.succ_pos _, fun m hm hle => ?_⟩
      obtain ⟨h1, h2⟩ := foldmin_mem ys x
      have e1 : m = minL (x :: ys) := Int.le_antisymm (hle _ h1) (h2 m hm)
      rw [e1]
      exact h _ Hf H (.refl sub) (.int _)
    · exact h.elim
  · exact h.elim
/-! ### sorted(d) -/
theorem insI_mem (x : Int) : ∀ ys : List Int, (insI x ys).Perm (x :: ys)
  | [] => .refl _
  | y :: ys => by
    unfold insI
    split
    · exact .refl _
    · exact ((insI_mem x ys).cons y).trans (.swap x y ys)
theorem sortI_perm : ∀ xs : List Int, (sortI xs).Perm xs
  | [] => .refl _
  | x :: xs => (insI_mem x (sortI xs)).trans ((sortI_perm xs).cons x)
theorem insI_sorted (x : Int) : ∀ ys : List Int, ys.Pairwise (· ≤ ·) → (insI x ys).Pairwise (· ≤ ·)
  | [], _ => List.pairwise_singleton _ _
  | y :: ys, h => by
    unfold insI
    rw [List.pairwise_cons] at h
    split
    · rename_i hx
      refine List.pairwise_cons.mpr ⟨fun z hz => ?_, List.pairwise_cons.mpr h⟩
      rcases List.mem_cons.mp hz with rfl | hz
      · exact hx
      · exact Int.le_trans hx (h.1 z hz)
    · rename_i hx
      refine List.pairwise_cons.mpr ⟨fun z hz => ?_, insI_sorted x ys h.2⟩
      have hz' := (insI_mem x ys).mem_iff.mp hz
      rcases List.mem_cons.mp hz' with rfl | hz'
      · omega
      · exact h.1 z hz'
theorem sortI_sorted : ∀ xs : List Int, (sortI xs).Pairwise (· ≤ ·)
  | [] => .nil
  | x :: xs => insI_sorted x _ (sortI_sorted xs)
theorem sorted_uniq : ∀ {xs ys : List Int}, xs.Perm ys → xs.Pairwise (· ≤ ·) → ys.Pairwise (· ≤ ·) → xs = ys
  | [], ys, p, _, _ => (List.nil_perm.mp p).symm
  | x :: xs, [], p, _, _ => absurd p.length_eq (by simp)
  | x :: xs, y :: ys, p, h1, h2 => by
    rw [List.pairwise_cons] at h1 h2
    have e : x = y := by
      have hx : x ∈ y :: ys := p.mem_iff.mp List.mem_cons_self
      have hy : y ∈ x :: xs := p.mem_iff.mpr List.mem_cons_self
      rcases List.mem_cons.mp hx with e | hx
      · exact e
      · rcases List.mem_cons.mp hy with e | hy
        · exact e.symm
        · exact Int.le_antisymm (h1.1 y hy) (h2.1 x hx)
    subst e
    rw [sorted_uniq (p.cons_inv) h1.2 h2.2]
def rSortD : List V → Hp → VK → Prop := fun xs H Q => ∃ (a : Addr) (kvs : List (Key × V)) (ks : List Int), xs = [.ref a] ∧ Rd H a (.dK kvs) ∧ kvs.map (·.1) = ks.map Sum.inl ∧ ks.length < 64 ∧
    ∀ (ys : List Int) (p : Addr), ys.Perm ks → ys.Pairwise (· ≤ ·) → H p = none → Q (.ref p) (upd H p (.lst (ys.map V.int)))
theorem call_sortD {X : Cx} (hc : X.calm = true) : CallR X (.builtin "sorted") rSortD := call_sortedDI hc
theorem nx_sortD : NoXc bSortedD := by
  intro a c h
  unfold bSortedD at h
  split at h <;> (try split at h) <;> cases h
theorem rc_sortD : RCB K rSortD bSortedD := by
  intro Hf H as xs Q sub r h
  unfold bSortedD at h
  split at h
  · rename_i kvs
    split at h
    · rename_i hl
      obtain ⟨v, rfl, r1⟩ := r.one
      obtain ⟨p, rfl, hp⟩ := r1.dic_inv
      refine ⟨p, _, kvs.map (·.1), rfl, sub.lo.rd hp, ?_, by rw [List.length_map]; exact hl, fun ys z hp hs hz => ?_⟩
      · rw [List.map_map, List.map_map]
        refine List.map_congr_left fun q _ => ?_
        show (kqV q).1 = _
        rw [kqV_eq]
        rfl
      · have e : ys = sortI (kvs.map (·.1)) := sorted_uniq (hp.trans (sortI_perm _).symm) hs (sortI_sorted _)
        subst e
        exact h (.ref z) Hf _ (Grow.newO sub hz) ⟨z, rfl, hz, sub.none_of hz, _, upd_same, RepL.ofInts _⟩
    · exact h.elim
  · exact h.elim
/-! ### isinstance of plain values -/
def tyName : D → Option String
  | .non => some "NoneType"
  | .bl _ => some "bool"
  | .int _ => some "int"
  | .str _ => some "str"
  | .lst _ => some "list"
  | .tup _ => some "tuple"
  | _ => none
theorem tyx_of {Hf H : Hp} {d : D} {v : V} {T : String} (sub : Ex Hf H) (r : Rep K Hf d v) (h : tyName d = some T) : TyX K H v (.type T) := by
  cases r with
  | non => cases h; exact .base .non
  | bl b => cases h; exact .base (.bl b)
  | int i => cases h; exact .base (.int i)
  | str x => cases h; exact .base (.str x)
  | lst hp rl => cases h; exact .base (.lst (sub _ _ hp))
  | tup hp rl => cases h; exact .base (.tup (sub _ _ hp))
  | dic _ => cases h
  | scr _ => cases h
  | adr _ => cases h
theorem kit_all : ∀ a ∈ ["NoneType", "bool", "int", "str", "list", "tuple"], ∀ b ∈ ["int", "bool", "str", "list", "tuple"], kitB a b = some (decide (a = b ∨ (a = "bool" ∧ b = "int"))) := by decide +kernel
theorem isTy_kit {T : String} (hT : T ∈ ["int", "bool", "str", "list", "tuple"]) {d : D} {b : Bool} (h : isTy T d = some b) : ∃ a, tyName d = some a ∧ kitB a T = some b := by
  have k := fun a ha => kit_all a ha T hT
  simp only [List.mem_cons, List.not_mem_nil, or_false] at hT
  rcases hT with rfl | rfl | rfl | rfl | rfl <;> cases d <;> cases h <;> exact ⟨_, rfl, by rw [k _ (by simp)]; decide⟩
def dIsi (T : String) (x : D) : R Sl := bIsi T [x]
theorem de_isi {W : WX} {cls : Nat → Addr} {T : String} {te : TE} {fe : FE} (he : DE K W cls te fe) (hT : T ∈ ["int", "bool", "str", "list", "tuple"] := by decide) : DE K W cls (tCB (rIsi K) (tCons te (tCons (tC (.ty T)) tNil))) (eOp1 (fun x => bIsi T [x]) fe) := by
  refine ⟨fun H0 Hf H env σ Q sub x h => ?_⟩
  refine he.then sub x h.x fun s v Hf1 H1 g1 r1 q => ?_
  unfold bIsi at q
  dsimp only at q
  split at q
  · rename_i b e
    obtain ⟨a, e1, e2⟩ := isTy_kit hT e
    exact ⟨v, .ty T, .type a, .type T, b, rfl, .ty T, tyx_of g1.sub r1 e1, kit_ty e2, q _ _ H1 g1 (.bl b)⟩
  · exact q.elim
/-! ### methods of lists of ints -/
theorem de_bmL {W : WX} {cls : Nat → Addr} {r : V → List V → Hp → VK → Prop} {g : List D → D → R Sl} {ta tb : TE} {fa fb : FE}
    (hr : ∀ (Hf H : Hp) (ds : List D) (d : D) (p : Addr) (vs : List V) (v : V) (Q : VK), Ex Hf H → Hf p = some (.lst vs) → RepL K Hf ds vs → Rep K Hf d v → PostE K (fun _ _ _ _ => False) (fun _ => 0) Hf H [] (g ds d) Q → r (.ref p) [v] H Q)
    (hn : ∀ a, NoXc (g a)) (ha : DE K W cls ta fa) (hb : DE K W cls tb fb) : DE K W cls (tBM K "list" r ta (tCons tb tNil)) (eBm g fa fb) := by
  refine ⟨fun H0 Hf H env σ Q sub x h => ?_⟩
  refine ha.then sub x h.x fun s v Hf1 H1 g1 r1 q => ?_
  split at q
  · rename_i ds e
    rw [e] at r1
    obtain ⟨p, vs, rfl, hp, rl⟩ := r1.lst_inv
    refine ⟨.inl ⟨rfl, vs, SqL.of (g1.sub _ _ hp)⟩, ?_⟩
    refine hb.then g1.sub (x.grow g1) q fun s2 v2 Hf2 H2 g2 r2 q2 => ?_
    exact hr Hf2 H2 ds s2.d p vs v2 Q g2.sub (g2.lo.lst hp) (rl.mono g2.lo) r2 ((q2.behind sub (g1.trans g2)).noxc (hn _ _))
  · exact q.elim
theorem nx_count : ∀ a, NoXc (dCount a) := by
  intro a b c h
  unfold dCount at h
  split at h <;> (try split at h) <;> cases h
theorem nx_index : ∀ a, NoXc (dIndex a) := by
  intro a b c h
  unfold dIndex at h
  split at h <;> (try split at h) <;> (try split at h) <;> cases h
theorem de_count {W : WX} {cls : Nat → Addr} {ta tb : TE} {fa fb : FE} (ha : DE K W cls ta fa) (hb : DE K W cls tb fb) : DE K W cls (tBM K "list" (rCntI K) ta (tCons tb tNil)) (eBm dCount fa fb) := by
  refine de_bmL (fun Hf H ds d p vs v Q sub hp rl r h => ?_) nx_count ha hb
  unfold dCount at h
  split at h
  · split at h
    · rename_i e
      have ev := rl.ints e
      subst ev
      exact ⟨p, _, _, rfl, by rw [r.int_inv], SqL.of (sub _ _ hp), h _ Hf H (.refl sub) (.int _)⟩
    · exact h.elim
  · exact h.elim
theorem de_index {W : WX} {cls : Nat → Addr} {ta tb : TE} {fa fb : FE} (ha : DE K W cls ta fa) (hb : DE K W cls tb fb) : DE K W cls (tBM K "list" (rIndex K) ta (tCons tb tNil)) (eBm dIndex fa fb) := by
  refine de_bmL (fun Hf H ds d p vs v Q sub hp rl r h => ?_) nx_index ha hb
  unfold dIndex at h
  split at h
  · rename_i k
    split at h
    · rename_i ns e
      split at h
      · rename_i hm
        have ev := rl.ints e
        subst ev
        have hlt : ns.idxOf k < ns.length := List.idxOf_lt_length_of_mem hm
        have hflat : (ns.map V.int).all flatV = true := by
          refine List.all_eq_true.mpr fun y hy => ?_
          obtain ⟨n, _, rfl⟩ := List.mem_map.mp hy
          rfl
        refine ⟨p, _, .int k, ns.idxOf k, .int k, rfl, by rw [r.int_inv], SqL.of (sub _ _ hp), rfl, hflat, ?_, ?_, fun m z hm2 hz => ?_, h _ Hf H (.refl sub) (.int _)⟩
        · rw [List.getElem?_map, List.getElem?_eq_getElem hlt, List.getElem_idxOf]
          rfl
        · show (k == k) = true
          exact beq_self_eq_true k
        · rw [List.getElem?_map] at hz
          cases q : ns[m]? with
          | none => rw [q] at hz; cases hz
          | some n =>
            rw [q] at hz
            have ez : V.int n = z := Option.some.inj hz
            subst ez
            show (n == k) = false
            refine beq_eq_false_iff_ne.mpr fun e => ?_
            subst e
            have hl := (List.getElem?_eq_some_iff.mp q).1
            have e2 : ns[m] = n := (List.getElem?_eq_some_iff.mp q).2
            have := List.not_of_lt_findIdx (p := fun x => x == n) (xs := ns) hm2
            rw [e2] at this
            simp at this
      · exact h.elim
    · exact h.elim
  · exact h.elim
end
end DL
set_option maxRecDepth 100000
namespace DL
open PySem PySem.Spec PyProof.Rows L2
/-! ### the program's error classes -/
def vChain : List Value := [.type "ValueError", .type "Exception", .type "BaseException", .type "object"]
/-- a class that the program raises -/
structure ErrC (K : PySem.W.Frag) (mg : Str → Option Value) (x : Str) (C : Addr) : Prop where
  g : mg x = some (.ref C)
  k : PySem.W.keepIn K (.ref C) = true
  x : PySem.W.excIn K C vChain "ValueError.__new__" = true
  b : PySem.W.subIn K (.ref C) (.type "BaseException") = some true
  t : PySem.W.typeIn K (.ref C) = some (.type "type")
theorem ErrC.raises {X : Cx} {x : Str} {C : Addr} (e : ErrC X.K X.mg x C) : Raises X (.ref C) := raises_own e.b e.t
/-- raise X('m') -/
theorem ps_raiseD {X : Cx} {W : WX} {x m : Str} {C : Addr} {j : Nat} {p p2 pos pos' : Pos} (hc : X.calm = true) (tk : Takes X W) (e : ErrC X.K X.mg x C) (hg : Gl X x) (hdb : (x == ("__debug__" : Str)) = false := by decide) :
    PS X (.Raise (some (.Call (.Name x p) [.Constant (.str m) j p2] [] pos)) none pos') (fun _ σ H => W (.ref C) none σ H) :=
  ps_raise (t := fun _ H Q => Q (.ref C) none H) hc tk (pmk_own PySem.F.excBase_ValueError e.x e.g e.k e.raises hg hdb)
/-- what is asked of the classes for the six marks; n: their names' addresses -/
structure ErrK (K : PySem.W.Frag) (mg : Str → Option Value) (cls : Nat → Addr) (cE : Addr) : Prop where
  gE : mg "CordError" = some (.ref cE)
  names : ∀ c, c < 5 → mg (["Crowded", "NoSheet", "NoPlace", "NoMove", "NoNote"].getD c "") = some (.ref (cls c))
  exm : ∀ c, c < 5 → PySem.W.exmOne K (.ref (cls c)) (.ref cE) = some true
  kit : ∀ c, c < 5 → ∀ j, j < 5 → PySem.W.kitOne K (.ref (cls c)) (.ref (cls j)) = some (c == j)
  kitV : ∀ c, c < 5 → PySem.W.kitOne K (.ref (cls c)) (.type "ValueError") = some true
  exc : ∀ c, c < 5 → ExcC K (cls c)
def tIsE (K : PySem.W.Frag) (Dx a : Addr) (ix : Nat) (v : V) : TE := tCB (rIsE K Dx a) (tCons (L2.tVar ix) (tCons (tC v) tNil))
/-- the suite's reading: the class of the error comes as Dx -/
def tSuiteR (K : PySem.W.Frag) (cs : List V) (ix im : Nat) (a Dx : Addr) : TS :=
  tSeq (tAsg (tLst (tCons (tIsE K Dx a ix (cs.getD 0 .non)) (tCons (tIsE K Dx a ix (cs.getD 1 .non)) (tCons (tIsE K Dx a ix (cs.getD 2 .non)) tNil)))) (gName im))
      (tSeq (tAsg (tOp (rAddG K) (L2.tVar im) (tLst (tCons (tIsE K Dx a ix (cs.getD 3 .non)) (tCons (tIsE K Dx a ix (cs.getD 4 .non)) (tCons (tIsE K Dx a ix (cs.getD 5 .non)) tNil))))) (gName im)) tNext)
def tSuite (K : PySem.W.Frag) (cs : List V) (ix im : Nat) (a : Addr) (cl : Value) (d : Option Addr) : TS := match cl with
  | .ref Dx => fun D σ H => (d = none ∧ ExcC K Dx) ∧ tSuiteR K cs ix im a Dx D σ H
  | _ => fun _ _ _ => False
theorem pss_suite {X : Cx} {b : List Stmt} {cs : List V} {ix im : Nat} {a : Addr} {c : Value} {d : Option Addr} (h : ∀ Dx, c = .ref Dx → d = none → ExcC X.K Dx → PSs X b (tSuiteR X.K cs ix im a Dx)) : PSs X b (tSuite X.K cs ix im a c d) := by
  unfold tSuite
  split
  · rename_i Dx
    exact pss_when fun q => h Dx rfl q.1 q.2
  · exact ⟨fun pins s σ H D I q => q.elim⟩
def csOf (cls : Nat → Addr) : List V := [.ref (cls 0), .ref (cls 1), .ref (cls 2), .ref (cls 3), .ref (cls 4), .ty "ValueError"]
theorem isE_ok {K : PySem.W.Frag} {Dx a : Addr} {ix : Nat} {v : V} {cv : Value} {b : Bool} {σ : L2.St} {H : Hp} {Q : VK} (hσ : σ[ix]? = some (some (.ref a))) (hv : ∀ u, RelV v u → u = cv) (hk : PySem.W.kitOne K (.ref Dx) cv = some b) (h : Q (.bl b) H) : tIsE K Dx a ix v σ H Q :=
  ⟨.ref a, hσ, v, cv, b, rfl, hv, hk, h⟩
theorem suite_ok {K : PySem.W.Frag} {mg : Str → Option Value} {cls : Nat → Addr} {cE : Addr} (E : ErrK K mg cls cE) {ix im : Nat} (hne : ix ≠ im) : SuiteOk K cls ix im (tSuite K (csOf cls) ix im) := by
  intro a c D σ H hc hσ him k
  refine ⟨⟨rfl, E.exc c hc⟩, ?_⟩
  have one : ∀ j, j < 5 → ∀ {σ : L2.St} {H : Hp} {Q : VK}, σ[ix]? = some (some (.ref a)) → Q (.bl (c == j)) H → tIsE K (cls c) a ix (.ref (cls j)) σ H Q := fun j hj {σ H Q} hs h =>
    isE_ok hs (fun u r => r) (E.kit c hc j hj) h
  have two : ∀ {σ : L2.St} {H : Hp} {Q : VK}, σ[ix]? = some (some (.ref a)) → Q (.bl true) H → tIsE K (cls c) a ix (.ty "ValueError") σ H Q := fun {σ H Q} hs h =>
    isE_ok hs (fun u r => r) (E.kitV c hc) h
  refine one 0 (by decide) hσ (one 1 (by decide) hσ (one 2 (by decide) hσ ⟨by show 3 ≤ sizeLine; decide, fun p hp => ?_⟩))
  have hσ2 : (σ.set im (some (.ref p)))[ix]? = some (some (.ref a)) := by rw [List.getElem?_set_ne (Ne.symm hne)]; exact hσ
  refine ⟨.ref p, by rw [List.getElem?_set_self him], one 3 (by decide) hσ2 (one 4 (by decide) hσ2 (two hσ2 ⟨by show 3 ≤ sizeLine; decide, fun q hq => ?_⟩))⟩
  have hpq : p ≠ q := fun e => by
    rw [← e, upd_same] at hq
    cases hq
  refine .inr (.inl ⟨p, q, _, _, rfl, rfl, by rw [upd_ne hpq, upd_same], upd_same, by show 3 + 3 ≤ sizeLine; decide, fun z hz => ?_⟩)
  have hzq : q ≠ z := fun e => by
    rw [← e, upd_same] at hz
    cases hz
  have hz1 : (upd H p (.lst [V.bl (c == 0), V.bl (c == 1), V.bl (c == 2)])) z = none := by
    rw [upd_ne (Ne.symm hzq)] at hz
    exact hz
  have hz0 : H z = none := by
    have hzp : z ≠ p := fun e => by
      rw [e, upd_same] at hz1
      cases hz1
    rw [upd_ne hzp] at hz1
    exact hz1
  have fin := k z (upd (upd (upd H p (.lst [V.bl (c == 0), V.bl (c == 1), V.bl (c == 2)])) q (.lst [V.bl (c == 3), V.bl (c == 4), V.bl true])) z (.lst ([V.bl (c == 0), V.bl (c == 1), V.bl (c == 2)] ++ [V.bl (c == 3), V.bl (c == 4), V.bl true]))) hz0
    (((Ex.new hp).trans (Ex.new hq)).trans (Ex.new hz)) upd_same
  show D.nx ((σ.set im (some (.ref p))).set im (some (.ref z))) _
  rw [List.set_set]
  exact fin
end DL
set_option maxRecDepth 100000
namespace DL
open PySem PySem.Spec PyProof.Rows L2
section
variable {K : PySem.W.Frag} {W : WX} {cls : Nat → Addr}
theorem de_fz {ta : TE} {fa : FE} (ha : DE K W cls ta fa) : DE K W cls ta (eFz fa) := by
  refine ⟨fun H0 Hf H env σ Q sub x h => ?_⟩
  refine ha.run H0 Hf H env σ Q sub x ?_
  unfold eFz at h
  cases e : fa env with
  | ok s =>
    rw [e] at h
    intro v Hf' H' g q
    obtain ⟨Hf2, g2, r⟩ := q.rep sub g
    exact h v Hf2 H' g2 r
  | xc c => rw [e] at h; exact h
  | bad => rw [e] at h; exact h
theorem ds_retO {i : Nat} : DS K W cls (tRet (L2.tVar i)) (sRetO i) := by
  refine ⟨fun Hb H0 Hf H env σ D x h => ?_⟩
  unfold sRetO at h
  cases e : env[i]? with
  | none => rw [e] at h; exact h.elim
  | some s =>
    rw [e] at h
    cases s with
    | no => exact h.elim
    | va d =>
      obtain ⟨o, eo, v, ev, r⟩ := x.env.any e
      subst ev
      exact ⟨v, eo, h v Hf H x.grow r⟩
    | ow d =>
      obtain ⟨o, eo, r⟩ := x.env.any e
      obtain ⟨p, ev, q⟩ := r
      subst ev
      exact ⟨_, eo, h _ Hf H x.grow ⟨p, rfl, q⟩⟩
theorem de_dnew : DE K W cls tDNewK eDNew := by
  refine ⟨fun H0 Hf H env σ Q sub x h => ?_⟩
  refine fun p hp => h (.ref p) Hf _ (Grow.newO sub hp) ⟨p, rfl, hp, sub.none_of hp, upd_same⟩
theorem de_d1 {k v : Int} : DE K W cls (tDisp [(tC (.int k), tC (.int v))]) (eD1 k v) := by
  refine ⟨fun H0 Hf H env σ Q sub x h => ?_⟩
  refine fun p hp => ?_
  show upd H p (.dK []) p = _ ∧ _
  refine ⟨upd_same, [(Sum.inl k, V.int v)], rfl, by show 1 ≤ 15; decide, ?_⟩
  rw [upd_upd]
  exact h (.ref p) Hf _ (Grow.newO sub hp) ⟨p, rfl, hp, sub.none_of hp, upd_same⟩
end
end DL
set_option maxRecDepth 100000
namespace DL
open PySem PySem.Spec PyProof.Rows L2
theorem boot_VE : bootBuiltins "ValueError" = some (.type "ValueError") := by decide +kernel
/-- an error of the class at C is what 'except E' names, E a class above it -/
theorem exm_of {K : PySem.W.Frag} {S C : Addr} (h1 : PySem.W.subIn K (.ref C) (.type "BaseException") = some true) (h2 : PySem.W.isClsIn K C = true) (h3 : PySem.W.typeIn K (.ref C) = some (.type "type")) (h4 : PySem.W.subIn K (.ref S) (.ref C) = some true) :
    PySem.W.exmOne K (.ref S) (.ref C) = some true := by
  have e1 : (PySem.W.subIn K (.ref C) (.type "BaseException") == some true) = true := by rw [h1] <;> rfl
  have e2 : ((PySem.W.clsIn K C).isSome && PySem.W.typeIn K (.ref C) == some (.type "type")) = true := by
    have h2' : (PySem.W.clsIn K C).isSome = true := h2
    rw [h2', h3] <;> rfl
  show (if (PySem.W.subIn K (.ref C) (.type "BaseException") == some true) = true then (if ((PySem.W.clsIn K C).isSome && PySem.W.typeIn K (.ref C) == some (.type "type")) = true then PySem.W.subIn K (.ref S) (.ref C) else none) else none) = some true
  rw [if_pos e1, if_pos e2]
  exact h4
/-- the built-in names that the module leaves alone -/
structure Bo (mg : Str → Option Value) : Prop where
  len : mg "len" = none
  isi : mg "isinstance" = none
  range : mg "range" = none
  list : mg "list" = none
  tuple : mg "tuple" = none
  max : mg "max" = none
  min : mg "min" = none
  int : mg "int" = none
  bool : mg "bool" = none
  str : mg "str" = none
  sum : mg "sum" = none
  sorted : mg "sorted" = none
  set : mg "set" = none
  ve : mg "ValueError" = none
/-- the program's error classes, and what the marks ask of them -/
structure Et (K : PySem.W.Frag) (mg : Str → Option Value) (cls : Nat → Addr) (cE : Addr) : Prop where
  e0 : ErrC K mg "Crowded" (cls 0)
  e1 : ErrC K mg "NoSheet" (cls 1)
  e2 : ErrC K mg "NoPlace" (cls 2)
  e3 : ErrC K mg "NoMove" (cls 3)
  e4 : ErrC K mg "NoNote" (cls 4)
  K : ErrK K mg cls cE
def clsOf (c0 c1 c2 c3 c4 : Addr) : Nat → Addr
  | 0 => c0
  | 1 => c1
  | 2 => c2
  | 3 => c3
  | _ => c4
/-- the law's promise -/
def spLaw (K : PySem.W.Frag) (f : List D → R Sl) : Sp := fun vs H Q _ => ∃ (a : Addr) (ns : List Int), vs = [.ref a] ∧ SqL K H a (ns.map V.int) ∧ ns.length ≤ 63 ∧ ∀ H', Q (.bl true) H'
theorem law_imp {K : PySem.W.Frag} {cls : Nat → Addr} {f : List D → R Sl} (hf : ∀ ns : List Int, ns.length ≤ 63 → f [.scr ns] = .ok (.va (.bl true))) : ∀ vs H Q E, spLaw K f vs H Q E → spF K cls 1 f vs H Q E := by
  rintro vs H Q E ⟨a, ns, rfl, hs, hl, k⟩
  refine ⟨rfl, [.scr ns], H, Ex.refl _, .cons (.scr hs) .nil, ?_⟩
  rw [hf ns hl]
  intro v Hf' H' g q
  have q : Rep K Hf' (.bl true) v := q
  rw [q.bl_inv]
  exact k H'
theorem cx_no {P : Program} {w : World} {outer : List PySem.Env} {H : Hp} {s s' : Shared} {u : Value} (h : L2.CX P w outer H s (fun _ _ _ => False) u s') : False := by
  obtain ⟨_, _, _, _, _, _, _, _, _, _, _, _, h⟩ := h
  exact h
/-! ### rules with the fragment told: for blocks of comprehensions -/
section
variable {X : Cx} {K : PySem.W.Frag}
theorem op_addK (h : X.K = K) : OpR X (binaryOp .Add) (rAddG K) := by subst h; exact op_addG
theorem op_eqK (h : X.K = K) (hu : X.A.units + 64 < cLine) : OpR X (compareOp .Eq) (rEqG K) := by subst h; exact op_eqG hu
theorem op_neK (h : X.K = K) (hu : X.A.units + 64 < cLine) : OpR X (compareOp .NotEq) (rNeG K) := by subst h; exact op_neG hu
theorem op_notInK (h : X.K = K) : OpR X (compareOp .NotIn) (rIn K true) := by subst h; exact op_notIn_seq
theorem ix_seqK (h : X.K = K) : IxR X (rIx K) := by subst h; exact ix_seq
theorem sl_K (h : X.K = K) : SlR X (rSlG K) := by subst h; exact sl_G
theorem call_lenK (h : X.K = K) : CallR X (.builtin "len") (rLenG K) := by subst h; exact call_lenG
theorem call_listK (h : X.K = K) : CallR X (.type "list") (rListG K) := by subst h; exact call_listG
theorem call_tupleK (h : X.K = K) : CallR X (.type "tuple") (rTupleG K) := by subst h; exact call_tupleG
theorem call_sumK (h : X.K = K) (hc : X.calm = true) : CallR X (.builtin "sum") (rSum K) := by subst h; exact cr_sum hc
theorem call_maxK (h : X.K = K) (hc : X.calm = true) : CallR X (.builtin "max") (rMax K) := by subst h; exact cr_max hc
theorem call_minK (h : X.K = K) (hc : X.calm = true) : CallR X (.builtin "min") (rMin K) := by subst h; exact cr_min hc
theorem call_isiW (h : X.K = K) : CallR X (.builtin "isinstance") (rIsi K) := by subst h; exact call_isi
theorem pi_bothK {tg l : Expr} {tl : TE} (h : X.K = K) (hl : PE X l tl) : PI X tg l (iBoth K tl) := by subst h; exact pi_both hl
theorem mt_indexK (h : X.K = K) : MtR X "list.index" (rIndex K) := by subst h; exact mt_index
theorem mt_countK (h : X.K = K) : MtR X "list.count" (rCntI K) := by subst h; exact mt_lcount
theorem pe_bmK {T name id : String} {r : V → List V → Hp → VK → Prop} {o e : Expr} {es : List Expr} {to : TE} {t : TA} {apos cpos : Pos} (h : X.K = K) (pa : PlainAttrs T) (slot : Slot T name id) (hty : typeOf (.builtin id) = pure (.type "method_descriptor")) (hm : MtR X id r) (ho : PE X o to) (ha : PA X (e :: es) t)
    (hbase : attributeBase o name X.env (eval o X.env) = eval o X.env := by rfl)
    (hfew : ((backTo cpos (starEach (e :: es) X.env)).all (fun x => !x.1) && (backToKw cpos (keywordEach [] X.env)).all (fun x => x.1.isSome)
      && decide ((e :: es).length + ([] : List Keyword).length + (if ([] : List Keyword).isEmpty then 0 else 1) < 30)) = true := by rfl)
    (hline : (apos.endLine == cpos.line) = true := by rfl) (hs : starEach (e :: es) X.env = (false, eval e X.env) :: starEach es X.env := by rfl) (hplain : (backTo cpos (starEach es X.env)).any (·.1) = false := by rfl) :
    PE X (.Call (.Attribute o name apos) (e :: es) [] cpos) (tBM K T r to t) := by
  subst h
  exact pe_bm pa slot hty hm ho ha hbase hfew hline hs hplain
theorem pe_calK {P : Program} {w : World} {mg : Str → Option Value} {base : Heap} {W : WX} {cls : Nat → Addr} {x : Str} {ps : List Str} {k : Nat} {f : List D → R Sl} {p pos : Pos} {e : Expr} {es : List Expr} {t : TA} (C : Cal P w K mg base cls x ps k f)
    (h1 : X.prog = P) (h2 : X.w = w) (h3 : X.K = K) (h4 : X.mg = mg) (h5 : X.base = base) (hr : Room k X.A) (hg : Gl X x) (tk : Takes X W) (ha : PA X (e :: es) t)
    (hdb : (x == ("__debug__" : Str)) = false := by decide) (he : starEach (e :: es) X.env = (false, eval e X.env) :: starEach es X.env := by rfl) (hpl : (backTo pos (starEach es X.env)).any (·.1) = false := by rfl) :
    PE X (.Call (.Name x p) (e :: es) [] pos) (tCallS (spF K cls ps.length f) (WE W) t) := by
  subst h1 h2 h3 h4 h5
  exact pe_cal C hr hg tk ha hdb he hpl
end
end DL
set_option maxRecDepth 100000
namespace DL
open PySem PySem.Spec PyProof.Rows L2
/-! ### lists of lists that change: told over the reading -/
section
variable {K : PySem.W.Frag} {cls : Nat → Addr}
theorem intsD_rep {Hf : Hp} {d : D} {r : List Int} {v : V} (h : intsD d = some r) (rep : Rep K Hf d v) : ∃ p, v = .ref p ∧ (Hf p = some (.lst (r.map V.int)) ∨ Hf p = some (.tup (r.map V.int))) := by
  cases d with
  | lst es =>
    obtain ⟨p, vs, rfl, hp, rl⟩ := rep.lst_inv
    rw [rl.ints h] at hp
    exact ⟨p, rfl, .inl hp⟩
  | tup es =>
    obtain ⟨p, vs, rfl, hp, rl⟩ := rep.tup_inv
    rw [rl.ints h] at hp
    exact ⟨p, rfl, .inr hp⟩
  | _ => cases h
theorem rowsL_get : ∀ {ds : List D} {rs : List (List Int)}, rowsL ds = some rs → ds.length = rs.length ∧ ∀ (n : Nat) (d : D), ds[n]? = some d → ∃ r, rs[n]? = some r ∧ intsD d = some r
  | [], rs, h => by
    have : [] = rs := Option.some.inj h
    subst this
    exact ⟨rfl, fun n d e => by simp at e⟩
  | d :: ds, rs, h => by
    unfold rowsL at h
    cases e1 : intsD d with
    | none => rw [e1] at h; cases h
    | some r =>
      rw [e1] at h
      cases e2 : rowsL ds with
      | none => rw [e2] at h; cases h
      | some rr =>
        rw [e2] at h
        have : r :: rr = rs := Option.some.inj h
        subst this
        obtain ⟨hl, hg⟩ := rowsL_get e2
        refine ⟨by rw [List.length_cons, List.length_cons, hl], fun n d' e => ?_⟩
        cases n with
        | zero =>
          have : d = d' := by simpa using e
          subst this
          exact ⟨r, rfl, e1⟩
        | succ n => exact hg n d' (by simpa using e)
theorem set_sameI {xs : List Int} {i : Nat} {x : Int} (h : xs[i]? = some x) : xs.set i x = xs := by
  apply List.ext_getElem?
  intro j
  rw [List.getElem?_set]
  by_cases e : i = j
  · subst e
    rw [if_pos rfl, if_pos (List.getElem?_eq_some_iff.mp h).1, h]
  · rw [if_neg e]
/-- copies of the sequences in a sequence, in a new list -/
theorem lc_copies {Hf H : Hp} {σ : L2.St} {i j : Nat} {own : List Nat} {d : D} {v : V} {rs : List (List Int)} {Q : VK} (sub : Ex Hf H) (hj : j ∈ own) (hjl : j < σ.length) (hσ : σ[i]? = some (some v)) (rep : Rep K Hf d v) (hd : rowsD d = some rs) (hl : rs.length < 1000)
    (k : ∀ (L : Addr) (ps : List Addr) (H' : Hp), Ex H H' → H L = none → H' L = some (.lst (ps.map V.ref)) → ps.length = rs.length → (∀ (n : Nat) (p : Addr) (r : List Int), ps[n]? = some p → rs[n]? = some r → H' p = some (.lst (r.map V.int))) → (∀ p ∈ ps, H p = none) → (L :: ps).Nodup → Q (.ref L) H') :
    tLc (iBoth K (L2.tVar i)) (gName j) L2.tYes (tCB (rListG K) (tCons (L2.tVar j) tNil)) own σ H Q := by
  have core : ∀ (J : It) (ds : List D), rowsL ds = some rs → JOk K J Hf ds → ∀ D, H D = none → ∃ W : Nat → Nat → Hp → Prop, (∃ m, W 0 m (upd H D (.lst []))) ∧ ∀ i m H, W i m H →
      (J.stop i H ∧ Q (.ref D) H) ∨ (J.go i H ∧ ∃ Nx : Hp → Prop, (∀ H', Nx H' → ∃ m', m' < m ∧ W (i + 1) m' H') ∧ ∀ x H', J.yld i H x H' → gName j x (wipe σ own) H' fun σ2 H2 => wipe σ2 own = wipe σ own ∧ L2.tYes σ2 H2 fun b H3 =>
        if b = true then tCB (rListG K) (tCons (L2.tVar j) tNil) σ2 H3 fun y H4 => ∃ acc, H4 D = some (.lst acc) ∧ acc.length < sizeLine ∧ Nx (upd H4 D (.lst (acc ++ [y]))) else Nx H3) := by
    intro J ds hds jk L hL
    obtain ⟨hlen, hget⟩ := rowsL_get hds
    refine ⟨fun i m H' => m = rs.length - i ∧ i ≤ rs.length ∧ ∃ ps : List Addr, ps.length = i ∧ Ex H H' ∧ H' L = some (.lst (ps.map V.ref)) ∧ (∀ (n : Nat) (p : Addr) (r : List Int), ps[n]? = some p → rs[n]? = some r → H' p = some (.lst (r.map V.int))) ∧ (∀ p ∈ ps, H p = none) ∧ (L :: ps).Nodup,
      ⟨rs.length, by simp, Nat.zero_le _, [], rfl, Ex.new hL, upd_same, (fun n p r e1 e2 => by simp at e1), (fun p m => by cases m), by simp⟩, ?_⟩
    rintro i m H' ⟨rfl, hi, ps, hps, ex, hLp, hc, hn, nd⟩
    have lo : Lo Hf H' := (sub.trans ex).lo
    by_cases hlt : i < rs.length
    · refine .inr ⟨jk.go i H' lo (by rw [hlen]; exact hlt), fun H'' => rs.length - (i + 1) = rs.length - (i + 1) ∧ i + 1 ≤ rs.length ∧ ∃ ps : List Addr, ps.length = i + 1 ∧ Ex H H'' ∧ H'' L = some (.lst (ps.map V.ref)) ∧ (∀ (n : Nat) (p : Addr) (r : List Int), ps[n]? = some p → rs[n]? = some r → H'' p = some (.lst (r.map V.int))) ∧ (∀ p ∈ ps, H p = none) ∧ (L :: ps).Nodup,
        fun H'' q => ⟨_, by omega, q⟩, fun x H'' hy => ?_⟩
      obtain ⟨rfl, d', ed, rd⟩ := jk.yld i H' x H'' lo (by rw [hlen]; exact hlt) hy
      obtain ⟨r, er, hr⟩ := hget i d' ed
      obtain ⟨q, rfl, hq⟩ := intsD_rep hr rd
      show wipe ((wipe σ own).set j (some (V.ref q))) own = wipe σ own ∧ _
      refine ⟨wipe_set σ hj _, ?_⟩
      show tCB (rListG K) (tCons (L2.tVar j) tNil) _ _ _
      refine ⟨V.ref q, by rw [List.getElem?_set_self (by rw [wipe_length]; exact hjl)], q, r.map V.int, rfl, ?_, fun l hl => ?_⟩
      · rcases hq with hq | hq
        · exact .inl (SqL.of (sub.trans ex _ _ hq))
        · exact .inr (SqT.of (sub.trans ex _ _ hq))
      · have hlL : L ≠ l := ne_of_none hLp hl
        have hl0 : H l = none := ex.none_of hl
        refine ⟨ps.map V.ref, by rw [upd_ne hlL]; exact hLp, lim_lt (by rw [List.length_map, hps]; show i < 1000000; omega), rfl, hlt, ps ++ [l], by rw [List.length_append, hps]; rfl, fun a o e => ?_, by rw [upd_same, List.map_append]; rfl, fun n p r' e1 e2 => ?_, fun p m => ?_, ?_⟩
        · have h1 : a ≠ L := ne_of_none e hL
          have h2 : a ≠ l := ne_of_none e hl0
          rw [upd_ne h1, upd_ne h2]
          exact ex a o e
        · by_cases hni : n < ps.length
          · rw [List.getElem?_append_left hni] at e1
            have hpm := List.mem_of_getElem? e1
            have hp := hc n p r' e1 e2
            have h1 : p ≠ L := fun e => by
              rw [e] at hpm
              exact (List.nodup_cons.mp nd).1 hpm
            have h2 : p ≠ l := ne_of_none hp hl
            rw [upd_ne h1, upd_ne h2]
            exact hp
          · rw [List.getElem?_append_right (by omega)] at e1
            have hn0 : n - ps.length = 0 := by
              cases q2 : n - ps.length with
              | zero => rfl
              | succ z => rw [q2] at e1; simp at e1
            rw [hn0] at e1
            have : l = p := by simpa using e1
            subst this
            have hni2 : n = i := by omega
            subst hni2
            rw [er] at e2
            cases e2
            rw [upd_ne hlL.symm, upd_same]
        · rcases List.mem_append.mp m with m | m
          · exact hn p m
          · rw [List.mem_singleton] at m
            subst m
            exact hl0
        · rw [← List.cons_append]
          refine List.nodup_append.mpr ⟨nd, by simp, fun a ha b hb e => ?_⟩
          rw [List.mem_singleton] at hb
          subst hb; subst e
          rcases List.mem_cons.mp ha with z | z
          · exact hlL z.symm
          · obtain ⟨n, hn1, hn2⟩ := List.mem_iff_getElem.mp z
            have hr1 : rs[n]? = some rs[n] := List.getElem?_eq_getElem (by omega)
            have := hc n a _ (by rw [List.getElem?_eq_getElem hn1, hn2]) hr1
            rw [hl] at this
            cases this
    · have : i = rs.length := by omega
      subst this
      exact .inl ⟨jk.stop _ H' lo (by rw [hlen]; exact Nat.le_refl _), k L ps H' ex hL hLp hps hc hn nd⟩
  cases d with
  | lst ds =>
    obtain ⟨p, vs, rfl, hp, rl⟩ := rep.lst_inv
    exact ⟨_, hσ, .inl ⟨p, rfl, ⟨vs, SqL.of (sub _ _ hp)⟩, core _ ds hd (jok_list hp rl)⟩⟩
  | tup ds =>
    obtain ⟨p, vs, rfl, hp, rl⟩ := rep.tup_inv
    exact ⟨_, hσ, .inr ⟨p, rfl, ⟨vs, SqT.of (sub _ _ hp)⟩, core _ ds hd (jok_tup hp rl)⟩⟩
  | _ => cases hd
theorem at_ints {xs : List Int} {i : Nat} {x : Int} (h : xs[i]? = some x) : atI (xs.map V.int) (i : Int) = some (.int x) := by
  obtain ⟨hl, hv⟩ := List.getElem?_eq_some_iff.mp h
  unfold atI ixN
  rw [if_pos (by omega), if_pos (by rw [List.length_map]; omega)]
  show (xs.map V.int)[((i : Nat) : Int).toNat]? = _
  rw [Int.toNat_natCast, List.getElem?_map, h]
  rfl
theorem at_refs {ps : List Addr} {i : Nat} {p : Addr} (h : ps[i]? = some p) : atI (ps.map V.ref) (i : Int) = some (.ref p) := by
  obtain ⟨hl, hv⟩ := List.getElem?_eq_some_iff.mp h
  unfold atI ixN
  rw [if_pos (by omega), if_pos (by rw [List.length_map]; omega)]
  show (ps.map V.ref)[((i : Nat) : Int).toNat]? = _
  rw [Int.toNat_natCast, List.getElem?_map, h]
  rfl
/-- for e in ..: if row[e] == old: row[e] = new -/
theorem ren_loop {wi : TI} {tO tN : TE} {r je : Nat} {σ : L2.St} {H : Hp} {p : Addr} {xs : List Int} {old new : Int} {D : Ends} (hr : r ≠ je) (hjl : je < σ.length) (hσ : σ[r]? = some (some (.ref p))) (hp : H p = some (.lst (xs.map V.int)))
    (hwi : ∀ R : It → Hp → Prop, R (Itr 0 xs.length) H → wi σ H R)
    (hO : ∀ (σ' : L2.St) (ys : List V) (Q : VK), (∀ i, i ≠ je → σ'[i]? = σ[i]?) → Q (.int old) (upd H p (.lst ys)) → tO σ' (upd H p (.lst ys)) Q)
    (hN : ∀ (σ' : L2.St) (ys : List V) (Q : VK), (∀ i, i ≠ je → σ'[i]? = σ[i]?) → Q (.int new) (upd H p (.lst ys)) → tN σ' (upd H p (.lst ys)) Q)
    (hD : ∀ σ', σ'.length = σ.length → (∀ i, i ≠ je → σ'[i]? = σ[i]?) → D.nx σ' (upd H p (.lst ((xs.map (ren old new)).map V.int)))) :
    tFor wi (gName je) (tIfS (tTest (tOp (rEqG K) (tOp (rIx K) (L2.tVar r) (L2.tVar je)) tO)) (tAsg tN (gSub (L2.tVar r) (L2.tVar je) rSetL)) tNext) D σ H := by
  refine hwi _ ?_
  refine for_range (lo := 0) (n := xs.length) (fun i σ' H' => σ'.length = σ.length ∧ (∀ z, z ≠ je → σ'[z]? = σ[z]?) ∧ H' = upd H p (.lst ((((xs.take i).map (ren old new)) ++ xs.drop i).map V.int))) ⟨rfl, fun _ _ => rfl, ?_⟩ ?_ ?_
  · rw [List.take_zero, List.map_nil, List.drop_zero, List.nil_append, upd_id hp]
  · rintro i σ' H' hi ⟨hl, hs, rfl⟩
    rw [Int.zero_add]
    have hx : xs[i]? = some xs[i] := List.getElem?_eq_getElem hi
    have hlen : (((xs.take i).map (ren old new)) ++ xs.drop i).length = xs.length := by
      rw [List.length_append, List.length_map, List.length_take, List.length_drop]
      omega
    have hcur : (((xs.take i).map (ren old new)) ++ xs.drop i)[i]? = some xs[i] := by
      rw [List.getElem?_append_right (by rw [List.length_map, List.length_take]; omega), List.length_map, List.length_take, Nat.min_eq_left (Nat.le_of_lt hi), Nat.sub_self, List.getElem?_drop, Nat.add_zero, hx]
    have hnxt : (((xs.take i).map (ren old new)) ++ xs.drop i).set i (ren old new xs[i]) = ((xs.take (i + 1)).map (ren old new)) ++ xs.drop (i + 1) := by
      rw [List.take_succ_eq_append_getElem hi, List.map_append, List.append_assoc, List.drop_eq_getElem_cons hi]
      rw [List.set_append_right _ _ (by rw [List.length_map, List.length_take]; omega), List.length_map, List.length_take, Nat.min_eq_left (Nat.le_of_lt hi), Nat.sub_self]
      rfl
    generalize ((xs.take i).map (ren old new)) ++ xs.drop i = cur at *
    have s1 : (σ'.set je (some (V.int (i : Nat))))[r]? = some (some (.ref p)) := by rw [List.getElem?_set_ne hr.symm, hs r hr, hσ]
    have s2 : (σ'.set je (some (V.int (i : Nat))))[je]? = some (some (.int (i : Nat))) := by rw [List.getElem?_set_self (by rw [hl]; exact hjl)]
    have s3 : ∀ z, z ≠ je → (σ'.set je (some (V.int (i : Nat))))[z]? = σ[z]? := fun z hz => by rw [List.getElem?_set_ne hz.symm, hs z hz]
    have hul : (upd H p (.lst (cur.map V.int))) p = some (.lst (cur.map V.int)) := upd_same
    refine ⟨_, s1, _, s2, .inl ⟨p, _, _, _, rfl, rfl, SqL.of hul, at_ints hcur, ?_⟩⟩
    refine hO _ _ _ s3 (.inl ⟨rfl, _, rfl, ?_⟩)
    by_cases c : xs[i] = old
    · rw [decide_eq_true (by rw [c])]
      refine iteT ?_
      refine hN _ _ _ s3 ⟨_, s1, _, s2, p, _, _, i, rfl, rfl, hul, ?_, ?_⟩
      · unfold ixN
        rw [if_pos (by omega), if_pos (by rw [List.length_map, hlen]; omega), Int.toNat_natCast]
      · refine ⟨by rw [List.length_set, hl], s3, ?_⟩
        rw [upd_upd, ← hnxt]
        have : ren old new xs[i] = new := if_pos c
        rw [this]
        congr 2
        exact List.map_set.symm
    · rw [decide_eq_false (fun z => c (V.int.inj z))]
      refine iteF ?_
      refine ⟨by rw [List.length_set, hl], s3, ?_⟩
      rw [← hnxt]
      have : ren old new xs[i] = xs[i] := if_neg c
      rw [this]
      congr 3
      exact (set_sameI hcur).symm
  · rintro σ' H' ⟨hl, hs, rfl⟩
    rw [List.take_length, List.drop_length, List.append_nil]
    exact hD σ' hl hs
end
end DL
set_option maxRecDepth 100000
namespace DL
open PySem PySem.Spec PyProof.Rows L2
section
variable {K : PySem.W.Frag} {cls : Nat → Addr}
/-- what a cell of ints holds -/
def unInt : V → Option Int
  | .int i => some i
  | _ => none
def cellOf (H : Hp) (p : Addr) : List Int := match H p with
  | some (.lst vs) => vs.filterMap unInt
  | _ => []
theorem filterMap_id : ∀ (r : List Int), (r.map V.int).filterMap unInt = r
  | [] => rfl
  | x :: r => by
    rw [List.map_cons, List.filterMap_cons]
    show x :: (r.map V.int).filterMap unInt = _
    rw [filterMap_id r]
theorem cellOf_eq {H : Hp} {p : Addr} {r : List Int} (h : H p = some (.lst (r.map V.int))) : cellOf H p = r := by
  unfold cellOf
  rw [h]
  exact filterMap_id r
theorem cells_map {H : Hp} {ps : List Addr} {rs : List (List Int)} (hl : ps.length = rs.length) (hc : ∀ (n : Nat) (p : Addr) (r : List Int), ps[n]? = some p → rs[n]? = some r → H p = some (.lst (r.map V.int))) : ps.map (cellOf H) = rs := by
  apply List.ext_getElem
  · rw [List.length_map, hl]
  · intro n h1 h2
    rw [List.getElem_map]
    rw [List.length_map] at h1
    exact cellOf_eq (hc n _ _ (List.getElem?_eq_getElem h1) (List.getElem?_eq_getElem h2))
theorem cutV_from {xs : List V} {k : Nat} (h : k ≤ xs.length) : cutV xs (some (k : Int)) none = xs.drop k := by
  unfold cutV
  rw [sIx_eq, sIx_eq]
  exact cut_to h
def t_lawJoined (K : PySem.W.Frag) (cls : Nat → Addr) (num : List D → R Sl) (W : WX) : TS :=
  tSeq (tAsg (tLc (iBoth K (L2.tVar 0)) (gName 6) L2.tYes (tCB (rListG K) (tCons (L2.tVar 6) tNil)) [6]) (gName 3))
  (tSeq (tAsg (tLc (iBoth K (L2.tVar 2)) (gName 8) L2.tYes (tCB (rListG K) (tCons (L2.tVar 8) tNil)) [8]) (gName 2))
  (tSeq (tFor (iRng1 (tCons (tCB (rLenG K) (tCons (L2.tVar 2) tNil)) tNil)) (gName 4)
    (tSeq (tAsg (tOp (rIx K) (tOp (rIx K) (L2.tVar 2) (L2.tVar 4)) (tC (.int 1))) (gName 5))
    (tSeq (tIfS (tTest (tOp (rEqG K) (tOp (rIx K) (tOp (rIx K) (L2.tVar 2) (L2.tVar 4)) (tC (.int 0))) (L2.tVar 5))) (tAsg (tOp (rAddG K) (L2.tVar 1) (tC (.int 1))) (gName 1)) tNext)
      (tFor (iBoth K (tOp (rAddG K) (L2.tVar 3) (tSl (rSlG K) (L2.tVar 2) (tPart (tOp (rAddG K) (L2.tVar 4) (tC (.int 1)))) tNoPart))) (gName 6)
        (tFor (iRng1 (tCons (tCB (rLenG K) (tCons (L2.tVar 6) tNil)) tNil)) (gName 7)
          (tIfS (tTest (tOp (rEqG K) (tOp (rIx K) (L2.tVar 6) (L2.tVar 7)) (L2.tVar 5)))
            (tAsg (tOp (rIx K) (tOp (rIx K) (L2.tVar 2) (L2.tVar 4)) (tC (.int 0))) (gSub (L2.tVar 6) (L2.tVar 7) rSetL)) tNext))))))
   (tRet (tTup (tCons (tCallS (spF K cls 1 num) (WE W) (tCons (L2.tVar 3) tNil)) (tCons (L2.tVar 1) tNil))))))
/-- cells at the places qs -/
def Cells (H : Hp) (qs : List Addr) : Prop := ∀ p ∈ qs, H p = some (.lst ((cellOf H p).map V.int))
theorem Cells.at {H : Hp} {qs : List Addr} (c : Cells H qs) {n : Nat} {p : Addr} (h : qs[n]? = some p) : H p = some (.lst ((cellOf H p).map V.int)) := c p (List.mem_of_getElem? h)
/-- the walk over row's items, for every row of a list -/
theorem ren_rows {a : Addr} {A : List Addr} {H : Hp} {σ : L2.St} {old new : Int} {tO tN : TE} {D : Ends} {rj je : Nat} (hrj : rj ≠ je) (hlr : rj < σ.length) (hle : je < σ.length) (ha : H a = some (.lst (A.map V.ref))) (haA : a ∉ A) (nd : A.Nodup) (hc : Cells H A) (hsz : ∀ p ∈ A, (cellOf H p).length < 1000000)
    (hO : ∀ (σ' : L2.St) (H' : Hp) (Q : VK), (∀ i, i ≠ je → i ≠ rj → σ'[i]? = σ[i]?) → (∀ b, b ∉ A → H' b = H b) → Q (.int old) H' → tO σ' H' Q)
    (hN : ∀ (σ' : L2.St) (H' : Hp) (Q : VK), (∀ i, i ≠ je → i ≠ rj → σ'[i]? = σ[i]?) → (∀ b, b ∉ A → H' b = H b) → Q (.int new) H' → tN σ' H' Q)
    (hD : ∀ σ' H', σ'.length = σ.length → (∀ i, i ≠ je → i ≠ rj → σ'[i]? = σ[i]?) → (∀ b, b ∉ A → H' b = H b) → (∀ p ∈ A, H' p = some (.lst (((cellOf H p).map (ren old new)).map V.int))) → D.nx σ' H') :
    ∃ W : Nat → Nat → L2.St → Hp → Prop, (∃ m, W 0 m σ H) ∧ ∀ i m σ H, W i m σ H →
      ((Itl K a).stop i H ∧ D.nx σ H) ∨ ((Itl K a).go i H ∧ ∃ N : L2.St → Hp → Prop, (∀ σ' H', N σ' H' → ∃ m', m' < m ∧ W (i + 1) m' σ' H') ∧ ∀ x H', (Itl K a).yld i H x H' → gName rj x σ H' fun σ2 H2 => tFor (iRng1 (tCons (tCB (rLenG K) (tCons (L2.tVar rj) tNil)) tNil)) (gName je) (tIfS (tTest (tOp (rEqG K) (tOp (rIx K) (L2.tVar rj) (L2.tVar je)) tO)) (tAsg tN (gSub (L2.tVar rj) (L2.tVar je) rSetL)) tNext) { D with nx := N, ct := N, bk := D.nx } σ2 H2) := by
  refine for_list (K := K) (a := a) (xs := A.map V.ref) (fun i σ' H' => σ'.length = σ.length ∧ (∀ z, z ≠ je → z ≠ rj → σ'[z]? = σ[z]?) ∧ (∀ b, b ∉ A → H' b = H b) ∧ ∀ (n : Nat) (p : Addr), A[n]? = some p → H' p = some (.lst ((if n < i then (cellOf H p).map (ren old new) else cellOf H p).map V.int)))
    ⟨rfl, fun _ _ _ => rfl, fun _ _ => rfl, fun n p e => by rw [if_neg (Nat.not_lt_zero n)]; exact hc.at e⟩ ?_ ?_ ?_
  · intro i σ' H' _ ⟨_, _, h3, _⟩
    exact SqL.of (by rw [h3 a haA]; exact ha)
  · rintro i x σ' H' hx ⟨hl, hs, hb, hcc⟩
    rw [List.getElem?_map] at hx
    cases e : A[i]? with
    | none => rw [e] at hx; cases hx
    | some p =>
      rw [e] at hx
      have ex : V.ref p = x := Option.some.inj hx
      subst ex
      have hp := hcc i p e
      rw [if_neg (Nat.lt_irrefl i)] at hp
      have hpm := List.mem_of_getElem? e
      have hA : ∀ ys, ∀ b, b ∉ A → (upd H' p (.lst ys)) b = H b := fun ys b hb2 => by
        have : b ≠ p := fun z => hb2 (z ▸ hpm)
        rw [upd_ne this, hb b hb2]
      have hss : ∀ σ'' : L2.St, (∀ z, z ≠ je → σ''[z]? = (σ'.set rj (some (V.ref p)))[z]?) → ∀ z, z ≠ je → z ≠ rj → σ''[z]? = σ[z]? := fun σ'' h z h1 h2 => by
        rw [h z h1, List.getElem?_set_ne h2.symm, hs z h1 h2]
      show tFor _ _ _ _ (σ'.set rj (some (V.ref p))) H'
      refine ren_loop hrj (by rw [List.length_set, hl]; exact hle) (by rw [List.getElem?_set_self (by rw [hl]; exact hlr)]) hp ?_ (fun σ'' ys Q h q => hO σ'' _ Q (hss σ'' h) (hA ys) q) (fun σ'' ys Q h q => hN σ'' _ Q (hss σ'' h) (hA ys) q) ?_
      · intro R hR
        refine ⟨V.ref p, by rw [List.getElem?_set_self (by rw [hl]; exact hlr)], V.ref p, (cellOf H p).length, rfl, .inl ⟨_, SqL.of hp, by rw [List.length_map]⟩, ((cellOf H p).length : Nat), rfl, by omega, by have := hsz p hpm; omega, ?_⟩
        rw [Int.toNat_natCast]
        exact hR
      · intro σ'' hl2 h
        refine ⟨by rw [hl2, List.length_set, hl], hss σ'' h, hA _, fun n q e2 => ?_⟩
        by_cases hq : q = p
        · subst hq
          have hni : n = i := by
            have h1 := (List.getElem?_eq_some_iff.mp e)
            have h2 := (List.getElem?_eq_some_iff.mp e2)
            obtain ⟨l1, v1⟩ := h1
            obtain ⟨l2, v2⟩ := h2
            exact nodup_inj nd (v2.trans v1.symm)
          subst hni
          rw [upd_same, if_pos (Nat.lt_succ_self n)]
        · have hni : n ≠ i := fun z => by
            rw [z, e] at e2
            exact hq (Option.some.inj e2).symm
          rw [upd_ne hq, hcc n q e2]
          by_cases c : n < i
          · rw [if_pos c, if_pos (by omega)]
          · rw [if_neg c, if_neg (by omega)]
  · rintro σ' H' ⟨hl, hs, hb, hcc⟩
    rw [List.length_map] at hcc
    refine hD σ' H' hl hs hb fun p hp => ?_
    obtain ⟨n, hn, e⟩ := List.mem_iff_getElem.mp hp
    have := hcc n p (by rw [List.getElem?_eq_getElem hn, e])
    rw [if_pos hn] at this
    exact this
/-- the pairs stay pairs, and as many -/
theorem joinStep_inv {s : List (List Int) × List (List Int) × Int} {k : Nat} (h : ∀ p ∈ s.2.1, p.length = 2) : (∀ p ∈ (joinStep s k).2.1, p.length = 2) ∧ (joinStep s k).2.1.length = s.2.1.length ∧ (joinStep s k).1.length = s.1.length := by
  refine ⟨fun p hp => ?_, ?_, ?_⟩
  · unfold joinStep at hp
    rcases List.mem_append.mp hp with m | m
    · exact h p (List.mem_of_mem_take m)
    · obtain ⟨q, hq, rfl⟩ := List.mem_map.mp m
      rw [List.length_map]
      exact h q (List.mem_of_mem_drop hq)
  · unfold joinStep
    simp only [List.length_append, List.length_take, List.length_map, List.length_drop]
    omega
  · unfold joinStep
    simp only [List.length_map]
theorem joinStep_small {s : List (List Int) × List (List Int) × Int} {k : Nat} (h : ∀ p ∈ s.1, p.length < 1000) : ∀ p ∈ (joinStep s k).1, p.length < 1000 := fun p hp => by
  unfold joinStep at hp
  obtain ⟨q, hq, rfl⟩ := List.mem_map.mp hp
  rw [List.length_map]
  exact h q hq
theorem seq_asg {te : TE} {g : TG} {u : TS} {D : Ends} {σ : L2.St} {H : Hp} (h : te σ H fun x H1 => g x σ H1 (u D)) : tSeq (tAsg te g) u D σ H := h
theorem joined_reading {num : List D → R Sl} {vs : List V} {H : Hp} {Q : VK} {E : XK} (h : spF K cls 3 (joinedF num) vs H Q E) :
    t_lawJoined K cls num (fun c d _ H => E c d H) { nx := fun _ H' => Q .non H', rt := Q } (start ["rows", "rings", "pairs", "left", "k", "old", "row", "e", "two"] vs) H := by
  obtain ⟨hl, ds, Hb, sub, r, post⟩ := h
  unfold joinedF at post
  split at post
  case h_2 => exact post.elim
  rename_i a rg b
  split at post
  case h_2 => exact post.elim
  rename_i rs ps hra hrb
  split at post
  case isFalse => exact post.elim
  rename_i hsz
  obtain ⟨⟨hrs, hps⟩, hrow, hpair⟩ := hsz
  cases r with
  | cons r0 r =>
  cases r with
  | cons r1 r =>
  cases r with
  | cons r2 r =>
  cases r with
  | nil =>
  rename_i v0 v1 v2
  have e1 := r1.int_inv
  subst e1
  have hst : start ["rows", "rings", "pairs", "left", "k", "old", "row", "e", "two"] [v0, .int rg, v2] = [some v0, some (.int rg), some v2, none, none, none, none, none, none] := rfl
  rw [hst]
  -- left
  unfold t_lawJoined
  refine seq_asg ?_
  refine lc_copies (i := 0) (j := 6) (own := [6]) (σ := [some v0, some (.int rg), some v2, none, none, none, none, none, none]) sub (by simp) (by simp) rfl r0 hra (by omega) fun L pl H1 ex1 hL0 hL hpl hcl hnl ndl => ?_
  show tSeq _ _ _ ([some v0, some (.int rg), some v2, some (.ref L), none, none, none, none, none] : L2.St) H1
  -- pairs
  refine seq_asg ?_
  refine lc_copies (i := 2) (j := 8) (own := [8]) (σ := [some v0, some (.int rg), some v2, some (.ref L), none, none, none, none, none]) (sub.trans ex1) (by simp) (by simp) rfl r2 hrb (by omega) fun P pp H2 ex2 hP0 hP hpp hcp hnp ndp => ?_
  show tSeq _ _ _ ([some v0, some (.int rg), some (.ref P), some (.ref L), none, none, none, none, none] : L2.St) H2
  have hml : pl.map (cellOf H2) = rs := cells_map hpl fun n p r e1 e2 => ex2 _ _ (hcl n p r e1 e2)
  have hmp : pp.map (cellOf H2) = ps := cells_map hpp hcp
  have hsome : ∀ p ∈ L :: pl, ∃ o, H1 p = some o := fun p hp => by
    rcases List.mem_cons.mp hp with z | z
    · exact ⟨_, z ▸ hL⟩
    · obtain ⟨n, hn, e⟩ := List.mem_iff_getElem.mp z
      exact ⟨_, hcl n p _ (by rw [List.getElem?_eq_getElem hn, e]) (List.getElem?_eq_getElem (by omega))⟩
  have hnone : ∀ p ∈ P :: pp, H1 p = none := fun p hp => by
    rcases List.mem_cons.mp hp with z | z
    · exact z ▸ hP0
    · exact hnp p z
  have hdis : ∀ p ∈ L :: pl, ∀ q ∈ P :: pp, p ≠ q := fun p hp q hq e => by
    obtain ⟨o, ho⟩ := hsome p hp
    rw [e, hnone q hq] at ho
    cases ho
  have hnd : (pl ++ pp).Nodup := List.nodup_append.mpr ⟨(List.nodup_cons.mp ndl).2, (List.nodup_cons.mp ndp).2, fun p hp q hq => hdis p (List.mem_cons_of_mem _ hp) q (List.mem_cons_of_mem _ hq)⟩
  have hLn : L ∉ pl ++ pp := fun m => by
    rcases List.mem_append.mp m with z | z
    · exact (List.nodup_cons.mp ndl).1 z
    · exact hdis L List.mem_cons_self L (List.mem_cons_of_mem _ z) rfl
  have hPn : P ∉ pl ++ pp := fun m => by
    rcases List.mem_append.mp m with z | z
    · exact hdis P (List.mem_cons_of_mem _ z) P List.mem_cons_self rfl
    · exact (List.nodup_cons.mp ndp).1 z
  have hfree : ∀ p ∈ pl ++ pp, H p = none := fun p hp => by
    rcases List.mem_append.mp hp with z | z
    · exact hnl p z
    · exact ex1.none_of (hnp p z)
  have hcells : Cells H2 (pl ++ pp) := fun p hp => by
    rcases List.mem_append.mp hp with z | z
    · obtain ⟨n, hn, e⟩ := List.mem_iff_getElem.mp z
      have h0 : H2 p = some (.lst ((rs[n]'(by omega)).map V.int)) := ex2 _ _ (hcl n p _ (by rw [List.getElem?_eq_getElem hn, e]) (List.getElem?_eq_getElem (by omega)))
      rw [cellOf_eq h0]
      exact h0
    · obtain ⟨n, hn, e⟩ := List.mem_iff_getElem.mp z
      have h0 : H2 p = some (.lst ((ps[n]'(by omega)).map V.int)) := hcp n p _ (by rw [List.getElem?_eq_getElem hn, e]) (List.getElem?_eq_getElem (by omega))
      rw [cellOf_eq h0]
      exact h0
  -- for k in range(len(pairs))
  refine ⟨V.ref P, rfl, V.ref P, pp.length, rfl, .inl ⟨_, SqL.of hP, by rw [List.length_map]⟩, (pp.length : Nat), rfl, by omega, by omega, ?_⟩
  rw [Int.toNat_natCast]
  have hfold : ∀ n, n ≤ ps.length → (∀ p ∈ ((List.range n).foldl joinStep (rs, ps, rg)).2.1, p.length = 2) ∧ ((List.range n).foldl joinStep (rs, ps, rg)).2.1.length = ps.length ∧ ((List.range n).foldl joinStep (rs, ps, rg)).1.length = rs.length ∧ ∀ p ∈ ((List.range n).foldl joinStep (rs, ps, rg)).1, p.length < 1000 := by
    intro n
    induction n with
    | zero => exact fun _ => ⟨hpair, rfl, rfl, hrow⟩
    | succ n ih =>
      intro hn
      obtain ⟨i1, i2, i3, i4⟩ := ih (by omega)
      rw [List.range_succ, List.foldl_append]
      show (∀ p ∈ (joinStep _ n).2.1, _) ∧ (joinStep _ n).2.1.length = _ ∧ (joinStep _ n).1.length = _ ∧ ∀ p ∈ (joinStep _ n).1, p.length < 1000
      obtain ⟨j1, j2, j3⟩ := joinStep_inv (k := n) i1
      exact ⟨j1, by rw [j2, i2], by rw [j3, i3], joinStep_small i4⟩
  refine for_range (lo := 0) (n := pp.length) (fun k σ' H' => ∃ (rg' : Int) (x4 x5 x6 x7 x8 : Option V), σ' = [some v0, some (.int rg'), some (.ref P), some (.ref L), x4, x5, x6, x7, x8] ∧ Ex H H' ∧ H' L = some (.lst (pl.map V.ref)) ∧ H' P = some (.lst (pp.map V.ref)) ∧ Cells H' (pl ++ pp) ∧ (pl.map (cellOf H'), pp.map (cellOf H'), rg') = (List.range k).foldl joinStep (rs, ps, rg))
    ⟨rg, none, none, none, none, none, rfl, ex1.trans ex2, ex2 _ _ hL, hP, hcells, by rw [hml, hmp]; rfl⟩ ?_ ?_
  · rintro k σ' H' hk ⟨rg', x4, x5, x6, x7, x8, rfl, exH, hL', hP', hc', hf'⟩
    rw [Int.zero_add]
    show tSeq _ _ _ ([some v0, some (.int rg'), some (.ref P), some (.ref L), some (.int (k : Nat)), x5, x6, x7, x8] : L2.St) H'
    obtain ⟨i1, i2, i3, i4⟩ := hfold k (by omega)
    rw [← hf'] at i1 i2 i3 i4
    simp only at i1 i2 i3 i4
    have hq : pp[k]? = some pp[k] := List.getElem?_eq_getElem hk
    have hqm : pp[k] ∈ pl ++ pp := List.mem_append_right _ (List.getElem_mem _)
    have hqc := hc' _ hqm
    obtain ⟨x, y, hxy⟩ : ∃ x y, cellOf H' pp[k] = [x, y] := by
      have := i1 (cellOf H' pp[k]) (List.mem_map.mpr ⟨_, List.getElem_mem _, rfl⟩)
      match e : cellOf H' pp[k], this with
      | [x, y], _ => exact ⟨x, y, rfl⟩
    rw [hxy] at hqc
    have hgd : (pp.map (cellOf H')).getD k [] = [x, y] := by
      rw [List.getD_eq_getElem?_getD, List.getElem?_map, hq]
      exact hxy
    have at0 : atI (([x, y] : List Int).map V.int) 0 = some (.int x) := at_ints (i := 0) rfl
    have at1 : atI (([x, y] : List Int).map V.int) 1 = some (.int y) := at_ints (i := 1) rfl
    -- old = pairs[k][1]
    refine ⟨V.ref P, rfl, V.int k, rfl, .inl ⟨P, _, _, _, rfl, rfl, SqL.of hP', at_refs hq, .inl ⟨_, _, _, _, rfl, rfl, SqL.of hqc, at1, ?_⟩⟩⟩
    show tSeq _ _ _ ([some v0, some (.int rg'), some (.ref P), some (.ref L), some (.int (k : Nat)), some (.int y), x6, x7, x8] : L2.St) H'
    -- what comes behind the count of the rings
    have rest : ∀ rg2 : Int, rg2 = (if x = y then rg' + 1 else rg') → tFor (iBoth K (tOp (rAddG K) (L2.tVar 3) (tSl (rSlG K) (L2.tVar 2) (tPart (tOp (rAddG K) (L2.tVar 4) (tC (.int 1)))) tNoPart))) (gName 6)
        (tFor (iRng1 (tCons (tCB (rLenG K) (tCons (L2.tVar 6) tNil)) tNil)) (gName 7)
          (tIfS (tTest (tOp (rEqG K) (tOp (rIx K) (L2.tVar 6) (L2.tVar 7)) (L2.tVar 5)))
            (tAsg (tOp (rIx K) (tOp (rIx K) (L2.tVar 2) (L2.tVar 4)) (tC (.int 0))) (gSub (L2.tVar 6) (L2.tVar 7) rSetL)) tNext))
        { nx := fun σ' H' => ∃ (rg' : Int) (x4 x5 x6 x7 x8 : Option V), σ' = [some v0, some (.int rg'), some (.ref P), some (.ref L), x4, x5, x6, x7, x8] ∧ Ex H H' ∧ H' L = some (.lst (pl.map V.ref)) ∧ H' P = some (.lst (pp.map V.ref)) ∧ Cells H' (pl ++ pp) ∧ (pl.map (cellOf H'), pp.map (cellOf H'), rg') = (List.range (k + 1)).foldl joinStep (rs, ps, rg),
          ct := fun σ' H' => ∃ (rg' : Int) (x4 x5 x6 x7 x8 : Option V), σ' = [some v0, some (.int rg'), some (.ref P), some (.ref L), x4, x5, x6, x7, x8] ∧ Ex H H' ∧ H' L = some (.lst (pl.map V.ref)) ∧ H' P = some (.lst (pp.map V.ref)) ∧ Cells H' (pl ++ pp) ∧ (pl.map (cellOf H'), pp.map (cellOf H'), rg') = (List.range (k + 1)).foldl joinStep (rs, ps, rg),
          bk := fun σ H => (tRet (tTup (tCons (tCallS (spF K cls 1 num) (WE (fun c d _ H => E c d H)) (tCons (L2.tVar 3) tNil)) (tCons (L2.tVar 1) tNil)))) { nx := fun _ H' => Q .non H', rt := Q } σ H, rt := Q }
        ([some v0, some (.int rg2), some (.ref P), some (.ref L), some (.int (k : Nat)), some (.int y), x6, x7, x8] : L2.St) H' := by
      intro rg2 hrg2
      refine ⟨V.ref L, rfl, V.ref P, rfl, V.int k, rfl, .inl ⟨k, 1, rfl, rfl, _, rfl, .inl ⟨P, _, rfl, SqL.of hP', fun T hT => ?_⟩⟩⟩
      have eT : cutV (pp.map V.ref) (some ((k : Int) + 1)) none = (pp.drop (k + 1)).map V.ref := by
        rw [show some ((k : Int) + 1) = some ((k + 1 : Nat) : Int) from rfl, cutV_from (by rw [List.length_map]; omega), List.map_drop]
      rw [eT]
      have hLT : L ≠ T := ne_of_none hL' hT
      refine .inr (.inl ⟨L, T, _, _, rfl, rfl, by rw [upd_ne hLT]; exact hL', upd_same, lim_le (by rw [List.length_map, List.length_map, List.length_drop]; show _ ≤ 1000000; omega), fun B hB => ?_⟩)
      have hTB : T ≠ B := fun z => by rw [← z, upd_same] at hB; cases hB
      have hB' : H' B = none := by rw [upd_ne hTB.symm] at hB; exact hB
      obtain ⟨H3, hH3⟩ : ∃ H3, H3 = upd (upd H' T (.lst ((pp.drop (k + 1)).map V.ref))) B (.lst (pl.map V.ref ++ (pp.drop (k + 1)).map V.ref)) := ⟨_, rfl⟩
      rw [← hH3]
      have ex3 : Ex H' H3 := by rw [hH3]; exact (Ex.new hT).trans (Ex.new hB)
      have hBv : H3 B = some (.lst ((pl ++ pp.drop (k + 1)).map V.ref)) := by rw [hH3, upd_same, List.map_append]
      have hsubA : ∀ p ∈ pl ++ pp.drop (k + 1), p ∈ pl ++ pp := fun p hp => by
        rcases List.mem_append.mp hp with z | z
        · exact List.mem_append_left _ z
        · exact List.mem_append_right _ (List.mem_of_mem_drop z)
      have ndA : (pl ++ pp.drop (k + 1)).Nodup := hnd.sublist ((List.Sublist.refl _).append (List.drop_sublist _ _))
      have hc3 : Cells H3 (pl ++ pp) := fun p hp => by
        have h0 := ex3 _ _ (hc' p hp)
        rw [cellOf_eq h0]
        exact h0
      have heq : ∀ p ∈ pl ++ pp, cellOf H3 p = cellOf H' p := fun p hp => cellOf_eq (ex3 _ _ (hc' p hp))
      have hBn : B ∉ pl ++ pp.drop (k + 1) := fun m => by
        have := hc' B (hsubA B m)
        rw [hB'] at this
        cases this
      have hqn : pp[k] ∉ pl ++ pp.drop (k + 1) := fun m => by
        rcases List.mem_append.mp m with z | z
        · exact (List.nodup_append.mp hnd).2.2 _ z _ (List.getElem_mem _) rfl
        · obtain ⟨j, hj, e⟩ := List.mem_iff_getElem.mp z
          rw [List.getElem_drop] at e
          have := nodup_inj (List.nodup_append.mp hnd).2.1 e
          omega
      have hPA : P ∉ pl ++ pp.drop (k + 1) := fun m => hPn (hsubA P m)
      refine .inl ⟨B, rfl, ⟨_, SqL.of hBv⟩, ren_rows (K := K) (A := pl ++ pp.drop (k + 1)) (old := y) (new := x) (rj := 6) (je := 7) (by decide) (by show 6 < 9; decide) (by show 7 < 9; decide) hBv hBn ndA (fun p hp => hc3 p (hsubA p hp)) ?_ ?_ ?_ ?_⟩
      · intro p hp
        rw [heq p (hsubA p hp)]
        rcases List.mem_append.mp (hsubA p hp) with z | z
        · have := i4 _ (List.mem_map.mpr ⟨p, z, rfl⟩)
          omega
        · have := i1 _ (List.mem_map.mpr ⟨p, z, rfl⟩)
          omega
      · intro σ'' H'' Q'' hs hb q
        exact ⟨V.int y, by rw [hs 5 (by decide) (by decide)]; rfl, q⟩
      · intro σ'' H'' Q'' hs hb q
        refine ⟨V.ref P, by rw [hs 2 (by decide) (by decide)]; rfl, V.int k, by rw [hs 4 (by decide) (by decide)]; rfl, .inl ⟨P, _, _, _, rfl, rfl, SqL.of (by rw [hb P hPA]; exact ex3 _ _ hP'), at_refs hq, .inl ⟨_, _, _, _, rfl, rfl, SqL.of (by rw [hb _ hqn]; exact ex3 _ _ hqc), at0, q⟩⟩⟩
      · intro σ'' H'' hlen hs hb hcc
        have hg : ∀ i : Nat, i ≠ 7 → i ≠ 6 → σ''[i]? = ([some v0, some (.int rg2), some (.ref P), some (.ref L), some (.int (k : Nat)), some (.int y), x6, x7, x8] : L2.St)[i]? := fun i h1 h2 => hs i h1 h2
        have hLA : L ∉ pl ++ pp.drop (k + 1) := fun m => hLn (hsubA L m)
        have hcell2 : ∀ p ∈ pl ++ pp, H'' p = some (.lst ((if p ∈ pl ++ pp.drop (k + 1) then (cellOf H' p).map (ren y x) else cellOf H' p).map V.int)) := fun p hp => by
          by_cases m : p ∈ pl ++ pp.drop (k + 1)
          · rw [if_pos m, hcc p m, heq p hp]
          · rw [if_neg m, hb p m]
            exact ex3 _ _ (hc' p hp)
        have hc2 : ∀ p ∈ pl ++ pp, cellOf H'' p = (if p ∈ pl ++ pp.drop (k + 1) then (cellOf H' p).map (ren y x) else cellOf H' p) := fun p hp => cellOf_eq (hcell2 p hp)
        refine ⟨rg2, some (.int (k : Nat)), some (.int y), (σ''[6]?).getD none, (σ''[7]?).getD none, x8, ?_, ?_, by rw [hb L hLA]; exact ex3 _ _ hL', by rw [hb P hPA]; exact ex3 _ _ hP', fun p hp => by rw [hc2 p hp]; exact hcell2 p hp, ?_⟩
        · have hlen9 : σ''.length = 9 := hlen
          apply List.ext_getElem?
          intro i
          by_cases h6 : i = 6
          · subst h6
            rw [List.getElem?_eq_getElem (by omega)]
            rfl
          · by_cases h7 : i = 7
            · subst h7
              rw [List.getElem?_eq_getElem (by omega)]
              rfl
            · rw [hg i h7 h6]
              match i, h6, h7 with
              | 0, _, _ => rfl
              | 1, _, _ => rfl
              | 2, _, _ => rfl
              | 3, _, _ => rfl
              | 4, _, _ => rfl
              | 5, _, _ => rfl
              | 8, _, _ => rfl
              | n + 9, _, _ => rfl
        · intro p o e
          have hpn : p ∉ pl ++ pp.drop (k + 1) := fun m => by
            rw [hfree p (hsubA p m)] at e
            cases e
          rw [hb p hpn]
          exact ex3 _ _ (exH p o e)
        · rw [List.range_succ, List.foldl_append, ← hf']
          show _ = joinStep (pl.map (cellOf H'), pp.map (cellOf H'), rg') k
          unfold joinStep
          simp only
          rw [hgd]
          refine Prod.ext ?_ (Prod.ext ?_ ?_)
          · show pl.map (cellOf H'') = (pl.map (cellOf H')).map fun r => r.map (ren y x)
            rw [List.map_map]
            apply List.map_congr_left
            intro p hp
            rw [hc2 p (List.mem_append_left _ hp), if_pos (List.mem_append_left _ hp)]
            rfl
          · show pp.map (cellOf H'') = (pp.map (cellOf H')).take (k + 1) ++ ((pp.map (cellOf H')).drop (k + 1)).map fun r => r.map (ren y x)
            conv => lhs; rw [← List.take_append_drop (k + 1) pp]
            rw [List.map_append, ← List.map_take, ← List.map_drop, List.map_map]
            congr 1
            · apply List.map_congr_left
              intro p hp
              have hpm : p ∈ pl ++ pp := List.mem_append_right _ (List.mem_of_mem_take hp)
              have hpn : p ∉ pl ++ pp.drop (k + 1) := fun m => by
                rcases List.mem_append.mp m with z | z
                · exact (List.nodup_append.mp hnd).2.2 _ z _ (List.mem_of_mem_take hp) rfl
                · have ndpp := (List.nodup_append.mp hnd).2.1
                  rw [← List.take_append_drop (k + 1) pp] at ndpp
                  exact (List.nodup_append.mp ndpp).2.2 _ hp _ z rfl
              rw [hc2 p hpm, if_neg hpn]
            · apply List.map_congr_left
              intro p hp
              rw [hc2 p (List.mem_append_right _ (List.mem_of_mem_drop hp)), if_pos (List.mem_append_right _ hp)]
              rfl
          · show rg2 = _
            rw [hrg2]
            rfl
    -- if pairs[k][0] == old: rings = rings + 1
    refine ⟨V.ref P, rfl, V.int k, rfl, .inl ⟨P, _, _, _, rfl, rfl, SqL.of hP', at_refs hq, .inl ⟨_, _, _, _, rfl, rfl, SqL.of hqc, at0, V.int y, rfl, .inl ⟨rfl, _, rfl, ?_⟩⟩⟩⟩
    by_cases c : x = y
    · rw [decide_eq_true (by rw [c])]
      refine iteT ?_
      refine ⟨V.int rg', rfl, .inl ⟨rg', 1, rfl, rfl, ?_⟩⟩
      exact rest (rg' + 1) (by rw [if_pos c])
    · rw [decide_eq_false (fun z => c (V.int.inj z))]
      refine iteF ?_
      exact rest rg' (by rw [if_neg c])
  · rintro σ' H' ⟨rg', x4, x5, x6, x7, x8, rfl, exH, hL', hP', hc', hf'⟩
    -- return (_law_numbered(left), rings)
    rw [hpp] at hf'
    have hja : joinAll rs ps rg = (pl.map (cellOf H'), pp.map (cellOf H'), rg') := hf'.symm
    rw [hja] at post
    simp only at post
    obtain ⟨Hf2, hHf2⟩ : ∃ Hf2 : Hp, Hf2 = fun a => if a ∈ L :: pl then H' a else Hb a := ⟨_, rfl⟩
    have hfr : ∀ a ∈ L :: pl, H a = none := fun a ha => by
      rcases List.mem_cons.mp ha with z | z
      · exact z ▸ hL0
      · exact hnl a z
    have sub2 : Ex Hf2 H' := fun a o e => by
      rw [hHf2] at e
      simp only at e
      split at e
      · exact e
      · exact exH a o (sub a o e)
    have old2 : Ex Hb Hf2 := fun a o e => by
      rw [hHf2]
      simp only
      have : a ∉ L :: pl := fun m => by
        have h1 := hfr a m
        rw [sub a o e] at h1
        cases h1
      rw [if_neg this]
      exact e
    have hgrow : Grow Hb H Hf2 H' := by
      refine ⟨sub2, old2, fun a o e n => ⟨exH a o e, ?_⟩⟩
      rw [hHf2]
      simp only
      have : a ∉ L :: pl := fun m => by
        have h1 := hfr a m
        rw [e] at h1
        cases h1
      rw [if_neg this]
      exact n
    have hrepl : RepL K Hf2 ((pl.map (cellOf H')).map fun r => D.lst (r.map D.int)) (pl.map V.ref) := by
      have : ∀ qs : List Addr, (∀ p ∈ qs, p ∈ pl) → RepL K Hf2 ((qs.map (cellOf H')).map fun r => D.lst (r.map D.int)) (qs.map V.ref) := by
        intro qs
        induction qs with
        | nil => exact fun _ => .nil
        | cons q qs ih =>
          intro hq
          refine .cons ?_ (ih fun p hp => hq p (List.mem_cons_of_mem _ hp))
          have hm := hq q List.mem_cons_self
          refine .lst (vs := (cellOf H' q).map V.int) ?_ (RepL.ofInts _)
          rw [hHf2]
          simp only
          rw [if_pos (List.mem_cons_of_mem _ hm)]
          exact hc' q (List.mem_append_left _ hm)
      exact this pl fun p hp => hp
    have hLr : Rep K Hf2 (.lst ((pl.map (cellOf H')).map fun r => D.lst (r.map D.int))) (.ref L) := by
      refine .lst (vs := pl.map V.ref) ?_ hrepl
      rw [hHf2]
      simp only
      rw [if_pos List.mem_cons_self]
      exact hL'
    refine ⟨V.ref L, rfl, rfl, [_], Hf2, sub2, .cons hLr .nil, ?_⟩
    cases en : num [.lst ((pl.map (cellOf H')).map fun r => D.lst (r.map D.int))] with
    | bad => rw [en] at post; exact post.elim
    | xc c =>
      rw [en] at post
      intro Hf' H'' g
      exact post Hf' H'' (hgrow.trans g)
    | ok s =>
      rw [en] at post
      intro v Hf' H'' g q
      obtain ⟨Hf3, g3, r3⟩ := q.rep sub2 g
      refine ⟨V.int rg', rfl, by show 2 ≤ sizeLine; decide, fun p hp => ?_⟩
      have gn := Grow.new (o := .tup [v, V.int rg']) g3.sub hp
      have hn3 : Hf3 p = none := g3.sub.none_of hp
      refine post _ _ _ ((hgrow.trans g3).trans gn) ?_
      exact .tup upd_same (.cons (r3.mono (Ex.new hn3).lo) (.cons (.int _) .nil))
end
end DL
set_option maxRecDepth 100000
namespace DL
open PySem PySem.Spec PyProof.Rows L2
section
variable {K : PySem.W.Frag} {cls : Nat → Addr}
/-! ### len(set(xs)), xs a list of ints -/
def tLenSetD (K : PySem.W.Frag) (ta : TE) : TE := fun σ H Q => ta σ H fun x H1 => ∃ (l : Addr) (ns : List Int), x = .ref l ∧ SqL K H1 l (ns.map V.int) ∧ ns.length ≤ 1000 ∧ Q (.int (ns.foldl diff1 []).length) H1
theorem firstMet_diff (ns : List Int) : ∀ i, i ≤ ns.length → PyProof.Rows.firstMet (fun k => ns.getD k 0) i = (ns.take i).foldl diff1 []
  | 0, _ => rfl
  | i + 1, hi => by
    have hlt : i < ns.length := hi
    rw [PyProof.Rows.firstMet_succ, firstMet_diff ns i (Nat.le_of_lt hlt), List.take_succ_eq_append_getElem hlt, List.foldl_append, getD_eq hlt]
    rfl
theorem diff_le (ns : List Int) : (ns.foldl diff1 []).length ≤ ns.length := by
  have key : ∀ (l s : List Int), (l.foldl diff1 s).length ≤ s.length + l.length := by
    intro l
    induction l with
    | nil => intro s; exact Nat.le_refl _
    | cons x l ih =>
      intro s
      have h1 := ih (diff1 s x)
      have h2 : (diff1 s x).length ≤ s.length + 1 := by
        unfold diff1
        split
        · omega
        · rw [List.length_append]; exact Nat.le_refl _
      rw [List.foldl_cons, List.length_cons]
      omega
  have := key ns []
  rwa [List.length_nil, Nat.zero_add] at this
theorem ints_of_vals : ∀ {ns : List Int} {us : List Value}, Vals (ns.map V.int) us → PyProof.Rows.IntsAre us ns
  | [], _, .nil => .nil
  | n :: ns, _, .cons r t => by
    obtain ⟨z, rfl⟩ := r
    exact .cons n z (ints_of_vals t)
theorem pe_lenSetD {X : Cx} {a : Expr} {ta : TE} {p p2 q pos : Pos} (hK : X.K = K) (g1 : Gl X "len") (b1 : X.mg "len" = none) (g2 : Gl X "set") (b2 : X.mg "set" = none) (ha : PE X a ta) (quiet : X.calm = true := by rfl)
    (st : starEach [a] X.env = (false, eval a X.env) :: starEach [] X.env := by rfl) : PE X (.Call (.Name "len" p) [.Call (.Name "set" p2) [a] [] q] [] pos) (tLenSetD K ta) := by
  subst hK
  refine ⟨fun pins s σ H Q I hyp => ?_⟩
  refine Call_ (ld_blt I g1 b1 boot_len ?_)
  refine (PyProof.Rows.callWith_builtin1 (PyProof.Rows.args_cons ?_ rfl) rfl rfl)
  refine Call_ (ld_blt I g2 b2 PyProof.Rows.boot_set ?_)
  refine PyProof.Rows.callWith_type1 (PyProof.Rows.args_cons (thn (ha.run pins s σ H _ I hyp) fun v s1 ⟨x, H1, I1, r1, q1⟩ => PyProof.Rows.args_nil ?_) st) st rfl
  obtain ⟨l, ns, rfl, sq, small, fin⟩ := q1
  cases r1
  obtain ⟨items, rv, il, _⟩ := I1.list sq
  have size : items.toArray.size = ns.length := by rw [List.size_toArray, ← rv.length, List.length_map]
  refine call_set_list (I1.ok.hd quiet) il.isList (by simpa using ints_of_vals rv) (by rw [size]; unfold scanBound; omega) fun heap tok made kept => ?_
  refine (PyProof.Rows.args_nil ?_)
  rw [size, firstMet_diff ns ns.length (Nat.le_refl _), List.take_length] at made
  obtain ⟨o, es, ep, t, ho, hex, hd, _, _, _, hf, hn⟩ := made
  have I2 : Inv X pins σ H1 { s1 with heap := heap, toks := tok } := I1.kept fun b o e => kept b o (Heap.lt_size e) e
  have few := diff_le ns
  exact call_len_set ho hex hd hf (by rw [hn]; omega) ⟨.int (ns.foldl diff1 []).length, H1, I2.tok _, ⟨_, by rw [hn]⟩, fin⟩
theorem de_lenSet {W : WX} {ta : TE} {fa : FE} (ha : DE K W cls ta fa) : DE K W cls (tLenSetD K ta) (eOp1 dLenSet fa) := by
  refine ⟨fun H0 Hf H env σ Q sub x h => ?_⟩
  refine ha.then sub x h.x fun s v Hf1 H1 g1 r1 q => ?_
  unfold dLenSet at q
  split at q
  case h_2 => exact q.elim
  rename_i ds e0
  split at q
  case h_2 => exact q.elim
  rename_i ns e1
  split at q
  case isFalse => exact q.elim
  rename_i hl
  rw [e0] at r1
  obtain ⟨l, vs, rfl, hp, rl⟩ := r1.lst_inv
  rw [rl.ints e1] at hp
  exact ⟨l, ns, rfl, SqL.of (g1.sub _ _ hp), hl, q _ _ H1 g1 (.int _)⟩
/-! ### a cell of a list of cells -/
abbrev t_cell (K : PySem.W.Frag) (k : Int) : TE := tOp (rIx K) (L2.tVar 10) (tC (.int k))
abbrev t_far (K : PySem.W.Frag) (i : Nat) : TE := tOp (rI (fun _ j => 0 < j) fun i j => .int (i % j)) (tOp (rAddG K) (L2.tVar i) (tC (.int 2))) (tC (.int 4))
abbrev t_asg (K : PySem.W.Frag) (k : Int) (ti te : TE) : TS := tAsg te (gSub (t_cell K k) ti rSetL)
theorem ix_nat {α : Type} {n : Nat} {k : Int} (h : 0 ≤ k ∧ k < n) : ixN n k = some k.toNat := by
  unfold ixN
  rw [if_pos h.1, if_pos h.2]
theorem nest_step {σ : L2.St} {H : Hp} {N A : Addr} {as : List Addr} {n : List Int} {kk : Nat} {k z : Int} {ti te : TE} {D : Ends} {u : TS}
    (hσ : σ[10]? = some (some (.ref N))) (hN : H N = some (.lst (as.map V.ref))) (hA : as[kk]? = some A) (hn : H A = some (.lst (n.map V.int))) (hk : 0 ≤ k ∧ k < n.length)
    (hte : ∀ Q : VK, Q (.int z) H → te σ H Q) (hti : ∀ Q : VK, Q (.int k) H → ti σ H Q)
    (next : u D σ (upd H A (.lst ((put4 n k z).map V.int)))) : tSeq (t_asg K (kk : Int) ti te) u D σ H := by
  refine seq_asg ?_
  refine hte _ ?_
  refine ⟨_, hσ, .inl ⟨N, _, _, _, rfl, rfl, SqL.of hN, at_refs hA, hti _ ⟨A, _, k, k.toNat, rfl, rfl, hn, ix_nat (α := Nat) (by rw [List.length_map]; exact hk), ?_⟩⟩⟩
  have e : (n.map V.int).set k.toNat (V.int z) = (put4 n k z).map V.int := List.map_set.symm
  rw [e]
  exact next
def HasI (H : Hp) (v : V) (xs : List Int) : Prop := ∃ p, v = .ref p ∧ (H p = some (.lst (xs.map V.int)) ∨ H p = some (.tup (xs.map V.int)))
theorem src_at {σ : L2.St} {H : Hp} {v : V} {xs : List Int} {s : Nat} {j : Int} {tix : TE} (hσ : σ[s]? = some (some v)) (hv : HasI H v xs) (hj : 0 ≤ j ∧ j < xs.length) (hix : ∀ Q : VK, Q (.int j) H → tix σ H Q) (Q : VK) (q : Q (.int (at4 xs j)) H) : tOp (rIx K) (L2.tVar s) tix σ H Q := by
  obtain ⟨p, rfl, hp⟩ := hv
  have hx : xs[j.toNat]? = some (at4 xs j) := by
    unfold at4
    rw [List.getElem?_eq_getElem (by omega), getD_eq (by omega)]
  have ha := at_ints hx
  rw [Int.toNat_of_nonneg hj.1] at ha
  refine ⟨_, hσ, hix _ ?_⟩
  rcases hp with hp | hp
  · exact .inl ⟨_, _, _, _, rfl, rfl, SqL.of hp, ha, q⟩
  · exact .inr (.inl ⟨_, _, _, _, rfl, rfl, SqT.of hp, ha, q⟩)
theorem var_at {σ : L2.St} {H : Hp} {s : Nat} {k : Int} (hσ : σ[s]? = some (some (.int k))) (Q : VK) (q : Q (.int k) H) : L2.tVar s σ H Q := ⟨_, hσ, q⟩
theorem far_at {σ : L2.St} {H : Hp} {s : Nat} {k : Int} (hσ : σ[s]? = some (some (.int k))) (Q : VK) (q : Q (.int (far4 k)) H) : t_far K s σ H Q :=
  ⟨_, hσ, .inl ⟨k, 2, rfl, rfl, k + 2, 4, rfl, rfl, (show (0 : Int) < 4 by decide), q⟩⟩
theorem far_rng (k : Int) : 0 ≤ far4 k ∧ far4 k < 4 := by unfold far4; omega
theorem put_len (r : List Int) (k v : Int) : (put4 r k v).length = r.length := List.length_set
def t_lawSlid (K : PySem.W.Frag) : TS :=
  tSeq (tAsg (tOp (rIx K) (L2.tVar 3) (tC (.int 0))) (gName 4))
  (tSeq (tAsg (tOp (rIx K) (L2.tVar 3) (tC (.int 1))) (gName 5))
  (tSeq (tAsg (tOp (rIx K) (L2.tVar 3) (tC (.int 2))) (gName 6))
  (tSeq (tAsg (tOp (rIx K) (L2.tVar 3) (tC (.int 3))) (gName 7))
  (tSeq (tAsg (tOp (rIx K) (L2.tVar 3) (tC (.int 4))) (gName 8))
  (tSeq (tAsg (tOp (rIx K) (L2.tVar 3) (tC (.int 5))) (gName 9))
  (tSeq (tAsg (tLst (tCons (tCB (rListG K) (tCons (L2.tVar 0) tNil)) (tCons (tCB (rListG K) (tCons (L2.tVar 1) tNil)) (tCons (tCB (rListG K) (tCons (L2.tVar 2) tNil)) tNil)))) (gName 10))
  (tSeq (t_asg K 0 (t_far K 5) (tOp (rIx K) (L2.tVar 0) (L2.tVar 5)))
  (tSeq (t_asg K 0 (L2.tVar 5) (tOp (rIx K) (L2.tVar 1) (t_far K 6)))
  (tSeq (t_asg K 0 (t_far K 4) (tOp (rIx K) (L2.tVar 0) (L2.tVar 4)))
  (tSeq (t_asg K 0 (L2.tVar 4) (tOp (rIx K) (L2.tVar 2) (t_far K 9)))
  (tSeq (t_asg K 1 (L2.tVar 6) (tOp (rIx K) (L2.tVar 0) (t_far K 5)))
  (tSeq (t_asg K 1 (t_far K 6) (tOp (rIx K) (L2.tVar 0) (L2.tVar 5)))
  (tSeq (t_asg K 1 (t_far K 7) (tOp (rIx K) (L2.tVar 1) (L2.tVar 7)))
  (tSeq (t_asg K 1 (L2.tVar 7) (tOp (rIx K) (L2.tVar 2) (t_far K 8)))
  (tSeq (t_asg K 2 (L2.tVar 9) (tOp (rIx K) (L2.tVar 0) (t_far K 4)))
  (tSeq (t_asg K 2 (t_far K 9) (tOp (rIx K) (L2.tVar 0) (L2.tVar 4)))
  (tSeq (t_asg K 2 (L2.tVar 8) (tOp (rIx K) (L2.tVar 1) (t_far K 7)))
  (tSeq (t_asg K 2 (t_far K 8) (tOp (rIx K) (L2.tVar 1) (L2.tVar 7)))
   (tRet (tLst (tCons (tCB (rTupleG K) (tCons (t_cell K 0) tNil)) (tCons (tCB (rTupleG K) (tCons (t_cell K 1) tNil)) (tCons (tCB (rTupleG K) (tCons (t_cell K 2) tNil)) tNil)))))))))))))))))))))))
/-- a list of the items of a sequence of ints -/
theorem list_of {σ : L2.St} {H : Hp} {v : V} {xs : List Int} {s : Nat} {tr : TA} {Q : List V → Hp → Prop} (hσ : σ[s]? = some (some v)) (hv : HasI H v xs) (hl : xs.length ≤ 4) (k : ∀ l, H l = none → tr σ (upd H l (.lst (xs.map V.int))) fun ys H2 => Q (.ref l :: ys) H2) : tCons (tCB (rListG K) (tCons (L2.tVar s) tNil)) tr σ H Q := by
  obtain ⟨p, rfl, hp⟩ := hv
  refine ⟨_, hσ, p, xs.map V.int, rfl, ?_, k⟩
  rcases hp with hp | hp
  · exact .inl (SqL.of hp)
  · exact .inr (SqT.of hp)
theorem tuple_of {σ : L2.St} {H : Hp} {N A : Addr} {as : List Addr} {xs : List Int} {kk : Nat} {tr : TA} {Q : List V → Hp → Prop} (hσ : σ[10]? = some (some (.ref N))) (hN : H N = some (.lst (as.map V.ref))) (hA : as[kk]? = some A) (hn : H A = some (.lst (xs.map V.int))) (k : ∀ l, H l = none → tr σ (upd H l (.tup (xs.map V.int))) fun ys H2 => Q (.ref l :: ys) H2) : tCons (tCB (rTupleG K) (tCons (t_cell K (kk : Int)) tNil)) tr σ H Q := by
  refine ⟨_, hσ, .inl ⟨N, _, _, _, rfl, rfl, SqL.of hN, at_refs hA, A, xs.map V.int, rfl, .inl ⟨SqL.of hn, k⟩⟩⟩
theorem HasI.ex {H H' : Hp} {v : V} {xs : List Int} (h : HasI H v xs) (e : Ex H H') : HasI H' v xs := by
  obtain ⟨p, rfl, hp⟩ := h
  refine ⟨p, rfl, ?_⟩
  rcases hp with hp | hp
  · exact .inl (e _ _ hp)
  · exact .inr (e _ _ hp)
theorem slid_reading {vs : List V} {H : Hp} {Q : VK} {E : XK} (h : spF K cls 4 slidF vs H Q E) :
    t_lawSlid K { nx := fun _ H' => Q .non H', rt := Q } (start ["c", "g", "h", "parts", "p", "i", "j", "r", "q", "o", "new"] vs) H := by
  obtain ⟨hl, ds, Hb, sub, r, post⟩ := h
  unfold slidF at post
  split at post
  case h_2 => exact post.elim
  rename_i da db dd de
  split at post
  case h_2 => exact post.elim
  rename_i c g h p i j r' q o ea eb ed ee
  split at post
  case isFalse => exact post.elim
  rename_i hsz
  obtain ⟨⟨lc, lg, lh⟩, hr6⟩ := hsz
  cases r with
  | cons r0 r =>
  cases r with
  | cons r1 r =>
  cases r with
  | cons r2 r =>
  cases r with
  | cons r3 r =>
  cases r with
  | nil =>
  rename_i v0 v1 v2 v3
  have hasI : ∀ {d : D} {xs : List Int} {v : V}, intsD d = some xs → Rep K Hb d v → HasI H v xs := fun e rp => by
    obtain ⟨a, rfl, ha⟩ := intsD_rep e rp
    refine ⟨a, rfl, ?_⟩
    rcases ha with ha | ha
    · exact .inl (sub _ _ ha)
    · exact .inr (sub _ _ ha)
  have Hc := hasI ea r0
  have Hg := hasI eb r1
  have Hh := hasI ed r2
  have Hp6 := hasI ee r3
  have bp := hr6 p (by simp)
  have bi := hr6 i (by simp)
  have bj := hr6 j (by simp)
  have br := hr6 r' (by simp)
  have bq := hr6 q (by simp)
  have bo := hr6 o (by simp)
  have hst : start ["c", "g", "h", "parts", "p", "i", "j", "r", "q", "o", "new"] [v0, v1, v2, v3] = [some v0, some v1, some v2, some v3, none, none, none, none, none, none, none] := rfl
  rw [hst]
  unfold t_lawSlid
  refine seq_asg (src_at (s := 3) (j := 0) rfl Hp6 (by simp) (fun Q q => q) _ ?_)
  refine seq_asg (src_at (s := 3) (j := 1) rfl Hp6 (by simp) (fun Q q => q) _ ?_)
  refine seq_asg (src_at (s := 3) (j := 2) rfl Hp6 (by simp) (fun Q q => q) _ ?_)
  refine seq_asg (src_at (s := 3) (j := 3) rfl Hp6 (by simp) (fun Q q => q) _ ?_)
  refine seq_asg (src_at (s := 3) (j := 4) rfl Hp6 (by simp) (fun Q q => q) _ ?_)
  refine seq_asg (src_at (s := 3) (j := 5) rfl Hp6 (by simp) (fun Q q => q) _ ?_)
  refine seq_asg ?_
  refine list_of (s := 0) rfl Hc (by omega) fun a0 n0 => ?_
  have x1 : Ex H (upd H a0 (.lst (c.map V.int))) := Ex.new n0
  refine list_of (s := 1) rfl (Hg.ex x1) (by omega) fun a1 n1 => ?_
  have x2 := x1.trans (Ex.new (o := .lst (g.map V.int)) n1)
  refine list_of (s := 2) rfl (Hh.ex x2) (by omega) fun a2 n2 => ?_
  have x3 := x2.trans (Ex.new (o := .lst (h.map V.int)) n2)
  refine ⟨by show 3 ≤ sizeLine; decide, fun N nN => ?_⟩
  have h01 : a0 ≠ a1 := fun e => by rw [← e, upd_same] at n1; cases n1
  have m1 : H a1 = none := x1.none_of n1
  have h12 : a1 ≠ a2 := fun e => by rw [← e, upd_same] at n2; cases n2
  have h02 : a0 ≠ a2 := fun e => by rw [← e, upd_ne h01, upd_same] at n2; cases n2
  have m2 : H a2 = none := x2.none_of n2
  have hN2 : a2 ≠ N := fun e => by rw [← e, upd_same] at nN; cases nN
  have hN1 : a1 ≠ N := fun e => by rw [← e, upd_ne h12, upd_same] at nN; cases nN
  have hN0 : a0 ≠ N := fun e => by rw [← e, upd_ne h02, upd_ne h01, upd_same] at nN; cases nN
  have mN : H N = none := x3.none_of nN
  have x4 := x3.trans (Ex.new (o := .lst [.ref a0, .ref a1, .ref a2]) nN)
  obtain ⟨H4, e4⟩ : ∃ H4, H4 = upd (upd (upd (upd H a0 (.lst (c.map V.int))) a1 (.lst (g.map V.int))) a2 (.lst (h.map V.int))) N (.lst [.ref a0, .ref a1, .ref a2]) := ⟨_, rfl⟩
  have I4 : Ex H H4 ∧ H4 N = some (.lst ([a0, a1, a2].map V.ref)) ∧ H4 a0 = some (.lst (c.map V.int)) ∧ H4 a1 = some (.lst (g.map V.int)) ∧ H4 a2 = some (.lst (h.map V.int)) := by
    rw [e4]
    exact ⟨x4, upd_same, by rw [upd_ne hN0, upd_ne h02, upd_ne h01, upd_same], by rw [upd_ne hN1, upd_ne h12, upd_same], by rw [upd_ne hN2, upd_same]⟩
  show tSeq _ _ _ ([some v0, some v1, some v2, some v3, some (.int p), some (.int i), some (.int j), some (.int r'), some (.int q), some (.int o), some (.ref N)] : L2.St) (upd (upd (upd (upd H a0 (.lst (c.map V.int))) a1 (.lst (g.map V.int))) a2 (.lst (h.map V.int))) N (.lst [.ref a0, .ref a1, .ref a2]))
  rw [← e4]
  clear e4
  -- one more change of a cell
  have up0 : ∀ {G : Hp} {x y z w : List Int}, (Ex H G ∧ G N = some (.lst ([a0, a1, a2].map V.ref)) ∧ G a0 = some (.lst (x.map V.int)) ∧ G a1 = some (.lst (y.map V.int)) ∧ G a2 = some (.lst (z.map V.int))) →
      (Ex H (upd G a0 (.lst (w.map V.int))) ∧ (upd G a0 (.lst (w.map V.int))) N = some (.lst ([a0, a1, a2].map V.ref)) ∧ (upd G a0 (.lst (w.map V.int))) a0 = some (.lst (w.map V.int)) ∧ (upd G a0 (.lst (w.map V.int))) a1 = some (.lst (y.map V.int)) ∧ (upd G a0 (.lst (w.map V.int))) a2 = some (.lst (z.map V.int))) := fun {G x y z w} ⟨q1, q2, q3, q4, q5⟩ =>
    ⟨fun a u e => by rw [upd_ne (ne_of_none e n0)]; exact q1 a u e, by rw [upd_ne hN0.symm]; exact q2, upd_same, by rw [upd_ne h01.symm]; exact q4, by rw [upd_ne h02.symm]; exact q5⟩
  have up1' : ∀ {G : Hp} {x y z w : List Int}, (Ex H G ∧ G N = some (.lst ([a0, a1, a2].map V.ref)) ∧ G a0 = some (.lst (x.map V.int)) ∧ G a1 = some (.lst (y.map V.int)) ∧ G a2 = some (.lst (z.map V.int))) →
      (Ex H (upd G a1 (.lst (w.map V.int))) ∧ (upd G a1 (.lst (w.map V.int))) N = some (.lst ([a0, a1, a2].map V.ref)) ∧ (upd G a1 (.lst (w.map V.int))) a0 = some (.lst (x.map V.int)) ∧ (upd G a1 (.lst (w.map V.int))) a1 = some (.lst (w.map V.int)) ∧ (upd G a1 (.lst (w.map V.int))) a2 = some (.lst (z.map V.int))) := fun {G x y z w} ⟨q1, q2, q3, q4, q5⟩ =>
    ⟨fun a u e => by rw [upd_ne (ne_of_none e m1)]; exact q1 a u e, by rw [upd_ne hN1.symm]; exact q2, by rw [upd_ne h01]; exact q3, upd_same, by rw [upd_ne h12.symm]; exact q5⟩
  have up2 : ∀ {G : Hp} {x y z w : List Int}, (Ex H G ∧ G N = some (.lst ([a0, a1, a2].map V.ref)) ∧ G a0 = some (.lst (x.map V.int)) ∧ G a1 = some (.lst (y.map V.int)) ∧ G a2 = some (.lst (z.map V.int))) →
      (Ex H (upd G a2 (.lst (w.map V.int))) ∧ (upd G a2 (.lst (w.map V.int))) N = some (.lst ([a0, a1, a2].map V.ref)) ∧ (upd G a2 (.lst (w.map V.int))) a0 = some (.lst (x.map V.int)) ∧ (upd G a2 (.lst (w.map V.int))) a1 = some (.lst (y.map V.int)) ∧ (upd G a2 (.lst (w.map V.int))) a2 = some (.lst (w.map V.int))) := fun {G x y z w} ⟨q1, q2, q3, q4, q5⟩ =>
    ⟨fun a u e => by rw [upd_ne (ne_of_none e m2)]; exact q1 a u e, by rw [upd_ne hN2.symm]; exact q2, by rw [upd_ne h02]; exact q3, by rw [upd_ne h12]; exact q4, upd_same⟩
  obtain ⟨ex, dN, d0, d1, d2⟩ := I4
  refine nest_step (K := K) (kk := 0) (k := far4 i) (z := at4 c i) rfl dN rfl d0 (by rw [lc]; exact far_rng i) (src_at rfl (Hc.ex ex) (by omega) (var_at rfl)) (far_at rfl) ?_
  obtain ⟨ex, dN, d0, d1, d2⟩ := up0 (w := put4 c (far4 i) (at4 c i)) ⟨ex, dN, d0, d1, d2⟩
  refine nest_step (K := K) (kk := 0) (k := i) (z := at4 g (far4 j)) rfl dN rfl d0 (by rw [put_len]; omega) (src_at rfl (Hg.ex ex) (by rw [lg]; exact far_rng j) (far_at rfl)) (var_at rfl) ?_
  obtain ⟨ex, dN, d0, d1, d2⟩ := up0 (w := put4 (put4 c (far4 i) (at4 c i)) i (at4 g (far4 j))) ⟨ex, dN, d0, d1, d2⟩
  refine nest_step (K := K) (kk := 0) (k := far4 p) (z := at4 c p) rfl dN rfl d0 (by rw [put_len, put_len, lc]; exact far_rng p) (src_at rfl (Hc.ex ex) (by omega) (var_at rfl)) (far_at rfl) ?_
  obtain ⟨ex, dN, d0, d1, d2⟩ := up0 (w := put4 (put4 (put4 c (far4 i) (at4 c i)) i (at4 g (far4 j))) (far4 p) (at4 c p)) ⟨ex, dN, d0, d1, d2⟩
  refine nest_step (K := K) (kk := 0) (k := p) (z := at4 h (far4 o)) rfl dN rfl d0 (by rw [put_len, put_len, put_len]; omega) (src_at rfl (Hh.ex ex) (by rw [lh]; exact far_rng o) (far_at rfl)) (var_at rfl) ?_
  obtain ⟨ex, dN, d0, d1, d2⟩ := up0 (w := slidC c g h p i j o) ⟨ex, dN, d0, d1, d2⟩
  refine nest_step (K := K) (kk := 1) (k := j) (z := at4 c (far4 i)) rfl dN rfl d1 (by omega) (src_at rfl (Hc.ex ex) (by rw [lc]; exact far_rng i) (far_at rfl)) (var_at rfl) ?_
  obtain ⟨ex, dN, d0, d1, d2⟩ := up1' (w := put4 g j (at4 c (far4 i))) ⟨ex, dN, d0, d1, d2⟩
  refine nest_step (K := K) (kk := 1) (k := far4 j) (z := at4 c i) rfl dN rfl d1 (by rw [put_len, lg]; exact far_rng j) (src_at rfl (Hc.ex ex) (by omega) (var_at rfl)) (far_at rfl) ?_
  obtain ⟨ex, dN, d0, d1, d2⟩ := up1' (w := put4 (put4 g j (at4 c (far4 i))) (far4 j) (at4 c i)) ⟨ex, dN, d0, d1, d2⟩
  refine nest_step (K := K) (kk := 1) (k := far4 r') (z := at4 g r') rfl dN rfl d1 (by rw [put_len, put_len, lg]; exact far_rng r') (src_at rfl (Hg.ex ex) (by omega) (var_at rfl)) (far_at rfl) ?_
  obtain ⟨ex, dN, d0, d1, d2⟩ := up1' (w := put4 (put4 (put4 g j (at4 c (far4 i))) (far4 j) (at4 c i)) (far4 r') (at4 g r')) ⟨ex, dN, d0, d1, d2⟩
  refine nest_step (K := K) (kk := 1) (k := r') (z := at4 h (far4 q)) rfl dN rfl d1 (by rw [put_len, put_len, put_len]; omega) (src_at rfl (Hh.ex ex) (by rw [lh]; exact far_rng q) (far_at rfl)) (var_at rfl) ?_
  obtain ⟨ex, dN, d0, d1, d2⟩ := up1' (w := slidG c g h i j r' q) ⟨ex, dN, d0, d1, d2⟩
  refine nest_step (K := K) (kk := 2) (k := o) (z := at4 c (far4 p)) rfl dN rfl d2 (by omega) (src_at rfl (Hc.ex ex) (by rw [lc]; exact far_rng p) (far_at rfl)) (var_at rfl) ?_
  obtain ⟨ex, dN, d0, d1, d2⟩ := up2 (w := put4 h o (at4 c (far4 p))) ⟨ex, dN, d0, d1, d2⟩
  refine nest_step (K := K) (kk := 2) (k := far4 o) (z := at4 c p) rfl dN rfl d2 (by rw [put_len, lh]; exact far_rng o) (src_at rfl (Hc.ex ex) (by omega) (var_at rfl)) (far_at rfl) ?_
  obtain ⟨ex, dN, d0, d1, d2⟩ := up2 (w := put4 (put4 h o (at4 c (far4 p))) (far4 o) (at4 c p)) ⟨ex, dN, d0, d1, d2⟩
  refine nest_step (K := K) (kk := 2) (k := q) (z := at4 g (far4 r')) rfl dN rfl d2 (by rw [put_len, put_len]; omega) (src_at rfl (Hg.ex ex) (by rw [lg]; exact far_rng r') (far_at rfl)) (var_at rfl) ?_
  obtain ⟨ex, dN, d0, d1, d2⟩ := up2 (w := put4 (put4 (put4 h o (at4 c (far4 p))) (far4 o) (at4 c p)) q (at4 g (far4 r'))) ⟨ex, dN, d0, d1, d2⟩
  refine nest_step (K := K) (kk := 2) (k := far4 q) (z := at4 g r') rfl dN rfl d2 (by rw [put_len, put_len, put_len, lh]; exact far_rng q) (src_at rfl (Hg.ex ex) (by omega) (var_at rfl)) (far_at rfl) ?_
  obtain ⟨ex, dN, d0, d1, d2⟩ := up2 (w := slidH c g h p r' q o) ⟨ex, dN, d0, d1, d2⟩
  -- return [tuple(new[0]), tuple(new[1]), tuple(new[2])]
  have grow0 : ∀ {G : Hp}, Ex H G → Grow Hb H Hb G := fun {G} e => ⟨sub.trans e, .refl Hb, fun a u e1 n => ⟨e a u e1, n⟩⟩
  unfold tRet tLst
  dsimp only
  refine tuple_of (kk := 0) rfl dN rfl d0 fun b0 f0 => ?_
  have g0 := (grow0 ex).trans (Grow.new (o := .tup ((slidC c g h p i j o).map V.int)) (sub.trans ex) f0)
  have y0 := Ex.new (o := .tup ((slidC c g h p i j o).map V.int)) f0
  refine tuple_of (kk := 1) rfl (y0 _ _ dN) rfl (y0 _ _ d1) fun b1 f1 => ?_
  have g1 := g0.trans (Grow.new (o := .tup ((slidG c g h i j r' q).map V.int)) g0.sub f1)
  have y1 := y0.trans (Ex.new (o := .tup ((slidG c g h i j r' q).map V.int)) f1)
  refine tuple_of (kk := 2) rfl (y1 _ _ dN) rfl (y1 _ _ d2) fun b2 f2 => ?_
  have g2 := g1.trans (Grow.new (o := .tup ((slidH c g h p r' q o).map V.int)) g1.sub f2)
  refine ⟨by show 3 ≤ sizeLine; decide, fun T fT => ?_⟩
  have g3 := g2.trans (Grow.new (o := .lst [.ref b0, .ref b1, .ref b2]) g2.sub fT)
  have s2 := Ex.new (o := .tup ((slidH c g h p r' q o).map V.int)) (g1.sub.none_of f2)
  have s1 := Ex.new (o := .tup ((slidG c g h i j r' q).map V.int)) (g0.sub.none_of f1)
  have sT := Ex.new (o := .lst [.ref b0, .ref b1, .ref b2]) (g2.sub.none_of fT)
  refine post _ _ _ g3 ?_
  refine .lst upd_same (.cons (.tup (vs := (slidC c g h p i j o).map V.int) (sT _ _ (s2 _ _ (s1 _ _ upd_same))) (RepL.ofInts _)) (.cons (.tup (vs := (slidG c g h i j r' q).map V.int) (sT _ _ (s2 _ _ upd_same)) (RepL.ofInts _)) (.cons (.tup (vs := (slidH c g h p r' q o).map V.int) (sT _ _ upd_same) (RepL.ofInts _)) .nil)))
/-! ### try .. except, the class told -/
structure ErrE (K : PySem.W.Frag) (mg : Str → Option Value) (cls : Nat → Addr) (cE : Addr) : Prop where
  gE : mg "CordError" = some (.ref cE)
  exm : ∀ c, c < 5 → PySem.W.exmOne K (.ref (cls c)) (.ref cE) = some true
theorem ds_try5 {cE : Value} {tb : WX → TS} {ts : Addr → Value → Option Addr → TS} {F G : FS} (hb : ∀ W, DS K W cls (tb W) F) (hs : ∀ a c d, DS K W0 cls (ts a c d) G) (hx : ∀ c, c < 5 → PySem.W.exmOne K (.ref (cls c)) cE = some true) (hG : ∀ e c e', G e ≠ .xc c e') :
    DS K W cls (fun D σ H => tb (wOnly K cE ts (fun _ _ _ _ => False) D) D σ H) (sTry5 F G) := by
  refine ⟨fun Hb H0 Hf H env σ D x h => ?_⟩
  refine (hb _).run Hb H0 Hf H env σ D x ?_
  unfold sTry5 at h
  cases e : F env with
  | nx e' => rw [e] at h; exact h
  | rt s => rw [e] at h; exact h
  | bad => rw [e] at h; exact h
  | xc c e' =>
    rw [e] at h
    intro Hf' H' σ' l' x'
    have h1 : PostS K W cls Hb H0 Hf (if c < 5 then G e' else .bad) D := h
    by_cases hc : c < 5
    · rw [if_pos hc] at h1
      refine ⟨true, hx c hc, fun _ a ha => ?_, fun z => by cases z⟩
      refine (hs a _ none).run Hb H0 Hf' H' e' σ' D x' ?_
      have h3 := PostS.mono h1 l'
      cases eg : G e' with
      | nx e2 => rw [eg] at h3; exact h3
      | rt s => rw [eg] at h3; exact h3
      | bad => rw [eg] at h3; exact h3
      | xc c2 e2 => exact absurd eg (hG _ _ _)
    · rw [if_neg hc] at h1
      exact h1.elim
theorem sSetVar_xc {i j : Nat} {e : Env} {c : Nat} {e' : Env} (h : sSet i (eVar j) e = .xc c e') : False := by
  unfold sSet eVar at h
  split at h
  · cases h
  · cases h
end
end DL
set_option maxRecDepth 100000
namespace DL
open PySem PySem.Spec PyProof.Rows L2
/-! DS4: dicts of whole numbers that a def fills for its caller -/
/-- a def that may be called by its name, by any promise -/
structure CalS (P : Program) (w : World) (K : PySem.W.Frag) (mg : Str → Option Value) (base : Heap) (x : Str) (ps : List Str) (k : Nat) (sp : Sp) : Prop where
  ex : ∃ (fa : Addr) (fd : FuncData), FnOk P w K mg base (L2.CX P w) k fa fd ps sp ∧ mg x = some (.ref fa) ∧ PySem.W.keepIn K (.ref fa) = true ∧ Binds K fd ps []
theorem pe_calS {X : Cx} {W : WX} {x : Str} {ps : List Str} {k : Nat} {sp : Sp} {p pos : Pos} {e : Expr} {es : List Expr} {t : TA} (C : CalS X.prog X.w X.K X.mg X.base x ps k sp) (hr : Room k X.A) (hg : Gl X x) (tk : Takes X W) (ha : PA X (e :: es) t)
    (hdb : (x == ("__debug__" : Str)) = false := by decide) (he : starEach (e :: es) X.env = (false, eval e X.env) :: starEach es X.env := by rfl) (hpl : (backTo pos (starEach es X.env)).any (·.1) = false := by rfl) :
    PE X (.Call (.Name x p) (e :: es) [] pos) (tCallS sp (WE W) t) := by
  obtain ⟨fa, fd, F, hm, hk, hb⟩ := C.ex
  exact pe_callS F hr hg hm hk hb (fun σ => passAt tk σ) ha hdb he hpl
theorem pe_calSK {X : Cx} {P : Program} {w : World} {K : PySem.W.Frag} {mg : Str → Option Value} {base : Heap} {W : WX} {x : Str} {ps : List Str} {k : Nat} {sp : Sp} {p pos : Pos} {e : Expr} {es : List Expr} {t : TA} (C : CalS P w K mg base x ps k sp)
    (h1 : X.prog = P) (h2 : X.w = w) (h3 : X.K = K) (h4 : X.mg = mg) (h5 : X.base = base) (hr : Room k X.A) (hg : Gl X x) (tk : Takes X W) (ha : PA X (e :: es) t)
    (hdb : (x == ("__debug__" : Str)) = false := by decide) (he : starEach (e :: es) X.env = (false, eval e X.env) :: starEach es X.env := by rfl) (hpl : (backTo pos (starEach es X.env)).any (·.1) = false := by rfl) :
    PE X (.Call (.Name x p) (e :: es) [] pos) (tCallS sp (WE W) t) := by
  subst h1 h2 h3 h4 h5
  exact pe_calS C hr hg tk ha hdb he hpl
/-- code that is never come to -/
theorem pe_dead {X : Cx} (e : Expr) : PE X e (fun _ _ _ => False) := ⟨fun _ _ _ _ _ _ h => h.elim⟩
theorem de_dead {K : PySem.W.Frag} {W : WX} {cls : Nat → Addr} {e : FE} (h : ∀ env, e env = .bad := by intro env; rfl) : DE K W cls (fun _ _ _ => False) e := ⟨fun H0 Hf H env σ Q sub x p => by
  rw [h env] at p
  exact p⟩
/-! ### the keys of a dict, locked or not -/
def iKeysE (td : TE) : TI := fun σ H R => td σ H fun x H1 => ∃ d kvs, x = .ref d ∧ ((H1 d = some (.dK kvs) ∧ ∀ od, R (Itk d od kvs) (upd H1 d (.frz od (.dK kvs)))) ∨ ∃ od, H1 d = some (.frz od (.dK kvs)) ∧ R (Itk d od kvs) H1)
theorem pi_keysE {X : Cx} {tg e : Expr} {td : TE} (he : PE X e td) : PI X tg e (iKeysE td) := by
  refine ⟨fun pins s σ H R I h => ?_⟩
  refine thn (he.run pins s σ H _ I h) fun u s1 ⟨x, H1, I1, rx, d, kvs, ex, q⟩ => ?_
  subst ex
  obtain rfl : u = Value.ref d := rx
  rcases q with ⟨hd, q⟩ | ⟨od, hd, q⟩
  · obtain ⟨od, I2⟩ := I1.lock hd trivial
    obtain ⟨hs, hgd, hx, es, ep, vs, hdt, hsz, kv, hm⟩ := I2.frzK upd_same
    refine iter_keys hs hgd hx hdt (pi_one (tk := s1.toks) I2 _ (turn_keys _ hdt) ⟨_, Heap.get?_push_size _ rfl, rfl, ?_⟩ (q od))
    rw [hsz] <;> rfl
  · obtain ⟨hs, hgd, hx, es, ep, vs, hdt, hsz, kv, hm⟩ := I1.frzK hd
    refine iter_keys hs hgd hx hdt (pi_one (tk := s1.toks) I1 _ (turn_keys _ hdt) ⟨_, Heap.get?_push_size _ rfl, rfl, ?_⟩ q)
    rw [hsz] <;> rfl
/-! ### sums by power in a heap -/
def kI (l : IK) : List (Key × V) := (toF l).map kqV
theorem getA_toF (l : IK) (k : Int) : ((getA (toF l) k).map Fv.v).getD (.int 0) = .int (getZ l k) := by
  unfold getA toF getZ
  rw [List.find?_map]
  have e : ((fun p : Int × Fv => p.1 == k) ∘ fun p : Int × Int => (p.1, Fv.int p.2)) = fun p => p.1 == k := rfl
  rw [e]
  cases l.find? fun p => p.1 == k with
  | none => rfl
  | some p => rfl
theorem val_kI (l : IK) (k : Int) : (valV (kI l) (Sum.inl k : Key)).getD (.int 0) = .int (getZ l k) := by
  unfold kI
  rw [val_get]
  exact getA_toF l k
theorem val_kI_some {l : IK} {p : Int × Int} (h : p ∈ l) : valV (kI l) (Sum.inl p.1 : Key) = some (.int (getZ l p.1)) := by
  have h1 := val_kI l p.1
  have h2 : (valV (kI l) (Sum.inl p.1 : Key)).isSome = true := by
    unfold kI
    rw [val_get, Option.isSome_map]
    unfold getA toF
    rw [List.find?_map, Option.isSome_map, Option.isSome_map]
    have e : ((fun q : Int × Fv => q.1 == p.1) ∘ fun q : Int × Int => (q.1, Fv.int q.2)) = fun q => q.1 == p.1 := rfl
    rw [e, List.find?_isSome]
    exact ⟨p, h, by simp⟩
  cases q : valV (kI l) (Sum.inl p.1 : Key) with
  | none => rw [q] at h2; cases h2
  | some v =>
    rw [q] at h1
    exact congrArg some h1
theorem put_kI (l : IK) (k v : Int) : putK (kI l) (Sum.inl k : Key) (.int v) = kI (putZ l k v) := by
  unfold kI
  have h := put_kq (toF l) k (.int v)
  rw [show (Fv.int v).v = V.int v from rfl] at h
  rw [h]
  congr 1
  unfold putA putZ toF
  rw [List.any_map]
  have e : ((fun p : Int × Fv => p.1 == k) ∘ fun p : Int × Int => (p.1, Fv.int p.2)) = fun p => p.1 == k := rfl
  rw [e]
  by_cases c : (l.any fun p => p.1 == k) = true
  · rw [if_pos c, if_pos c, List.map_map, List.map_map]
    refine List.map_congr_left fun p _ => ?_
    show (if (p.1 == k) = true then (p.1, Fv.int v) else (p.1, Fv.int p.2)) = ((if (p.1 == k) = true then (p.1, v) else p).1, Fv.int (if (p.1 == k) = true then (p.1, v) else p).2)
    by_cases q : (p.1 == k) = true
    · rw [if_pos q, if_pos q]
    · rw [if_neg q, if_neg q]
  · rw [if_neg c, if_neg c, List.map_append]
    rfl
theorem putZ_len (l : IK) (k v : Int) : (putZ l k v).length ≤ l.length + 1 := by
  unfold putZ
  split
  · rw [List.length_map]; omega
  · rw [List.length_append]; exact Nat.le_refl _
theorem kI_len (l : IK) : (kI l).length = l.length := by
  unfold kI toF
  rw [List.length_map, List.length_map]
/-! ### add_to -/
/-- at p a dict that is filled, at q another one, maybe locked already -/
def spAddTo (K : PySem.W.Frag) : Sp := fun vs H Q E => vs.length = 4 ∧ ∃ (p q : Addr) (l o : IK) (sh sg : Int), vs = [.ref p, .ref q, .int sh, .int sg] ∧ p ≠ q ∧ H p = some (.dK (kI l)) ∧ (H q = some (.dK (kI o)) ∨ ∃ od, H q = some (.frz od (.dK (kI o)))) ∧
  (l.length + o.length < LIM ∧ -(2 ^ 64) < sg ∧ sg < 2 ^ 64) ∧ ∀ H', (∀ a, a ≠ p → a ≠ q → H' a = H a) → H' p = some (.dK (kI (addTo l o sh sg))) → (∃ od, H' q = some (.frz od (.dK (kI o)))) → Q .non H'
theorem spAddTo.len {K : PySem.W.Frag} {vs : List V} {H : Hp} {Q : VK} {E : XK} (h : spAddTo K vs H Q E) : vs.length = 4 := h.1
def t_addTo (K : PySem.W.Frag) : TS := tFor (iKeysE (L2.tVar 1)) (gName 4)
  (tSeq (tAsg (tOp (rAddG K) (L2.tVar 4) (L2.tVar 2)) (gName 5))
    (L2.sDPut (L2.tVar 0) (L2.tVar 5) (tOp (rAddG K) (tDGet2 (L2.tVar 0) (L2.tVar 5) (tC (.int 0))) (tOp (rI CMul fun i j => .int (i * j)) (L2.tVar 3) (tDGet (L2.tVar 1) (L2.tVar 4))))))
theorem addTo_reading {K : PySem.W.Frag} {vs : List V} {H : Hp} {Q : VK} {E : XK} (h : spAddTo K vs H Q E) :
    t_addTo K { nx := fun _ H' => Q .non H', rt := Q } (start ["found", "other", "shift", "sign", "power", "at"] vs) H := by
  obtain ⟨_, p, q, l, o, sh, sg, rfl, hpq, hp, hq, ⟨hsz, hs1, hs2⟩, post⟩ := h
  have hst : start ["found", "other", "shift", "sign", "power", "at"] [V.ref p, .ref q, .int sh, .int sg] = [some (.ref p), some (.ref q), some (.int sh), some (.int sg), none, none] := rfl
  rw [hst]
  -- the loop, the other dict being locked
  have loop : ∀ (od : Obj) (H1 : Hp), H1 q = some (.frz od (.dK (kI o))) → H1 p = some (.dK (kI l)) → (∀ a, a ≠ q → H1 a = H a) →
      ∃ W : Nat → Nat → L2.St → Hp → Prop, (∃ m, W 0 m [some (.ref p), some (.ref q), some (.int sh), some (.int sg), none, none] H1) ∧ ∀ i m σ H, W i m σ H →
        ((Itk q od (kI o)).stop i H ∧ Q .non H) ∨ ((Itk q od (kI o)).go i H ∧ ∃ N : L2.St → Hp → Prop, (∀ σ' H', N σ' H' → ∃ m', m' < m ∧ W (i + 1) m' σ' H') ∧ ∀ x H', (Itk q od (kI o)).yld i H x H' → gName 4 x σ H' fun σ2 H2 =>
          (tSeq (tAsg (tOp (rAddG K) (L2.tVar 4) (L2.tVar 2)) (gName 5)) (L2.sDPut (L2.tVar 0) (L2.tVar 5) (tOp (rAddG K) (tDGet2 (L2.tVar 0) (L2.tVar 5) (tC (.int 0))) (tOp (rI CMul fun i j => .int (i * j)) (L2.tVar 3) (tDGet (L2.tVar 1) (L2.tVar 4)))))) { nx := N, rt := Q, ct := N, bk := fun _ H' => Q .non H' } σ2 H2) := by
    intro od H1 h1q h1p h1o
    refine ⟨fun i m σ' H' => m = o.length - i ∧ i ≤ o.length ∧ (∃ a b, σ' = [some (.ref p), some (.ref q), some (.int sh), some (.int sg), a, b]) ∧ (∀ a, a ≠ p → H' a = H1 a) ∧ ∃ l', l' = (o.take i).foldl (fun f p => addZ f (p.1 + sh) (sg * getZ o p.1)) l ∧ l'.length ≤ l.length + i ∧ H' p = some (.dK (kI l')),
      ⟨o.length, by simp, Nat.zero_le _, ⟨none, none, rfl⟩, fun _ _ => rfl, l, by rw [List.take_zero]; rfl, by omega, h1p⟩, ?_⟩
    rintro i m σ' H' ⟨rfl, hi, ⟨a, b, rfl⟩, hk, l', el, hl', hp'⟩
    have hq' : H' q = some (.frz od (.dK (kI o))) := by rw [hk q (Ne.symm hpq)]; exact h1q
    by_cases hlt : i < o.length
    · refine .inr ⟨⟨hq', by rw [kI_len]; exact hlt⟩, fun σ'' H'' => o.length - (i + 1) = o.length - (i + 1) ∧ i + 1 ≤ o.length ∧ (∃ a b, σ'' = [some (.ref p), some (.ref q), some (.int sh), some (.int sg), a, b]) ∧ (∀ a, a ≠ p → H'' a = H1 a) ∧ ∃ l', l' = (o.take (i + 1)).foldl (fun f p => addZ f (p.1 + sh) (sg * getZ o p.1)) l ∧ l'.length ≤ l.length + (i + 1) ∧ H'' p = some (.dK (kI l')),
        fun σ'' H'' w => ⟨_, by omega, w⟩, fun x H'' hy => ?_⟩
      obtain ⟨rfl, k, v, ek, rfl⟩ := hy
      have ek2 : (kI o)[i]? = some (kqV (o[i].1, Fv.int o[i].2)) := by
        unfold kI toF
        rw [List.getElem?_map, List.getElem?_map, List.getElem?_eq_getElem hlt]
        rfl
      rw [ek2, kqV_eq] at ek
      have hk1 := congrArg Prod.fst (Option.some.inj ek)
      dsimp only at hk1
      subst hk1
      have hmem : o[i] ∈ o := List.getElem_mem hlt
      have e3 : (o.take (i + 1)).foldl (fun f p => addZ f (p.1 + sh) (sg * getZ o p.1)) l = addZ l' (o[i].1 + sh) (sg * getZ o o[i].1) := by
        rw [List.take_succ_eq_append_getElem hlt, List.foldl_append, ← el]
        rfl
      generalize o[i] = pr at *
      show tSeq _ _ _ ([some (.ref p), some (.ref q), some (.int sh), some (.int sg), some (.int pr.1), b] : L2.St) H''
      refine seq_asg ⟨_, rfl, _, rfl, .inl ⟨_, _, rfl, rfl, ?_⟩⟩
      show L2.sDPut _ _ _ _ ([some (.ref p), some (.ref q), some (.int sh), some (.int sg), some (.int pr.1), some (.int (pr.1 + sh))] : L2.St) H''
      refine ⟨_, rfl, p, rfl, .inl ⟨_, .inl hp'⟩, _, rfl, _, DGet.k (k := Sum.inl (pr.1 + sh)) hp', ?_⟩
      rw [val_kI]
      refine ⟨_, rfl, _, rfl, _, rfl, q, .int (getZ o pr.1), rfl, .inl ⟨_, Sum.inl pr.1, .inr ⟨od, hq'⟩, rfl, (val_kI_some hmem).symm⟩, ?_⟩
      refine ⟨_, _, rfl, rfl, .inl ⟨hs1, hs2⟩, .inl ⟨_, _, rfl, rfl, ?_⟩⟩
      refine ⟨_, rfl, _, rfl, p, _, rfl, DPut.k (k := Sum.inl (pr.1 + sh)) hp' (lim_lt (by rw [kI_len]; omega)), ?_⟩
      rw [put_kI]
      refine ⟨rfl, hlt, ⟨_, _, rfl⟩, fun a ha => by rw [upd_ne ha]; exact hk a ha, _, e3.symm, ?_, upd_same⟩
      have := putZ_len l' (pr.1 + sh) (getZ l' (pr.1 + sh) + sg * getZ o pr.1)
      unfold addZ
      omega
    · have hi2 : i = o.length := by omega
      refine .inl ⟨⟨hq', by rw [kI_len]; omega⟩, ?_⟩
      rw [hi2, List.take_length] at el
      refine post H' (fun a h1 h2 => by rw [hk a h1, h1o a h2]) ?_ ⟨od, hq'⟩
      rw [hp', el]
      rfl
  refine ⟨_, rfl, q, kI o, rfl, ?_⟩
  rcases hq with hq | ⟨od, hq⟩
  · exact .inl ⟨hq, fun od => loop od _ upd_same (by rw [upd_ne hpq]; exact hp) fun a ha => upd_ne ha⟩
  · exact .inr ⟨od, hq, loop od H hq hp fun _ _ => rfl⟩
theorem addTo_len (o0 : IK) (sh sg : Int) : ∀ (o l : IK), (o.foldl (fun f p => addZ f (p.1 + sh) (sg * getZ o0 p.1)) l).length ≤ l.length + o.length
  | [], l => by simp
  | p :: o, l => by
    rw [List.foldl_cons]
    have h1 := addTo_len o0 sh sg o (addZ l (p.1 + sh) (sg * getZ o0 p.1))
    have h2 := putZ_len l (p.1 + sh) (getZ l (p.1 + sh) + sg * getZ o0 p.1)
    have h3 : (addZ l (p.1 + sh) (sg * getZ o0 p.1)).length ≤ l.length + 1 := h2
    rw [List.length_cons]
    omega
/-! ### of_rings -/
abbrev t_neg (k : Int) : TE := tUn (rU fun i => .int (-i)) (tC (.int k))
def t_ofRings (K : PySem.W.Frag) (W : WX) : TS :=
  tSeq (tAsg (tDisp [(tC (.int 0), tC (.int 1))]) (gName 1))
  (tSeq (tFor (iRng1 (tCons (L2.tVar 0) tNil)) (gName 2)
    (tSeq (tAsg tDNewK (gName 3))
    (tSeq (tDrop (tCallS (spAddTo K) (WE W) (tCons (L2.tVar 3) (tCons (L2.tVar 1) (tCons (tC (.int 2)) (tCons (t_neg 1) tNil))))))
    (tSeq (tDrop (tCallS (spAddTo K) (WE W) (tCons (L2.tVar 3) (tCons (L2.tVar 1) (tCons (t_neg 2) (tCons (t_neg 1) tNil))))))
      (tAsg (L2.tVar 3) (gName 1))))))
   (tRet (L2.tVar 1)))
theorem ofRings_reading {K : PySem.W.Frag} {cls : Nat → Addr} {vs : List V} {H : Hp} {Q : VK} {E : XK} (h : spF K cls 1 ofRingsF vs H Q E) :
    t_ofRings K (fun c d _ H => E c d H) { nx := fun _ H' => Q .non H', rt := Q } (start ["rings", "found", "k", "more"] vs) H := by
  obtain ⟨hl, ds, Hb, sub, r, post⟩ := h
  unfold ofRingsF at post
  split at post
  case h_2 => exact post.elim
  rename_i n
  split at post
  case isFalse => exact post.elim
  rename_i hc
  obtain ⟨⟨h0, h1⟩, hlen⟩ := hc
  have hlen' : ∀ i, i ≤ n.toNat → (ringsD i).length ≤ 2000 := fun i hi => of_decide_eq_true (List.all_eq_true.mp hlen i (List.mem_range.mpr (by omega)))
  cases r with
  | cons r0 r =>
  cases r with
  | nil =>
  have e1 := r0.int_inv
  subst e1
  have hst : start ["rings", "found", "k", "more"] [V.int n] = [some (.int n), none, none, none] := rfl
  rw [hst]
  unfold t_ofRings
  refine seq_asg fun p hp => ?_
  show upd H p (.dK []) p = _ ∧ _
  refine ⟨upd_same, [(Sum.inl 0, V.int 1)], rfl, by show 1 ≤ 15; decide, ?_⟩
  rw [upd_upd]
  show tSeq _ _ _ ([some (.int n), some (.ref p), none, none] : L2.St) (upd H p (.dK (kI (ringsD 0))))
  refine ⟨V.int n, rfl, n, rfl, by omega, by omega, ?_⟩
  refine for_range (lo := 0) (n := n.toNat) (fun i σ' H' => ∃ (F : Addr) (a b : Option V), σ' = [some (.int n), some (.ref F), a, b] ∧ H F = none ∧ H' F = some (.dK (kI (ringsD i))) ∧ ∀ a o, H a = some o → H' a = some o)
    ⟨p, none, none, rfl, hp, upd_same, fun a o e => by rw [upd_ne (ne_of_none e hp)]; exact e⟩ ?_ ?_
  · rintro i σ' H' hi ⟨F, a, b, rfl, hF0, hF, hk⟩
    rw [Int.zero_add]
    show tSeq _ _ _ ([some (.int n), some (.ref F), some (.int (i : Nat)), b] : L2.St) H'
    refine seq_asg fun M hM => ?_
    show tSeq _ _ _ ([some (.int n), some (.ref F), some (.int (i : Nat)), some (.ref M)] : L2.St) (upd H' M (.dK (kI [])))
    have hMF : M ≠ F := fun e => by rw [e, hF] at hM; cases hM
    have hM0 : H M = none := by
      cases e : H M with
      | none => rfl
      | some o => rw [hk M o e] at hM; cases hM
    have li := hlen' i (by omega)
    have l1 : (addTo [] (ringsD i) 2 (-1)).length ≤ 0 + (ringsD i).length := addTo_len (ringsD i) 2 (-1) (ringsD i) []
    refine ⟨_, rfl, _, rfl, _, rfl, rfl, M, F, [], ringsD i, 2, -1, rfl, hMF, upd_same, .inl (by rw [upd_ne (Ne.symm hMF)]; exact hF), ⟨by show ([] : IK).length + _ < 1000000; simp; omega, by decide, by decide⟩, fun H2 k2 m2 ⟨od, f2⟩ => ?_⟩
    show tSeq _ _ _ ([some (.int n), some (.ref F), some (.int (i : Nat)), some (.ref M)] : L2.St) H2
    refine ⟨_, rfl, _, rfl, _, rfl, _, rfl, rfl, M, F, addTo [] (ringsD i) 2 (-1), ringsD i, -2, -1, rfl, hMF, m2, .inr ⟨od, f2⟩, ⟨by show (addTo [] (ringsD i) 2 (-1)).length + _ < 1000000; omega, by decide, by decide⟩, fun H3 k3 m3 _ => ?_⟩
    refine ⟨_, rfl, ?_⟩
    refine ⟨M, some (.int (i : Nat)), some (.ref M), rfl, hM0, m3, fun a o e => ?_⟩
    have ha1 : a ≠ M := ne_of_none e hM0
    have ha2 : a ≠ F := ne_of_none e hF0
    rw [k3 a ha1 ha2, k2 a ha1 ha2, upd_ne ha1]
    exact hk a o e
  · rintro σ' H' ⟨F, a, b, rfl, hF0, hF, hk⟩
    refine ⟨_, rfl, ?_⟩
    have hFb : Hb F = none := by
      cases e : Hb F with
      | none => rfl
      | some o => rw [sub F o e] at hF0; cases hF0
    exact post (.ref F) Hb H' ⟨fun a o e => hk a o (sub a o e), Ex.refl _, fun a o e n => ⟨hk a o e, n⟩⟩ ⟨F, rfl, hF0, hFb, hF⟩
/-! ### a law's own adding -/
def spLawAdd (K : PySem.W.Frag) (cls : Nat → Addr) (ch : List D → R Sl) : Sp := fun vs H Q E => vs.length = 3 ∧ ∃ (p : Addr) (l l' : IK) (pw rg : Int), vs = [.ref p, .int pw, .int rg] ∧ H p = some (.dK (kI l)) ∧ lawAddL ch l pw rg = some l' ∧
  ∀ H', (∀ a o, a ≠ p → H a = some o → H' a = some o) → H' p = some (.dK (kI l')) → Q .non H'
theorem spLawAdd.len {K : PySem.W.Frag} {cls : Nat → Addr} {ch : List D → R Sl} {vs : List V} {H : Hp} {Q : VK} {E : XK} (h : spLawAdd K cls ch vs H Q E) : vs.length = 3 := h.1
abbrev t_mul (a b : TE) : TE := tOp (rI CMul fun i j => .int (i * j)) a b
abbrev t_sub (a b : TE) : TE := tOp (rI0 fun i j => .int (i - j)) a b
abbrev t_mod (a b : TE) : TE := tOp (rI (fun _ j => 0 < j) fun i j => .int (i % j)) a b
def t_lawAdd (K : PySem.W.Frag) (cls : Nat → Addr) (ch : List D → R Sl) (W : WX) : TS :=
  tSeq (tAsg (tCallS (spF K cls 1 ch) (WE W) (tCons (L2.tVar 2) tNil)) (gName 3))
  (tFor (iRng1 (tCons (tCB (rLenG K) (tCons (L2.tVar 3) tNil)) tNil)) (gName 4)
    (tSeq (tAsg (t_sub (tOp (rAddG K) (L2.tVar 1) (t_mul (tC (.int 2)) (L2.tVar 2))) (t_mul (tC (.int 4)) (L2.tVar 4))) (gName 5))
      (L2.sDPut (L2.tVar 0) (L2.tVar 5) (tOp (rAddG K) (tDGet2 (L2.tVar 0) (L2.tVar 5) (tC (.int 0))) (t_mul (tOp (rIx K) (L2.tVar 3) (L2.tVar 4)) (t_sub (tC (.int 1)) (t_mul (tC (.int 2)) (t_mod (L2.tVar 2) (tC (.int 2))))))))))
theorem lawAdd_reading {K : PySem.W.Frag} {cls : Nat → Addr} {ch : List D → R Sl} {vs : List V} {H : Hp} {Q : VK} {E : XK} (h : spLawAdd K cls ch vs H Q E) :
    t_lawAdd K cls ch (fun c d _ H => E c d H) { nx := fun _ H' => Q .non H', rt := Q } (start ["found", "power", "rings", "row", "e", "at"] vs) H := by
  obtain ⟨_, p, l, l', pw, rg, rfl, hp, hl', post⟩ := h
  have hst : start ["found", "power", "rings", "row", "e", "at"] [V.ref p, .int pw, .int rg] = [some (.ref p), some (.int pw), some (.int rg), none, none, none] := rfl
  rw [hst]
  unfold lawAddL at hl'
  split at hl'
  case h_2 => cases hl'
  rename_i ds hch
  split at hl'
  case h_2 => cases hl'
  rename_i row hrow
  split at hl'
  case isFalse => cases hl'
  rename_i hsz
  have hl2 := Option.some.inj hl'
  unfold t_lawAdd
  refine seq_asg ⟨_, rfl, rfl, [.int rg], fun _ => none, (show Ex (fun _ => none) H from fun a o e => by cases e), RepL.cons (.int rg) .nil, ?_⟩
  rw [hch]
  intro v Hf' H1 g rep
  obtain ⟨c, vs', rfl, hcv0, rl⟩ := (show Rep K Hf' (.lst ds) v from rep).lst_inv
  rw [rl.ints hrow] at hcv0
  have hcv : H1 c = some (.lst (row.map V.int)) := g.sub _ _ hcv0
  have hk1 : ∀ a o, H a = some o → H1 a = some o := fun a o e => (g.kept a o e rfl).1
  have hpc : p ≠ c := fun e => by rw [← e, hk1 _ _ hp] at hcv; cases hcv
  show tFor _ _ _ _ ([some (.ref p), some (.int pw), some (.int rg), some (.ref c), none, none] : L2.St) H1
  refine ⟨V.ref c, rfl, V.ref c, row.length, rfl, .inl ⟨_, SqL.of hcv, by rw [List.length_map]⟩, (row.length : Nat), rfl, by omega, by have : l.length + row.length < 1000000 := hsz; omega, ?_⟩
  rw [Int.toNat_natCast]
  refine for_range (lo := 0) (n := row.length) (fun i σ' H' => (∃ a b, σ' = [some (.ref p), some (.int pw), some (.int rg), some (.ref c), a, b]) ∧ (∀ a, a ≠ p → H' a = H1 a) ∧ ∃ l2, l2 = (List.range i).foldl (fun f (e : Nat) => addZ f (pw + 2 * rg - 4 * (e : Int)) (row.getD e 0 * (1 - 2 * (rg % 2)))) l ∧ l2.length ≤ l.length + i ∧ H' p = some (.dK (kI l2)))
    ⟨⟨none, none, rfl⟩, fun _ _ => rfl, l, rfl, Nat.le_refl _, hk1 _ _ hp⟩ ?_ ?_
  · rintro i σ' H' hi ⟨⟨a, b, rfl⟩, hk, l2, el, hll, hp2⟩
    rw [Int.zero_add]
    show tSeq _ _ _ ([some (.ref p), some (.int pw), some (.int rg), some (.ref c), some (.int (i : Nat)), b] : L2.St) H'
    have hcv' : H' c = some (.lst (row.map V.int)) := by rw [hk c (Ne.symm hpc)]; exact hcv
    have hx : row[i]? = some (row.getD i 0) := by rw [List.getElem?_eq_getElem hi, List.getD_eq_getElem?_getD, List.getElem?_eq_getElem hi]; rfl
    have m1 : 0 ≤ rg % 2 := Int.emod_nonneg _ (by decide)
    have m2 : rg % 2 < 2 := Int.emod_lt_of_pos _ (by decide)
    refine seq_asg ⟨_, rfl, _, rfl, ⟨_, _, rfl, rfl, .inl ⟨by decide, by decide⟩, .inl ⟨_, _, rfl, rfl, _, rfl, ⟨_, _, rfl, rfl, .inl ⟨by decide, by decide⟩, _, _, rfl, rfl, ?_⟩⟩⟩⟩
    show L2.sDPut _ _ _ _ ([some (.ref p), some (.int pw), some (.int rg), some (.ref c), some (.int (i : Nat)), some (.int (pw + 2 * rg - 4 * (i : Int)))] : L2.St) H'
    refine ⟨_, rfl, p, rfl, .inl ⟨_, .inl hp2⟩, _, rfl, _, DGet.k (k := Sum.inl (pw + 2 * rg - 4 * (i : Int))) hp2, ?_⟩
    rw [val_kI]
    refine ⟨_, rfl, _, rfl, .inl ⟨c, _, _, _, rfl, rfl, SqL.of hcv', at_ints hx, ?_⟩⟩
    refine ⟨_, rfl, _, _, rfl, rfl, (show (0 : Int) < 2 by decide), _, _, rfl, rfl, .inl ⟨by decide, by decide⟩, _, _, rfl, rfl, _, _, rfl, rfl, .inr ⟨by omega, by omega⟩, .inl ⟨_, _, rfl, rfl, ?_⟩⟩
    have hsz2 : l.length + row.length < 1000000 := hsz
    refine ⟨_, rfl, _, rfl, p, _, rfl, DPut.k (k := Sum.inl (pw + 2 * rg - 4 * (i : Int))) hp2 (lim_lt (by rw [kI_len]; show _ < 1000000; omega)), ?_⟩
    rw [put_kI]
    refine ⟨⟨_, _, rfl⟩, fun a ha => by rw [upd_ne ha]; exact hk a ha, addZ l2 (pw + 2 * rg - 4 * (i : Int)) (row.getD i 0 * (1 - 2 * (rg % 2))), ?_, ?_, upd_same⟩
    · rw [List.range_succ, List.foldl_append, ← el]
      rfl
    · have := putZ_len l2 (pw + 2 * rg - 4 * (i : Int)) (getZ l2 (pw + 2 * rg - 4 * (i : Int)) + row.getD i 0 * (1 - 2 * (rg % 2)))
      unfold addZ
      omega
  · rintro σ' H' ⟨_, hk, l2, el, _, hp2⟩
    refine post H' (fun a o ha e => by rw [hk a ha]; exact hk1 a o e) ?_
    rw [hp2, el, hl2]
/-! ### the statements -/
section
variable {K : PySem.W.Frag} {W : WX} {cls : Nat → Addr}
theorem ofF_toF : ∀ {kvs : List (Int × Fv)} {l : IK}, ofF kvs = some l → kvs = toF l
  | [], l, h => by
    have : [] = l := Option.some.inj h
    rw [← this]
    rfl
  | (k, .int i) :: r, l, h => by
    unfold ofF at h
    cases q : ofF r with
    | none => rw [q] at h; cases h
    | some l2 =>
      rw [q] at h
      have : (k, i) :: l2 = l := Option.some.inj h
      rw [← this, ofF_toF q]
      rfl
  | (k, .bl b) :: r, l, h => by cases h
/-- slot i's object told anew; what else is changed is held by no slot and read by none -/
theorem St0.fill {Hb H0 Hf H H' : Hp} {env : Env} {σ : L2.St} {i : Nat} {p : Addr} {d d' : D} {C : Addr → Prop} (x : St0 K Hb H0 Hf H env σ) (ei : env[i]? = some (.ow d)) (es : σ[i]? = some (some (.ref p))) (w : OwnAt K Hf H' d' p)
    (hk : ∀ a o, H a = some o → ¬ C a → H' a = some o) (hC : ∀ a, C a → a = p ∨ (Hf a = none ∧ H0 a = none ∧ ∀ j, ¬ OwnsAt env σ j a)) (hCp : ∀ a, a = p → C a) : St0 K Hb H0 Hf H' (env.set i (.ow d')) σ := by
  have own : OwnsAt env σ i p := ⟨⟨d, ei⟩, es⟩
  obtain ⟨_, _, h0, n, _⟩ := x.env.own own
  have hf : ∀ a, C a → Hf a = none ∧ H0 a = none := fun a ha => by
    rcases hC a ha with rfl | ⟨h1, h2, _⟩
    · exact ⟨n, h0⟩
    · exact ⟨h1, h2⟩
  refine ⟨x.base, ⟨fun a o e => ?_, x.grow.old, fun a o e na => ?_⟩, ⟨by rw [List.length_set]; exact x.env.len, fun j s ob e1 e2 => ?_, fun a b q h1 h2 => ?_⟩⟩
  · exact hk a o (x.grow.sub a o e) fun c => by rw [(hf a c).1] at e; cases e
  · obtain ⟨e1, n1⟩ := x.grow.kept a o e na
    exact ⟨hk a o e1 fun c => (by rw [(hf a c).2] at e; cases e), n1⟩
  · rw [List.getElem?_set] at e1
    by_cases hj : i = j
    · subst hj
      rw [if_pos rfl] at e1
      split at e1
      · cases e1
        rw [es] at e2
        cases e2
        exact ⟨p, rfl, h0, n, w⟩
      · cases e1
    · rw [if_neg hj] at e1
      have z := x.env.slot j s ob e1 e2
      cases s with
      | no => trivial
      | va d => exact z
      | ow d2 =>
        obtain ⟨p', ep, h0', n', w'⟩ := z
        have ow' : OwnsAt env σ j p' := ⟨⟨d2, e1⟩, by rw [e2, ep]⟩
        have nc : ¬ C p' := fun c => by
          rcases hC p' c with e | ⟨_, _, h3⟩
          · subst e
            exact hj (x.env.apart i j _ own ow')
          · exact h3 j ow'
        refine ⟨p', ep, h0', n', ?_⟩
        cases d2 with
        | lst ds =>
          obtain ⟨vs, hp, r⟩ := w'
          exact ⟨vs, hk _ _ hp nc, r⟩
        | dic kvs => exact hk _ _ w' nc
        | _ => exact w'.elim
  · have back : ∀ a, OwnsAt (env.set i (.ow d')) σ a q → OwnsAt env σ a q := fun a ⟨⟨d2, e1⟩, e2⟩ => by
      rw [List.getElem?_set] at e1
      by_cases hj : i = a
      · subst hj
        exact ⟨⟨d, ei⟩, e2⟩
      · rw [if_neg hj] at e1
        exact ⟨⟨d2, e1⟩, e2⟩
    exact x.env.apart a b q (back a h1) (back b h2)
theorem ds_lawAdd {ch : List D → R Sl} {i : Nat} {tp tr : TE} {fp fr : FE} (hp : DE K W cls tp fp) (hr : DE K W cls tr fr) : DS K W cls (tDrop (tCallS (spLawAdd K cls ch) (WE W) (tCons (L2.tVar i) (tCons tp (tCons tr tNil))))) (sLawAdd ch i fp fr) := by
  refine ⟨fun Hb H0 Hf H env σ D x h => ?_⟩
  unfold sLawAdd at h
  split at h
  case h_2 => exact h.elim
  rename_i kvs ei
  obtain ⟨ob, eo, p, ev, h0, n, w⟩ := x.env.any ei
  subst ev
  refine ⟨.ref p, eo, ?_⟩
  refine x.exprV hp h fun s v Hf2 H1 g2 rv k => ?_
  have x2 := x.step g2
  refine x2.exprV hr k fun s2 v2 Hf4 H3 g4 rv2 k3 => ?_
  have x4 := x2.step g4
  obtain ⟨ob', eo', p', ev', h0', n', w'⟩ := x4.env.any ei
  subst ev'
  rw [eo] at eo'
  cases eo'
  have rv4 := rv.mono g4.lo
  split at k3
  case h_2 => exact k3.elim
  rename_i l pw rg el ea eb
  split at k3
  case h_2 => exact k3.elim
  rename_i l' hl'
  rw [ea] at rv4
  rw [eb] at rv2
  have e1 := rv4.int_inv
  have e2 := rv2.int_inv
  subst e1 e2
  have ek := ofF_toF el
  subst ek
  refine ⟨rfl, p, l, l', pw, rg, rfl, w', hl', fun H' hk hp' => ?_⟩
  exact k3 Hf4 H' σ (Lo.refl _) (x4.fill (C := fun a => a = p) ei eo hp' (fun a o e c => hk a o c e) (fun a c => .inl c) (fun a c => c))
theorem ds_addT {i : Nat} {tx tsh tsg : TE} {fx fsh fsg : FE} (hx : DE K W cls tx fx) (hs : DE K W cls tsh fsh) (hg : DE K W cls tsg fsg) : DS K W cls (tDrop (tCallS (spAddTo K) (WE W) (tCons (L2.tVar i) (tCons tx (tCons tsh (tCons tsg tNil)))))) (sAddT i fx fsh fsg) := by
  refine ⟨fun Hb H0 Hf H env σ D x h => ?_⟩
  unfold sAddT at h
  split at h
  case h_2 => exact h.elim
  rename_i kvs ei
  obtain ⟨ob, eo, p, ev, h0, n, w⟩ := x.env.any ei
  subst ev
  refine ⟨.ref p, eo, ?_⟩
  refine x.expr hx h fun s v Hf2 H1 g2 rv k => ?_
  split at k
  case h_2 => exact k.elim
  rename_i ovs
  obtain ⟨q, rfl, hq0, hqf, wq⟩ := rv
  have x2 := x.step g2
  refine x2.exprV hs k fun s3 v3 Hf3 H3 g3 rv3 k3 => ?_
  have x3 := x2.step g3
  refine x3.exprV hg k3 fun s4 v4 Hf4 H4 g4 rv4 k4 => ?_
  have x4 := x3.step g4
  obtain ⟨ob', eo', p', ev', h0', n', w'⟩ := x4.env.any ei
  subst ev'
  rw [eo] at eo'
  cases eo'
  have rv3' := rv3.mono g4.lo
  split at k4
  case h_2 => exact k4.elim
  rename_i l o sh sg el eq' ea eb
  split at k4
  case isFalse => exact k4.elim
  rename_i hsz
  rw [ea] at rv3'
  rw [eb] at rv4
  have e1 := rv3'.int_inv
  have e2 := rv4.int_inv
  subst e1 e2
  have ek := ofF_toF el
  have eok := ofF_toF eq'
  subst ek eok
  have hq4 : H4 q = some (.dK (kI o)) ∧ Hf4 q = none := by
    have g := g3.trans g4
    have wq' : H1 q = some (.dK (kI o)) := wq
    exact g.kept q _ wq' hqf
  have hpq : p ≠ q := fun e => by
    have w0 : H p = some (.dK ((toF l).map kqV)) := w
    rw [e, hq0] at w0
    cases w0
  have hq00 : H0 q = none := x.grow.fresh x.base hq0
  refine ⟨rfl, p, q, l, o, sh, sg, rfl, hpq, w', .inl hq4.1, hsz, fun H' hk hp' _ => ?_⟩
  refine k4 Hf4 H' σ (Lo.refl _) (x4.fill (C := fun a => a = p ∨ a = q) ei eo hp' (fun a ob e c => ?_) (fun a c => ?_) (fun a c => .inl c))
  · rw [hk a (fun z => c (.inl z)) (fun z => c (.inr z))]
    exact e
  · rcases c with rfl | rfl
    · exact .inl rfl
    · refine .inr ⟨hq4.2, hq00, fun j ow => ?_⟩
      obtain ⟨d2, e5, _, _, w5⟩ := x.env.own ow
      obtain ⟨ob5, e6⟩ := w5.some
      rw [hq0] at e6
      cases e6
end
/-! ### a law's own rings -/
section
variable {K : PySem.W.Frag} {cls : Nat → Addr}
theorem ren_pairs {a : Addr} {A : List Addr} {H : Hp} {σ : L2.St} {old new : Int} {tO tN : TE} {D : Ends} {rj je : Nat} (hrj : rj ≠ je) (hlr : rj < σ.length) (hle : je < σ.length) (ha : H a = some (.lst (A.map V.ref))) (haA : a ∉ A) (nd : A.Nodup) (hc : Cells H A) (hsz : ∀ p ∈ A, (cellOf H p).length = 2)
    (hO : ∀ (σ' : L2.St) (H' : Hp) (Q : VK), (∀ i, i ≠ je → i ≠ rj → σ'[i]? = σ[i]?) → (∀ b, b ∉ A → H' b = H b) → Q (.int old) H' → tO σ' H' Q)
    (hN : ∀ (σ' : L2.St) (H' : Hp) (Q : VK), (∀ i, i ≠ je → i ≠ rj → σ'[i]? = σ[i]?) → (∀ b, b ∉ A → H' b = H b) → Q (.int new) H' → tN σ' H' Q)
    (hD : ∀ σ' H', σ'.length = σ.length → (∀ i, i ≠ je → i ≠ rj → σ'[i]? = σ[i]?) → (∀ b, b ∉ A → H' b = H b) → (∀ p ∈ A, H' p = some (.lst (((cellOf H p).map (ren old new)).map V.int))) → D.nx σ' H') :
    ∃ W : Nat → Nat → L2.St → Hp → Prop, (∃ m, W 0 m σ H) ∧ ∀ i m σ H, W i m σ H →
      ((Itl K a).stop i H ∧ D.nx σ H) ∨ ((Itl K a).go i H ∧ ∃ N : L2.St → Hp → Prop, (∀ σ' H', N σ' H' → ∃ m', m' < m ∧ W (i + 1) m' σ' H') ∧ ∀ x H', (Itl K a).yld i H x H' → gName rj x σ H' fun σ2 H2 => tFor (iRng1 (tCons (tC (.int 2)) tNil)) (gName je) (tIfS (tTest (tOp (rEqG K) (tOp (rIx K) (L2.tVar rj) (L2.tVar je)) tO)) (tAsg tN (gSub (L2.tVar rj) (L2.tVar je) rSetL)) tNext) { D with nx := N, ct := N, bk := D.nx } σ2 H2) := by
  refine for_list (K := K) (a := a) (xs := A.map V.ref) (fun i σ' H' => σ'.length = σ.length ∧ (∀ z, z ≠ je → z ≠ rj → σ'[z]? = σ[z]?) ∧ (∀ b, b ∉ A → H' b = H b) ∧ ∀ (n : Nat) (p : Addr), A[n]? = some p → H' p = some (.lst ((if n < i then (cellOf H p).map (ren old new) else cellOf H p).map V.int)))
    ⟨rfl, fun _ _ _ => rfl, fun _ _ => rfl, fun n p e => by rw [if_neg (Nat.not_lt_zero n)]; exact hc.at e⟩ ?_ ?_ ?_
  · intro i σ' H' _ ⟨_, _, h3, _⟩
    exact SqL.of (by rw [h3 a haA]; exact ha)
  · rintro i x σ' H' hx ⟨hl, hs, hb, hcc⟩
    rw [List.getElem?_map] at hx
    cases e : A[i]? with
    | none => rw [e] at hx; cases hx
    | some p =>
      rw [e] at hx
      have ex : V.ref p = x := Option.some.inj hx
      subst ex
      have hp := hcc i p e
      rw [if_neg (Nat.lt_irrefl i)] at hp
      have hpm := List.mem_of_getElem? e
      have hA : ∀ ys, ∀ b, b ∉ A → (upd H' p (.lst ys)) b = H b := fun ys b hb2 => by
        have : b ≠ p := fun z => hb2 (z ▸ hpm)
        rw [upd_ne this, hb b hb2]
      have hss : ∀ σ'' : L2.St, (∀ z, z ≠ je → σ''[z]? = (σ'.set rj (some (V.ref p)))[z]?) → ∀ z, z ≠ je → z ≠ rj → σ''[z]? = σ[z]? := fun σ'' h z h1 h2 => by
        rw [h z h1, List.getElem?_set_ne h2.symm, hs z h1 h2]
      show tFor _ _ _ _ (σ'.set rj (some (V.ref p))) H'
      refine ren_loop hrj (by rw [List.length_set, hl]; exact hle) (by rw [List.getElem?_set_self (by rw [hl]; exact hlr)]) hp ?_ (fun σ'' ys Q h q => hO σ'' _ Q (hss σ'' h) (hA ys) q) (fun σ'' ys Q h q => hN σ'' _ Q (hss σ'' h) (hA ys) q) ?_
      · intro R hR
        rw [hsz p hpm] at hR
        exact ⟨2, rfl, by omega, by omega, hR⟩
      · intro σ'' hl2 h
        refine ⟨by rw [hl2, List.length_set, hl], hss σ'' h, hA _, fun n q e2 => ?_⟩
        by_cases hq : q = p
        · subst hq
          have hni : n = i := by
            have h1 := (List.getElem?_eq_some_iff.mp e)
            have h2 := (List.getElem?_eq_some_iff.mp e2)
            obtain ⟨l1, v1⟩ := h1
            obtain ⟨l2, v2⟩ := h2
            exact nodup_inj nd (v2.trans v1.symm)
          subst hni
          rw [upd_same, if_pos (Nat.lt_succ_self n)]
        · have hni : n ≠ i := fun z => by
            rw [z, e] at e2
            exact hq (Option.some.inj e2).symm
          rw [upd_ne hq, hcc n q e2]
          by_cases c : n < i
          · rw [if_pos c, if_pos (by omega)]
          · rw [if_neg c, if_neg (by omega)]
  · rintro σ' H' ⟨hl, hs, hb, hcc⟩
    rw [List.length_map] at hcc
    refine hD σ' H' hl hs hb fun p hp => ?_
    obtain ⟨n, hn, e⟩ := List.mem_iff_getElem.mp hp
    have := hcc n p (by rw [List.getElem?_eq_getElem hn, e])
    rw [if_pos hn] at this
    exact this

def t_lawRings (K : PySem.W.Frag) : TS :=
  tSeq (tAsg (tLc (iBoth K (L2.tVar 0)) (gName 3) L2.tYes (tCB (rListG K) (tCons (L2.tVar 3) tNil)) [3]) (gName 1))
  (tSeq (tAsg (tC (.int 0)) (gName 2))
  (tSeq (tWhile (tTest (tOp (rI0 fun i j => .bl (decide (j < i))) (tCB (rLenG K) (tCons (L2.tVar 1) tNil)) (tC (.int 0))))
    (tSeq (tAsg (tOp (rIx K) (L2.tVar 1) (tC (.int 0))) (gName 3))
    (tSeq (tAsg (tSl (rSlG K) (L2.tVar 1) (tPart (tC (.int 1))) tNoPart) (gName 1))
    (tSeq (tIfS (tTest (tOp (rEqG K) (tOp (rIx K) (L2.tVar 3) (tC (.int 0))) (tOp (rIx K) (L2.tVar 3) (tC (.int 1))))) (tAsg (tOp (rAddG K) (L2.tVar 2) (tC (.int 1))) (gName 2)) tNext)
      (tFor (iBoth K (L2.tVar 1)) (gName 4)
        (tFor (iRng1 (tCons (tC (.int 2)) tNil)) (gName 5)
          (tIfS (tTest (tOp (rEqG K) (tOp (rIx K) (L2.tVar 4) (L2.tVar 5)) (tOp (rIx K) (L2.tVar 3) (tC (.int 1)))))
            (tAsg (tOp (rIx K) (L2.tVar 3) (tC (.int 0))) (gSub (L2.tVar 4) (L2.tVar 5) rSetL)) tNext)))))))
   (tRet (L2.tVar 2))))
theorem rings_reading {vs : List V} {H : Hp} {Q : VK} {E : XK} (h : spF K cls 1 ringsF vs H Q E) :
    t_lawRings K { nx := fun _ H' => Q .non H', rt := Q } (start ["pairs", "left", "found", "two", "other", "e"] vs) H := by
  obtain ⟨hl, ds, Hb, sub, r, post⟩ := h
  unfold ringsF at post
  split at post
  case h_2 => exact post.elim
  rename_i a
  split at post
  case h_2 => exact post.elim
  rename_i ps hps
  split at post
  case isFalse => exact post.elim
  rename_i hc
  obtain ⟨hsz, hpair⟩ := hc
  cases r with
  | cons r0 r =>
  cases r with
  | nil =>
  rename_i v0
  have hst : start ["pairs", "left", "found", "two", "other", "e"] [v0] = [some v0, none, none, none, none, none] := rfl
  rw [hst]
  unfold t_lawRings
  refine seq_asg ?_
  refine lc_copies (i := 0) (j := 3) (own := [3]) (σ := [some v0, none, none, none, none, none]) sub (by simp) (by simp) rfl r0 hps (by omega) fun L pl H1 ex1 hL0 hL hpl hcl hnl ndl => ?_
  show tSeq _ _ _ ([some v0, some (.ref L), none, none, none, none] : L2.St) H1
  refine seq_asg ?_
  show tSeq _ _ _ ([some v0, some (.ref L), some (.int 0), none, none, none] : L2.St) H1
  have hm0 : pl.map (cellOf H1) = ps := cells_map hpl hcl
  have hc0 : Cells H1 pl := fun p hp => by
    obtain ⟨n, hn, e⟩ := List.mem_iff_getElem.mp hp
    have := hcl n p _ (by rw [List.getElem?_eq_getElem hn, e]) (List.getElem?_eq_getElem (by omega))
    rw [cellOf_eq this]
    exact this
  -- the walk
  refine ⟨fun m σ' H' => ∃ (L' : Addr) (A : List Addr) (f : Nat) (x3 x4 x5 : Option V), σ' = [some v0, some (.ref L'), some (.int (f : Nat)), x3, x4, x5] ∧ A.length = m ∧ m < 500 ∧ Ex H H' ∧ H' L' = some (.lst (A.map V.ref)) ∧ Cells H' A ∧ (∀ p ∈ A, H p = none) ∧ (L' :: A).Nodup ∧ (∀ p ∈ A.map (cellOf H'), p.length = 2) ∧ f + rngL (A.map (cellOf H')) = rngL ps,
    ⟨pl.length, L, pl, 0, none, none, none, rfl, rfl, by omega, ex1, hL, hc0, hnl, ndl, by rw [hm0]; exact hpair, by rw [hm0]; omega⟩, ?_⟩
  rintro m σ' H' ⟨L', A, f, x3, x4, x5, rfl, hA, hm5, exH, hL', hcc, hn0, nd, h2, hf⟩
  refine ⟨V.ref L', rfl, V.ref L', A.length, rfl, .inl ⟨_, SqL.of hL', by rw [List.length_map]⟩, ?_⟩
  refine ⟨_, _, rfl, rfl, ?_⟩
  refine ⟨_, rfl, ?_⟩
  cases A with
  | nil =>
    rw [decide_eq_false (by simp)]
    refine iteF ?_
    refine ⟨_, rfl, ?_⟩
    simp only [List.map_nil] at hf
    have e0 : rngL [] = 0 := by rw [rngL]
    rw [e0, Nat.add_zero] at hf
    rw [hf]
    exact post _ Hb H' ⟨sub.trans exH, Ex.refl _, fun a o e n => ⟨exH a o e, n⟩⟩ (.int _)
  | cons p A =>
    rw [decide_eq_true (by simp only [List.length_cons]; omega)]
    refine iteT ?_
    refine ⟨fun σ'' H'' => ∃ (L' : Addr) (A2 : List Addr) (f : Nat) (x3 x4 x5 : Option V), σ'' = [some v0, some (.ref L'), some (.int (f : Nat)), x3, x4, x5] ∧ A2.length = A.length ∧ A.length < 500 ∧ Ex H H'' ∧ H'' L' = some (.lst (A2.map V.ref)) ∧ Cells H'' A2 ∧ (∀ p ∈ A2, H p = none) ∧ (L' :: A2).Nodup ∧ (∀ p ∈ A2.map (cellOf H''), p.length = 2) ∧ f + rngL (A2.map (cellOf H'')) = rngL ps,
      fun σ'' H'' w => ⟨A.length, by rw [← hA]; exact Nat.lt_succ_self _, w⟩, ?_⟩
    rw [List.length_cons] at hA
    have hpc := hcc p List.mem_cons_self
    obtain ⟨x, y, hxy⟩ : ∃ x y, cellOf H' p = [x, y] := by
      have := h2 (cellOf H' p) (by rw [List.map_cons]; exact List.mem_cons_self)
      match e : cellOf H' p, this with
      | [x, y], _ => exact ⟨x, y, rfl⟩
    rw [hxy] at hpc
    have at0 : atI (([x, y] : List Int).map V.int) 0 = some (.int x) := at_ints (i := 0) rfl
    have at1 : atI (([x, y] : List Int).map V.int) 1 = some (.int y) := at_ints (i := 1) rfl
    -- two = left[0]
    refine seq_asg ⟨V.ref L', rfl, .inl ⟨L', _, _, _, rfl, rfl, SqL.of hL', at_refs (i := 0) rfl, ?_⟩⟩
    show tSeq _ _ _ ([some v0, some (.ref L'), some (.int (f : Nat)), some (.ref p), x4, x5] : L2.St) H'
    -- left = left[1:]
    refine seq_asg ⟨V.ref L', rfl, _, rfl, .inl ⟨L', _, rfl, SqL.of hL', fun T hT => ?_⟩⟩
    have eT : cutV ((p :: A).map V.ref) (some (1 : Int)) none = A.map V.ref := by
      rw [show some (1 : Int) = some ((1 : Nat) : Int) from rfl, cutV_from (by rw [List.length_map, List.length_cons]; omega)]
      rfl
    rw [eT]
    show tSeq _ _ _ ([some v0, some (.ref T), some (.int (f : Nat)), some (.ref p), x4, x5] : L2.St) (upd H' T (.lst (A.map V.ref)))
    obtain ⟨H3, hH3⟩ : ∃ H3, H3 = upd H' T (.lst (A.map V.ref)) := ⟨_, rfl⟩
    rw [← hH3]
    have ex3 : Ex H' H3 := by rw [hH3]; exact Ex.new hT
    have hT3 : H3 T = some (.lst (A.map V.ref)) := by rw [hH3]; exact upd_same
    have nd2 := (List.nodup_cons.mp nd).2
    have hpA : p ∉ A := (List.nodup_cons.mp nd2).1
    have ndA : A.Nodup := (List.nodup_cons.mp nd2).2
    have hTA : T ∉ A := fun z => by
      have := hcc T (List.mem_cons_of_mem _ z)
      rw [hT] at this
      cases this
    have hp3 : H3 p = some (.lst (([x, y] : List Int).map V.int)) := ex3 _ _ hpc
    have heq : ∀ q ∈ A, cellOf H3 q = cellOf H' q := fun q hq => cellOf_eq (ex3 _ _ (hcc q (List.mem_cons_of_mem _ hq)))
    have hc3 : Cells H3 A := fun q hq => by
      rw [heq q hq]
      exact ex3 _ _ (hcc q (List.mem_cons_of_mem _ hq))
    have hl2 : ∀ q ∈ A, (cellOf H3 q).length = 2 := fun q hq => by
      rw [heq q hq]
      exact h2 _ (by rw [List.map_cons]; exact List.mem_cons_of_mem _ (List.mem_map.mpr ⟨q, hq, rfl⟩))
    have hrg : rngL ((p :: A).map (cellOf H')) = (if x = y then 1 else 0) + rngL (A.map fun q => (cellOf H3 q).map (ren y x)) := by
      rw [List.map_cons, hxy, rngL]
      simp only [List.getD_cons_zero, List.getD_cons_succ]
      congr 2
      rw [List.map_map]
      refine List.map_congr_left fun q hq => ?_
      show (cellOf H' q).map (ren y x) = _
      rw [heq q hq]
    -- what comes behind the count
    have rest : ∀ f2 : Nat, f2 = (if x = y then f + 1 else f) → tFor (iBoth K (L2.tVar 1)) (gName 4)
        (tFor (iRng1 (tCons (tC (.int 2)) tNil)) (gName 5)
          (tIfS (tTest (tOp (rEqG K) (tOp (rIx K) (L2.tVar 4) (L2.tVar 5)) (tOp (rIx K) (L2.tVar 3) (tC (.int 1)))))
            (tAsg (tOp (rIx K) (L2.tVar 3) (tC (.int 0))) (gSub (L2.tVar 4) (L2.tVar 5) rSetL)) tNext))
        { nx := fun σ'' H'' => ∃ (L' : Addr) (A2 : List Addr) (f : Nat) (x3 x4 x5 : Option V), σ'' = [some v0, some (.ref L'), some (.int (f : Nat)), x3, x4, x5] ∧ A2.length = A.length ∧ A.length < 500 ∧ Ex H H'' ∧ H'' L' = some (.lst (A2.map V.ref)) ∧ Cells H'' A2 ∧ (∀ p ∈ A2, H p = none) ∧ (L' :: A2).Nodup ∧ (∀ p ∈ A2.map (cellOf H''), p.length = 2) ∧ f + rngL (A2.map (cellOf H'')) = rngL ps,
          ct := fun σ'' H'' => ∃ (L' : Addr) (A2 : List Addr) (f : Nat) (x3 x4 x5 : Option V), σ'' = [some v0, some (.ref L'), some (.int (f : Nat)), x3, x4, x5] ∧ A2.length = A.length ∧ A.length < 500 ∧ Ex H H'' ∧ H'' L' = some (.lst (A2.map V.ref)) ∧ Cells H'' A2 ∧ (∀ p ∈ A2, H p = none) ∧ (L' :: A2).Nodup ∧ (∀ p ∈ A2.map (cellOf H''), p.length = 2) ∧ f + rngL (A2.map (cellOf H'')) = rngL ps,
          bk := fun σ H => (tRet (L2.tVar 2)) { nx := fun _ H' => Q .non H', rt := Q } σ H, rt := Q }
        ([some v0, some (.ref T), some (.int (f2 : Nat)), some (.ref p), x4, x5] : L2.St) H3 := by
      intro f2 hf2
      refine ⟨V.ref T, rfl, .inl ⟨T, rfl, ⟨_, SqL.of hT3⟩, ren_pairs (K := K) (A := A) (old := y) (new := x) (rj := 4) (je := 5) (by decide) (by show 4 < 6; decide) (by show 5 < 6; decide) hT3 hTA ndA hc3 hl2 ?_ ?_ ?_⟩⟩
      · intro σ'' H'' Q'' hs hb q
        exact ⟨V.ref p, by rw [hs 3 (by decide) (by decide)]; rfl, .inl ⟨p, _, _, _, rfl, rfl, SqL.of (by rw [hb p hpA]; exact hp3), at1, q⟩⟩
      · intro σ'' H'' Q'' hs hb q
        exact ⟨V.ref p, by rw [hs 3 (by decide) (by decide)]; rfl, .inl ⟨p, _, _, _, rfl, rfl, SqL.of (by rw [hb p hpA]; exact hp3), at0, q⟩⟩
      · intro σ'' H'' hlen hs hb hcc2
        have hg : ∀ i : Nat, i ≠ 5 → i ≠ 4 → σ''[i]? = ([some v0, some (.ref T), some (.int (f2 : Nat)), some (.ref p), x4, x5] : L2.St)[i]? := fun i h1 h2 => hs i h1 h2
        have hσ : ∃ y4 y5, σ'' = [some v0, some (.ref T), some (.int (f2 : Nat)), some (.ref p), y4, y5] := by
          have l6 : σ''.length = 6 := hlen
          match σ'', l6, hg with
          | [b0, b1, b2, b3, b4, b5], _, hg =>
            have g0 := hg 0 (by decide) (by decide)
            have g1 := hg 1 (by decide) (by decide)
            have g2 := hg 2 (by decide) (by decide)
            have g3 := hg 3 (by decide) (by decide)
            simp only [List.getElem?_cons_zero, List.getElem?_cons_succ, Option.some.injEq] at g0 g1 g2 g3
            exact ⟨b4, b5, by rw [g0, g1, g2, g3]⟩
        obtain ⟨y4, y5, rfl⟩ := hσ
        have hcell : ∀ q ∈ A, cellOf H'' q = (cellOf H3 q).map (ren y x) := fun q hq => cellOf_eq (hcc2 q hq)
        have hmap : A.map (cellOf H'') = A.map fun q => (cellOf H3 q).map (ren y x) := List.map_congr_left hcell
        refine ⟨T, A, f2, some (.ref p), y4, y5, rfl, rfl, by omega, fun a o e => ?_, by rw [hb T hTA]; exact hT3, fun q hq => ?_, fun q hq => hn0 q (List.mem_cons_of_mem _ hq), List.nodup_cons.mpr ⟨hTA, ndA⟩, fun q hq => ?_, ?_⟩
        · have hna : a ∉ A := fun z => by
            have := hn0 a (List.mem_cons_of_mem _ z)
            rw [e] at this
            cases this
          rw [hb a hna]
          exact ex3 _ _ (exH a o e)
        · rw [hcell q hq]
          exact hcc2 q hq
        · rw [hmap] at hq
          obtain ⟨q0, hq0, rfl⟩ := List.mem_map.mp hq
          rw [List.length_map]
          exact hl2 q0 hq0
        · rw [hmap, ← hf, hrg, hf2]
          split <;> omega
    -- if two[0] == two[1]
    refine ⟨V.ref p, rfl, .inl ⟨p, _, _, _, rfl, rfl, SqL.of hp3, at0, V.ref p, rfl, .inl ⟨p, _, _, _, rfl, rfl, SqL.of hp3, at1, .inl ⟨rfl, _, rfl, ?_⟩⟩⟩⟩
    by_cases c : x = y
    · rw [decide_eq_true (by rw [c])]
      refine iteT ?_
      refine ⟨_, rfl, .inl ⟨_, _, rfl, rfl, ?_⟩⟩
      exact rest (f + 1) (by rw [if_pos c])
    · rw [decide_eq_false (fun z => c (V.int.inj z))]
      refine iteF ?_
      exact rest f (by rw [if_neg c])
end
/-! ### sorted(d), up to 1000 keys -/
def rSortA : List V → Hp → VK → Prop := fun xs H Q => ∃ (a : Addr) (kvs : List (Key × V)) (ks : List Int), xs = [.ref a] ∧ Rd H a (.dK kvs) ∧ kvs.map (·.1) = ks.map Sum.inl ∧ ks.length ≤ 1000 ∧
    ∀ (ys : List Int) (p : Addr), ys.Perm ks → ys.Pairwise (· ≤ ·) → H p = none → Q (.ref p) (upd H p (.lst (ys.map V.int)))
/-- what stands in a list of the keys of a dict of ints -/
theorem keys_ints {ks : List Int} {vs : List (Key × Value)} {acc : List Value} (hkeys : vs.map (·.1) = ks.map Sum.inl) (hal : acc.length = ks.length) (hacc : ∀ (j : Nat) (v : Value), acc[j]? = some v → ∃ k x, vs[j]? = some (k, x) ∧ keyIs k v = true) : IntsAre acc ks := by
  refine ints_each hal fun j v e => ?_
  obtain ⟨k, x, e1, e2⟩ := hacc j v e
  have e3 : (ks.map (Sum.inl : Int → Key))[j]? = some k := by rw [← hkeys, List.getElem?_map, e1]; rfl
  rw [List.getElem?_map] at e3
  cases e4 : ks[j]? with
  | none => rw [e4] at e3; cases e3
  | some y =>
    rw [e4] at e3
    have e5 : Sum.inl y = k := Option.some.inj e3
    subst e5
    rcases keyIs_shape e2 with ⟨i, t, ek, ev⟩ | ⟨z, t, ek, ev⟩
    · cases ek
      exact ⟨y, t, rfl, ev⟩
    · cases ek
theorem call_sortA {X : Cx} (hc : X.calm = true) : CallR X (.builtin "sorted") rSortA := by
  intro pins s σ H xs us Q I r q
  obtain ⟨a, kvs, ks, ex, hd, hks, few, q⟩ := q
  subst ex
  obtain ⟨u, eu, rx⟩ := vals1 r
  subst eu
  cases rx
  obtain ⟨z, lo, vs, rel, dd⟩ := dk_rd I.hok hd
  obtain ⟨ep, hat⟩ := dd.dictAt
  have hkeys : vs.map (·.1) = ks.map Sum.inl := rel.keys.symm.trans hks
  have hl : vs.length = ks.length := by simpa using congrArg List.length hkeys
  have h16 : vs.length ≤ sizeLine := by rw [hl, sizeLine_eq]; omega
  refine Calls.call_function_entry PyProof.Rows.kind_sorted PyProof.Rows.plain_sorted PyProof.Rows.entry_sorted (PyProof.Rows.args_sorted1 _) ?_
  unfold Builtin.«sorted»
  refine wpAny_bind (m := checkCount "sorted" 1 1 _) (wpAny_pure ?_)
  refine wpAny_bind (PySem.W.kdu_collect (A := X.A.in1) (PySem.W.kdl_dict (knd := mixKind X.prog X.w) (kvs := vs) (ep := ep) lo) (I.ok.hd hc) hat h16 fun h' tk acc hk hacc => ?_)
  have hal : acc.toList.length = ks.length := by rw [Array.length_toList, hacc.1, hl]
  have hS : IntsAre acc.toList ks := keys_ints hkeys hal fun j v e => hacc.2 j v (by rw [← Array.getElem?_toList]; exact e)
  have I1 : Inv X pins σ H { s with heap := h', toks := tk } := I.kept hk
  refine wpAny_bind (wpAny_newList ?_ (by rw [hal, sizeLine_eq]; omega))
  have hoL : (h'.push (seqObj "list" acc.toList.toArray 0)).get? h'.objs.size = some (seqObj "list" acc.toList.toArray 0) := Heap.get?_push_size _ rfl
  show wpAny _ _ _ _ _ { s with heap := h'.push (seqObj "list" acc.toList.toArray 0), toks := tk }
  refine wpAny_bind (wpAny_holding (wpAny_call_entry PyProof.Rows.slot_list_sort ⟨_, hoL, rfl⟩ PyProof.Rows.entry_list_sort
    (PyProof.Rows.list_sort_treeAny (s := { s with heap := h'.push (seqObj "list" acc.toList.toArray 0), toks := tk }) hoL hS (by rw [hal, sizeLine_eq]; omega) fun out ys g1 g2 g3 => ⟨_, rfl, ?_⟩) (PyProof.Rows.args_list_sort _)))
  obtain ⟨e', he'⟩ := PyProof.Rows.sortedHeap_at (vs := acc.toList) (out := out) hoL
  have hlen : (ys.map V.int).length ≤ sizeLine := by rw [List.length_map, g2.length_eq, sizeLine_eq]; omega
  refine wpAny_pure ⟨_, rfl, .ref h'.objs.size, upd H h'.objs.size (.lst (ys.map V.int)), I1.laid (t' := tk) (fun b u e => ?_) (Nat.le_refl _)
    (show ObjOk X.prog X.w _ _ _ (.lst (ys.map V.int)) from ⟨hlen, out.toList, e', vals_of_ints g1, by rw [Array.toArray_toList]; exact he'⟩), rfl, q ys _ g2 g3 (I1.hok.fresh (Nat.le_refl _))⟩
  have hb : b < h'.objs.size := Heap.lt_size e
  rw [PyProof.Rows.sortedHeap_old (Nat.ne_of_lt hb) (by rw [size_push']; exact Nat.lt_succ_of_lt hb)]
  exact Heap.get?_push_of_some _ e
theorem nx_sortA : NoXc bSortedA := by
  intro a c h
  unfold bSortedA at h
  split at h <;> (try split at h) <;> cases h
theorem rc_sortA {K : PySem.W.Frag} : RCB K rSortA bSortedA := by
  intro Hf H as xs Q sub r h
  unfold bSortedA at h
  split at h
  · rename_i kvs
    split at h
    · rename_i hl
      obtain ⟨v, rfl, r1⟩ := r.one
      obtain ⟨p, rfl, hp⟩ := r1.dic_inv
      refine ⟨p, _, kvs.map (·.1), rfl, sub.lo.rd hp, ?_, by rw [List.length_map]; exact hl, fun ys z hp hs hz => ?_⟩
      · rw [List.map_map, List.map_map]
        refine List.map_congr_left fun q _ => ?_
        show (kqV q).1 = _
        rw [kqV_eq]
        rfl
      · have e : ys = sortI (kvs.map (·.1)) := sorted_uniq (hp.trans (sortI_perm _).symm) hs (sortI_sorted _)
        subst e
        exact h (.ref z) Hf _ (Grow.newO sub hz) ⟨z, rfl, hz, sub.none_of hz, _, upd_same, RepL.ofInts _⟩
    · exact h.elim
  · exact h.elim
end DL
set_option maxHeartbeats 4000000
namespace DL
open PySem PySem.Spec PyProof.Rows L2
def topS (i : Nat) : Stmt := PySem.Challenge.pw_cordbook_k12_total_and_straight.main.body.getD i (.Pass ⟨0, 0, 0, 0⟩)
abbrev s_counted : Stmt := topS 4
abbrev s_numbered : Stmt := topS 5
abbrev s_row_at : Stmt := topS 6
abbrev s_places_of : Stmt := topS 7
abbrev s_ends : Stmt := topS 8
abbrev s_without : Stmt := topS 9
abbrev s_renamed : Stmt := topS 10
abbrev s_joined : Stmt := topS 11
abbrev s_split : Stmt := topS 12
abbrev s_far_place : Stmt := topS 14
abbrev s_across : Stmt := topS 15
abbrev s_end_of_return : Stmt := topS 16
abbrev s_twist : Stmt := topS 17
abbrev s_add_to : Stmt := topS 19
abbrev s_of_rings : Stmt := topS 20
abbrev s_of_sheet : Stmt := topS 21
abbrev s_as_rows : Stmt := topS 22
abbrev s_total : Stmt := topS 23
abbrev s_straight : Stmt := topS 24
abbrev s_law_cell_at : Stmt := topS 26
abbrev s_law_pick : Stmt := topS 27
abbrev s_law_rows : Stmt := topS 28
abbrev s_law_numbered : Stmt := topS 29
abbrev s_law_whole : Stmt := topS 30
abbrev s_law_mate : Stmt := topS 31
abbrev s_law_twist : Stmt := topS 32
abbrev s_law_rings : Stmt := topS 33
abbrev s_law_ways : Stmt := topS 34
abbrev s_law_choices : Stmt := topS 35
abbrev s_law_add : Stmt := topS 36
abbrev s_law_total : Stmt := topS 37
abbrev s_law_listed : Stmt := topS 38
abbrev s_law_alike : Stmt := topS 39
abbrev s_law_k12 : Stmt := topS 40
section
variable {P : Program} {w : World} {K : PySem.W.Frag} {mg : Str → Option Value} {base : Heap} {cls : Nat → Addr} {cE : Addr} {tL tF : Nat}
theorem sc_counted : FnScope ["crossings", "found", "row", "name"] ["crossings"] (defScope s_counted) := ⟨rfl, rfl, rfl, by decide +kernel, rfl, by decide +kernel, by decide +kernel⟩
theorem cal_counted (B : Bo mg) {f : Addr} {fd : FuncData} (Fn : Fun K "counted" "counted" s_counted f fd) (hm : mg "counted" = some (.ref f)) : Cal P w K mg base cls "counted" ["crossings"] 1 f_counted := by
  refine ⟨f, fd, fn_ok Fn sc_counted fun cdv A outer s H E hr => ?_, hm, Fn.kp, Fn.binds (ps := ["crossings"]) fun _ _ _ _ _ _ us hl => match us, hl with | [_], _ => rfl⟩
  have hu := hr.units
  have hu1 := hu_of hr
  refine ⟨_, (pss_cons (ps_set (i := 1) sc_counted.nd rfl (Or.inl rfl) pe_dnewK)
  (pss_cons (ps_for (passes_of rfl) rfl (pi_bothK (K := K) rfl (pv 0)) (pg_name (i := 2) sc_counted.nd rfl (Or.inl rfl)) (pss_one (ps_for (passes_of rfl) rfl (pi_bothK (K := K) rfl (pv 2)) (pg_name (i := 3) sc_counted.nd rfl (Or.inl rfl)) (pss_one (ps_dput hu1 (pv 1) (pv 3) (pe_op (op_addK (K := K) rfl) (pe_dget2 hu1 (pv 1) (pv 3) pe_int ⟨rfl, rfl, rfl, rfl⟩) pe_int) rfl)))))
  (pss_one (ps_ret (pv 1))))), ?_⟩
  exact (ds_seq (ds_set de_dnew)
  (ds_seq (ds_for (di_seq de_var) (ds_for (di_seq de_var) (ds_dput de_var (de_op2 rr_add nx_add (de_lend (de_dget2 de_var de_var de_int)) de_int))))
  ds_retO))
theorem sc_numbered : FnScope ["crossings", "numbers", "name", "rows", "row"] ["crossings"] (defScope s_numbered) := ⟨rfl, rfl, rfl, by decide +kernel, rfl, by decide +kernel, by decide +kernel⟩
theorem cal_numbered (B : Bo mg) (c_counted : Cal P w K mg base cls "counted" ["crossings"] 1 f_counted) {f : Addr} {fd : FuncData} (Fn : Fun K "numbered" "numbered" s_numbered f fd) (hm : mg "numbered" = some (.ref f)) : Cal P w K mg base cls "numbered" ["crossings"] 2 f_numbered := by
  refine ⟨f, fd, fn_ok Fn sc_numbered fun cdv A outer s H E hr => ?_, hm, Fn.kp, Fn.binds (ps := ["crossings"]) fun _ _ _ _ _ _ us hl => match us, hl with | [_], _ => rfl⟩
  have hu := hr.units
  have hu1 := hu_of hr
  refine ⟨_, (pss_cons (ps_set (i := 1) sc_numbered.nd rfl (Or.inr rfl) pe_dnewK)
  (pss_cons (ps_for (passes_of rfl) rfl (pi_keysL (pe_calK c_counted rfl rfl rfl rfl rfl (hr.mono (by decide)) (by rfl) (takes_of rfl rfl rfl rfl) (pa_cons (pv 0) pa_nil))) (pg_name (i := 2) sc_numbered.nd rfl (Or.inl rfl)) (pss_one (ps_dput hu1 (pv 1) (pv 2) (pe_callB call_lenDG (by rfl) B.len boot_len (pa_cons (pv 1) pa_nil)) rfl)))
  (pss_cons (ps_set (i := 3) sc_numbered.nd rfl (Or.inl rfl) (pe_lst pa_nil))
  (pss_cons (ps_for (passes_of rfl) rfl (pi_bothK (K := K) rfl (pv 0)) (pg_name (i := 4) sc_numbered.nd rfl (Or.inl rfl)) (pss_one (ps_expr (pe_bmK (K := K) rfl PySem.F.plainAttrs_list PySem.F.slot_list_append PySem.F.type_list_append mt_append (pv 3) (pa_cons (pe_callTy (call_tupleK (K := K) rfl) (by rfl) B.tuple boot_tuple (pa_cons (pe_lc (own := [("name", 2)]) (g := gName 2) rfl sc_numbered.nd (pi_bothK (K := K) rfl (pv 4)) (blkOk_by (N := ["crossings", "numbers", "name", "rows", "row"]) (sc := defScope s_numbered) (by decide +kernel)) (fun _ _ _ _ _ => pg_name (i := 2) sc_numbered.nd rfl (Or.inl rfl)) (fun _ _ _ _ _ => pts_nil) (fun _ _ _ _ _ => (pe_dget hu1 (pv 1) (pv 2) (fun _ _ => rfl)))) pa_nil)) pa_nil)))))
  (pss_one (ps_ret (pe_callTy (call_tupleK (K := K) rfl) (by rfl) B.tuple boot_tuple (pa_cons (pv 3) pa_nil)))))))), ?_⟩
  exact (ds_seq (ds_set de_dnew)
  (ds_seq (ds_for (di_keys (de_call (da_cons de_var da_nil))) (ds_dput de_var (de_lend (de_cb rc_lenD nx_lenD (da_cons de_var da_nil)))))
  (ds_seq (ds_set (de_lst da_nil))
  (ds_seq (ds_for (di_seq de_var) (ds_pub (ds_app (de_cb rc_tuple nx_tuple (da_cons (de_lc (di_seq de_var) dt_yes (de_dget de_var de_var) (by decide)) da_nil)))))
  (ds_pub (ds_ret (de_cb rc_tuple nx_tuple (da_cons de_var da_nil))))))))
theorem sc_row_at : FnScope ["sheet", "at"] ["sheet", "at"] (defScope s_row_at) := ⟨rfl, rfl, rfl, by decide +kernel, rfl, by decide +kernel, by decide +kernel⟩
theorem cal_row_at (B : Bo mg) (e2 : ErrC K mg "NoPlace" (cls 2)) {f : Addr} {fd : FuncData} (Fn : Fun K "row_at" "row_at" s_row_at f fd) (hm : mg "row_at" = some (.ref f)) : Cal P w K mg base cls "row_at" ["sheet", "at"] 1 f_row_at := by
  refine ⟨f, fd, fn_ok Fn sc_row_at fun cdv A outer s H E hr => ?_, hm, Fn.kp, Fn.binds (ps := ["sheet", "at"]) fun _ _ _ _ _ _ us hl => match us, hl with | [_, _], _ => rfl⟩
  have hu := hr.units
  have hu1 := hu_of hr
  refine ⟨_, (pss_cons (ps_if (pt_not (pt_chain op_le op_lt pe_int (pv 1) (pe_callB (call_lenK (K := K) rfl) (by rfl) B.len boot_len (pa_cons (pe_ix (ix_seqK (K := K) rfl) (pv 0) pe_int (fun _ _ => rfl)) pa_nil)))) (pss_one (ps_raiseD rfl (takes_of rfl rfl rfl rfl) e2 rfl)) pss_nil)
  (pss_one (ps_ret (pe_ix (ix_seqK (K := K) rfl) (pe_ix (ix_seqK (K := K) rfl) (pv 0) pe_int (fun _ _ => rfl)) (pv 1) (fun _ _ => rfl))))), ?_⟩
  exact (ds_seq (ds_if (dt_not (dt_val (de_chain rr_le nx_le rr_lt nx_lt de_int de_var (de_cb rc_len nx_len (da_cons (de_ix de_var de_int) da_nil))))) ds_raise ds_next)
  (ds_ret (de_ix (de_ix de_var de_int) de_var)))
theorem sc_places_of : FnScope ["crossings", "line", "found", "at", "end"] ["crossings", "line"] (defScope s_places_of) := ⟨rfl, rfl, rfl, by decide +kernel, rfl, by decide +kernel, by decide +kernel⟩
theorem cal_places_of (B : Bo mg) {f : Addr} {fd : FuncData} (Fn : Fun K "places_of" "places_of" s_places_of f fd) (hm : mg "places_of" = some (.ref f)) : Cal P w K mg base cls "places_of" ["crossings", "line"] 1 f_places_of := by
  refine ⟨f, fd, fn_ok Fn sc_places_of fun cdv A outer s H E hr => ?_, hm, Fn.kp, Fn.binds (ps := ["crossings", "line"]) fun _ _ _ _ _ _ us hl => match us, hl with | [_, _], _ => rfl⟩
  have hu := hr.units
  have hu1 := hu_of hr
  refine ⟨_, (pss_cons (ps_set (i := 2) sc_places_of.nd rfl (Or.inl rfl) (pe_lst pa_nil))
  (pss_cons (ps_for (passes_of rfl) rfl (pi_range1 rfl B.range (pa_cons (pe_callB (call_lenK (K := K) rfl) (by rfl) B.len boot_len (pa_cons (pv 0) pa_nil)) pa_nil)) (pg_name (i := 3) sc_places_of.nd rfl (Or.inl rfl)) (pss_one (ps_for (passes_of rfl) rfl (pi_range1 rfl B.range (pa_cons pe_int pa_nil)) (pg_name (i := 4) sc_places_of.nd rfl (Or.inl rfl)) (pss_one (ps_if (pt_cmpR (op_eqK (K := K) rfl hu) (pe_ix (ix_seqK (K := K) rfl) (pe_ix (ix_seqK (K := K) rfl) (pv 0) (pv 3) (fun _ _ => rfl)) (pv 4) (fun _ _ => rfl)) (pv 1) (nomark _)) (pss_one (ps_expr (pe_bmK (K := K) rfl PySem.F.plainAttrs_list PySem.F.slot_list_append PySem.F.type_list_append mt_append (pv 2) (pa_cons (pe_tup (pa_cons (pv 3) (pa_cons (pv 4) pa_nil))) pa_nil)))) pss_nil)))))
  (pss_one (ps_ret (pv 2))))), ?_⟩
  exact (ds_seq (ds_set (de_lst da_nil))
  (ds_seq (ds_for (di_range1 (de_cb rc_len nx_len (da_cons de_var da_nil))) (ds_for (di_range1 de_int) (ds_if (dt_val (de_op2 rr_eq nx_eq (de_ix (de_ix de_var de_var) de_var) de_var)) (ds_app (de_tup (da_cons de_var (da_cons de_var da_nil)))) ds_next)))
  ds_retO))
theorem sc_ends : FnScope ["sheet", "line", "found"] ["sheet", "line"] (defScope s_ends) := ⟨rfl, rfl, rfl, by decide +kernel, rfl, by decide +kernel, by decide +kernel⟩
theorem cal_ends (B : Bo mg) (e2 : ErrC K mg "NoPlace" (cls 2)) (c_places_of : Cal P w K mg base cls "places_of" ["crossings", "line"] 1 f_places_of) {f : Addr} {fd : FuncData} (Fn : Fun K "ends" "ends" s_ends f fd) (hm : mg "ends" = some (.ref f)) : Cal P w K mg base cls "ends" ["sheet", "line"] 2 f_ends := by
  refine ⟨f, fd, fn_ok Fn sc_ends fun cdv A outer s H E hr => ?_, hm, Fn.kp, Fn.binds (ps := ["sheet", "line"]) fun _ _ _ _ _ _ us hl => match us, hl with | [_, _], _ => rfl⟩
  have hu := hr.units
  have hu1 := hu_of hr
  refine ⟨_, (pss_cons (ps_set (i := 2) sc_ends.nd rfl (Or.inl rfl) (pe_calK c_places_of rfl rfl rfl rfl rfl (hr.mono (by decide)) (by rfl) (takes_of rfl rfl rfl rfl) (pa_cons (pe_ix (ix_seqK (K := K) rfl) (pv 0) pe_int (fun _ _ => rfl)) (pa_cons (pv 1) pa_nil))))
  (pss_cons (ps_if (pt_cmpR (op_neK (K := K) rfl hu) (pe_callB (call_lenK (K := K) rfl) (by rfl) B.len boot_len (pa_cons (pv 2) pa_nil)) pe_int (nomark _)) (pss_one (ps_raiseD rfl (takes_of rfl rfl rfl rfl) e2 rfl)) pss_nil)
  (pss_one (ps_ret (pe_tup (pa_cons (pe_ix (ix_seqK (K := K) rfl) (pv 2) pe_int (fun _ _ => rfl)) (pa_cons (pe_ix (ix_seqK (K := K) rfl) (pv 2) pe_int (fun _ _ => rfl)) pa_nil))))))), ?_⟩
  exact (ds_seq (ds_set (de_fz (de_call (da_cons (de_ix de_var de_int) (da_cons de_var da_nil)))))
  (ds_seq (ds_if (dt_val (de_op2 rr_ne nx_ne (de_cb rc_len nx_len (da_cons de_var da_nil)) de_int)) ds_raise ds_next)
  (ds_ret (de_tup (da_cons (de_ix de_var de_int) (da_cons (de_ix de_var de_int) da_nil))))))
theorem sc_without : FnScope ["crossings", "gone", "k"] ["crossings", "gone"] (defScope s_without) := ⟨rfl, rfl, rfl, by decide +kernel, rfl, by decide +kernel, by decide +kernel⟩
theorem cal_without (B : Bo mg) {f : Addr} {fd : FuncData} (Fn : Fun K "without" "without" s_without f fd) (hm : mg "without" = some (.ref f)) : Cal P w K mg base cls "without" ["crossings", "gone"] 1 f_without := by
  refine ⟨f, fd, fn_ok Fn sc_without fun cdv A outer s H E hr => ?_, hm, Fn.kp, Fn.binds (ps := ["crossings", "gone"]) fun _ _ _ _ _ _ us hl => match us, hl with | [_, _], _ => rfl⟩
  have hu := hr.units
  have hu1 := hu_of hr
  refine ⟨_, (pss_one (ps_ret (pe_lc (own := [("k", 2)]) (g := gName 2) rfl sc_without.nd (pi_range1 rfl B.range (pa_cons (pe_callB (call_lenK (K := K) rfl) (by rfl) B.len boot_len (pa_cons (pv 0) pa_nil)) pa_nil)) (blkOk_by (N := ["crossings", "gone", "k"]) (sc := defScope s_without) (by decide +kernel)) (fun _ _ _ _ _ => pg_name (i := 2) sc_without.nd rfl (Or.inl rfl)) (fun _ _ _ _ _ => (pts_one (pt_cmpR (op_notInK (K := K) rfl) (pv 2) (pv 1) (by first | rfl | with_unfolding_all rfl)))) (fun _ _ _ _ _ => (pe_ix (ix_seqK (K := K) rfl) (pv 0) (pv 2) (fun _ _ => rfl)))))), ?_⟩
  exact (ds_ret (de_lc (di_range1 (de_cb rc_len nx_len (da_cons de_var da_nil))) (dt_val (de_op2 rr_notIn nx_notIn de_var de_var)) (de_ix de_var de_var) (by decide)))
theorem sc_renamed : FnScope ["row", "old", "new", "name"] ["row", "old", "new"] (defScope s_renamed) := ⟨rfl, rfl, rfl, by decide +kernel, rfl, by decide +kernel, by decide +kernel⟩
theorem cal_renamed (B : Bo mg) {f : Addr} {fd : FuncData} (Fn : Fun K "renamed" "renamed" s_renamed f fd) (hm : mg "renamed" = some (.ref f)) : Cal P w K mg base cls "renamed" ["row", "old", "new"] 1 f_renamed := by
  refine ⟨f, fd, fn_ok Fn sc_renamed fun cdv A outer s H E hr => ?_, hm, Fn.kp, Fn.binds (ps := ["row", "old", "new"]) fun _ _ _ _ _ _ us hl => match us, hl with | [_, _, _], _ => rfl⟩
  have hu := hr.units
  have hu1 := hu_of hr
  refine ⟨_, (pss_one (ps_ret (pe_callTy (call_tupleK (K := K) rfl) (by rfl) B.tuple boot_tuple (pa_cons (pe_lc (own := [("name", 3)]) (g := gName 3) rfl sc_renamed.nd (pi_bothK (K := K) rfl (pv 0)) (blkOk_by (N := ["row", "old", "new", "name"]) (sc := defScope s_renamed) (by decide +kernel)) (fun _ _ _ _ _ => pg_name (i := 3) sc_renamed.nd rfl (Or.inl rfl)) (fun _ _ _ _ _ => pts_nil) (fun _ _ _ _ _ => (pe_ifExp (pt_cmpR (op_eqK (K := K) rfl hu) (pv 3) (pv 1) (nomark _)) (pv 2) (pv 3)))) pa_nil)))), ?_⟩
  exact (ds_ret (de_cb rc_tuple nx_tuple (da_cons (de_lc (di_seq de_var) dt_yes (de_if (dt_val (de_op2 rr_eq nx_eq de_var de_var)) de_var de_var) (by decide)) da_nil)))
theorem sc_joined : FnScope ["crossings", "rings", "pairs", "rows", "left", "pair", "row", "two"] ["crossings", "rings", "pairs"] (defScope s_joined) := ⟨rfl, rfl, rfl, by decide +kernel, rfl, by decide +kernel, by decide +kernel⟩
theorem cal_joined (B : Bo mg) (c_numbered : Cal P w K mg base cls "numbered" ["crossings"] 2 f_numbered) (c_renamed : Cal P w K mg base cls "renamed" ["row", "old", "new"] 1 f_renamed) {f : Addr} {fd : FuncData} (Fn : Fun K "joined" "joined" s_joined f fd) (hm : mg "joined" = some (.ref f)) : Cal P w K mg base cls "joined" ["crossings", "rings", "pairs"] 3 f_joined := by
  refine ⟨f, fd, fn_ok Fn sc_joined fun cdv A outer s H E hr => ?_, hm, Fn.kp, Fn.binds (ps := ["crossings", "rings", "pairs"]) fun _ _ _ _ _ _ us hl => match us, hl with | [_, _, _], _ => rfl⟩
  have hu := hr.units
  have hu1 := hu_of hr
  refine ⟨_, (pss_cons (ps_set (i := 3) sc_joined.nd rfl (Or.inl rfl) (pe_callTy (call_listK (K := K) rfl) (by rfl) B.list boot_list (pa_cons (pv 0) pa_nil)))
  (pss_cons (ps_set (i := 4) sc_joined.nd rfl (Or.inl rfl) (pe_callTy (call_listK (K := K) rfl) (by rfl) B.list boot_list (pa_cons (pv 2) pa_nil)))
  (pss_cons (ps_while (passes_of rfl) (pt_cmpR op_gt (pe_callB (call_lenK (K := K) rfl) (by rfl) B.len boot_len (pa_cons (pv 4) pa_nil)) pe_int (nomark _)) (pss_cons (ps_set (i := 5) sc_joined.nd rfl (Or.inr rfl) (pe_ix (ix_seqK (K := K) rfl) (pv 4) pe_int (fun _ _ => rfl)))
  (pss_cons (ps_set (i := 4) sc_joined.nd rfl (Or.inl rfl) (pe_slice (sl_K (K := K) rfl) (pv 4) (po_some pe_int) po_none))
  (pss_one (ps_if (pt_cmpR (op_eqK (K := K) rfl hu) (pe_ix (ix_seqK (K := K) rfl) (pv 5) pe_int (fun _ _ => rfl)) (pe_ix (ix_seqK (K := K) rfl) (pv 5) pe_int (fun _ _ => rfl)) (nomark _)) (pss_one (ps_set (i := 1) sc_joined.nd rfl (Or.inl rfl) (pe_op (op_addK (K := K) rfl) (pv 1) pe_int))) (pss_cons (ps_setLc (i := 3) (own := [("row", 6)]) (g := gName 6) rfl sc_joined.nd rfl rfl (sw_true rfl rfl rfl (by decide +kernel)) (pi_bothK (K := K) rfl (pv 3)) (blkOk_by (N := ["crossings", "rings", "pairs", "rows", "left", "pair", "row", "two"]) (sc := defScope s_joined) (by decide +kernel)) (fun _ _ _ _ _ => pg_name (i := 6) sc_joined.nd rfl (Or.inl rfl)) (fun _ _ _ _ _ => pts_nil) (fun _ _ _ _ _ => (pe_calK c_renamed rfl rfl rfl rfl rfl (hr.mono (by decide)) (by rfl) takes0 (pa_cons (pv 6) (pa_cons (pe_ix (ix_seqK (K := K) rfl) (pv 5) pe_int (fun _ _ => rfl)) (pa_cons (pe_ix (ix_seqK (K := K) rfl) (pv 5) pe_int (fun _ _ => rfl)) pa_nil))))))
  (pss_one (ps_setLc (i := 4) (own := [("two", 7)]) (g := gName 7) rfl sc_joined.nd rfl rfl (sw_true rfl rfl rfl (by decide +kernel)) (pi_bothK (K := K) rfl (pv 4)) (blkOk_by (N := ["crossings", "rings", "pairs", "rows", "left", "pair", "row", "two"]) (sc := defScope s_joined) (by decide +kernel)) (fun _ _ _ _ _ => pg_name (i := 7) sc_joined.nd rfl (Or.inl rfl)) (fun _ _ _ _ _ => pts_nil) (fun _ _ _ _ _ => (pe_calK c_renamed rfl rfl rfl rfl rfl (hr.mono (by decide)) (by rfl) takes0 (pa_cons (pv 7) (pa_cons (pe_ix (ix_seqK (K := K) rfl) (pv 5) pe_int (fun _ _ => rfl)) (pa_cons (pe_ix (ix_seqK (K := K) rfl) (pv 5) pe_int (fun _ _ => rfl)) pa_nil)))))))))))))
  (pss_one (ps_ret (pe_tup (pa_cons (pe_calK c_numbered rfl rfl rfl rfl rfl (hr.mono (by decide)) (by rfl) (takes_of rfl rfl rfl rfl) (pa_cons (pv 3) pa_nil)) (pa_cons (pv 1) pa_nil)))))))), ?_⟩
  exact (ds_seq (ds_set (de_fz (de_cb rc_list nx_list (da_cons de_var da_nil))))
  (ds_seq (ds_set (de_fz (de_cb rc_list nx_list (da_cons de_var da_nil))))
  (ds_seq (ds_while (dt_val (de_op2 rr_gt nx_gt (de_cb rc_len nx_len (da_cons de_var da_nil)) de_int)) (ds_seq (ds_set (de_ix de_var de_int))
  (ds_seq (ds_set (de_fz (de_sl rr_sl nx_sl de_var (do_some de_int) do_none)))
  (ds_if (dt_val (de_op2 rr_eq nx_eq (de_ix de_var de_int) (de_ix de_var de_int))) (ds_set (de_op2 rr_add nx_add de_var de_int)) (ds_seq (ds_set (de_fz (de_lc (di_seq de_var) dt_yes (de_call (da_cons de_var (da_cons (de_ix de_var de_int) (da_cons (de_ix de_var de_int) da_nil)))) (by decide))))
  (ds_set (de_fz (de_lc (di_seq de_var) dt_yes (de_call (da_cons de_var (da_cons (de_ix de_var de_int) (da_cons (de_ix de_var de_int) da_nil)))) (by decide)))))))))
  (ds_ret (de_tup (da_cons (de_call (da_cons de_var da_nil)) (da_cons de_var da_nil)))))))
theorem sc_split : FnScope ["sheet", "at", "way", "row", "pairs"] ["sheet", "at", "way"] (defScope s_split) := ⟨rfl, rfl, rfl, by decide +kernel, rfl, by decide +kernel, by decide +kernel⟩
theorem cal_split (B : Bo mg) (c_row_at : Cal P w K mg base cls "row_at" ["sheet", "at"] 1 f_row_at) (c_joined : Cal P w K mg base cls "joined" ["crossings", "rings", "pairs"] 3 f_joined) (c_without : Cal P w K mg base cls "without" ["crossings", "gone"] 1 f_without) {f : Addr} {fd : FuncData} (Fn : Fun K "split" "split" s_split f fd) (hm : mg "split" = some (.ref f)) : Cal P w K mg base cls "split" ["sheet", "at", "way"] 4 f_split := by
  refine ⟨f, fd, fn_ok Fn sc_split fun cdv A outer s H E hr => ?_, hm, Fn.kp, Fn.binds (ps := ["sheet", "at", "way"]) fun _ _ _ _ _ _ us hl => match us, hl with | [_, _, _], _ => rfl⟩
  have hu := hr.units
  have hu1 := hu_of hr
  refine ⟨_, (pss_cons (ps_set (i := 3) sc_split.nd rfl (Or.inl rfl) (pe_calK c_row_at rfl rfl rfl rfl rfl (hr.mono (by decide)) (by rfl) (takes_of rfl rfl rfl rfl) (pa_cons (pv 0) (pa_cons (pv 1) pa_nil))))
  (pss_cons (ps_set (i := 4) sc_split.nd rfl (Or.inl rfl) (pe_lst (pa_cons (pe_tup (pa_cons (pe_ix (ix_seqK (K := K) rfl) (pv 3) pe_int (fun _ _ => rfl)) (pa_cons (pe_ix (ix_seqK (K := K) rfl) (pv 3) pe_int (fun _ _ => rfl)) pa_nil))) (pa_cons (pe_tup (pa_cons (pe_ix (ix_seqK (K := K) rfl) (pv 3) pe_int (fun _ _ => rfl)) (pa_cons (pe_ix (ix_seqK (K := K) rfl) (pv 3) pe_int (fun _ _ => rfl)) pa_nil))) pa_nil))))
  (pss_cons (ps_if (pt_cmpR (op_eqK (K := K) rfl hu) (pv 2) pe_int (nomark _)) (pss_one (ps_set (i := 4) sc_split.nd rfl (Or.inl rfl) (pe_lst (pa_cons (pe_tup (pa_cons (pe_ix (ix_seqK (K := K) rfl) (pv 3) pe_int (fun _ _ => rfl)) (pa_cons (pe_ix (ix_seqK (K := K) rfl) (pv 3) pe_int (fun _ _ => rfl)) pa_nil))) (pa_cons (pe_tup (pa_cons (pe_ix (ix_seqK (K := K) rfl) (pv 3) pe_int (fun _ _ => rfl)) (pa_cons (pe_ix (ix_seqK (K := K) rfl) (pv 3) pe_int (fun _ _ => rfl)) pa_nil))) pa_nil))))) pss_nil)
  (pss_one (ps_ret (pe_calK c_joined rfl rfl rfl rfl rfl (hr.mono (by decide)) (by rfl) (takes_of rfl rfl rfl rfl) (pa_cons (pe_calK c_without rfl rfl rfl rfl rfl (hr.mono (by decide)) (by rfl) (takes_of rfl rfl rfl rfl) (pa_cons (pe_ix (ix_seqK (K := K) rfl) (pv 0) pe_int (fun _ _ => rfl)) (pa_cons (pe_lst (pa_cons (pv 1) pa_nil)) pa_nil))) (pa_cons (pe_ix (ix_seqK (K := K) rfl) (pv 0) pe_int (fun _ _ => rfl)) (pa_cons (pv 4) pa_nil))))))))), ?_⟩
  exact (ds_seq (ds_set (de_fz (de_call (da_cons de_var (da_cons de_var da_nil)))))
  (ds_seq (ds_set (de_fz (de_lst (da_cons (de_tup (da_cons (de_ix de_var de_int) (da_cons (de_ix de_var de_int) da_nil))) (da_cons (de_tup (da_cons (de_ix de_var de_int) (da_cons (de_ix de_var de_int) da_nil))) da_nil)))))
  (ds_seq (ds_if (dt_val (de_op2 rr_eq nx_eq de_var de_int)) (ds_set (de_fz (de_lst (da_cons (de_tup (da_cons (de_ix de_var de_int) (da_cons (de_ix de_var de_int) da_nil))) (da_cons (de_tup (da_cons (de_ix de_var de_int) (da_cons (de_ix de_var de_int) da_nil))) da_nil))))) ds_next)
  (ds_ret (de_call (da_cons (de_call (da_cons (de_ix de_var de_int) (da_cons (de_lst (da_cons de_var da_nil)) da_nil))) (da_cons (de_ix de_var de_int) (da_cons de_var da_nil))))))))
theorem sc_far_place : FnScope ["sheet", "place", "two"] ["sheet", "place"] (defScope s_far_place) := ⟨rfl, rfl, rfl, by decide +kernel, rfl, by decide +kernel, by decide +kernel⟩
theorem cal_far_place (B : Bo mg) (c_ends : Cal P w K mg base cls "ends" ["sheet", "line"] 2 f_ends) {f : Addr} {fd : FuncData} (Fn : Fun K "far_place" "far_place" s_far_place f fd) (hm : mg "far_place" = some (.ref f)) : Cal P w K mg base cls "far_place" ["sheet", "place"] 3 f_far_place := by
  refine ⟨f, fd, fn_ok Fn sc_far_place fun cdv A outer s H E hr => ?_, hm, Fn.kp, Fn.binds (ps := ["sheet", "place"]) fun _ _ _ _ _ _ us hl => match us, hl with | [_, _], _ => rfl⟩
  have hu := hr.units
  have hu1 := hu_of hr
  refine ⟨_, (pss_cons (ps_set (i := 2) sc_far_place.nd rfl (Or.inl rfl) (pe_calK c_ends rfl rfl rfl rfl rfl (hr.mono (by decide)) (by rfl) (takes_of rfl rfl rfl rfl) (pa_cons (pv 0) (pa_cons (pe_ix (ix_seqK (K := K) rfl) (pe_ix (ix_seqK (K := K) rfl) (pe_ix (ix_seqK (K := K) rfl) (pv 0) pe_int (fun _ _ => rfl)) (pe_ix (ix_seqK (K := K) rfl) (pv 1) pe_int (fun _ _ => rfl)) (fun _ _ => rfl)) (pe_ix (ix_seqK (K := K) rfl) (pv 1) pe_int (fun _ _ => rfl)) (fun _ _ => rfl)) pa_nil))))
  (pss_cons (ps_if (pt_cmpR (op_eqK (K := K) rfl hu) (pe_ix (ix_seqK (K := K) rfl) (pv 2) pe_int (fun _ _ => rfl)) (pv 1) (nomark _)) (pss_one (ps_ret (pe_ix (ix_seqK (K := K) rfl) (pv 2) pe_int (fun _ _ => rfl)))) pss_nil)
  (pss_one (ps_ret (pe_ix (ix_seqK (K := K) rfl) (pv 2) pe_int (fun _ _ => rfl)))))), ?_⟩
  exact (ds_seq (ds_set (de_fz (de_call (da_cons de_var (da_cons (de_ix (de_ix (de_ix de_var de_int) (de_ix de_var de_int)) (de_ix de_var de_int)) da_nil)))))
  (ds_seq (ds_if (dt_val (de_op2 rr_eq nx_eq (de_ix de_var de_int) de_var)) (ds_ret (de_ix de_var de_int)) ds_next)
  (ds_ret (de_ix de_var de_int))))
theorem sc_across : FnScope ["place"] ["place"] (defScope s_across) := ⟨rfl, rfl, rfl, by decide +kernel, rfl, by decide +kernel, by decide +kernel⟩
theorem cal_across (B : Bo mg) {f : Addr} {fd : FuncData} (Fn : Fun K "across" "across" s_across f fd) (hm : mg "across" = some (.ref f)) : Cal P w K mg base cls "across" ["place"] 1 f_across := by
  refine ⟨f, fd, fn_ok Fn sc_across fun cdv A outer s H E hr => ?_, hm, Fn.kp, Fn.binds (ps := ["place"]) fun _ _ _ _ _ _ us hl => match us, hl with | [_], _ => rfl⟩
  have hu := hr.units
  have hu1 := hu_of hr
  refine ⟨_, (pss_one (ps_ret (pe_tup (pa_cons (pe_ix (ix_seqK (K := K) rfl) (pv 0) pe_int (fun _ _ => rfl)) (pa_cons (pe_op op_mod (pe_op (op_addK (K := K) rfl) (pe_ix (ix_seqK (K := K) rfl) (pv 0) pe_int (fun _ _ => rfl)) pe_int) pe_int) pa_nil))))), ?_⟩
  exact (ds_ret (de_tup (da_cons (de_ix de_var de_int) (da_cons (de_op2 rr_mod nx_mod (de_op2 rr_add nx_add (de_ix de_var de_int) de_int) de_int) da_nil))))
theorem sc_end_of_return : FnScope ["sheet", "at", "place"] ["sheet", "at"] (defScope s_end_of_return) := ⟨rfl, rfl, rfl, by decide +kernel, rfl, by decide +kernel, by decide +kernel⟩
theorem cal_end_of_return (B : Bo mg) (c_far_place : Cal P w K mg base cls "far_place" ["sheet", "place"] 3 f_far_place) (c_across : Cal P w K mg base cls "across" ["place"] 1 f_across) {f : Addr} {fd : FuncData} (Fn : Fun K "end_of_return" "end_of_return" s_end_of_return f fd) (hm : mg "end_of_return" = some (.ref f)) : Cal P w K mg base cls "end_of_return" ["sheet", "at"] 4 f_end_of_return := by
  refine ⟨f, fd, fn_ok Fn sc_end_of_return fun cdv A outer s H E hr => ?_, hm, Fn.kp, Fn.binds (ps := ["sheet", "at"]) fun _ _ _ _ _ _ us hl => match us, hl with | [_, _], _ => rfl⟩
  have hu := hr.units
  have hu1 := hu_of hr
  refine ⟨_, (pss_cons (ps_set (i := 2) sc_end_of_return.nd rfl (Or.inl rfl) (pe_calK c_far_place rfl rfl rfl rfl rfl (hr.mono (by decide)) (by rfl) (takes_of rfl rfl rfl rfl) (pa_cons (pv 0) (pa_cons (pe_tup (pa_cons (pv 1) (pa_cons pe_int pa_nil))) pa_nil))))
  (pss_cons (ps_while (passes_of rfl) (pt_cmpR (op_neK (K := K) rfl hu) (pe_ix (ix_seqK (K := K) rfl) (pv 2) pe_int (fun _ _ => rfl)) (pv 1) (nomark _)) (pss_one (ps_set (i := 2) sc_end_of_return.nd rfl (Or.inl rfl) (pe_calK c_far_place rfl rfl rfl rfl rfl (hr.mono (by decide)) (by rfl) (takes_of rfl rfl rfl rfl) (pa_cons (pv 0) (pa_cons (pe_calK c_across rfl rfl rfl rfl rfl (hr.mono (by decide)) (by rfl) (takes_of rfl rfl rfl rfl) (pa_cons (pv 2) pa_nil)) pa_nil))))))
  (pss_one (ps_ret (pe_ix (ix_seqK (K := K) rfl) (pv 2) pe_int (fun _ _ => rfl)))))), ?_⟩
  exact (ds_seq (ds_set (de_fz (de_call (da_cons de_var (da_cons (de_tup (da_cons de_var (da_cons de_int da_nil))) da_nil)))))
  (ds_seq (ds_while (dt_val (de_op2 rr_ne nx_ne (de_ix de_var de_int) de_var)) (ds_set (de_fz (de_call (da_cons de_var (da_cons (de_call (da_cons de_var da_nil)) da_nil))))))
  (ds_ret (de_ix de_var de_int))))
theorem sc_twist : FnScope ["sheet", "found", "at", "end"] ["sheet"] (defScope s_twist) := ⟨rfl, rfl, rfl, by decide +kernel, rfl, by decide +kernel, by decide +kernel⟩
theorem cal_twist (B : Bo mg) (c_end_of_return : Cal P w K mg base cls "end_of_return" ["sheet", "at"] 4 f_end_of_return) {f : Addr} {fd : FuncData} (Fn : Fun K "twist" "twist" s_twist f fd) (hm : mg "twist" = some (.ref f)) : Cal P w K mg base cls "twist" ["sheet"] 5 f_twist := by
  refine ⟨f, fd, fn_ok Fn sc_twist fun cdv A outer s H E hr => ?_, hm, Fn.kp, Fn.binds (ps := ["sheet"]) fun _ _ _ _ _ _ us hl => match us, hl with | [_], _ => rfl⟩
  have hu := hr.units
  have hu1 := hu_of hr
  refine ⟨_, (pss_cons (ps_set (i := 1) sc_twist.nd rfl (Or.inl rfl) pe_int)
  (pss_cons (ps_for (passes_of rfl) rfl (pi_range1 rfl B.range (pa_cons (pe_callB (call_lenK (K := K) rfl) (by rfl) B.len boot_len (pa_cons (pe_ix (ix_seqK (K := K) rfl) (pv 0) pe_int (fun _ _ => rfl)) pa_nil)) pa_nil)) (pg_name (i := 2) sc_twist.nd rfl (Or.inl rfl)) (pss_cons (ps_set (i := 3) sc_twist.nd rfl (Or.inl rfl) (pe_calK c_end_of_return rfl rfl rfl rfl rfl (hr.mono (by decide)) (by rfl) (takes_of rfl rfl rfl rfl) (pa_cons (pv 0) (pa_cons (pv 2) pa_nil))))
  (pss_cons (ps_if (pt_cmpR (op_eqK (K := K) rfl hu) (pv 3) pe_int (nomark _)) (pss_one (ps_set (i := 1) sc_twist.nd rfl (Or.inl rfl) (pe_op (op_addK (K := K) rfl) (pv 1) pe_int))) pss_nil)
  (pss_one (ps_if (pt_cmpR (op_eqK (K := K) rfl hu) (pv 3) pe_int (nomark _)) (pss_one (ps_set (i := 1) sc_twist.nd rfl (Or.inl rfl) (pe_op op_sub (pv 1) pe_int))) pss_nil)))))
  (pss_one (ps_ret (pv 1))))), ?_⟩
  exact (ds_seq (ds_set de_int)
  (ds_seq (ds_for (di_range1 (de_cb rc_len nx_len (da_cons (de_ix de_var de_int) da_nil))) (ds_seq (ds_set (de_fz (de_call (da_cons de_var (da_cons de_var da_nil)))))
  (ds_seq (ds_if (dt_val (de_op2 rr_eq nx_eq de_var de_int)) (ds_set (de_op2 rr_add nx_add de_var de_int)) ds_next)
  (ds_if (dt_val (de_op2 rr_eq nx_eq de_var de_int)) (ds_set (de_op2 rr_sub nx_sub de_var de_int)) ds_next))))
  (ds_ret de_var)))
theorem sc_add_to : FnScope ["found", "other", "shift", "sign", "power", "at"] ["found", "other", "shift", "sign"] (defScope s_add_to) := ⟨rfl, rfl, rfl, by decide +kernel, rfl, by decide +kernel, by decide +kernel⟩
theorem cal_add_to (B : Bo mg) {f : Addr} {fd : FuncData} (Fn : Fun K "add_to" "add_to" s_add_to f fd) (hm : mg "add_to" = some (.ref f)) : CalS P w K mg base "add_to" ["found", "other", "shift", "sign"] 1 (spAddTo K) := by
  refine ⟨f, fd, Fn.okX sc_add_to (fun vs H Q E h => h.len) fun cdv A outer s H vs Q E hr h => ?_, hm, Fn.kp, Fn.binds (ps := ["found", "other", "shift", "sign"]) fun _ _ _ _ _ _ us hl => match us, hl with | [_, _, _, _], _ => rfl⟩
  have hu := hr.units
  have hu1 := hu_of hr
  refine ⟨_, (pss_one (ps_for (passes_of rfl) rfl (pi_keysE (pv 1)) (pg_name (i := 4) sc_add_to.nd rfl (Or.inl rfl)) (pss_cons (ps_set (i := 5) sc_add_to.nd rfl (Or.inl rfl) (pe_op (op_addK (K := K) rfl) (pv 4) (pv 2)))
  (pss_one (ps_dput hu1 (pv 0) (pv 5) (pe_op (op_addK (K := K) rfl) (pe_dget2 hu1 (pv 0) (pv 5) pe_int ⟨rfl, rfl, rfl, rfl⟩) (pe_op op_mul (pv 3) (pe_dget hu1 (pv 1) (pv 4) (fun _ _ => rfl)))) rfl))))), ?_⟩
  exact addTo_reading h
theorem sc_of_rings : FnScope ["rings", "found", "k", "more"] ["rings"] (defScope s_of_rings) := ⟨rfl, rfl, rfl, by decide +kernel, rfl, by decide +kernel, by decide +kernel⟩
theorem cal_of_rings (B : Bo mg) (c_add_to : CalS P w K mg base "add_to" ["found", "other", "shift", "sign"] 1 (spAddTo K)) {f : Addr} {fd : FuncData} (Fn : Fun K "of_rings" "of_rings" s_of_rings f fd) (hm : mg "of_rings" = some (.ref f)) : Cal P w K mg base cls "of_rings" ["rings"] 2 f_of_rings := by
  refine ⟨f, fd, Fn.okX sc_of_rings (fun vs H Q E h => h.1) fun cdv A outer s H vs Q E hr h => ?_, hm, Fn.kp, Fn.binds (ps := ["rings"]) fun _ _ _ _ _ _ us hl => match us, hl with | [_], _ => rfl⟩
  have hu := hr.units
  have hu1 := hu_of hr
  refine ⟨_, (pss_cons (ps_set (i := 1) sc_of_rings.nd rfl (Or.inl rfl) (pe_disp (pps_cons pe_int pe_int pps_nil) rfl rfl (by intro z; cases z) (by decide)))
  (pss_cons (ps_for (passes_of rfl) rfl (pi_range1 rfl B.range (pa_cons (pv 0) pa_nil)) (pg_name (i := 2) sc_of_rings.nd rfl (Or.inl rfl)) (pss_cons (ps_set (i := 3) sc_of_rings.nd rfl (Or.inl rfl) pe_dnewK)
  (pss_cons (ps_expr (pe_calSK c_add_to rfl rfl rfl rfl rfl (hr.mono (by decide)) (by rfl) (takes_of rfl rfl rfl rfl) (pa_cons (pv 3) (pa_cons (pv 1) (pa_cons pe_int (pa_cons (pe_un un_neg pe_int) pa_nil))))))
  (pss_cons (ps_expr (pe_calSK c_add_to rfl rfl rfl rfl rfl (hr.mono (by decide)) (by rfl) (takes_of rfl rfl rfl rfl) (pa_cons (pv 3) (pa_cons (pv 1) (pa_cons (pe_un un_neg pe_int) (pa_cons (pe_un un_neg pe_int) pa_nil))))))
  (pss_one (ps_set (i := 1) sc_of_rings.nd rfl (Or.inl rfl) (pv 3)))))))
  (pss_one (ps_ret (pv 1))))), ?_⟩
  exact ofRings_reading h
theorem sc_of_sheet : FnScope ["sheet", "found"] ["sheet"] (defScope s_of_sheet) := ⟨rfl, rfl, rfl, by decide +kernel, rfl, by decide +kernel, by decide +kernel⟩
theorem cal0_of_sheet (B : Bo mg) (c_add_to : CalS P w K mg base "add_to" ["found", "other", "shift", "sign"] 1 (spAddTo K)) (c_of_rings : Cal P w K mg base cls "of_rings" ["rings"] 2 f_of_rings) (c_split : Cal P w K mg base cls "split" ["sheet", "at", "way"] 4 f_split) {f : Addr} {fd : FuncData} (Fn : Fun K "of_sheet" "of_sheet" s_of_sheet f fd) (hm : mg "of_sheet" = some (.ref f)) : Cal P w K mg base cls "of_sheet" ["sheet"] 5 (N_of_sheet 0) := by
  refine ⟨f, fd, fn_ok Fn sc_of_sheet fun cdv A outer s H E hr => ?_, hm, Fn.kp, Fn.binds (ps := ["sheet"]) fun _ _ _ _ _ _ us hl => match us, hl with | [_], _ => rfl⟩
  have hu := hr.units
  have hu1 := hu_of hr
  refine ⟨_, (pss_cons (ps_if (pt_cmpR (op_eqK (K := K) rfl hu) (pe_callB (call_lenK (K := K) rfl) (by rfl) B.len boot_len (pa_cons (pe_ix (ix_seqK (K := K) rfl) (pv 0) pe_int (fun _ _ => rfl)) pa_nil)) pe_int (nomark _)) (pss_one (ps_ret (pe_calK c_of_rings rfl rfl rfl rfl rfl (hr.mono (by omega)) (by rfl) (takes_of rfl rfl rfl rfl) (pa_cons (pe_ix (ix_seqK (K := K) rfl) (pv 0) pe_int (fun _ _ => rfl)) pa_nil)))) pss_nil)
  (pss_cons (ps_set (i := 1) sc_of_sheet.nd rfl (Or.inl rfl) pe_dnewK)
  (pss_cons (ps_expr (pe_calSK c_add_to rfl rfl rfl rfl rfl (hr.mono (by omega)) (by rfl) (takes_of rfl rfl rfl rfl) (pa_cons (pv 1) (pa_cons (pe_dead _) (pa_cons pe_int (pa_cons pe_int pa_nil))))))
  (pss_cons (ps_expr (pe_calSK c_add_to rfl rfl rfl rfl rfl (hr.mono (by omega)) (by rfl) (takes_of rfl rfl rfl rfl) (pa_cons (pv 1) (pa_cons (pe_dead _) (pa_cons (pe_un un_neg pe_int) (pa_cons pe_int pa_nil))))))
  (pss_one (ps_ret (pv 1))))))), ?_⟩
  exact (ds_seq (ds_if (dt_val (de_op2 rr_eq nx_eq (de_cb rc_len nx_len (da_cons (de_ix de_var de_int) da_nil)) de_int)) (ds_ret (de_call (da_cons (de_ix de_var de_int) da_nil))) ds_next)
  (ds_seq (ds_set de_dnew)
  (ds_seq (ds_addT de_dead de_int de_int)
  (ds_seq (ds_addT de_dead (de_op1 ru_neg nx_neg de_int) de_int)
  ds_retO))))
theorem cal1_of_sheet (B : Bo mg) (c_add_to : CalS P w K mg base "add_to" ["found", "other", "shift", "sign"] 1 (spAddTo K)) (c_of_rings : Cal P w K mg base cls "of_rings" ["rings"] 2 f_of_rings) (c_split : Cal P w K mg base cls "split" ["sheet", "at", "way"] 4 f_split) {f : Addr} {fd : FuncData} (Fn : Fun K "of_sheet" "of_sheet" s_of_sheet f fd) (hm : mg "of_sheet" = some (.ref f)) {n : Nat} (c_rec : Cal P w K mg base cls "of_sheet" ["sheet"] (5 + n) (N_of_sheet n)) : Cal P w K mg base cls "of_sheet" ["sheet"] (5 + n + 1) (N_of_sheet (n + 1)) := by
  refine ⟨f, fd, fn_ok Fn sc_of_sheet fun cdv A outer s H E hr => ?_, hm, Fn.kp, Fn.binds (ps := ["sheet"]) fun _ _ _ _ _ _ us hl => match us, hl with | [_], _ => rfl⟩
  have hu := hr.units
  have hu1 := hu_of hr
  refine ⟨_, (pss_cons (ps_if (pt_cmpR (op_eqK (K := K) rfl hu) (pe_callB (call_lenK (K := K) rfl) (by rfl) B.len boot_len (pa_cons (pe_ix (ix_seqK (K := K) rfl) (pv 0) pe_int (fun _ _ => rfl)) pa_nil)) pe_int (nomark _)) (pss_one (ps_ret (pe_calK c_of_rings rfl rfl rfl rfl rfl (hr.mono (by omega)) (by rfl) (takes_of rfl rfl rfl rfl) (pa_cons (pe_ix (ix_seqK (K := K) rfl) (pv 0) pe_int (fun _ _ => rfl)) pa_nil)))) pss_nil)
  (pss_cons (ps_set (i := 1) sc_of_sheet.nd rfl (Or.inl rfl) pe_dnewK)
  (pss_cons (ps_expr (pe_calSK c_add_to rfl rfl rfl rfl rfl (hr.mono (by omega)) (by rfl) (takes_of rfl rfl rfl rfl) (pa_cons (pv 1) (pa_cons (pe_calK c_rec rfl rfl rfl rfl rfl (hr.mono (by omega)) (by rfl) (takes_of rfl rfl rfl rfl) (pa_cons (pe_calK c_split rfl rfl rfl rfl rfl (hr.mono (by omega)) (by rfl) (takes_of rfl rfl rfl rfl) (pa_cons (pv 0) (pa_cons pe_int (pa_cons pe_int pa_nil)))) pa_nil)) (pa_cons pe_int (pa_cons pe_int pa_nil))))))
  (pss_cons (ps_expr (pe_calSK c_add_to rfl rfl rfl rfl rfl (hr.mono (by omega)) (by rfl) (takes_of rfl rfl rfl rfl) (pa_cons (pv 1) (pa_cons (pe_calK c_rec rfl rfl rfl rfl rfl (hr.mono (by omega)) (by rfl) (takes_of rfl rfl rfl rfl) (pa_cons (pe_calK c_split rfl rfl rfl rfl rfl (hr.mono (by omega)) (by rfl) (takes_of rfl rfl rfl rfl) (pa_cons (pv 0) (pa_cons pe_int (pa_cons pe_int pa_nil)))) pa_nil)) (pa_cons (pe_un un_neg pe_int) (pa_cons pe_int pa_nil))))))
  (pss_one (ps_ret (pv 1))))))), ?_⟩
  exact (ds_seq (ds_if (dt_val (de_op2 rr_eq nx_eq (de_cb rc_len nx_len (da_cons (de_ix de_var de_int) da_nil)) de_int)) (ds_ret (de_call (da_cons (de_ix de_var de_int) da_nil))) ds_next)
  (ds_seq (ds_set de_dnew)
  (ds_seq (ds_addT (de_call (da_cons (de_call (da_cons de_var (da_cons de_int (da_cons de_int da_nil)))) da_nil)) de_int de_int)
  (ds_seq (ds_addT (de_call (da_cons (de_call (da_cons de_var (da_cons de_int (da_cons de_int da_nil)))) da_nil)) (de_op1 ru_neg nx_neg de_int) de_int)
  ds_retO))))
theorem calN_of_sheet (B : Bo mg) (c_add_to : CalS P w K mg base "add_to" ["found", "other", "shift", "sign"] 1 (spAddTo K)) (c_of_rings : Cal P w K mg base cls "of_rings" ["rings"] 2 f_of_rings) (c_split : Cal P w K mg base cls "split" ["sheet", "at", "way"] 4 f_split) {f : Addr} {fd : FuncData} (Fn : Fun K "of_sheet" "of_sheet" s_of_sheet f fd) (hm : mg "of_sheet" = some (.ref f)) : ∀ n : Nat, Cal P w K mg base cls "of_sheet" ["sheet"] (5 + n) (N_of_sheet n)
  | 0 => cal0_of_sheet B c_add_to c_of_rings c_split Fn hm
  | n + 1 => cal1_of_sheet B c_add_to c_of_rings c_split Fn hm (calN_of_sheet B c_add_to c_of_rings c_split Fn hm n)
theorem cal_of_sheet (B : Bo mg) (c_add_to : CalS P w K mg base "add_to" ["found", "other", "shift", "sign"] 1 (spAddTo K)) (c_of_rings : Cal P w K mg base cls "of_rings" ["rings"] 2 f_of_rings) (c_split : Cal P w K mg base cls "split" ["sheet", "at", "way"] 4 f_split) {f : Addr} {fd : FuncData} (Fn : Fun K "of_sheet" "of_sheet" s_of_sheet f fd) (hm : mg "of_sheet" = some (.ref f)) : Cal P w K mg base cls "of_sheet" ["sheet"] 15 f_of_sheet := calN_of_sheet B c_add_to c_of_rings c_split Fn hm 10
theorem sc_as_rows : FnScope ["found", "power"] ["found"] (defScope s_as_rows) := ⟨rfl, rfl, rfl, by decide +kernel, rfl, by decide +kernel, by decide +kernel⟩
theorem cal_as_rows (B : Bo mg) {f : Addr} {fd : FuncData} (Fn : Fun K "as_rows" "as_rows" s_as_rows f fd) (hm : mg "as_rows" = some (.ref f)) : Cal P w K mg base cls "as_rows" ["found"] 1 f_as_rows := by
  refine ⟨f, fd, fn_ok Fn sc_as_rows fun cdv A outer s H E hr => ?_, hm, Fn.kp, Fn.binds (ps := ["found"]) fun _ _ _ _ _ _ us hl => match us, hl with | [_], _ => rfl⟩
  have hu := hr.units
  have hu1 := hu_of hr
  refine ⟨_, (pss_one (ps_ret (pe_lc (own := [("power", 1)]) (g := gName 1) rfl sc_as_rows.nd (pi_bothK (K := K) rfl (pe_callB (call_sortA rfl) (by rfl) B.sorted boot_sorted (pa_cons (pv 0) pa_nil))) (blkOk_by (N := ["found", "power"]) (sc := defScope s_as_rows) (by decide +kernel)) (fun _ _ _ _ _ => pg_name (i := 1) sc_as_rows.nd rfl (Or.inl rfl)) (fun _ _ _ _ _ => (pts_one (pt_cmpR (op_neK (K := K) rfl hu) (pe_dget hu1 (pv 0) (pv 1) (fun _ _ => rfl)) pe_int (nomark _)))) (fun _ _ _ _ _ => (pe_tup (pa_cons (pv 1) (pa_cons (pe_dget hu1 (pv 0) (pv 1) (fun _ _ => rfl)) pa_nil))))))), ?_⟩
  exact (ds_ret (de_lc (di_seq (de_cb rc_sortA nx_sortA (da_cons de_var da_nil))) (dt_val (de_op2 rr_ne nx_ne (de_dget de_var de_var) de_int)) (de_tup (da_cons de_var (da_cons (de_dget de_var de_var) da_nil))) (by decide)))
theorem sc_total : FnScope ["sheet"] ["sheet"] (defScope s_total) := ⟨rfl, rfl, rfl, by decide +kernel, rfl, by decide +kernel, by decide +kernel⟩
theorem cal_total (B : Bo mg) (c_as_rows : Cal P w K mg base cls "as_rows" ["found"] 1 f_as_rows) (c_of_sheet : Cal P w K mg base cls "of_sheet" ["sheet"] 15 f_of_sheet) {f : Addr} {fd : FuncData} (Fn : Fun K "total" "total" s_total f fd) (hm : mg "total" = some (.ref f)) : Cal P w K mg base cls "total" ["sheet"] 16 f_total := by
  refine ⟨f, fd, fn_ok Fn sc_total fun cdv A outer s H E hr => ?_, hm, Fn.kp, Fn.binds (ps := ["sheet"]) fun _ _ _ _ _ _ us hl => match us, hl with | [_], _ => rfl⟩
  have hu := hr.units
  have hu1 := hu_of hr
  refine ⟨_, (pss_one (ps_ret (pe_calK c_as_rows rfl rfl rfl rfl rfl (hr.mono (by decide)) (by rfl) (takes_of rfl rfl rfl rfl) (pa_cons (pe_calK c_of_sheet rfl rfl rfl rfl rfl (hr.mono (by decide)) (by rfl) (takes_of rfl rfl rfl rfl) (pa_cons (pv 0) pa_nil)) pa_nil)))), ?_⟩
  exact (ds_ret (de_call (da_cons (de_call (da_cons de_var da_nil)) da_nil)))
theorem sc_straight : FnScope ["sheet", "w", "sign", "found"] ["sheet"] (defScope s_straight) := ⟨rfl, rfl, rfl, by decide +kernel, rfl, by decide +kernel, by decide +kernel⟩
theorem cal_straight (B : Bo mg) (c_twist : Cal P w K mg base cls "twist" ["sheet"] 5 f_twist) (c_add_to : CalS P w K mg base "add_to" ["found", "other", "shift", "sign"] 1 (spAddTo K)) (c_as_rows : Cal P w K mg base cls "as_rows" ["found"] 1 f_as_rows) (c_of_sheet : Cal P w K mg base cls "of_sheet" ["sheet"] 15 f_of_sheet) {f : Addr} {fd : FuncData} (Fn : Fun K "straight" "straight" s_straight f fd) (hm : mg "straight" = some (.ref f)) : Cal P w K mg base cls "straight" ["sheet"] 16 f_straight := by
  refine ⟨f, fd, fn_ok Fn sc_straight fun cdv A outer s H E hr => ?_, hm, Fn.kp, Fn.binds (ps := ["sheet"]) fun _ _ _ _ _ _ us hl => match us, hl with | [_], _ => rfl⟩
  have hu := hr.units
  have hu1 := hu_of hr
  refine ⟨_, (pss_cons (ps_set (i := 1) sc_straight.nd rfl (Or.inl rfl) (pe_calK c_twist rfl rfl rfl rfl rfl (hr.mono (by decide)) (by rfl) (takes_of rfl rfl rfl rfl) (pa_cons (pv 0) pa_nil)))
  (pss_cons (ps_set (i := 2) sc_straight.nd rfl (Or.inl rfl) (pe_op op_sub pe_int (pe_op op_mul pe_int (pe_op op_mod (pv 1) pe_int))))
  (pss_cons (ps_set (i := 3) sc_straight.nd rfl (Or.inl rfl) pe_dnewK)
  (pss_cons (ps_expr (pe_calSK c_add_to rfl rfl rfl rfl rfl (hr.mono (by decide)) (by rfl) (takes_of rfl rfl rfl rfl) (pa_cons (pv 3) (pa_cons (pe_calK c_of_sheet rfl rfl rfl rfl rfl (hr.mono (by decide)) (by rfl) (takes_of rfl rfl rfl rfl) (pa_cons (pv 0) pa_nil)) (pa_cons (pe_op op_mul (pe_un un_neg pe_int) (pv 1)) (pa_cons (pv 2) pa_nil))))))
  (pss_one (ps_ret (pe_calK c_as_rows rfl rfl rfl rfl rfl (hr.mono (by decide)) (by rfl) (takes_of rfl rfl rfl rfl) (pa_cons (pv 3) pa_nil)))))))), ?_⟩
  exact (ds_seq (ds_set (de_fz (de_call (da_cons de_var da_nil))))
  (ds_seq (ds_set (de_op2 rr_sub nx_sub de_int (de_op2 rr_mul nx_mul de_int (de_op2 rr_mod nx_mod de_var de_int))))
  (ds_seq (ds_set de_dnew)
  (ds_seq (ds_addT (de_call (da_cons de_var da_nil)) (de_op2 rr_mul nx_mul (de_op1 ru_neg nx_neg de_int) de_var) de_var)
  (ds_pub (ds_ret (de_call (da_cons de_var da_nil))))))))
theorem sc_law_cell_at : FnScope ["script", "k"] ["script", "k"] (defScope s_law_cell_at) := ⟨rfl, rfl, rfl, by decide +kernel, rfl, by decide +kernel, by decide +kernel⟩
theorem cal_law_cell_at (B : Bo mg) {f : Addr} {fd : FuncData} (Fn : Fun K "_law_cell_at" "_law_cell_at" s_law_cell_at f fd) (hm : mg "_law_cell_at" = some (.ref f)) : Cal P w K mg base cls "_law_cell_at" ["script", "k"] 1 f_law_cell_at := by
  refine ⟨f, fd, fn_ok Fn sc_law_cell_at fun cdv A outer s H E hr => ?_, hm, Fn.kp, Fn.binds (ps := ["script", "k"]) fun _ _ _ _ _ _ us hl => match us, hl with | [_, _], _ => rfl⟩
  have hu := hr.units
  have hu1 := hu_of hr
  refine ⟨_, (pss_cons (ps_if (pt_cmpR op_lt (pv 1) (pe_callB (call_lenK (K := K) rfl) (by rfl) B.len boot_len (pa_cons (pv 0) pa_nil)) (nomark _)) (pss_one (ps_ret (pe_ix (ix_seqK (K := K) rfl) (pv 0) (pv 1) (fun _ _ => rfl)))) pss_nil)
  (pss_one (ps_ret pe_int))), ?_⟩
  exact (ds_seq (ds_if (dt_val (de_op2 rr_lt nx_lt de_var (de_cb rc_len nx_len (da_cons de_var da_nil)))) (ds_ret (de_ix de_var de_var)) ds_next)
  (ds_ret de_int))
theorem sc_law_pick : FnScope ["script", "k"] ["script", "k"] (defScope s_law_pick) := ⟨rfl, rfl, rfl, by decide +kernel, rfl, by decide +kernel, by decide +kernel⟩
theorem cal_law_pick (B : Bo mg) (c_law_cell_at : Cal P w K mg base cls "_law_cell_at" ["script", "k"] 1 f_law_cell_at) {f : Addr} {fd : FuncData} (Fn : Fun K "_law_pick" "_law_pick" s_law_pick f fd) (hm : mg "_law_pick" = some (.ref f)) : Cal P w K mg base cls "_law_pick" ["script", "k"] 2 f_law_pick := by
  refine ⟨f, fd, fn_ok Fn sc_law_pick fun cdv A outer s H E hr => ?_, hm, Fn.kp, Fn.binds (ps := ["script", "k"]) fun _ _ _ _ _ _ us hl => match us, hl with | [_, _], _ => rfl⟩
  have hu := hr.units
  have hu1 := hu_of hr
  refine ⟨_, (pss_cons (ps_if (pt_cmpR op_lt (pv 1) (pe_callB (call_lenK (K := K) rfl) (by rfl) B.len boot_len (pa_cons (pv 0) pa_nil)) (nomark _)) (pss_one (ps_ret (pe_ix (ix_seqK (K := K) rfl) (pv 0) (pv 1) (fun _ _ => rfl)))) pss_nil)
  (pss_one (ps_ret (pe_op op_fdiv (pe_op op_mod (pe_op op_mul (pe_op (op_addK (K := K) rfl) (pe_op (op_addK (K := K) rfl) (pe_calK c_law_cell_at rfl rfl rfl rfl rfl (hr.mono (by decide)) (by rfl) (takes_of rfl rfl rfl rfl) (pa_cons (pv 0) (pa_cons pe_int pa_nil))) (pe_op op_mul pe_int (pv 1))) pe_int) pe_int) pe_int) pe_int)))), ?_⟩
  exact (ds_seq (ds_if (dt_val (de_op2 rr_lt nx_lt de_var (de_cb rc_len nx_len (da_cons de_var da_nil)))) (ds_ret (de_ix de_var de_var)) ds_next)
  (ds_ret (de_op2 rr_floor nx_floor (de_op2 rr_mod nx_mod (de_op2 rr_mul nx_mul (de_op2 rr_add nx_add (de_op2 rr_add nx_add (de_call (da_cons de_var (da_cons de_int da_nil))) (de_op2 rr_mul nx_mul de_int de_var)) de_int) de_int) de_int) de_int)))
theorem sc_law_rows : FnScope ["script", "start", "many", "fixed", "owner", "k", "left", "name", "at"] ["script", "start", "many", "fixed"] (defScope s_law_rows) := ⟨rfl, rfl, rfl, by decide +kernel, rfl, by decide +kernel, by decide +kernel⟩
theorem cal_law_rows (B : Bo mg) (c_law_pick : Cal P w K mg base cls "_law_pick" ["script", "k"] 2 f_law_pick) {f : Addr} {fd : FuncData} (Fn : Fun K "_law_rows" "_law_rows" s_law_rows f fd) (hm : mg "_law_rows" = some (.ref f)) : Cal P w K mg base cls "_law_rows" ["script", "start", "many", "fixed"] 3 f_law_rows := by
  refine ⟨f, fd, fn_ok Fn sc_law_rows fun cdv A outer s H E hr => ?_, hm, Fn.kp, Fn.binds (ps := ["script", "start", "many", "fixed"]) fun _ _ _ _ _ _ us hl => match us, hl with | [_, _, _, _], _ => rfl⟩
  have hu := hr.units
  have hu1 := hu_of hr
  refine ⟨_, (pss_cons (ps_set (i := 4) sc_law_rows.nd rfl (Or.inr rfl) (pe_lc (own := [("k", 5)]) (g := gName 5) rfl sc_law_rows.nd (pi_range1 rfl B.range (pa_cons (pe_op op_mul pe_int (pv 2)) pa_nil)) (blkOk_by (N := ["script", "start", "many", "fixed", "owner", "k", "left", "name", "at"]) (sc := defScope s_law_rows) (by decide +kernel)) (fun _ _ _ _ _ => pg_name (i := 5) sc_law_rows.nd rfl (Or.inl rfl)) (fun _ _ _ _ _ => pts_nil) (fun _ _ _ _ _ => (pe_un un_neg pe_int))))
  (pss_cons (ps_for (passes_of rfl) rfl (pi_range1 rfl B.range (pa_cons (pe_callB (call_lenK (K := K) rfl) (by rfl) B.len boot_len (pa_cons (pv 3) pa_nil)) pa_nil)) (pg_name (i := 5) sc_law_rows.nd rfl (Or.inl rfl)) (pss_cons (ps_asg (pv 5) (pg_sub (pv 4) (pe_ix (ix_seqK (K := K) rfl) (pe_ix (ix_seqK (K := K) rfl) (pv 3) (pv 5) (fun _ _ => rfl)) pe_int (fun _ _ => rfl)) set_list))
  (pss_one (ps_asg (pv 5) (pg_sub (pv 4) (pe_ix (ix_seqK (K := K) rfl) (pe_ix (ix_seqK (K := K) rfl) (pv 3) (pv 5) (fun _ _ => rfl)) pe_int (fun _ _ => rfl)) set_list)))))
  (pss_cons (ps_setLc (i := 6) (own := [("k", 5)]) (g := gName 5) rfl sc_law_rows.nd rfl rfl (sw_true rfl rfl rfl (by decide +kernel)) (pi_range1 rfl B.range (pa_cons (pe_op op_mul pe_int (pv 2)) pa_nil)) (blkOk_by (N := ["script", "start", "many", "fixed", "owner", "k", "left", "name", "at"]) (sc := defScope s_law_rows) (by decide +kernel)) (fun _ _ _ _ _ => pg_name (i := 5) sc_law_rows.nd rfl (Or.inl rfl)) (fun _ _ _ _ _ => (pts_one (pt_cmpR op_lt (pe_ix (ix_seqK (K := K) rfl) (pv 4) (pv 5) (fun _ _ => rfl)) pe_int (nomark _)))) (fun _ _ _ _ _ => (pv 5)))
  (pss_cons (ps_set (i := 7) sc_law_rows.nd rfl (Or.inl rfl) (pe_callB (call_lenK (K := K) rfl) (by rfl) B.len boot_len (pa_cons (pv 3) pa_nil)))
  (pss_cons (ps_while (passes_of rfl) (pt_cmpR op_gt (pe_callB (call_lenK (K := K) rfl) (by rfl) B.len boot_len (pa_cons (pv 6) pa_nil)) pe_int (nomark _)) (pss_cons (ps_set (i := 8) sc_law_rows.nd rfl (Or.inl rfl) (pe_op (op_addK (K := K) rfl) pe_int (pe_op op_mod (pe_calK c_law_pick rfl rfl rfl rfl rfl (hr.mono (by decide)) (by rfl) (takes_of rfl rfl rfl rfl) (pa_cons (pv 0) (pa_cons (pe_op (op_addK (K := K) rfl) (pv 1) (pv 7)) pa_nil))) (pe_op op_sub (pe_callB (call_lenK (K := K) rfl) (by rfl) B.len boot_len (pa_cons (pv 6) pa_nil)) pe_int))))
  (pss_cons (ps_asg (pv 7) (pg_sub (pv 4) (pe_ix (ix_seqK (K := K) rfl) (pv 6) pe_int (fun _ _ => rfl)) set_list))
  (pss_cons (ps_asg (pv 7) (pg_sub (pv 4) (pe_ix (ix_seqK (K := K) rfl) (pv 6) (pv 8) (fun _ _ => rfl)) set_list))
  (pss_cons (ps_set (i := 6) sc_law_rows.nd rfl (Or.inl rfl) (pe_op (op_addK (K := K) rfl) (pe_slice (sl_K (K := K) rfl) (pv 6) (po_some pe_int) (po_some (pv 8))) (pe_slice (sl_K (K := K) rfl) (pv 6) (po_some (pe_op (op_addK (K := K) rfl) (pv 8) pe_int)) po_none)))
  (pss_one (ps_set (i := 7) sc_law_rows.nd rfl (Or.inl rfl) (pe_op (op_addK (K := K) rfl) (pv 7) pe_int))))))))
  (pss_one (ps_ret (pe_lc (own := [("k", 5)]) (g := gName 5) rfl sc_law_rows.nd (pi_range1 rfl B.range (pa_cons (pv 2) pa_nil)) (blkOk_by (N := ["script", "start", "many", "fixed", "owner", "k", "left", "name", "at"]) (sc := defScope s_law_rows) (by decide +kernel)) (fun _ _ _ _ _ => pg_name (i := 5) sc_law_rows.nd rfl (Or.inl rfl)) (fun _ _ _ _ _ => pts_nil) (fun _ _ _ _ _ => (pe_callTy (call_tupleK (K := K) rfl) (by rfl) B.tuple boot_tuple (pa_cons (pe_slice (sl_K (K := K) rfl) (pv 4) (po_some (pe_op op_mul pe_int (pv 5))) (po_some (pe_op (op_addK (K := K) rfl) (pe_op op_mul pe_int (pv 5)) pe_int))) pa_nil))))))))))), ?_⟩
  exact (ds_seq (ds_set (de_lc (di_range1 (de_op2 rr_mul nx_mul de_int de_var)) dt_yes (de_op1 ru_neg nx_neg de_int) (by decide)))
  (ds_seq (ds_for (di_range1 (de_cb rc_len nx_len (da_cons de_var da_nil))) (ds_seq (ds_put (de_ix (de_ix de_var de_var) de_int) de_var)
  (ds_put (de_ix (de_ix de_var de_var) de_int) de_var)))
  (ds_seq (ds_set (de_fz (de_lc (di_range1 (de_op2 rr_mul nx_mul de_int de_var)) (dt_val (de_op2 rr_lt nx_lt (de_ixO de_var) de_int)) de_var (by decide))))
  (ds_seq (ds_set (de_cb rc_len nx_len (da_cons de_var da_nil)))
  (ds_seq (ds_while (dt_val (de_op2 rr_gt nx_gt (de_cb rc_len nx_len (da_cons de_var da_nil)) de_int)) (ds_seq (ds_set (de_op2 rr_add nx_add de_int (de_op2 rr_mod nx_mod (de_call (da_cons de_var (da_cons (de_op2 rr_add nx_add de_var de_var) da_nil))) (de_op2 rr_sub nx_sub (de_cb rc_len nx_len (da_cons de_var da_nil)) de_int))))
  (ds_seq (ds_put (de_ix de_var de_int) de_var)
  (ds_seq (ds_put (de_ix de_var de_var) de_var)
  (ds_seq (ds_set (de_fz (de_op2 rr_add nx_add (de_sl rr_sl nx_sl de_var (do_some de_int) (do_some de_var)) (de_sl rr_sl nx_sl de_var (do_some (de_op2 rr_add nx_add de_var de_int)) do_none))))
  (ds_set (de_op2 rr_add nx_add de_var de_int)))))))
  (ds_pub (ds_ret (de_lc (di_range1 de_var) dt_yes (de_cb rc_tuple nx_tuple (da_cons (de_sl rr_sl nx_sl de_var (do_some (de_op2 rr_mul nx_mul de_int de_var)) (do_some (de_op2 rr_add nx_add (de_op2 rr_mul nx_mul de_int de_var) de_int))) da_nil)) (by decide)))))))))
theorem sc_law_numbered : FnScope ["rows", "names", "row", "name", "found"] ["rows"] (defScope s_law_numbered) := ⟨rfl, rfl, rfl, by decide +kernel, rfl, by decide +kernel, by decide +kernel⟩
theorem cal_law_numbered (B : Bo mg) {f : Addr} {fd : FuncData} (Fn : Fun K "_law_numbered" "_law_numbered" s_law_numbered f fd) (hm : mg "_law_numbered" = some (.ref f)) : Cal P w K mg base cls "_law_numbered" ["rows"] 1 f_law_numbered := by
  refine ⟨f, fd, fn_ok Fn sc_law_numbered fun cdv A outer s H E hr => ?_, hm, Fn.kp, Fn.binds (ps := ["rows"]) fun _ _ _ _ _ _ us hl => match us, hl with | [_], _ => rfl⟩
  have hu := hr.units
  have hu1 := hu_of hr
  refine ⟨_, (pss_cons (ps_set (i := 1) sc_law_numbered.nd rfl (Or.inr rfl) (pe_lst pa_nil))
  (pss_cons (ps_for (passes_of rfl) rfl (pi_bothK (K := K) rfl (pv 0)) (pg_name (i := 2) sc_law_numbered.nd rfl (Or.inl rfl)) (pss_one (ps_for (passes_of rfl) rfl (pi_bothK (K := K) rfl (pv 2)) (pg_name (i := 3) sc_law_numbered.nd rfl (Or.inl rfl)) (pss_one (ps_if (pt_cmpR (op_notInK (K := K) rfl) (pv 3) (pv 1) (by first | rfl | with_unfolding_all rfl)) (pss_one (ps_expr (pe_bmK (K := K) rfl PySem.F.plainAttrs_list PySem.F.slot_list_append PySem.F.type_list_append mt_append (pv 1) (pa_cons (pv 3) pa_nil)))) pss_nil)))))
  (pss_cons (ps_set (i := 4) sc_law_numbered.nd rfl (Or.inl rfl) (pe_lst pa_nil))
  (pss_cons (ps_for (passes_of rfl) rfl (pi_bothK (K := K) rfl (pv 0)) (pg_name (i := 2) sc_law_numbered.nd rfl (Or.inl rfl)) (pss_one (ps_expr (pe_bmK (K := K) rfl PySem.F.plainAttrs_list PySem.F.slot_list_append PySem.F.type_list_append mt_append (pv 4) (pa_cons (pe_callTy (call_tupleK (K := K) rfl) (by rfl) B.tuple boot_tuple (pa_cons (pe_lc (own := [("name", 3)]) (g := gName 3) rfl sc_law_numbered.nd (pi_bothK (K := K) rfl (pv 2)) (blkOk_by (N := ["rows", "names", "row", "name", "found"]) (sc := defScope s_law_numbered) (by decide +kernel)) (fun _ _ _ _ _ => pg_name (i := 3) sc_law_numbered.nd rfl (Or.inl rfl)) (fun _ _ _ _ _ => pts_nil) (fun _ _ _ _ _ => (pe_bmK (K := K) rfl PySem.F.plainAttrs_list PySem.F.slot_list_index PySem.F.type_list_index (mt_indexK (K := K) rfl) (pv 1) (pa_cons (pv 3) pa_nil)))) pa_nil)) pa_nil)))))
  (pss_one (ps_ret (pe_callTy (call_tupleK (K := K) rfl) (by rfl) B.tuple boot_tuple (pa_cons (pv 4) pa_nil)))))))), ?_⟩
  exact (ds_seq (ds_set (de_lst da_nil))
  (ds_seq (ds_for (di_seq de_var) (ds_for (di_seq de_var) (ds_if (dt_val (de_lend (de_op2 rr_notIn nx_notIn de_var de_var))) (ds_app de_var) ds_next)))
  (ds_seq (ds_set (de_lst da_nil))
  (ds_seq (ds_for (di_seq de_var) (ds_pub (ds_app (de_cb rc_tuple nx_tuple (da_cons (de_lc (di_seq de_var) dt_yes (de_index de_var de_var) (by decide)) da_nil)))))
  (ds_pub (ds_ret (de_cb rc_tuple nx_tuple (da_cons de_var da_nil))))))))
theorem sc_law_whole : FnScope ["x"] ["x"] (defScope s_law_whole) := ⟨rfl, rfl, rfl, by decide +kernel, rfl, by decide +kernel, by decide +kernel⟩
theorem cal_law_whole (B : Bo mg) {f : Addr} {fd : FuncData} (Fn : Fun K "_law_whole" "_law_whole" s_law_whole f fd) (hm : mg "_law_whole" = some (.ref f)) : Cal P w K mg base cls "_law_whole" ["x"] 1 f_law_whole := by
  refine ⟨f, fd, fn_ok Fn sc_law_whole fun cdv A outer s H E hr => ?_, hm, Fn.kp, Fn.binds (ps := ["x"]) fun _ _ _ _ _ _ us hl => match us, hl with | [_], _ => rfl⟩
  have hu := hr.units
  have hu1 := hu_of hr
  refine ⟨_, (pss_one (ps_ret (pe_and (pe_callB (call_isiW (K := K) rfl) (by rfl) B.isi boot_isinstance (pa_cons (pv 0) (pa_cons (pe_bltn (v := .ty "int") (by rfl) B.int boot_int rfl) pa_nil))) (pe_one (pe_not (pe_callB (call_isiW (K := K) rfl) (by rfl) B.isi boot_isinstance (pa_cons (pv 0) (pa_cons (pe_bltn (v := .ty "bool") (by rfl) B.bool boot_bool rfl) pa_nil)))))))), ?_⟩
  exact (ds_ret (de_andV (de_isi de_var) (de_notV (de_isi de_var))))
theorem sc_law_mate : FnScope ["rows", "place", "line", "k", "e"] ["rows", "place"] (defScope s_law_mate) := ⟨rfl, rfl, rfl, by decide +kernel, rfl, by decide +kernel, by decide +kernel⟩
theorem cal_law_mate (B : Bo mg) {f : Addr} {fd : FuncData} (Fn : Fun K "_law_mate" "_law_mate" s_law_mate f fd) (hm : mg "_law_mate" = some (.ref f)) : Cal P w K mg base cls "_law_mate" ["rows", "place"] 1 f_law_mate := by
  refine ⟨f, fd, fn_ok Fn sc_law_mate fun cdv A outer s H E hr => ?_, hm, Fn.kp, Fn.binds (ps := ["rows", "place"]) fun _ _ _ _ _ _ us hl => match us, hl with | [_, _], _ => rfl⟩
  have hu := hr.units
  have hu1 := hu_of hr
  refine ⟨_, (pss_cons (ps_set (i := 2) sc_law_mate.nd rfl (Or.inl rfl) (pe_ix (ix_seqK (K := K) rfl) (pe_ix (ix_seqK (K := K) rfl) (pv 0) (pe_ix (ix_seqK (K := K) rfl) (pv 1) pe_int (fun _ _ => rfl)) (fun _ _ => rfl)) (pe_ix (ix_seqK (K := K) rfl) (pv 1) pe_int (fun _ _ => rfl)) (fun _ _ => rfl)))
  (pss_cons (ps_for (passes_of rfl) rfl (pi_range1 rfl B.range (pa_cons (pe_callB (call_lenK (K := K) rfl) (by rfl) B.len boot_len (pa_cons (pv 0) pa_nil)) pa_nil)) (pg_name (i := 3) sc_law_mate.nd rfl (Or.inl rfl)) (pss_one (ps_for (passes_of rfl) rfl (pi_range1 rfl B.range (pa_cons pe_int pa_nil)) (pg_name (i := 4) sc_law_mate.nd rfl (Or.inl rfl)) (pss_one (ps_if (PW.pt (pw_and (pt_cmpR (op_eqK (K := K) rfl hu) (pe_ix (ix_seqK (K := K) rfl) (pe_ix (ix_seqK (K := K) rfl) (pv 0) (pv 3) (fun _ _ => rfl)) (pv 4) (fun _ _ => rfl)) (pv 2) (nomark _)) (pw_and1 (pt_cmpR (op_neK (K := K) rfl hu) (pe_tup (pa_cons (pv 3) (pa_cons (pv 4) pa_nil))) (pv 1) (nomark _))))) (pss_one (ps_ret (pe_tup (pa_cons (pv 3) (pa_cons (pv 4) pa_nil))))) pss_nil)))))
  (pss_one (ps_ret (pv 1))))), ?_⟩
  exact (ds_seq (ds_set (de_ix (de_ix de_var (de_ix de_var de_int)) (de_ix de_var de_int)))
  (ds_seq (ds_for (di_range1 (de_cb rc_len nx_len (da_cons de_var da_nil))) (ds_for (di_range1 de_int) (ds_if (dt_and (dt_val (de_op2 rr_eq nx_eq (de_ix (de_ix de_var de_var) de_var) de_var)) (dt_val (de_op2 rr_ne nx_ne (de_tup (da_cons de_var (da_cons de_var da_nil))) de_var))) (ds_ret (de_tup (da_cons de_var (da_cons de_var da_nil)))) ds_next)))
  (ds_ret de_var)))
theorem sc_law_twist : FnScope ["rows", "found", "at", "place"] ["rows"] (defScope s_law_twist) := ⟨rfl, rfl, rfl, by decide +kernel, rfl, by decide +kernel, by decide +kernel⟩
theorem cal_law_twist (B : Bo mg) (c_law_mate : Cal P w K mg base cls "_law_mate" ["rows", "place"] 1 f_law_mate) {f : Addr} {fd : FuncData} (Fn : Fun K "_law_twist" "_law_twist" s_law_twist f fd) (hm : mg "_law_twist" = some (.ref f)) : Cal P w K mg base cls "_law_twist" ["rows"] 2 f_law_twist := by
  refine ⟨f, fd, fn_ok Fn sc_law_twist fun cdv A outer s H E hr => ?_, hm, Fn.kp, Fn.binds (ps := ["rows"]) fun _ _ _ _ _ _ us hl => match us, hl with | [_], _ => rfl⟩
  have hu := hr.units
  have hu1 := hu_of hr
  refine ⟨_, (pss_cons (ps_set (i := 1) sc_law_twist.nd rfl (Or.inl rfl) pe_int)
  (pss_cons (ps_for (passes_of rfl) rfl (pi_range1 rfl B.range (pa_cons (pe_callB (call_lenK (K := K) rfl) (by rfl) B.len boot_len (pa_cons (pv 0) pa_nil)) pa_nil)) (pg_name (i := 2) sc_law_twist.nd rfl (Or.inl rfl)) (pss_cons (ps_set (i := 3) sc_law_twist.nd rfl (Or.inl rfl) (pe_calK c_law_mate rfl rfl rfl rfl rfl (hr.mono (by decide)) (by rfl) (takes_of rfl rfl rfl rfl) (pa_cons (pv 0) (pa_cons (pe_tup (pa_cons (pv 2) (pa_cons pe_int pa_nil))) pa_nil))))
  (pss_cons (ps_while (passes_of rfl) (pt_cmpR (op_neK (K := K) rfl hu) (pe_ix (ix_seqK (K := K) rfl) (pv 3) pe_int (fun _ _ => rfl)) (pv 2) (nomark _)) (pss_one (ps_set (i := 3) sc_law_twist.nd rfl (Or.inl rfl) (pe_calK c_law_mate rfl rfl rfl rfl rfl (hr.mono (by decide)) (by rfl) (takes_of rfl rfl rfl rfl) (pa_cons (pv 0) (pa_cons (pe_tup (pa_cons (pe_ix (ix_seqK (K := K) rfl) (pv 3) pe_int (fun _ _ => rfl)) (pa_cons (pe_op op_mod (pe_op (op_addK (K := K) rfl) (pe_ix (ix_seqK (K := K) rfl) (pv 3) pe_int (fun _ _ => rfl)) pe_int) pe_int) pa_nil))) pa_nil))))))
  (pss_cons (ps_if (pt_cmpR (op_eqK (K := K) rfl hu) (pe_ix (ix_seqK (K := K) rfl) (pv 3) pe_int (fun _ _ => rfl)) pe_int (nomark _)) (pss_one (ps_set (i := 1) sc_law_twist.nd rfl (Or.inl rfl) (pe_op (op_addK (K := K) rfl) (pv 1) pe_int))) pss_nil)
  (pss_one (ps_if (pt_cmpR (op_eqK (K := K) rfl hu) (pe_ix (ix_seqK (K := K) rfl) (pv 3) pe_int (fun _ _ => rfl)) pe_int (nomark _)) (pss_one (ps_set (i := 1) sc_law_twist.nd rfl (Or.inl rfl) (pe_op op_sub (pv 1) pe_int))) pss_nil))))))
  (pss_one (ps_ret (pv 1))))), ?_⟩
  exact (ds_seq (ds_set de_int)
  (ds_seq (ds_for (di_range1 (de_cb rc_len nx_len (da_cons de_var da_nil))) (ds_seq (ds_set (de_fz (de_call (da_cons de_var (da_cons (de_tup (da_cons de_var (da_cons de_int da_nil))) da_nil)))))
  (ds_seq (ds_while (dt_val (de_op2 rr_ne nx_ne (de_ix de_var de_int) de_var)) (ds_set (de_fz (de_call (da_cons de_var (da_cons (de_tup (da_cons (de_ix de_var de_int) (da_cons (de_op2 rr_mod nx_mod (de_op2 rr_add nx_add (de_ix de_var de_int) de_int) de_int) da_nil))) da_nil))))))
  (ds_seq (ds_if (dt_val (de_op2 rr_eq nx_eq (de_ix de_var de_int) de_int)) (ds_set (de_op2 rr_add nx_add de_var de_int)) ds_next)
  (ds_if (dt_val (de_op2 rr_eq nx_eq (de_ix de_var de_int) de_int)) (ds_set (de_op2 rr_sub nx_sub de_var de_int)) ds_next)))))
  (ds_ret de_var)))
theorem sc_law_rings : FnScope ["pairs", "left", "found", "two", "other", "e"] ["pairs"] (defScope s_law_rings) := ⟨rfl, rfl, rfl, by decide +kernel, rfl, by decide +kernel, by decide +kernel⟩
theorem cal_law_rings (B : Bo mg) {f : Addr} {fd : FuncData} (Fn : Fun K "_law_rings" "_law_rings" s_law_rings f fd) (hm : mg "_law_rings" = some (.ref f)) : Cal P w K mg base cls "_law_rings" ["pairs"] 1 f_law_rings := by
  refine ⟨f, fd, Fn.okX sc_law_rings (fun vs H Q E h => h.1) fun cdv A outer s H vs Q E hr h => ?_, hm, Fn.kp, Fn.binds (ps := ["pairs"]) fun _ _ _ _ _ _ us hl => match us, hl with | [_], _ => rfl⟩
  have hu := hr.units
  have hu1 := hu_of hr
  refine ⟨_, (pss_cons (ps_setLc (i := 1) (own := [("two", 3)]) (g := gName 3) rfl sc_law_rings.nd rfl rfl (sw_true rfl rfl rfl (by decide +kernel)) (pi_bothK (K := K) rfl (pv 0)) (blkOk_by (N := ["pairs", "left", "found", "two", "other", "e"]) (sc := defScope s_law_rings) (by decide +kernel)) (fun _ _ _ _ _ => pg_name (i := 3) sc_law_rings.nd rfl (Or.inl rfl)) (fun _ _ _ _ _ => pts_nil) (fun _ _ _ _ _ => (pe_callTy (call_listK (K := K) rfl) (by rfl) B.list boot_list (pa_cons (pv 3) pa_nil))))
  (pss_cons (ps_set (i := 2) sc_law_rings.nd rfl (Or.inl rfl) pe_int)
  (pss_cons (ps_while (passes_of rfl) (pt_cmpR op_gt (pe_callB (call_lenK (K := K) rfl) (by rfl) B.len boot_len (pa_cons (pv 1) pa_nil)) pe_int (nomark _)) (pss_cons (ps_set (i := 3) sc_law_rings.nd rfl (Or.inl rfl) (pe_ix (ix_seqK (K := K) rfl) (pv 1) pe_int (fun _ _ => rfl)))
  (pss_cons (ps_set (i := 1) sc_law_rings.nd rfl (Or.inl rfl) (pe_slice (sl_K (K := K) rfl) (pv 1) (po_some pe_int) po_none))
  (pss_cons (ps_if (pt_cmpR (op_eqK (K := K) rfl hu) (pe_ix (ix_seqK (K := K) rfl) (pv 3) pe_int (fun _ _ => rfl)) (pe_ix (ix_seqK (K := K) rfl) (pv 3) pe_int (fun _ _ => rfl)) (nomark _)) (pss_one (ps_set (i := 2) sc_law_rings.nd rfl (Or.inl rfl) (pe_op (op_addK (K := K) rfl) (pv 2) pe_int))) pss_nil)
  (pss_one (ps_for (passes_of rfl) rfl (pi_bothK (K := K) rfl (pv 1)) (pg_name (i := 4) sc_law_rings.nd rfl (Or.inl rfl)) (pss_one (ps_for (passes_of rfl) rfl (pi_range1 rfl B.range (pa_cons pe_int pa_nil)) (pg_name (i := 5) sc_law_rings.nd rfl (Or.inl rfl)) (pss_one (ps_if (pt_cmpR (op_eqK (K := K) rfl hu) (pe_ix (ix_seqK (K := K) rfl) (pv 4) (pv 5) (fun _ _ => rfl)) (pe_ix (ix_seqK (K := K) rfl) (pv 3) pe_int (fun _ _ => rfl)) (nomark _)) (pss_one (ps_asg (pe_ix (ix_seqK (K := K) rfl) (pv 3) pe_int (fun _ _ => rfl)) (pg_sub (pv 4) (pv 5) set_list))) pss_nil))))))))))
  (pss_one (ps_ret (pv 2)))))), ?_⟩
  exact rings_reading h
theorem sc_law_ways : FnScope ["many", "ways", "k", "way"] ["many"] (defScope s_law_ways) := ⟨rfl, rfl, rfl, by decide +kernel, rfl, by decide +kernel, by decide +kernel⟩
theorem cal_law_ways (B : Bo mg) {f : Addr} {fd : FuncData} (Fn : Fun K "_law_ways" "_law_ways" s_law_ways f fd) (hm : mg "_law_ways" = some (.ref f)) : Cal P w K mg base cls "_law_ways" ["many"] 1 f_law_ways := by
  refine ⟨f, fd, fn_ok Fn sc_law_ways fun cdv A outer s H E hr => ?_, hm, Fn.kp, Fn.binds (ps := ["many"]) fun _ _ _ _ _ _ us hl => match us, hl with | [_], _ => rfl⟩
  have hu := hr.units
  have hu1 := hu_of hr
  refine ⟨_, (pss_cons (ps_set (i := 1) sc_law_ways.nd rfl (Or.inl rfl) (pe_lst (pa_cons (pe_lst pa_nil) pa_nil)))
  (pss_cons (ps_for (passes_of rfl) rfl (pi_range1 rfl B.range (pa_cons (pv 0) pa_nil)) (pg_name (i := 2) sc_law_ways.nd rfl (Or.inl rfl)) (pss_one (ps_set (i := 1) sc_law_ways.nd rfl (Or.inl rfl) (pe_op (op_addK (K := K) rfl) (pe_lc (own := [("way", 3)]) (g := gName 3) rfl sc_law_ways.nd (pi_bothK (K := K) rfl (pv 1)) (blkOk_by (N := ["many", "ways", "k", "way"]) (sc := defScope s_law_ways) (by decide +kernel)) (fun _ _ _ _ _ => pg_name (i := 3) sc_law_ways.nd rfl (Or.inl rfl)) (fun _ _ _ _ _ => pts_nil) (fun _ _ _ _ _ => (pe_op (op_addK (K := K) rfl) (pv 3) (pe_lst (pa_cons pe_int pa_nil))))) (pe_lc (own := [("way", 3)]) (g := gName 3) rfl sc_law_ways.nd (pi_bothK (K := K) rfl (pv 1)) (blkOk_by (N := ["many", "ways", "k", "way"]) (sc := defScope s_law_ways) (by decide +kernel)) (fun _ _ _ _ _ => pg_name (i := 3) sc_law_ways.nd rfl (Or.inl rfl)) (fun _ _ _ _ _ => pts_nil) (fun _ _ _ _ _ => (pe_op (op_addK (K := K) rfl) (pv 3) (pe_lst (pa_cons pe_int pa_nil)))))))))
  (pss_one (ps_ret (pv 1))))), ?_⟩
  exact (ds_seq (ds_set (de_fz (de_lst (da_cons (de_lst da_nil) da_nil))))
  (ds_seq (ds_for (di_range1 de_var) (ds_set (de_fz (de_op2 rr_add nx_add (de_lc (di_seq de_var) dt_yes (de_op2 rr_add nx_add de_var (de_lst (da_cons de_int da_nil))) (by decide)) (de_lc (di_seq de_var) dt_yes (de_op2 rr_add nx_add de_var (de_lst (da_cons de_int da_nil))) (by decide))))))
  (ds_ret de_var)))
theorem sc_law_choices : FnScope ["rings", "row", "k", "more", "e"] ["rings"] (defScope s_law_choices) := ⟨rfl, rfl, rfl, by decide +kernel, rfl, by decide +kernel, by decide +kernel⟩
theorem cal_law_choices (B : Bo mg) {f : Addr} {fd : FuncData} (Fn : Fun K "_law_choices" "_law_choices" s_law_choices f fd) (hm : mg "_law_choices" = some (.ref f)) : Cal P w K mg base cls "_law_choices" ["rings"] 1 f_law_choices := by
  refine ⟨f, fd, fn_ok Fn sc_law_choices fun cdv A outer s H E hr => ?_, hm, Fn.kp, Fn.binds (ps := ["rings"]) fun _ _ _ _ _ _ us hl => match us, hl with | [_], _ => rfl⟩
  have hu := hr.units
  have hu1 := hu_of hr
  refine ⟨_, (pss_cons (ps_set (i := 1) sc_law_choices.nd rfl (Or.inl rfl) (pe_lst (pa_cons pe_int pa_nil)))
  (pss_cons (ps_for (passes_of rfl) rfl (pi_range1 rfl B.range (pa_cons (pv 0) pa_nil)) (pg_name (i := 2) sc_law_choices.nd rfl (Or.inl rfl)) (pss_cons (ps_set (i := 3) sc_law_choices.nd rfl (Or.inl rfl) (pe_lst (pa_cons pe_int pa_nil)))
  (pss_cons (ps_for (passes_of rfl) rfl (pi_range1 rfl B.range (pa_cons (pe_op op_sub (pe_callB (call_lenK (K := K) rfl) (by rfl) B.len boot_len (pa_cons (pv 1) pa_nil)) pe_int) pa_nil)) (pg_name (i := 4) sc_law_choices.nd rfl (Or.inl rfl)) (pss_one (ps_expr (pe_bmK (K := K) rfl PySem.F.plainAttrs_list PySem.F.slot_list_append PySem.F.type_list_append mt_append (pv 3) (pa_cons (pe_op (op_addK (K := K) rfl) (pe_ix (ix_seqK (K := K) rfl) (pv 1) (pv 4) (fun _ _ => rfl)) (pe_ix (ix_seqK (K := K) rfl) (pv 1) (pe_op (op_addK (K := K) rfl) (pv 4) pe_int) (fun _ _ => rfl))) pa_nil)))))
  (pss_one (ps_set (i := 1) sc_law_choices.nd rfl (Or.inl rfl) (pe_op (op_addK (K := K) rfl) (pv 3) (pe_lst (pa_cons pe_int pa_nil))))))))
  (pss_one (ps_ret (pv 1))))), ?_⟩
  exact (ds_seq (ds_set (de_fz (de_lst (da_cons de_int da_nil))))
  (ds_seq (ds_for (di_range1 de_var) (ds_seq (ds_set (de_lst (da_cons de_int da_nil)))
  (ds_seq (ds_for (di_range1 (de_op2 rr_sub nx_sub (de_cb rc_len nx_len (da_cons de_var da_nil)) de_int)) (ds_app (de_op2 rr_add nx_add (de_ix de_var de_var) (de_ix de_var (de_op2 rr_add nx_add de_var de_int)))))
  (ds_pub (ds_set (de_fz (de_op2 rr_add nx_add de_var (de_lst (da_cons de_int da_nil)))))))))
  (ds_ret de_var)))
theorem sc_law_add : FnScope ["found", "power", "rings", "row", "e", "at"] ["found", "power", "rings"] (defScope s_law_add) := ⟨rfl, rfl, rfl, by decide +kernel, rfl, by decide +kernel, by decide +kernel⟩
theorem cal_law_add (B : Bo mg) (c_law_choices : Cal P w K mg base cls "_law_choices" ["rings"] 1 f_law_choices) {f : Addr} {fd : FuncData} (Fn : Fun K "_law_add" "_law_add" s_law_add f fd) (hm : mg "_law_add" = some (.ref f)) : CalS P w K mg base "_law_add" ["found", "power", "rings"] 2 (spLawAdd K cls f_law_choices) := by
  refine ⟨f, fd, Fn.okX sc_law_add (fun vs H Q E h => h.len) fun cdv A outer s H vs Q E hr h => ?_, hm, Fn.kp, Fn.binds (ps := ["found", "power", "rings"]) fun _ _ _ _ _ _ us hl => match us, hl with | [_, _, _], _ => rfl⟩
  have hu := hr.units
  have hu1 := hu_of hr
  refine ⟨_, (pss_cons (ps_set (i := 3) sc_law_add.nd rfl (Or.inl rfl) (pe_calK c_law_choices rfl rfl rfl rfl rfl (hr.mono (by decide)) (by rfl) (takes_of rfl rfl rfl rfl) (pa_cons (pv 2) pa_nil)))
  (pss_one (ps_for (passes_of rfl) rfl (pi_range1 rfl B.range (pa_cons (pe_callB (call_lenK (K := K) rfl) (by rfl) B.len boot_len (pa_cons (pv 3) pa_nil)) pa_nil)) (pg_name (i := 4) sc_law_add.nd rfl (Or.inl rfl)) (pss_cons (ps_set (i := 5) sc_law_add.nd rfl (Or.inl rfl) (pe_op op_sub (pe_op (op_addK (K := K) rfl) (pv 1) (pe_op op_mul pe_int (pv 2))) (pe_op op_mul pe_int (pv 4))))
  (pss_one (ps_dput hu1 (pv 0) (pv 5) (pe_op (op_addK (K := K) rfl) (pe_dget2 hu1 (pv 0) (pv 5) pe_int ⟨rfl, rfl, rfl, rfl⟩) (pe_op op_mul (pe_ix (ix_seqK (K := K) rfl) (pv 3) (pv 4) (fun _ _ => rfl)) (pe_op op_sub pe_int (pe_op op_mul pe_int (pe_op op_mod (pv 2) pe_int))))) rfl)))))), ?_⟩
  exact lawAdd_reading h
theorem sc_law_total : FnScope ["rows", "rings", "found", "way", "pairs", "k", "row"] ["rows", "rings"] (defScope s_law_total) := ⟨rfl, rfl, rfl, by decide +kernel, rfl, by decide +kernel, by decide +kernel⟩
theorem cal_law_total (B : Bo mg) (c_law_ways : Cal P w K mg base cls "_law_ways" ["many"] 1 f_law_ways) (c_law_add : CalS P w K mg base "_law_add" ["found", "power", "rings"] 2 (spLawAdd K cls f_law_choices)) (c_law_rings : Cal P w K mg base cls "_law_rings" ["pairs"] 1 f_law_rings) {f : Addr} {fd : FuncData} (Fn : Fun K "_law_total" "_law_total" s_law_total f fd) (hm : mg "_law_total" = some (.ref f)) : Cal P w K mg base cls "_law_total" ["rows", "rings"] 3 f_law_total := by
  refine ⟨f, fd, fn_ok Fn sc_law_total fun cdv A outer s H E hr => ?_, hm, Fn.kp, Fn.binds (ps := ["rows", "rings"]) fun _ _ _ _ _ _ us hl => match us, hl with | [_, _], _ => rfl⟩
  have hu := hr.units
  have hu1 := hu_of hr
  refine ⟨_, (pss_cons (ps_set (i := 2) sc_law_total.nd rfl (Or.inl rfl) pe_dnewK)
  (pss_cons (ps_for (passes_of rfl) rfl (pi_bothK (K := K) rfl (pe_calK c_law_ways rfl rfl rfl rfl rfl (hr.mono (by decide)) (by rfl) (takes_of rfl rfl rfl rfl) (pa_cons (pe_callB (call_lenK (K := K) rfl) (by rfl) B.len boot_len (pa_cons (pv 0) pa_nil)) pa_nil))) (pg_name (i := 3) sc_law_total.nd rfl (Or.inl rfl)) (pss_cons (ps_set (i := 4) sc_law_total.nd rfl (Or.inl rfl) (pe_lst pa_nil))
  (pss_cons (ps_for (passes_of rfl) rfl (pi_range1 rfl B.range (pa_cons (pe_callB (call_lenK (K := K) rfl) (by rfl) B.len boot_len (pa_cons (pv 0) pa_nil)) pa_nil)) (pg_name (i := 5) sc_law_total.nd rfl (Or.inl rfl)) (pss_cons (ps_set (i := 6) sc_law_total.nd rfl (Or.inl rfl) (pe_ix (ix_seqK (K := K) rfl) (pv 0) (pv 5) (fun _ _ => rfl)))
  (pss_one (ps_if (pt_cmpR (op_eqK (K := K) rfl hu) (pe_ix (ix_seqK (K := K) rfl) (pv 3) (pv 5) (fun _ _ => rfl)) pe_int (nomark _)) (pss_one (ps_set (i := 4) sc_law_total.nd rfl (Or.inl rfl) (pe_op (op_addK (K := K) rfl) (pv 4) (pe_lst (pa_cons (pe_tup (pa_cons (pe_ix (ix_seqK (K := K) rfl) (pv 6) pe_int (fun _ _ => rfl)) (pa_cons (pe_ix (ix_seqK (K := K) rfl) (pv 6) pe_int (fun _ _ => rfl)) pa_nil))) (pa_cons (pe_tup (pa_cons (pe_ix (ix_seqK (K := K) rfl) (pv 6) pe_int (fun _ _ => rfl)) (pa_cons (pe_ix (ix_seqK (K := K) rfl) (pv 6) pe_int (fun _ _ => rfl)) pa_nil))) pa_nil)))))) (pss_one (ps_set (i := 4) sc_law_total.nd rfl (Or.inl rfl) (pe_op (op_addK (K := K) rfl) (pv 4) (pe_lst (pa_cons (pe_tup (pa_cons (pe_ix (ix_seqK (K := K) rfl) (pv 6) pe_int (fun _ _ => rfl)) (pa_cons (pe_ix (ix_seqK (K := K) rfl) (pv 6) pe_int (fun _ _ => rfl)) pa_nil))) (pa_cons (pe_tup (pa_cons (pe_ix (ix_seqK (K := K) rfl) (pv 6) pe_int (fun _ _ => rfl)) (pa_cons (pe_ix (ix_seqK (K := K) rfl) (pv 6) pe_int (fun _ _ => rfl)) pa_nil))) pa_nil))))))))))
  (pss_one (ps_expr (pe_calSK c_law_add rfl rfl rfl rfl rfl (hr.mono (by decide)) (by rfl) (takes_of rfl rfl rfl rfl) (pa_cons (pv 2) (pa_cons (pe_op op_sub (pe_callB (call_lenK (K := K) rfl) (by rfl) B.len boot_len (pa_cons (pv 0) pa_nil)) (pe_op op_mul pe_int (pe_callB (call_sumK (K := K) rfl rfl) (by rfl) B.sum boot_sum (pa_cons (pv 3) pa_nil)))) (pa_cons (pe_op (op_addK (K := K) rfl) (pv 1) (pe_calK c_law_rings rfl rfl rfl rfl rfl (hr.mono (by decide)) (by rfl) (takes_of rfl rfl rfl rfl) (pa_cons (pv 4) pa_nil))) pa_nil)))))))))
  (pss_one (ps_ret (pv 2))))), ?_⟩
  exact (ds_seq (ds_set de_dnew)
  (ds_seq (ds_for (di_seq (de_call (da_cons (de_cb rc_len nx_len (da_cons de_var da_nil)) da_nil))) (ds_seq (ds_set (de_fz (de_lst da_nil)))
  (ds_seq (ds_for (di_range1 (de_cb rc_len nx_len (da_cons de_var da_nil))) (ds_seq (ds_set (de_ix de_var de_var))
  (ds_if (dt_val (de_op2 rr_eq nx_eq (de_ix de_var de_var) de_int)) (ds_set (de_fz (de_op2 rr_add nx_add de_var (de_lst (da_cons (de_tup (da_cons (de_ix de_var de_int) (da_cons (de_ix de_var de_int) da_nil))) (da_cons (de_tup (da_cons (de_ix de_var de_int) (da_cons (de_ix de_var de_int) da_nil))) da_nil)))))) (ds_set (de_fz (de_op2 rr_add nx_add de_var (de_lst (da_cons (de_tup (da_cons (de_ix de_var de_int) (da_cons (de_ix de_var de_int) da_nil))) (da_cons (de_tup (da_cons (de_ix de_var de_int) (da_cons (de_ix de_var de_int) da_nil))) da_nil)))))))))
  (ds_lawAdd (de_op2 rr_sub nx_sub (de_cb rc_len nx_len (da_cons de_var da_nil)) (de_op2 rr_mul nx_mul de_int (de_cb rc_sum nx_sum (da_cons de_var da_nil)))) (de_op2 rr_add nx_add de_var (de_call (da_cons de_var da_nil)))))))
  ds_retO))
theorem sc_law_listed : FnScope ["found", "shift", "sign", "power"] ["found", "shift", "sign"] (defScope s_law_listed) := ⟨rfl, rfl, rfl, by decide +kernel, rfl, by decide +kernel, by decide +kernel⟩
theorem cal_law_listed (B : Bo mg) {f : Addr} {fd : FuncData} (Fn : Fun K "_law_listed" "_law_listed" s_law_listed f fd) (hm : mg "_law_listed" = some (.ref f)) : Cal P w K mg base cls "_law_listed" ["found", "shift", "sign"] 1 f_law_listed := by
  refine ⟨f, fd, fn_ok Fn sc_law_listed fun cdv A outer s H E hr => ?_, hm, Fn.kp, Fn.binds (ps := ["found", "shift", "sign"]) fun _ _ _ _ _ _ us hl => match us, hl with | [_, _, _], _ => rfl⟩
  have hu := hr.units
  have hu1 := hu_of hr
  refine ⟨_, (pss_one (ps_ret (pe_lc (own := [("power", 3)]) (g := gName 3) rfl sc_law_listed.nd (pi_bothK (K := K) rfl (pe_callB (call_sortA rfl) (by rfl) B.sorted boot_sorted (pa_cons (pv 0) pa_nil))) (blkOk_by (N := ["found", "shift", "sign", "power"]) (sc := defScope s_law_listed) (by decide +kernel)) (fun _ _ _ _ _ => pg_name (i := 3) sc_law_listed.nd rfl (Or.inl rfl)) (fun _ _ _ _ _ => (pts_one (pt_cmpR (op_neK (K := K) rfl hu) (pe_dget hu1 (pv 0) (pv 3) (fun _ _ => rfl)) pe_int (nomark _)))) (fun _ _ _ _ _ => (pe_tup (pa_cons (pe_op (op_addK (K := K) rfl) (pv 3) (pv 1)) (pa_cons (pe_op op_mul (pv 2) (pe_dget hu1 (pv 0) (pv 3) (fun _ _ => rfl))) pa_nil))))))), ?_⟩
  exact (ds_ret (de_lc (di_seq (de_cb rc_sortA nx_sortA (da_cons de_var da_nil))) (dt_val (de_op2 rr_ne nx_ne (de_dget de_var de_var) de_int)) (de_tup (da_cons (de_op2 rr_add nx_add de_var de_var) (da_cons (de_op2 rr_mul nx_mul de_var (de_dget de_var de_var)) da_nil))) (by decide)))
theorem sc_law_alike : FnScope ["found", "due", "k"] ["found", "due"] (defScope s_law_alike) := ⟨rfl, rfl, rfl, by decide +kernel, rfl, by decide +kernel, by decide +kernel⟩
theorem cal_law_alike (B : Bo mg) (c_law_whole : Cal P w K mg base cls "_law_whole" ["x"] 1 f_law_whole) {f : Addr} {fd : FuncData} (Fn : Fun K "_law_alike" "_law_alike" s_law_alike f fd) (hm : mg "_law_alike" = some (.ref f)) : Cal P w K mg base cls "_law_alike" ["found", "due"] 2 f_law_alike := by
  refine ⟨f, fd, fn_ok Fn sc_law_alike fun cdv A outer s H E hr => ?_, hm, Fn.kp, Fn.binds (ps := ["found", "due"]) fun _ _ _ _ _ _ us hl => match us, hl with | [_, _], _ => rfl⟩
  have hu := hr.units
  have hu1 := hu_of hr
  refine ⟨_, (pss_cons (ps_if (PW.pt (pw_or (pt_not (pt_val (pe_callB (call_isiW (K := K) rfl) (by rfl) B.isi boot_isinstance (pa_cons (pv 0) (pa_cons (pe_bltn (v := .ty "list") (by rfl) B.list boot_list rfl) pa_nil))))) (pw_or1 (pt_cmpR (op_neK (K := K) rfl hu) (pe_callB (call_lenK (K := K) rfl) (by rfl) B.len boot_len (pa_cons (pv 0) pa_nil)) (pe_callB (call_lenK (K := K) rfl) (by rfl) B.len boot_len (pa_cons (pv 1) pa_nil)) (nomark _))))) (pss_one (ps_ret pe_bl)) pss_nil)
  (pss_cons (ps_for (passes_of rfl) rfl (pi_range1 rfl B.range (pa_cons (pe_callB (call_lenK (K := K) rfl) (by rfl) B.len boot_len (pa_cons (pv 1) pa_nil)) pa_nil)) (pg_name (i := 2) sc_law_alike.nd rfl (Or.inl rfl)) (pss_cons (ps_if (PW.pt (pw_or (pt_not (pt_val (pe_callB (call_isiW (K := K) rfl) (by rfl) B.isi boot_isinstance (pa_cons (pe_ix (ix_seqK (K := K) rfl) (pv 0) (pv 2) (fun _ _ => rfl)) (pa_cons (pe_bltn (v := .ty "tuple") (by rfl) B.tuple boot_tuple rfl) pa_nil))))) (pw_or1 (pt_cmpR (op_neK (K := K) rfl hu) (pe_callB (call_lenK (K := K) rfl) (by rfl) B.len boot_len (pa_cons (pe_ix (ix_seqK (K := K) rfl) (pv 0) (pv 2) (fun _ _ => rfl)) pa_nil)) pe_int (nomark _))))) (pss_one (ps_ret pe_bl)) pss_nil)
  (pss_one (ps_if (PW.pt (pw_or (pt_not (pt_val (pe_calK c_law_whole rfl rfl rfl rfl rfl (hr.mono (by decide)) (by rfl) (takes_of rfl rfl rfl rfl) (pa_cons (pe_ix (ix_seqK (K := K) rfl) (pe_ix (ix_seqK (K := K) rfl) (pv 0) (pv 2) (fun _ _ => rfl)) pe_int (fun _ _ => rfl)) pa_nil)))) (pw_or (pt_not (pt_val (pe_calK c_law_whole rfl rfl rfl rfl rfl (hr.mono (by decide)) (by rfl) (takes_of rfl rfl rfl rfl) (pa_cons (pe_ix (ix_seqK (K := K) rfl) (pe_ix (ix_seqK (K := K) rfl) (pv 0) (pv 2) (fun _ _ => rfl)) pe_int (fun _ _ => rfl)) pa_nil)))) (pw_or1 (pt_cmpR (op_neK (K := K) rfl hu) (pe_ix (ix_seqK (K := K) rfl) (pv 0) (pv 2) (fun _ _ => rfl)) (pe_ix (ix_seqK (K := K) rfl) (pv 1) (pv 2) (fun _ _ => rfl)) (nomark _)))))) (pss_one (ps_ret pe_bl)) pss_nil))))
  (pss_one (ps_ret pe_bl)))), ?_⟩
  exact (ds_seq (ds_if (dt_or (dt_not (dt_valB (de_isi de_var))) (dt_val (de_op2 rr_ne nx_ne (de_cb rc_len nx_len (da_cons de_var da_nil)) (de_cb rc_len nx_len (da_cons de_var da_nil))))) (ds_ret de_bl) ds_next)
  (ds_seq (ds_for (di_range1 (de_cb rc_len nx_len (da_cons de_var da_nil))) (ds_seq (ds_if (dt_or (dt_not (dt_valB (de_isi (de_ix de_var de_var)))) (dt_val (de_op2 rr_ne nx_ne (de_cb rc_len nx_len (da_cons (de_ix de_var de_var) da_nil)) de_int))) (ds_ret de_bl) ds_next)
  (ds_if (dt_or (dt_not (dt_valB (de_call (da_cons (de_ix (de_ix de_var de_var) de_int) da_nil)))) (dt_or (dt_not (dt_valB (de_call (da_cons (de_ix (de_ix de_var de_var) de_int) da_nil)))) (dt_val (de_op2 rr_ne nx_ne (de_ix de_var de_var) (de_ix de_var de_var))))) (ds_ret de_bl) ds_next)))
  (ds_ret de_bl)))
theorem sc_law_k12 : FnScope ["script", "many", "rings", "rows", "due", "w"] ["script"] (defScope s_law_k12) := ⟨rfl, rfl, rfl, by decide +kernel, rfl, by decide +kernel, by decide +kernel⟩
theorem ok_law (B : Bo mg) (c_law_numbered : Cal P w K mg base cls "_law_numbered" ["rows"] 1 f_law_numbered) (c_law_total : Cal P w K mg base cls "_law_total" ["rows", "rings"] 3 f_law_total) (c_law_twist : Cal P w K mg base cls "_law_twist" ["rows"] 2 f_law_twist) (c_law_alike : Cal P w K mg base cls "_law_alike" ["found", "due"] 2 f_law_alike) (c_law_cell_at : Cal P w K mg base cls "_law_cell_at" ["script", "k"] 1 f_law_cell_at) (c_law_rows : Cal P w K mg base cls "_law_rows" ["script", "start", "many", "fixed"] 3 f_law_rows) (c_straight : Cal P w K mg base cls "straight" ["sheet"] 16 f_straight) (c_law_listed : Cal P w K mg base cls "_law_listed" ["found", "shift", "sign"] 1 f_law_listed) (c_total : Cal P w K mg base cls "total" ["sheet"] 16 f_total) {f : Addr} {fd : FuncData} (Fn : Fun K "law" "law" s_law_k12 f fd) : FnOk P w K mg base (L2.CX P w) 17 f fd ["script"] (spF K cls 1 f_law_k12) := by
  refine fn_ok Fn sc_law_k12 fun cdv A outer s H E hr => ?_
  have hu := hr.units
  have hu1 := hu_of hr
  refine ⟨_, (pss_cons (ps_set (i := 1) sc_law_k12.nd rfl (Or.inl rfl) (pe_op op_mod (pe_calK c_law_cell_at rfl rfl rfl rfl rfl (hr.mono (by decide)) (by rfl) (takes_of rfl rfl rfl rfl) (pa_cons (pv 0) (pa_cons pe_int pa_nil))) pe_int))
  (pss_cons (ps_set (i := 2) sc_law_k12.nd rfl (Or.inl rfl) (pe_op op_mod (pe_calK c_law_cell_at rfl rfl rfl rfl rfl (hr.mono (by decide)) (by rfl) (takes_of rfl rfl rfl rfl) (pa_cons (pv 0) (pa_cons pe_int pa_nil))) pe_int))
  (pss_cons (ps_if (pt_cmpR (op_eqK (K := K) rfl hu) (pe_op op_mod (pe_calK c_law_cell_at rfl rfl rfl rfl rfl (hr.mono (by decide)) (by rfl) (takes_of rfl rfl rfl rfl) (pa_cons (pv 0) (pa_cons pe_int pa_nil))) pe_int) pe_int (nomark _)) (pss_cons (ps_set (i := 1) sc_law_k12.nd rfl (Or.inl rfl) (pe_op op_mod (pv 1) pe_int))
  (pss_one (ps_set (i := 2) sc_law_k12.nd rfl (Or.inl rfl) (pe_op op_mod (pe_calK c_law_cell_at rfl rfl rfl rfl rfl (hr.mono (by decide)) (by rfl) (takes_of rfl rfl rfl rfl) (pa_cons (pv 0) (pa_cons pe_int pa_nil))) pe_int)))) pss_nil)
  (pss_cons (ps_if (pt_cmpR (op_eqK (K := K) rfl hu) (pe_op op_mod (pe_calK c_law_cell_at rfl rfl rfl rfl rfl (hr.mono (by decide)) (by rfl) (takes_of rfl rfl rfl rfl) (pa_cons (pv 0) (pa_cons pe_int pa_nil))) pe_int) pe_int (nomark _)) (pss_one (ps_set (i := 1) sc_law_k12.nd rfl (Or.inl rfl) (pe_op (op_addK (K := K) rfl) pe_int (pe_op op_mod (pe_op op_fdiv (pe_calK c_law_cell_at rfl rfl rfl rfl rfl (hr.mono (by decide)) (by rfl) (takes_of rfl rfl rfl rfl) (pa_cons (pv 0) (pa_cons pe_int pa_nil))) pe_int) pe_int)))) pss_nil)
  (pss_cons (ps_set (i := 3) sc_law_k12.nd rfl (Or.inl rfl) (pe_calK c_law_numbered rfl rfl rfl rfl rfl (hr.mono (by decide)) (by rfl) (takes_of rfl rfl rfl rfl) (pa_cons (pe_calK c_law_rows rfl rfl rfl rfl rfl (hr.mono (by decide)) (by rfl) (takes_of rfl rfl rfl rfl) (pa_cons (pv 0) (pa_cons pe_int (pa_cons (pv 1) (pa_cons (pe_lst pa_nil) pa_nil))))) pa_nil)))
  (pss_cons (ps_set (i := 4) sc_law_k12.nd rfl (Or.inl rfl) (pe_calK c_law_total rfl rfl rfl rfl rfl (hr.mono (by decide)) (by rfl) (takes_of rfl rfl rfl rfl) (pa_cons (pv 3) (pa_cons (pv 2) pa_nil))))
  (pss_cons (ps_if (pt_not (pt_val (pe_calK c_law_alike rfl rfl rfl rfl rfl (hr.mono (by decide)) (by rfl) (takes_of rfl rfl rfl rfl) (pa_cons (pe_calK c_total rfl rfl rfl rfl rfl (hr.mono (by decide)) (by rfl) (takes_of rfl rfl rfl rfl) (pa_cons (pe_tup (pa_cons (pv 3) (pa_cons (pv 2) pa_nil))) pa_nil)) (pa_cons (pe_calK c_law_listed rfl rfl rfl rfl rfl (hr.mono (by decide)) (by rfl) (takes_of rfl rfl rfl rfl) (pa_cons (pv 4) (pa_cons pe_int (pa_cons pe_int pa_nil)))) pa_nil))))) (pss_one (ps_ret pe_bl)) pss_nil)
  (pss_cons (ps_set (i := 5) sc_law_k12.nd rfl (Or.inl rfl) (pe_calK c_law_twist rfl rfl rfl rfl rfl (hr.mono (by decide)) (by rfl) (takes_of rfl rfl rfl rfl) (pa_cons (pv 3) pa_nil)))
  (pss_one (ps_ret (pe_calK c_law_alike rfl rfl rfl rfl rfl (hr.mono (by decide)) (by rfl) (takes_of rfl rfl rfl rfl) (pa_cons (pe_calK c_straight rfl rfl rfl rfl rfl (hr.mono (by decide)) (by rfl) (takes_of rfl rfl rfl rfl) (pa_cons (pe_tup (pa_cons (pv 3) (pa_cons (pv 2) pa_nil))) pa_nil)) (pa_cons (pe_calK c_law_listed rfl rfl rfl rfl rfl (hr.mono (by decide)) (by rfl) (takes_of rfl rfl rfl rfl) (pa_cons (pv 4) (pa_cons (pe_op op_mul (pe_un un_neg pe_int) (pv 5)) (pa_cons (pe_op op_sub pe_int (pe_op op_mul pe_int (pe_op op_mod (pv 5) pe_int))) pa_nil)))) pa_nil))))))))))))), ?_⟩
  exact (ds_seq (ds_set (de_op2 rr_mod nx_mod (de_call (da_cons de_var (da_cons de_int da_nil))) de_int))
  (ds_seq (ds_set (de_op2 rr_mod nx_mod (de_call (da_cons de_var (da_cons de_int da_nil))) de_int))
  (ds_seq (ds_if (dt_val (de_op2 rr_eq nx_eq (de_op2 rr_mod nx_mod (de_call (da_cons de_var (da_cons de_int da_nil))) de_int) de_int)) (ds_seq (ds_set (de_op2 rr_mod nx_mod de_var de_int))
  (ds_set (de_op2 rr_mod nx_mod (de_call (da_cons de_var (da_cons de_int da_nil))) de_int))) ds_next)
  (ds_seq (ds_if (dt_val (de_op2 rr_eq nx_eq (de_op2 rr_mod nx_mod (de_call (da_cons de_var (da_cons de_int da_nil))) de_int) de_int)) (ds_set (de_op2 rr_add nx_add de_int (de_op2 rr_mod nx_mod (de_op2 rr_floor nx_floor (de_call (da_cons de_var (da_cons de_int da_nil))) de_int) de_int))) ds_next)
  (ds_seq (ds_set (de_fz (de_call (da_cons (de_call (da_cons de_var (da_cons de_int (da_cons de_var (da_cons (de_lst da_nil) da_nil))))) da_nil))))
  (ds_seq (ds_set (de_fz (de_call (da_cons de_var (da_cons de_var da_nil)))))
  (ds_seq (ds_if (dt_not (dt_valB (de_call (da_cons (de_call (da_cons (de_tup (da_cons de_var (da_cons de_var da_nil))) da_nil)) (da_cons (de_call (da_cons de_var (da_cons de_int (da_cons de_int da_nil)))) da_nil))))) (ds_ret de_bl) ds_next)
  (ds_seq (ds_set (de_fz (de_call (da_cons de_var da_nil))))
  (ds_ret (de_call (da_cons (de_call (da_cons (de_tup (da_cons de_var (da_cons de_var da_nil))) da_nil)) (da_cons (de_call (da_cons de_var (da_cons (de_op2 rr_mul nx_mul (de_op1 ru_neg nx_neg de_int) de_var) (da_cons (de_op2 rr_sub nx_sub de_int (de_op2 rr_mul nx_mul de_int (de_op2 rr_mod nx_mod de_var de_int))) da_nil)))) da_nil))))))))))))
end
theorem all_mk {P : Program} {w : World} {K : PySem.W.Frag} {h : Heap} {mg : Str → Option Value} {fa : Addr} (X : K.In h) (G : h.Ns mainGlobals mg) (hfa : mg "law" = some (.ref fa))
    {fa_counted : Addr} {od_counted an_counted : Option Addr} {sl_counted : Array (Option Value)} {oc_counted kV_counted dc_counted pm_counted cd_counted ct_counted : Value}
    {fa_numbered : Addr} {od_numbered an_numbered : Option Addr} {sl_numbered : Array (Option Value)} {oc_numbered kV_numbered dc_numbered pm_numbered cd_numbered ct_numbered : Value}
    {fa_row_at : Addr} {od_row_at an_row_at : Option Addr} {sl_row_at : Array (Option Value)} {oc_row_at kV_row_at dc_row_at pm_row_at cd_row_at ct_row_at : Value}
    {fa_places_of : Addr} {od_places_of an_places_of : Option Addr} {sl_places_of : Array (Option Value)} {oc_places_of kV_places_of dc_places_of pm_places_of cd_places_of ct_places_of : Value}
    {fa_ends : Addr} {od_ends an_ends : Option Addr} {sl_ends : Array (Option Value)} {oc_ends kV_ends dc_ends pm_ends cd_ends ct_ends : Value}
    {fa_without : Addr} {od_without an_without : Option Addr} {sl_without : Array (Option Value)} {oc_without kV_without dc_without pm_without cd_without ct_without : Value}
    {fa_renamed : Addr} {od_renamed an_renamed : Option Addr} {sl_renamed : Array (Option Value)} {oc_renamed kV_renamed dc_renamed pm_renamed cd_renamed ct_renamed : Value}
    {fa_joined : Addr} {od_joined an_joined : Option Addr} {sl_joined : Array (Option Value)} {oc_joined kV_joined dc_joined pm_joined cd_joined ct_joined : Value}
    {fa_split : Addr} {od_split an_split : Option Addr} {sl_split : Array (Option Value)} {oc_split kV_split dc_split pm_split cd_split ct_split : Value}
    {fa_far_place : Addr} {od_far_place an_far_place : Option Addr} {sl_far_place : Array (Option Value)} {oc_far_place kV_far_place dc_far_place pm_far_place cd_far_place ct_far_place : Value}
    {fa_across : Addr} {od_across an_across : Option Addr} {sl_across : Array (Option Value)} {oc_across kV_across dc_across pm_across cd_across ct_across : Value}
    {fa_end_of_return : Addr} {od_end_of_return an_end_of_return : Option Addr} {sl_end_of_return : Array (Option Value)} {oc_end_of_return kV_end_of_return dc_end_of_return pm_end_of_return cd_end_of_return ct_end_of_return : Value}
    {fa_twist : Addr} {od_twist an_twist : Option Addr} {sl_twist : Array (Option Value)} {oc_twist kV_twist dc_twist pm_twist cd_twist ct_twist : Value}
    {fa_add_to : Addr} {od_add_to an_add_to : Option Addr} {sl_add_to : Array (Option Value)} {oc_add_to kV_add_to dc_add_to pm_add_to cd_add_to ct_add_to : Value}
    {fa_of_rings : Addr} {od_of_rings an_of_rings : Option Addr} {sl_of_rings : Array (Option Value)} {oc_of_rings kV_of_rings dc_of_rings pm_of_rings cd_of_rings ct_of_rings : Value}
    {fa_of_sheet : Addr} {od_of_sheet an_of_sheet : Option Addr} {sl_of_sheet : Array (Option Value)} {oc_of_sheet kV_of_sheet dc_of_sheet pm_of_sheet cd_of_sheet ct_of_sheet : Value}
    {fa_as_rows : Addr} {od_as_rows an_as_rows : Option Addr} {sl_as_rows : Array (Option Value)} {oc_as_rows kV_as_rows dc_as_rows pm_as_rows cd_as_rows ct_as_rows : Value}
    {fa_total : Addr} {od_total an_total : Option Addr} {sl_total : Array (Option Value)} {oc_total kV_total dc_total pm_total cd_total ct_total : Value}
    {fa_straight : Addr} {od_straight an_straight : Option Addr} {sl_straight : Array (Option Value)} {oc_straight kV_straight dc_straight pm_straight cd_straight ct_straight : Value}
    {fa_law_cell_at : Addr} {od_law_cell_at an_law_cell_at : Option Addr} {sl_law_cell_at : Array (Option Value)} {oc_law_cell_at kV_law_cell_at dc_law_cell_at pm_law_cell_at cd_law_cell_at ct_law_cell_at : Value}
    {fa_law_pick : Addr} {od_law_pick an_law_pick : Option Addr} {sl_law_pick : Array (Option Value)} {oc_law_pick kV_law_pick dc_law_pick pm_law_pick cd_law_pick ct_law_pick : Value}
    {fa_law_rows : Addr} {od_law_rows an_law_rows : Option Addr} {sl_law_rows : Array (Option Value)} {oc_law_rows kV_law_rows dc_law_rows pm_law_rows cd_law_rows ct_law_rows : Value}
    {fa_law_numbered : Addr} {od_law_numbered an_law_numbered : Option Addr} {sl_law_numbered : Array (Option Value)} {oc_law_numbered kV_law_numbered dc_law_numbered pm_law_numbered cd_law_numbered ct_law_numbered : Value}
    {fa_law_whole : Addr} {od_law_whole an_law_whole : Option Addr} {sl_law_whole : Array (Option Value)} {oc_law_whole kV_law_whole dc_law_whole pm_law_whole cd_law_whole ct_law_whole : Value}
    {fa_law_mate : Addr} {od_law_mate an_law_mate : Option Addr} {sl_law_mate : Array (Option Value)} {oc_law_mate kV_law_mate dc_law_mate pm_law_mate cd_law_mate ct_law_mate : Value}
    {fa_law_twist : Addr} {od_law_twist an_law_twist : Option Addr} {sl_law_twist : Array (Option Value)} {oc_law_twist kV_law_twist dc_law_twist pm_law_twist cd_law_twist ct_law_twist : Value}
    {fa_law_rings : Addr} {od_law_rings an_law_rings : Option Addr} {sl_law_rings : Array (Option Value)} {oc_law_rings kV_law_rings dc_law_rings pm_law_rings cd_law_rings ct_law_rings : Value}
    {fa_law_ways : Addr} {od_law_ways an_law_ways : Option Addr} {sl_law_ways : Array (Option Value)} {oc_law_ways kV_law_ways dc_law_ways pm_law_ways cd_law_ways ct_law_ways : Value}
    {fa_law_choices : Addr} {od_law_choices an_law_choices : Option Addr} {sl_law_choices : Array (Option Value)} {oc_law_choices kV_law_choices dc_law_choices pm_law_choices cd_law_choices ct_law_choices : Value}
    {fa_law_add : Addr} {od_law_add an_law_add : Option Addr} {sl_law_add : Array (Option Value)} {oc_law_add kV_law_add dc_law_add pm_law_add cd_law_add ct_law_add : Value}
    {fa_law_total : Addr} {od_law_total an_law_total : Option Addr} {sl_law_total : Array (Option Value)} {oc_law_total kV_law_total dc_law_total pm_law_total cd_law_total ct_law_total : Value}
    {fa_law_listed : Addr} {od_law_listed an_law_listed : Option Addr} {sl_law_listed : Array (Option Value)} {oc_law_listed kV_law_listed dc_law_listed pm_law_listed cd_law_listed ct_law_listed : Value}
    {fa_law_alike : Addr} {od_law_alike an_law_alike : Option Addr} {sl_law_alike : Array (Option Value)} {oc_law_alike kV_law_alike dc_law_alike pm_law_alike cd_law_alike ct_law_alike : Value}
    {fa_law : Addr} {od_law an_law : Option Addr} {sl_law : Array (Option Value)} {oc_law kV_law dc_law pm_law cd_law ct_law : Value}
    {c0 c1 c2 c3 c4 cE : Addr}
    (q_a_counted : PySem.W.nsIn K mainGlobals "counted" = some (some (.ref fa_counted)))
    (q_l_counted : K.lookup fa_counted = some ⟨oc_counted, od_counted, .func (PySem.W.fnOf "counted" "counted" (defArgs s_counted) (defBody s_counted) (defScope s_counted) .none kV_counted dc_counted pm_counted an_counted cd_counted ct_counted), sl_counted⟩)
    (q_o_counted : PySem.W.codeIn K cd_counted "counted" = true)
    (q_k_counted : PySem.W.keepIn K (.ref fa_counted) = true)
    (q_a_numbered : PySem.W.nsIn K mainGlobals "numbered" = some (some (.ref fa_numbered)))
    (q_l_numbered : K.lookup fa_numbered = some ⟨oc_numbered, od_numbered, .func (PySem.W.fnOf "numbered" "numbered" (defArgs s_numbered) (defBody s_numbered) (defScope s_numbered) .none kV_numbered dc_numbered pm_numbered an_numbered cd_numbered ct_numbered), sl_numbered⟩)
    (q_o_numbered : PySem.W.codeIn K cd_numbered "numbered" = true)
    (q_k_numbered : PySem.W.keepIn K (.ref fa_numbered) = true)
    (q_a_row_at : PySem.W.nsIn K mainGlobals "row_at" = some (some (.ref fa_row_at)))
    (q_l_row_at : K.lookup fa_row_at = some ⟨oc_row_at, od_row_at, .func (PySem.W.fnOf "row_at" "row_at" (defArgs s_row_at) (defBody s_row_at) (defScope s_row_at) .none kV_row_at dc_row_at pm_row_at an_row_at cd_row_at ct_row_at), sl_row_at⟩)
    (q_o_row_at : PySem.W.codeIn K cd_row_at "row_at" = true)
    (q_k_row_at : PySem.W.keepIn K (.ref fa_row_at) = true)
    (q_a_places_of : PySem.W.nsIn K mainGlobals "places_of" = some (some (.ref fa_places_of)))
    (q_l_places_of : K.lookup fa_places_of = some ⟨oc_places_of, od_places_of, .func (PySem.W.fnOf "places_of" "places_of" (defArgs s_places_of) (defBody s_places_of) (defScope s_places_of) .none kV_places_of dc_places_of pm_places_of an_places_of cd_places_of ct_places_of), sl_places_of⟩)
    (q_o_places_of : PySem.W.codeIn K cd_places_of "places_of" = true)
    (q_k_places_of : PySem.W.keepIn K (.ref fa_places_of) = true)
    (q_a_ends : PySem.W.nsIn K mainGlobals "ends" = some (some (.ref fa_ends)))
    (q_l_ends : K.lookup fa_ends = some ⟨oc_ends, od_ends, .func (PySem.W.fnOf "ends" "ends" (defArgs s_ends) (defBody s_ends) (defScope s_ends) .none kV_ends dc_ends pm_ends an_ends cd_ends ct_ends), sl_ends⟩)
    (q_o_ends : PySem.W.codeIn K cd_ends "ends" = true)
    (q_k_ends : PySem.W.keepIn K (.ref fa_ends) = true)
    (q_a_without : PySem.W.nsIn K mainGlobals "without" = some (some (.ref fa_without)))
    (q_l_without : K.lookup fa_without = some ⟨oc_without, od_without, .func (PySem.W.fnOf "without" "without" (defArgs s_without) (defBody s_without) (defScope s_without) .none kV_without dc_without pm_without an_without cd_without ct_without), sl_without⟩)
    (q_o_without : PySem.W.codeIn K cd_without "without" = true)
    (q_k_without : PySem.W.keepIn K (.ref fa_without) = true)
    (q_a_renamed : PySem.W.nsIn K mainGlobals "renamed" = some (some (.ref fa_renamed)))
    (q_l_renamed : K.lookup fa_renamed = some ⟨oc_renamed, od_renamed, .func (PySem.W.fnOf "renamed" "renamed" (defArgs s_renamed) (defBody s_renamed) (defScope s_renamed) .none kV_renamed dc_renamed pm_renamed an_renamed cd_renamed ct_renamed), sl_renamed⟩)
    (q_o_renamed : PySem.W.codeIn K cd_renamed "renamed" = true)
    (q_k_renamed : PySem.W.keepIn K (.ref fa_renamed) = true)
    (q_a_joined : PySem.W.nsIn K mainGlobals "joined" = some (some (.ref fa_joined)))
    (q_l_joined : K.lookup fa_joined = some ⟨oc_joined, od_joined, .func (PySem.W.fnOf "joined" "joined" (defArgs s_joined) (defBody s_joined) (defScope s_joined) .none kV_joined dc_joined pm_joined an_joined cd_joined ct_joined), sl_joined⟩)
    (q_o_joined : PySem.W.codeIn K cd_joined "joined" = true)
    (q_k_joined : PySem.W.keepIn K (.ref fa_joined) = true)
    (q_a_split : PySem.W.nsIn K mainGlobals "split" = some (some (.ref fa_split)))
    (q_l_split : K.lookup fa_split = some ⟨oc_split, od_split, .func (PySem.W.fnOf "split" "split" (defArgs s_split) (defBody s_split) (defScope s_split) .none kV_split dc_split pm_split an_split cd_split ct_split), sl_split⟩)
    (q_o_split : PySem.W.codeIn K cd_split "split" = true)
    (q_k_split : PySem.W.keepIn K (.ref fa_split) = true)
    (q_a_far_place : PySem.W.nsIn K mainGlobals "far_place" = some (some (.ref fa_far_place)))
    (q_l_far_place : K.lookup fa_far_place = some ⟨oc_far_place, od_far_place, .func (PySem.W.fnOf "far_place" "far_place" (defArgs s_far_place) (defBody s_far_place) (defScope s_far_place) .none kV_far_place dc_far_place pm_far_place an_far_place cd_far_place ct_far_place), sl_far_place⟩)
    (q_o_far_place : PySem.W.codeIn K cd_far_place "far_place" = true)
    (q_k_far_place : PySem.W.keepIn K (.ref fa_far_place) = true)
    (q_a_across : PySem.W.nsIn K mainGlobals "across" = some (some (.ref fa_across)))
    (q_l_across : K.lookup fa_across = some ⟨oc_across, od_across, .func (PySem.W.fnOf "across" "across" (defArgs s_across) (defBody s_across) (defScope s_across) .none kV_across dc_across pm_across an_across cd_across ct_across), sl_across⟩)
    (q_o_across : PySem.W.codeIn K cd_across "across" = true)
    (q_k_across : PySem.W.keepIn K (.ref fa_across) = true)
    (q_a_end_of_return : PySem.W.nsIn K mainGlobals "end_of_return" = some (some (.ref fa_end_of_return)))
    (q_l_end_of_return : K.lookup fa_end_of_return = some ⟨oc_end_of_return, od_end_of_return, .func (PySem.W.fnOf "end_of_return" "end_of_return" (defArgs s_end_of_return) (defBody s_end_of_return) (defScope s_end_of_return) .none kV_end_of_return dc_end_of_return pm_end_of_return an_end_of_return cd_end_of_return ct_end_of_return), sl_end_of_return⟩)
    (q_o_end_of_return : PySem.W.codeIn K cd_end_of_return "end_of_return" = true)
    (q_k_end_of_return : PySem.W.keepIn K (.ref fa_end_of_return) = true)
    (q_a_twist : PySem.W.nsIn K mainGlobals "twist" = some (some (.ref fa_twist)))
    (q_l_twist : K.lookup fa_twist = some ⟨oc_twist, od_twist, .func (PySem.W.fnOf "twist" "twist" (defArgs s_twist) (defBody s_twist) (defScope s_twist) .none kV_twist dc_twist pm_twist an_twist cd_twist ct_twist), sl_twist⟩)
    (q_o_twist : PySem.W.codeIn K cd_twist "twist" = true)
    (q_k_twist : PySem.W.keepIn K (.ref fa_twist) = true)
    (q_a_add_to : PySem.W.nsIn K mainGlobals "add_to" = some (some (.ref fa_add_to)))
    (q_l_add_to : K.lookup fa_add_to = some ⟨oc_add_to, od_add_to, .func (PySem.W.fnOf "add_to" "add_to" (defArgs s_add_to) (defBody s_add_to) (defScope s_add_to) .none kV_add_to dc_add_to pm_add_to an_add_to cd_add_to ct_add_to), sl_add_to⟩)
    (q_o_add_to : PySem.W.codeIn K cd_add_to "add_to" = true)
    (q_k_add_to : PySem.W.keepIn K (.ref fa_add_to) = true)
    (q_a_of_rings : PySem.W.nsIn K mainGlobals "of_rings" = some (some (.ref fa_of_rings)))
    (q_l_of_rings : K.lookup fa_of_rings = some ⟨oc_of_rings, od_of_rings, .func (PySem.W.fnOf "of_rings" "of_rings" (defArgs s_of_rings) (defBody s_of_rings) (defScope s_of_rings) .none kV_of_rings dc_of_rings pm_of_rings an_of_rings cd_of_rings ct_of_rings), sl_of_rings⟩)
    (q_o_of_rings : PySem.W.codeIn K cd_of_rings "of_rings" = true)
    (q_k_of_rings : PySem.W.keepIn K (.ref fa_of_rings) = true)
    (q_a_of_sheet : PySem.W.nsIn K mainGlobals "of_sheet" = some (some (.ref fa_of_sheet)))
    (q_l_of_sheet : K.lookup fa_of_sheet = some ⟨oc_of_sheet, od_of_sheet, .func (PySem.W.fnOf "of_sheet" "of_sheet" (defArgs s_of_sheet) (defBody s_of_sheet) (defScope s_of_sheet) .none kV_of_sheet dc_of_sheet pm_of_sheet an_of_sheet cd_of_sheet ct_of_sheet), sl_of_sheet⟩)
    (q_o_of_sheet : PySem.W.codeIn K cd_of_sheet "of_sheet" = true)
    (q_k_of_sheet : PySem.W.keepIn K (.ref fa_of_sheet) = true)
    (q_a_as_rows : PySem.W.nsIn K mainGlobals "as_rows" = some (some (.ref fa_as_rows)))
    (q_l_as_rows : K.lookup fa_as_rows = some ⟨oc_as_rows, od_as_rows, .func (PySem.W.fnOf "as_rows" "as_rows" (defArgs s_as_rows) (defBody s_as_rows) (defScope s_as_rows) .none kV_as_rows dc_as_rows pm_as_rows an_as_rows cd_as_rows ct_as_rows), sl_as_rows⟩)
    (q_o_as_rows : PySem.W.codeIn K cd_as_rows "as_rows" = true)
    (q_k_as_rows : PySem.W.keepIn K (.ref fa_as_rows) = true)
    (q_a_total : PySem.W.nsIn K mainGlobals "total" = some (some (.ref fa_total)))
    (q_l_total : K.lookup fa_total = some ⟨oc_total, od_total, .func (PySem.W.fnOf "total" "total" (defArgs s_total) (defBody s_total) (defScope s_total) .none kV_total dc_total pm_total an_total cd_total ct_total), sl_total⟩)
    (q_o_total : PySem.W.codeIn K cd_total "total" = true)
    (q_k_total : PySem.W.keepIn K (.ref fa_total) = true)
    (q_a_straight : PySem.W.nsIn K mainGlobals "straight" = some (some (.ref fa_straight)))
    (q_l_straight : K.lookup fa_straight = some ⟨oc_straight, od_straight, .func (PySem.W.fnOf "straight" "straight" (defArgs s_straight) (defBody s_straight) (defScope s_straight) .none kV_straight dc_straight pm_straight an_straight cd_straight ct_straight), sl_straight⟩)
    (q_o_straight : PySem.W.codeIn K cd_straight "straight" = true)
    (q_k_straight : PySem.W.keepIn K (.ref fa_straight) = true)
    (q_a_law_cell_at : PySem.W.nsIn K mainGlobals "_law_cell_at" = some (some (.ref fa_law_cell_at)))
    (q_l_law_cell_at : K.lookup fa_law_cell_at = some ⟨oc_law_cell_at, od_law_cell_at, .func (PySem.W.fnOf "_law_cell_at" "_law_cell_at" (defArgs s_law_cell_at) (defBody s_law_cell_at) (defScope s_law_cell_at) .none kV_law_cell_at dc_law_cell_at pm_law_cell_at an_law_cell_at cd_law_cell_at ct_law_cell_at), sl_law_cell_at⟩)
    (q_o_law_cell_at : PySem.W.codeIn K cd_law_cell_at "_law_cell_at" = true)
    (q_k_law_cell_at : PySem.W.keepIn K (.ref fa_law_cell_at) = true)
    (q_a_law_pick : PySem.W.nsIn K mainGlobals "_law_pick" = some (some (.ref fa_law_pick)))
    (q_l_law_pick : K.lookup fa_law_pick = some ⟨oc_law_pick, od_law_pick, .func (PySem.W.fnOf "_law_pick" "_law_pick" (defArgs s_law_pick) (defBody s_law_pick) (defScope s_law_pick) .none kV_law_pick dc_law_pick pm_law_pick an_law_pick cd_law_pick ct_law_pick), sl_law_pick⟩)
    (q_o_law_pick : PySem.W.codeIn K cd_law_pick "_law_pick" = true)
    (q_k_law_pick : PySem.W.keepIn K (.ref fa_law_pick) = true)
    (q_a_law_rows : PySem.W.nsIn K mainGlobals "_law_rows" = some (some (.ref fa_law_rows)))
    (q_l_law_rows : K.lookup fa_law_rows = some ⟨oc_law_rows, od_law_rows, .func (PySem.W.fnOf "_law_rows" "_law_rows" (defArgs s_law_rows) (defBody s_law_rows) (defScope s_law_rows) .none kV_law_rows dc_law_rows pm_law_rows an_law_rows cd_law_rows ct_law_rows), sl_law_rows⟩)
    (q_o_law_rows : PySem.W.codeIn K cd_law_rows "_law_rows" = true)
    (q_k_law_rows : PySem.W.keepIn K (.ref fa_law_rows) = true)
    (q_a_law_numbered : PySem.W.nsIn K mainGlobals "_law_numbered" = some (some (.ref fa_law_numbered)))
    (q_l_law_numbered : K.lookup fa_law_numbered = some ⟨oc_law_numbered, od_law_numbered, .func (PySem.W.fnOf "_law_numbered" "_law_numbered" (defArgs s_law_numbered) (defBody s_law_numbered) (defScope s_law_numbered) .none kV_law_numbered dc_law_numbered pm_law_numbered an_law_numbered cd_law_numbered ct_law_numbered), sl_law_numbered⟩)
    (q_o_law_numbered : PySem.W.codeIn K cd_law_numbered "_law_numbered" = true)
    (q_k_law_numbered : PySem.W.keepIn K (.ref fa_law_numbered) = true)
    (q_a_law_whole : PySem.W.nsIn K mainGlobals "_law_whole" = some (some (.ref fa_law_whole)))
    (q_l_law_whole : K.lookup fa_law_whole = some ⟨oc_law_whole, od_law_whole, .func (PySem.W.fnOf "_law_whole" "_law_whole" (defArgs s_law_whole) (defBody s_law_whole) (defScope s_law_whole) .none kV_law_whole dc_law_whole pm_law_whole an_law_whole cd_law_whole ct_law_whole), sl_law_whole⟩)
    (q_o_law_whole : PySem.W.codeIn K cd_law_whole "_law_whole" = true)
    (q_k_law_whole : PySem.W.keepIn K (.ref fa_law_whole) = true)
    (q_a_law_mate : PySem.W.nsIn K mainGlobals "_law_mate" = some (some (.ref fa_law_mate)))
    (q_l_law_mate : K.lookup fa_law_mate = some ⟨oc_law_mate, od_law_mate, .func (PySem.W.fnOf "_law_mate" "_law_mate" (defArgs s_law_mate) (defBody s_law_mate) (defScope s_law_mate) .none kV_law_mate dc_law_mate pm_law_mate an_law_mate cd_law_mate ct_law_mate), sl_law_mate⟩)
    (q_o_law_mate : PySem.W.codeIn K cd_law_mate "_law_mate" = true)
    (q_k_law_mate : PySem.W.keepIn K (.ref fa_law_mate) = true)
    (q_a_law_twist : PySem.W.nsIn K mainGlobals "_law_twist" = some (some (.ref fa_law_twist)))
    (q_l_law_twist : K.lookup fa_law_twist = some ⟨oc_law_twist, od_law_twist, .func (PySem.W.fnOf "_law_twist" "_law_twist" (defArgs s_law_twist) (defBody s_law_twist) (defScope s_law_twist) .none kV_law_twist dc_law_twist pm_law_twist an_law_twist cd_law_twist ct_law_twist), sl_law_twist⟩)
    (q_o_law_twist : PySem.W.codeIn K cd_law_twist "_law_twist" = true)
    (q_k_law_twist : PySem.W.keepIn K (.ref fa_law_twist) = true)
    (q_a_law_rings : PySem.W.nsIn K mainGlobals "_law_rings" = some (some (.ref fa_law_rings)))
    (q_l_law_rings : K.lookup fa_law_rings = some ⟨oc_law_rings, od_law_rings, .func (PySem.W.fnOf "_law_rings" "_law_rings" (defArgs s_law_rings) (defBody s_law_rings) (defScope s_law_rings) .none kV_law_rings dc_law_rings pm_law_rings an_law_rings cd_law_rings ct_law_rings), sl_law_rings⟩)
    (q_o_law_rings : PySem.W.codeIn K cd_law_rings "_law_rings" = true)
    (q_k_law_rings : PySem.W.keepIn K (.ref fa_law_rings) = true)
    (q_a_law_ways : PySem.W.nsIn K mainGlobals "_law_ways" = some (some (.ref fa_law_ways)))
    (q_l_law_ways : K.lookup fa_law_ways = some ⟨oc_law_ways, od_law_ways, .func (PySem.W.fnOf "_law_ways" "_law_ways" (defArgs s_law_ways) (defBody s_law_ways) (defScope s_law_ways) .none kV_law_ways dc_law_ways pm_law_ways an_law_ways cd_law_ways ct_law_ways), sl_law_ways⟩)
    (q_o_law_ways : PySem.W.codeIn K cd_law_ways "_law_ways" = true)
    (q_k_law_ways : PySem.W.keepIn K (.ref fa_law_ways) = true)
    (q_a_law_choices : PySem.W.nsIn K mainGlobals "_law_choices" = some (some (.ref fa_law_choices)))
    (q_l_law_choices : K.lookup fa_law_choices = some ⟨oc_law_choices, od_law_choices, .func (PySem.W.fnOf "_law_choices" "_law_choices" (defArgs s_law_choices) (defBody s_law_choices) (defScope s_law_choices) .none kV_law_choices dc_law_choices pm_law_choices an_law_choices cd_law_choices ct_law_choices), sl_law_choices⟩)
    (q_o_law_choices : PySem.W.codeIn K cd_law_choices "_law_choices" = true)
    (q_k_law_choices : PySem.W.keepIn K (.ref fa_law_choices) = true)
    (q_a_law_add : PySem.W.nsIn K mainGlobals "_law_add" = some (some (.ref fa_law_add)))
    (q_l_law_add : K.lookup fa_law_add = some ⟨oc_law_add, od_law_add, .func (PySem.W.fnOf "_law_add" "_law_add" (defArgs s_law_add) (defBody s_law_add) (defScope s_law_add) .none kV_law_add dc_law_add pm_law_add an_law_add cd_law_add ct_law_add), sl_law_add⟩)
    (q_o_law_add : PySem.W.codeIn K cd_law_add "_law_add" = true)
    (q_k_law_add : PySem.W.keepIn K (.ref fa_law_add) = true)
    (q_a_law_total : PySem.W.nsIn K mainGlobals "_law_total" = some (some (.ref fa_law_total)))
    (q_l_law_total : K.lookup fa_law_total = some ⟨oc_law_total, od_law_total, .func (PySem.W.fnOf "_law_total" "_law_total" (defArgs s_law_total) (defBody s_law_total) (defScope s_law_total) .none kV_law_total dc_law_total pm_law_total an_law_total cd_law_total ct_law_total), sl_law_total⟩)
    (q_o_law_total : PySem.W.codeIn K cd_law_total "_law_total" = true)
    (q_k_law_total : PySem.W.keepIn K (.ref fa_law_total) = true)
    (q_a_law_listed : PySem.W.nsIn K mainGlobals "_law_listed" = some (some (.ref fa_law_listed)))
    (q_l_law_listed : K.lookup fa_law_listed = some ⟨oc_law_listed, od_law_listed, .func (PySem.W.fnOf "_law_listed" "_law_listed" (defArgs s_law_listed) (defBody s_law_listed) (defScope s_law_listed) .none kV_law_listed dc_law_listed pm_law_listed an_law_listed cd_law_listed ct_law_listed), sl_law_listed⟩)
    (q_o_law_listed : PySem.W.codeIn K cd_law_listed "_law_listed" = true)
    (q_k_law_listed : PySem.W.keepIn K (.ref fa_law_listed) = true)
    (q_a_law_alike : PySem.W.nsIn K mainGlobals "_law_alike" = some (some (.ref fa_law_alike)))
    (q_l_law_alike : K.lookup fa_law_alike = some ⟨oc_law_alike, od_law_alike, .func (PySem.W.fnOf "_law_alike" "_law_alike" (defArgs s_law_alike) (defBody s_law_alike) (defScope s_law_alike) .none kV_law_alike dc_law_alike pm_law_alike an_law_alike cd_law_alike ct_law_alike), sl_law_alike⟩)
    (q_o_law_alike : PySem.W.codeIn K cd_law_alike "_law_alike" = true)
    (q_k_law_alike : PySem.W.keepIn K (.ref fa_law_alike) = true)
    (q_a_law : PySem.W.nsIn K mainGlobals "law" = some (some (.ref fa_law)))
    (q_l_law : K.lookup fa_law = some ⟨oc_law, od_law, .func (PySem.W.fnOf "law" "law" (defArgs s_law_k12) (defBody s_law_k12) (defScope s_law_k12) .none kV_law dc_law pm_law an_law cd_law ct_law), sl_law⟩)
    (q_o_law : PySem.W.codeIn K cd_law "law" = true)
    (q_k_law : PySem.W.keepIn K (.ref fa_law) = true)
    (q_x2 : PySem.W.nsIn K mainGlobals "NoPlace" = some (some (.ref c2)))
    (q_xk2 : PySem.W.keepIn K (.ref c2) = true)
    (q_xx2 : PySem.W.excIn K c2 [.type "ValueError", .type "Exception", .type "BaseException", .type "object"] "ValueError.__new__" = true)
    (q_xb2 : PySem.W.subIn K (.ref c2) (.type "BaseException") = some true)
    (q_xt2 : PySem.W.typeIn K (.ref c2) = some (.type "type"))
    (q_z_len : PySem.W.nsIn K mainGlobals "len" = some none)
    (q_z_isinstance : PySem.W.nsIn K mainGlobals "isinstance" = some none)
    (q_z_range : PySem.W.nsIn K mainGlobals "range" = some none)
    (q_z_list : PySem.W.nsIn K mainGlobals "list" = some none)
    (q_z_tuple : PySem.W.nsIn K mainGlobals "tuple" = some none)
    (q_z_max : PySem.W.nsIn K mainGlobals "max" = some none)
    (q_z_min : PySem.W.nsIn K mainGlobals "min" = some none)
    (q_z_int : PySem.W.nsIn K mainGlobals "int" = some none)
    (q_z_bool : PySem.W.nsIn K mainGlobals "bool" = some none)
    (q_z_str : PySem.W.nsIn K mainGlobals "str" = some none)
    (q_z_sum : PySem.W.nsIn K mainGlobals "sum" = some none)
    (q_z_sorted : PySem.W.nsIn K mainGlobals "sorted" = some none)
    (q_z_set : PySem.W.nsIn K mainGlobals "set" = some none)
    (q_z_ValueError : PySem.W.nsIn K mainGlobals "ValueError" = some none) :
    ∃ fd : FuncData, (∀ (s : Shared) (v : Value), BindsTo s fd ⟨[v], []⟩ [("script", v)]) ∧ ∀ base : Heap, K.In base → base.Ns mainGlobals mg → FnOk P w K mg base (L2.CX P w) 17 fa fd ["script"] (spLaw K f_law_k12) := by
  have e := hfa.symm.trans (PySem.W.mg_of X G q_a_law)
  cases e
  have B : Bo mg := ⟨PySem.W.mg_none_of X G q_z_len, PySem.W.mg_none_of X G q_z_isinstance, PySem.W.mg_none_of X G q_z_range, PySem.W.mg_none_of X G q_z_list, PySem.W.mg_none_of X G q_z_tuple, PySem.W.mg_none_of X G q_z_max, PySem.W.mg_none_of X G q_z_min, PySem.W.mg_none_of X G q_z_int, PySem.W.mg_none_of X G q_z_bool, PySem.W.mg_none_of X G q_z_str, PySem.W.mg_none_of X G q_z_sum, PySem.W.mg_none_of X G q_z_sorted, PySem.W.mg_none_of X G q_z_set, PySem.W.mg_none_of X G q_z_ValueError⟩
  have e2 : ErrC K mg "NoPlace" (clsOf c0 c1 c2 c3 c4 2) := ⟨PySem.W.mg_of X G q_x2, q_xk2, q_xx2, q_xb2, q_xt2⟩
  have F_counted := fun_mk (st := s_counted) q_l_counted q_o_counted q_k_counted
  have F_numbered := fun_mk (st := s_numbered) q_l_numbered q_o_numbered q_k_numbered
  have F_row_at := fun_mk (st := s_row_at) q_l_row_at q_o_row_at q_k_row_at
  have F_places_of := fun_mk (st := s_places_of) q_l_places_of q_o_places_of q_k_places_of
  have F_ends := fun_mk (st := s_ends) q_l_ends q_o_ends q_k_ends
  have F_without := fun_mk (st := s_without) q_l_without q_o_without q_k_without
  have F_renamed := fun_mk (st := s_renamed) q_l_renamed q_o_renamed q_k_renamed
  have F_joined := fun_mk (st := s_joined) q_l_joined q_o_joined q_k_joined
  have F_split := fun_mk (st := s_split) q_l_split q_o_split q_k_split
  have F_far_place := fun_mk (st := s_far_place) q_l_far_place q_o_far_place q_k_far_place
  have F_across := fun_mk (st := s_across) q_l_across q_o_across q_k_across
  have F_end_of_return := fun_mk (st := s_end_of_return) q_l_end_of_return q_o_end_of_return q_k_end_of_return
  have F_twist := fun_mk (st := s_twist) q_l_twist q_o_twist q_k_twist
  have F_add_to := fun_mk (st := s_add_to) q_l_add_to q_o_add_to q_k_add_to
  have F_of_rings := fun_mk (st := s_of_rings) q_l_of_rings q_o_of_rings q_k_of_rings
  have F_of_sheet := fun_mk (st := s_of_sheet) q_l_of_sheet q_o_of_sheet q_k_of_sheet
  have F_as_rows := fun_mk (st := s_as_rows) q_l_as_rows q_o_as_rows q_k_as_rows
  have F_total := fun_mk (st := s_total) q_l_total q_o_total q_k_total
  have F_straight := fun_mk (st := s_straight) q_l_straight q_o_straight q_k_straight
  have F_law_cell_at := fun_mk (st := s_law_cell_at) q_l_law_cell_at q_o_law_cell_at q_k_law_cell_at
  have F_law_pick := fun_mk (st := s_law_pick) q_l_law_pick q_o_law_pick q_k_law_pick
  have F_law_rows := fun_mk (st := s_law_rows) q_l_law_rows q_o_law_rows q_k_law_rows
  have F_law_numbered := fun_mk (st := s_law_numbered) q_l_law_numbered q_o_law_numbered q_k_law_numbered
  have F_law_whole := fun_mk (st := s_law_whole) q_l_law_whole q_o_law_whole q_k_law_whole
  have F_law_mate := fun_mk (st := s_law_mate) q_l_law_mate q_o_law_mate q_k_law_mate
  have F_law_twist := fun_mk (st := s_law_twist) q_l_law_twist q_o_law_twist q_k_law_twist
  have F_law_rings := fun_mk (st := s_law_rings) q_l_law_rings q_o_law_rings q_k_law_rings
  have F_law_ways := fun_mk (st := s_law_ways) q_l_law_ways q_o_law_ways q_k_law_ways
  have F_law_choices := fun_mk (st := s_law_choices) q_l_law_choices q_o_law_choices q_k_law_choices
  have F_law_add := fun_mk (st := s_law_add) q_l_law_add q_o_law_add q_k_law_add
  have F_law_total := fun_mk (st := s_law_total) q_l_law_total q_o_law_total q_k_law_total
  have F_law_listed := fun_mk (st := s_law_listed) q_l_law_listed q_o_law_listed q_k_law_listed
  have F_law_alike := fun_mk (st := s_law_alike) q_l_law_alike q_o_law_alike q_k_law_alike
  have F_law := fun_mk (st := s_law_k12) q_l_law q_o_law q_k_law
  refine ⟨PySem.W.fnOf "law" "law" (defArgs s_law_k12) (defBody s_law_k12) (defScope s_law_k12) .none kV_law dc_law pm_law an_law cd_law ct_law, fun s v => .of_eq rfl, fun base _ _ => ?_⟩
  have c_counted : Cal P w K mg base (clsOf c0 c1 c2 c3 c4) "counted" ["crossings"] 1 f_counted := cal_counted B F_counted (PySem.W.mg_of X G q_a_counted)
  have c_numbered : Cal P w K mg base (clsOf c0 c1 c2 c3 c4) "numbered" ["crossings"] 2 f_numbered := cal_numbered B c_counted F_numbered (PySem.W.mg_of X G q_a_numbered)
  have c_row_at : Cal P w K mg base (clsOf c0 c1 c2 c3 c4) "row_at" ["sheet", "at"] 1 f_row_at := cal_row_at B e2 F_row_at (PySem.W.mg_of X G q_a_row_at)
  have c_places_of : Cal P w K mg base (clsOf c0 c1 c2 c3 c4) "places_of" ["crossings", "line"] 1 f_places_of := cal_places_of B F_places_of (PySem.W.mg_of X G q_a_places_of)
  have c_ends : Cal P w K mg base (clsOf c0 c1 c2 c3 c4) "ends" ["sheet", "line"] 2 f_ends := cal_ends B e2 c_places_of F_ends (PySem.W.mg_of X G q_a_ends)
  have c_without : Cal P w K mg base (clsOf c0 c1 c2 c3 c4) "without" ["crossings", "gone"] 1 f_without := cal_without B F_without (PySem.W.mg_of X G q_a_without)
  have c_renamed : Cal P w K mg base (clsOf c0 c1 c2 c3 c4) "renamed" ["row", "old", "new"] 1 f_renamed := cal_renamed B F_renamed (PySem.W.mg_of X G q_a_renamed)
  have c_joined : Cal P w K mg base (clsOf c0 c1 c2 c3 c4) "joined" ["crossings", "rings", "pairs"] 3 f_joined := cal_joined B c_numbered c_renamed F_joined (PySem.W.mg_of X G q_a_joined)
  have c_split : Cal P w K mg base (clsOf c0 c1 c2 c3 c4) "split" ["sheet", "at", "way"] 4 f_split := cal_split B c_row_at c_joined c_without F_split (PySem.W.mg_of X G q_a_split)
  have c_far_place : Cal P w K mg base (clsOf c0 c1 c2 c3 c4) "far_place" ["sheet", "place"] 3 f_far_place := cal_far_place B c_ends F_far_place (PySem.W.mg_of X G q_a_far_place)
  have c_across : Cal P w K mg base (clsOf c0 c1 c2 c3 c4) "across" ["place"] 1 f_across := cal_across B F_across (PySem.W.mg_of X G q_a_across)
  have c_end_of_return : Cal P w K mg base (clsOf c0 c1 c2 c3 c4) "end_of_return" ["sheet", "at"] 4 f_end_of_return := cal_end_of_return B c_far_place c_across F_end_of_return (PySem.W.mg_of X G q_a_end_of_return)
  have c_twist : Cal P w K mg base (clsOf c0 c1 c2 c3 c4) "twist" ["sheet"] 5 f_twist := cal_twist B c_end_of_return F_twist (PySem.W.mg_of X G q_a_twist)
  have c_add_to : CalS P w K mg base "add_to" ["found", "other", "shift", "sign"] 1 (spAddTo K) := cal_add_to B F_add_to (PySem.W.mg_of X G q_a_add_to)
  have c_of_rings : Cal P w K mg base (clsOf c0 c1 c2 c3 c4) "of_rings" ["rings"] 2 f_of_rings := cal_of_rings B c_add_to F_of_rings (PySem.W.mg_of X G q_a_of_rings)
  have c_of_sheet : Cal P w K mg base (clsOf c0 c1 c2 c3 c4) "of_sheet" ["sheet"] 15 f_of_sheet := cal_of_sheet B c_add_to c_of_rings c_split F_of_sheet (PySem.W.mg_of X G q_a_of_sheet)
  have c_as_rows : Cal P w K mg base (clsOf c0 c1 c2 c3 c4) "as_rows" ["found"] 1 f_as_rows := cal_as_rows B F_as_rows (PySem.W.mg_of X G q_a_as_rows)
  have c_total : Cal P w K mg base (clsOf c0 c1 c2 c3 c4) "total" ["sheet"] 16 f_total := cal_total B c_as_rows c_of_sheet F_total (PySem.W.mg_of X G q_a_total)
  have c_straight : Cal P w K mg base (clsOf c0 c1 c2 c3 c4) "straight" ["sheet"] 16 f_straight := cal_straight B c_twist c_add_to c_as_rows c_of_sheet F_straight (PySem.W.mg_of X G q_a_straight)
  have c_law_cell_at : Cal P w K mg base (clsOf c0 c1 c2 c3 c4) "_law_cell_at" ["script", "k"] 1 f_law_cell_at := cal_law_cell_at B F_law_cell_at (PySem.W.mg_of X G q_a_law_cell_at)
  have c_law_pick : Cal P w K mg base (clsOf c0 c1 c2 c3 c4) "_law_pick" ["script", "k"] 2 f_law_pick := cal_law_pick B c_law_cell_at F_law_pick (PySem.W.mg_of X G q_a_law_pick)
  have c_law_rows : Cal P w K mg base (clsOf c0 c1 c2 c3 c4) "_law_rows" ["script", "start", "many", "fixed"] 3 f_law_rows := cal_law_rows B c_law_pick F_law_rows (PySem.W.mg_of X G q_a_law_rows)
  have c_law_numbered : Cal P w K mg base (clsOf c0 c1 c2 c3 c4) "_law_numbered" ["rows"] 1 f_law_numbered := cal_law_numbered B F_law_numbered (PySem.W.mg_of X G q_a_law_numbered)
  have c_law_whole : Cal P w K mg base (clsOf c0 c1 c2 c3 c4) "_law_whole" ["x"] 1 f_law_whole := cal_law_whole B F_law_whole (PySem.W.mg_of X G q_a_law_whole)
  have c_law_mate : Cal P w K mg base (clsOf c0 c1 c2 c3 c4) "_law_mate" ["rows", "place"] 1 f_law_mate := cal_law_mate B F_law_mate (PySem.W.mg_of X G q_a_law_mate)
  have c_law_twist : Cal P w K mg base (clsOf c0 c1 c2 c3 c4) "_law_twist" ["rows"] 2 f_law_twist := cal_law_twist B c_law_mate F_law_twist (PySem.W.mg_of X G q_a_law_twist)
  have c_law_rings : Cal P w K mg base (clsOf c0 c1 c2 c3 c4) "_law_rings" ["pairs"] 1 f_law_rings := cal_law_rings B F_law_rings (PySem.W.mg_of X G q_a_law_rings)
  have c_law_ways : Cal P w K mg base (clsOf c0 c1 c2 c3 c4) "_law_ways" ["many"] 1 f_law_ways := cal_law_ways B F_law_ways (PySem.W.mg_of X G q_a_law_ways)
  have c_law_choices : Cal P w K mg base (clsOf c0 c1 c2 c3 c4) "_law_choices" ["rings"] 1 f_law_choices := cal_law_choices B F_law_choices (PySem.W.mg_of X G q_a_law_choices)
  have c_law_add : CalS P w K mg base "_law_add" ["found", "power", "rings"] 2 (spLawAdd K (clsOf c0 c1 c2 c3 c4) f_law_choices) := cal_law_add B c_law_choices F_law_add (PySem.W.mg_of X G q_a_law_add)
  have c_law_total : Cal P w K mg base (clsOf c0 c1 c2 c3 c4) "_law_total" ["rows", "rings"] 3 f_law_total := cal_law_total B c_law_ways c_law_add c_law_rings F_law_total (PySem.W.mg_of X G q_a_law_total)
  have c_law_listed : Cal P w K mg base (clsOf c0 c1 c2 c3 c4) "_law_listed" ["found", "shift", "sign"] 1 f_law_listed := cal_law_listed B F_law_listed (PySem.W.mg_of X G q_a_law_listed)
  have c_law_alike : Cal P w K mg base (clsOf c0 c1 c2 c3 c4) "_law_alike" ["found", "due"] 2 f_law_alike := cal_law_alike B c_law_whole F_law_alike (PySem.W.mg_of X G q_a_law_alike)
  exact (ok_law B c_law_numbered c_law_total c_law_twist c_law_alike c_law_cell_at c_law_rows c_straight c_law_listed c_total F_law).imp (law_imp law_k12_true)
theorem walk {l : PySem.W.OpenLaw} {q : Program} {loose : List Str} {XP : (Str → Option Value) → Heap → Prop} {YP : World → Heap → Prop} {d : DefRec} {K : Params → PySem.W.Frag} (hn : l.most = some 63) (hdf : d.params.defaults = [])
    (hY : ∀ (w : World) (h : Heap), YP w h → (K w.params).In h)
    (F : ∀ (w : World) (mg : Str → Option Value) (fa : Addr) (h : Heap), (K w.params).In h → h.Ns mainGlobals mg → mg d.name = some (.ref fa) →
      ∃ fd : FuncData, (∀ (s : Shared) (u : Value), BindsTo s fd ⟨[u], []⟩ [("script", u)]) ∧ ∀ base : Heap, (K w.params).In base → base.Ns mainGlobals mg → FnOk l.prog w (K w.params) mg base (L2.CX l.prog w) 17 fa fd ["script"] (spLaw (K w.params) f_law_k12)) :
    PySem.W.WalkO q loose XP YP l.row.toRowW d [] (fun f vs => PySem.call f vs) :=
  L2.walk_of (n := 63) (k := 17) (x := "script") (CX := fun w => L2.CX l.prog w) (sp := fun w => spLaw (K w.params) f_law_k12) hn (by decide) hdf ⟨rfl, by decide, by decide⟩ hY F (fun _ _ a ns hl _ hS => ⟨a, ns, rfl, hS, hl, fun _ => rfl⟩) (fun w H s e s2 => cx_no)
end DL
open PySem PySem.W PyProof.Rows
set_option maxRecDepth 100000 in
set_option maxHeartbeats 0 in
theorem PySem.Challenge.cw_cordbook_k12_total_and_straight_holds : PySem.Challenge.rw_cordbook_k12_total_and_straight.Holds := by
  w_on; o_law; k_head; (case hw => w_witness2)
  k_fill
  refine DL.walk (l := PySem.Challenge.rw_cordbook_k12_total_and_straight) rfl rfl (fun w h Y => PySem.W.kIn_of Y) ?F
  case F =>
    intro w mg fa h KX G hmg
    refine' DL.all_mk KX G hmg ?q_a_counted ?q_l_counted ?q_o_counted ?q_k_counted ?q_a_numbered ?q_l_numbered ?q_o_numbered ?q_k_numbered ?q_a_row_at ?q_l_row_at ?q_o_row_at ?q_k_row_at ?q_a_places_of ?q_l_places_of ?q_o_places_of ?q_k_places_of ?q_a_ends ?q_l_ends ?q_o_ends ?q_k_ends ?q_a_without ?q_l_without ?q_o_without ?q_k_without ?q_a_renamed ?q_l_renamed ?q_o_renamed ?q_k_renamed ?q_a_joined ?q_l_joined ?q_o_joined ?q_k_joined ?q_a_split ?q_l_split ?q_o_split ?q_k_split ?q_a_far_place ?q_l_far_place ?q_o_far_place ?q_k_far_place ?q_a_across ?q_l_across ?q_o_across ?q_k_across ?q_a_end_of_return ?q_l_end_of_return ?q_o_end_of_return ?q_k_end_of_return ?q_a_twist ?q_l_twist ?q_o_twist ?q_k_twist ?q_a_add_to ?q_l_add_to ?q_o_add_to ?q_k_add_to ?q_a_of_rings ?q_l_of_rings ?q_o_of_rings ?q_k_of_rings ?q_a_of_sheet ?q_l_of_sheet ?q_o_of_sheet ?q_k_of_sheet ?q_a_as_rows ?q_l_as_rows ?q_o_as_rows ?q_k_as_rows ?q_a_total ?q_l_total ?q_o_total ?q_k_total ?q_a_straight ?q_l_straight ?q_o_straight ?q_k_straight ?q_a_law_cell_at ?q_l_law_cell_at ?q_o_law_cell_at ?q_k_law_cell_at ?q_a_law_pick ?q_l_law_pick ?q_o_law_pick ?q_k_law_pick ?q_a_law_rows ?q_l_law_rows ?q_o_law_rows ?q_k_law_rows ?q_a_law_numbered ?q_l_law_numbered ?q_o_law_numbered ?q_k_law_numbered ?q_a_law_whole ?q_l_law_whole ?q_o_law_whole ?q_k_law_whole ?q_a_law_mate ?q_l_law_mate ?q_o_law_mate ?q_k_law_mate ?q_a_law_twist ?q_l_law_twist ?q_o_law_twist ?q_k_law_twist ?q_a_law_rings ?q_l_law_rings ?q_o_law_rings ?q_k_law_rings ?q_a_law_ways ?q_l_law_ways ?q_o_law_ways ?q_k_law_ways ?q_a_law_choices ?q_l_law_choices ?q_o_law_choices ?q_k_law_choices ?q_a_law_add ?q_l_law_add ?q_o_law_add ?q_k_law_add ?q_a_law_total ?q_l_law_total ?q_o_law_total ?q_k_law_total ?q_a_law_listed ?q_l_law_listed ?q_o_law_listed ?q_k_law_listed ?q_a_law_alike ?q_l_law_alike ?q_o_law_alike ?q_k_law_alike ?q_a_law ?q_l_law ?q_o_law ?q_k_law ?q_x2 ?q_xk2 ?q_xx2 ?q_xb2 ?q_xt2 ?q_z_len ?q_z_isinstance ?q_z_range ?q_z_list ?q_z_tuple ?q_z_max ?q_z_min ?q_z_int ?q_z_bool ?q_z_str ?q_z_sum ?q_z_sorted ?q_z_set ?q_z_ValueError
    (case q_a_counted => k_is)
    (case q_l_counted => k_is)
    (case q_o_counted => k_is)
    (case q_k_counted => k_is)
    (case q_a_numbered => k_is)
    (case q_l_numbered => k_is)
    (case q_o_numbered => k_is)
    (case q_k_numbered => k_is)
    (case q_a_row_at => k_is)
    (case q_l_row_at => k_is)
    (case q_o_row_at => k_is)
    (case q_k_row_at => k_is)
    (case q_a_places_of => k_is)
    (case q_l_places_of => k_is)
    (case q_o_places_of => k_is)
    (case q_k_places_of => k_is)
    (case q_a_ends => k_is)
    (case q_l_ends => k_is)
    (case q_o_ends => k_is)
    (case q_k_ends => k_is)
    (case q_a_without => k_is)
    (case q_l_without => k_is)
    (case q_o_without => k_is)
    (case q_k_without => k_is)
    (case q_a_renamed => k_is)
    (case q_l_renamed => k_is)
    (case q_o_renamed => k_is)
    (case q_k_renamed => k_is)
    (case q_a_joined => k_is)
    (case q_l_joined => k_is)
    (case q_o_joined => k_is)
    (case q_k_joined => k_is)
    (case q_a_split => k_is)
    (case q_l_split => k_is)
    (case q_o_split => k_is)
    (case q_k_split => k_is)
    (case q_a_far_place => k_is)
    (case q_l_far_place => k_is)
    (case q_o_far_place => k_is)
    (case q_k_far_place => k_is)
    (case q_a_across => k_is)
    (case q_l_across => k_is)
    (case q_o_across => k_is)
    (case q_k_across => k_is)
    (case q_a_end_of_return => k_is)
    (case q_l_end_of_return => k_is)
    (case q_o_end_of_return => k_is)
    (case q_k_end_of_return => k_is)
    (case q_a_twist => k_is)
    (case q_l_twist => k_is)
    (case q_o_twist => k_is)
    (case q_k_twist => k_is)
    (case q_a_add_to => k_is)
    (case q_l_add_to => k_is)
    (case q_o_add_to => k_is)
    (case q_k_add_to => k_is)
    (case q_a_of_rings => k_is)
    (case q_l_of_rings => k_is)
    (case q_o_of_rings => k_is)
    (case q_k_of_rings => k_is)
    (case q_a_of_sheet => k_is)
    (case q_l_of_sheet => k_is)
    (case q_o_of_sheet => k_is)
    (case q_k_of_sheet => k_is)
    (case q_a_as_rows => k_is)
    (case q_l_as_rows => k_is)
    (case q_o_as_rows => k_is)
    (case q_k_as_rows => k_is)
    (case q_a_total => k_is)
    (case q_l_total => k_is)
    (case q_o_total => k_is)
    (case q_k_total => k_is)
    (case q_a_straight => k_is)
    (case q_l_straight => k_is)
    (case q_o_straight => k_is)
    (case q_k_straight => k_is)
    (case q_a_law_cell_at => k_is)
    (case q_l_law_cell_at => k_is)
    (case q_o_law_cell_at => k_is)
    (case q_k_law_cell_at => k_is)
    (case q_a_law_pick => k_is)
    (case q_l_law_pick => k_is)
    (case q_o_law_pick => k_is)
    (case q_k_law_pick => k_is)
    (case q_a_law_rows => k_is)
    (case q_l_law_rows => k_is)
    (case q_o_law_rows => k_is)
    (case q_k_law_rows => k_is)
    (case q_a_law_numbered => k_is)
    (case q_l_law_numbered => k_is)
    (case q_o_law_numbered => k_is)
    (case q_k_law_numbered => k_is)
    (case q_a_law_whole => k_is)
    (case q_l_law_whole => k_is)
    (case q_o_law_whole => k_is)
    (case q_k_law_whole => k_is)
    (case q_a_law_mate => k_is)
    (case q_l_law_mate => k_is)
    (case q_o_law_mate => k_is)
    (case q_k_law_mate => k_is)
    (case q_a_law_twist => k_is)
    (case q_l_law_twist => k_is)
    (case q_o_law_twist => k_is)
    (case q_k_law_twist => k_is)
    (case q_a_law_rings => k_is)
    (case q_l_law_rings => k_is)
    (case q_o_law_rings => k_is)
    (case q_k_law_rings => k_is)
    (case q_a_law_ways => k_is)
    (case q_l_law_ways => k_is)
    (case q_o_law_ways => k_is)
    (case q_k_law_ways => k_is)
    (case q_a_law_choices => k_is)
    (case q_l_law_choices => k_is)
    (case q_o_law_choices => k_is)
    (case q_k_law_choices => k_is)
    (case q_a_law_add => k_is)
    (case q_l_law_add => k_is)
    (case q_o_law_add => k_is)
    (case q_k_law_add => k_is)
    (case q_a_law_total => k_is)
    (case q_l_law_total => k_is)
    (case q_o_law_total => k_is)
    (case q_k_law_total => k_is)
    (case q_a_law_listed => k_is)
    (case q_l_law_listed => k_is)
    (case q_o_law_listed => k_is)
    (case q_k_law_listed => k_is)
    (case q_a_law_alike => k_is)
    (case q_l_law_alike => k_is)
    (case q_o_law_alike => k_is)
    (case q_k_law_alike => k_is)
    (case q_a_law => k_is)
    (case q_l_law => k_is)
    (case q_o_law => k_is)
    (case q_k_law => k_is)
    (case q_x2 => k_is)
    (case q_xk2 => k_is)
    (case q_xx2 => k_exc)
    (case q_xb2 => k_is)
    (case q_xt2 => k_is)
    (case q_z_len => k_is)
    (case q_z_isinstance => k_is)
    (case q_z_range => k_is)
    (case q_z_list => k_is)
    (case q_z_tuple => k_is)
    (case q_z_max => k_is)
    (case q_z_min => k_is)
    (case q_z_int => k_is)
    (case q_z_bool => k_is)
    (case q_z_str => k_is)
    (case q_z_sum => k_is)
    (case q_z_sorted => k_is)
    (case q_z_set => k_is)
    (case q_z_ValueError => k_is)
    all_goals exact fa
