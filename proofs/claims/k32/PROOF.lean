import PyProof.Rows.All
import Wide.All
import OpenK.AllK
import Wide.FinOn
import KE.KStateDown
import Lean
import PyProof.P3Statements
import PyProof.Lay0
import PyProof.StrBlockL
import KE.IntText
import HandS.ForMost
import HandS.ForExc
import HandS.Walk
import HandS.Zip
import HandS.Deep
import HandS.TupAny
import HandS.TupMul
import HandS.HeadHook2
import HandS.HotCalls
import HandS.Text
import PyProof.StrOps2
import PyProof.Rows.StrRev
import HandS.Style
import HandS.IsInst
import HandS.More
import HandS.HeadHook3
import KE.GoesNew
import KE.GoesMore
import KE.SortData
import HandS.SortInts
import KE.DataMinMax
import KE.KDictZip
import HandS.SetFor
import HandS.Strs
import HandS.TupSets
import KE.DataFind
import PyProof.SeqIndex
import HandS.Dict
import HandS.Sort
import KE.GoesComp
import HandS.CallRecv
import HandS.Conv
import HandS.ExcIs
import HandS.ExcBuiltin
import HandS.WordsExc
import HandS.Defaults
import HandS.Head0
import HandS.ExcOwn
import HandS.Words
import HandS.Head1
import HandS.Head2
import HandS.HeadEnd
import PySem.Challenge.RW_signcatches_k32_whole_kept
set_option Elab.async false
set_option linter.all false
set_option maxRecDepth 100000
set_option maxHeartbeats 0
section
/-! Z1: a small language over PyData, its meaning as plain functions. -/
namespace Z
open PySem

inductive Res (α : Type) where
  | ok (a : α)
  | exc (c : Nat)
  | stuck
namespace Res
def bind {α β : Type} : Res α → (α → Res β) → Res β
  | ok a, f => f a
  | exc c, _ => exc c
  | stuck, _ => stuck
instance : Monad Res where
  pure := ok
  bind := bind
@[simp] theorem ok_bind {α β : Type} (a : α) (f : α → Res β) : (Res.ok a >>= f) = f a := rfl
@[simp] theorem exc_bind {α β : Type} (c : Nat) (f : α → Res β) : ((Res.exc c : Res α) >>= f) = Res.exc c := rfl
@[simp] theorem stuck_bind {α β : Type} (f : α → Res β) : ((Res.stuck : Res α) >>= f) = Res.stuck := rfl
@[simp] theorem pure_ok {α : Type} (a : α) : (pure a : Res α) = Res.ok a := rfl
end Res
/-- what may not be raised here -/
def calm {α : Type} : Res α → Res α
  | .exc _ => .stuck
  | r => r
@[simp] theorem calm_ok {α : Type} (a : α) : calm (Res.ok a) = Res.ok a := rfl
@[simp] theorem calm_exc {α : Type} (c : Nat) : calm (Res.exc c : Res α) = Res.stuck := rfl
@[simp] theorem calm_stuck {α : Type} : calm (Res.stuck : Res α) = Res.stuck := rfl

abbrev Ev := List (Option PyData)
def getV (env : Ev) (i : Nat) : Res PyData := match env[i]? with
  | some (some d) => .ok d
  | _ => .stuck
def setV (env : Ev) (i : Nat) (d : PyData) : Ev := env.set i (some d)

inductive Bop where
  | add | sub | mul | div | mod
  deriving DecidableEq
inductive Cop where
  | eq | ne | lt | le | gt | ge | isin | notin | is | isnot
  deriving DecidableEq
inductive Blt where
  | len | abs | max | min | int | list | tuple | sum | all | sorted | str | sset | minp
  deriving DecidableEq
inductive Ty where
  | int | bool | str | tuple | list
  deriving DecidableEq
inductive Mth where
  | count | index | join | split | sset | inr | stp2 | cntS | ssp
  deriving DecidableEq
/-- what a loop binds: a name, or names in a tuple -/
inductive Tg where
  | nm (i : Nat)
  | tp (is : List Nat)
  deriving DecidableEq
/-- a written constant -/
inductive Cn where
  | non | bl (b : Bool) | int (i : Int) | str (x : Str)
  deriving DecidableEq
def Cn.d : Cn → PyData
  | .non => .none
  | .bl b => .bool b
  | .int i => .int i
  | .str x => .str x
/-- a constant of the module: a plain one, a tuple of texts -/
inductive Gc where
  | cn (c : Cn)
  | ws (xs : List Str)
  deriving DecidableEq
def Gc.d : Gc → PyData
  | .cn c => c.d
  | .ws xs => .tuple (xs.map .str)
mutual
inductive E where
  | var (i : Nat)
  | cn (c : Cn)
  | gl (x : Str) (c : Gc)
  | bin (o : Bop) (a b : E)
  | neg (a : E)
  | inv (a : E)
  | an (xs : Es)
  | or (xs : Es)
  | cmp (o : Cop) (a b : E)
  | chn (o p : Cop) (a b c : E)
  | ch3 (o p q : Cop) (a b c d : E)
  | ite (c a b : E)
  | tup (xs : Es)
  | lst (xs : Es)
  | ix (a i : E)
  | sl (a : E) (lo hi : Eo)
  | rv (a : E)
  | call (f : Nat) (xs : Es)
  | sel (fs : List Nat) (i : E) (xs : Es)
  | bl (b : Blt) (xs : Es)
  | isi (a : E) (t : Ty)
  | mt (m : Mth) (o : E) (xs : Es)
  | lc (t : Tg) (it : It) (c : Eo) (e : E)
  | lx (t : Tg) (it : It) (c : Eo) (e : E)
  | lit (it : It)
  | dg (ks : List Str) (vs : Es) (k : E)
  | kin (x : Str) (kvs : List (Str × Cn)) (a : E)
  | kget (x : Str) (kvs : List (Str × Cn)) (a : E)
  | fld (c i : Nat) (a : E)
  | mc (c f : Nat) (o : E) (xs : Es)
inductive Es where
  | nil
  | cons (a : E) (r : Es)
inductive Eo where
  | non
  | som (a : E)
inductive It where
  | ov (a : E)
  | rg (xs : Es)
  | en (a : E)
  | zp (a b : E)
  | os (a : E)
end
mutual
inductive S where
  | set (i : Nat) (m : Bool) (e : E)
  | own (i : Nat) (e : E)
  | fls (i : Nat) (e : E)
  | ofl (i : Nat) (e : E)
  | unp (is : List Nat) (e : E)
  | par (i j : Nat) (a b : E)
  | app (i : Nat) (m : Bool) (e : E)
  | ext (i : Nat) (e : E)
  | put (i : Nat) (m : Bool) (k e : E)
  | ret (e : E)
  | retn
  | ifs (c : E) (a b : Ss)
  | fr (t : Tg) (it : It) (b : Ss)
  | wh (c : E) (b : Ss)
  | rs (c : Nat) (msg : Str)
  | tr (i k : Nat) (b : Ss) (f : Nat)
  | ex (e : E)
  | ech (i j : Nat) (xs : Es) (c : Cn)
  | skip
inductive Ss where
  | nil
  | cons (a : S) (r : Ss)
end

/-! ### operations -/
def small64 (i : Int) : Bool := decide (-(2 ^ 64) < i ∧ i < 2 ^ 64)
def fitsL (n : Nat) : Bool := decide (n ≤ sizeLine)
def guardR (b : Bool) (d : PyData) : Res PyData := if b then .ok d else .stuck
def repL (k : Int) (xs : List PyData) : List PyData := (List.replicate k.toNat xs).flatten
def binD : Bop → PyData → PyData → Res PyData
  | .add, .int i, .int j => .ok (.int (i + j))
  | .add, .str x, .str y => guardR (fitsL (x.length + y.length)) (.str (x ++ y))
  | .add, .list xs, .list ys => guardR (fitsL (xs.length + ys.length)) (.list (xs ++ ys))
  | .add, .tuple xs, .tuple ys => guardR (fitsL (xs.length + ys.length)) (.tuple (xs ++ ys))
  | .sub, .int i, .int j => .ok (.int (i - j))
  | .mul, .int i, .int j => guardR (small64 i || small64 j) (.int (i * j))
  | .mul, .list xs, .int k => guardR (decide (-1000000 ≤ k ∧ k ≤ 1000000) && fitsL (xs.length * k.toNat)) (.list (repL k xs))
  | .mul, .str x, .int k => guardR (decide (k = 2) && decide (1 ≤ x.length ∧ x.length ≤ 1000)) (.str (x ++ x))
  | .mul, .tuple xs, .int k => guardR (decide (k ≤ 1000) && decide (-1000000 ≤ k) && decide (xs.length ≤ 1000)) (.tuple (repL k xs))
  | .div, .int i, .int j => guardR (decide (0 < j ∧ j < 1073741824)) (.int (i / j))
  | .mod, .int i, .int j => guardR (decide (0 < j)) (.int (i % j))
  | _, _, _ => .stuck
def negD : PyData → Res PyData
  | .int i => .ok (.int (-i))
  | _ => .stuck
def boolD : PyData → Res Bool
  | .bool b => .ok b
  | _ => .stuck
/-- data that may be compared -/
def layD (d : PyData) : Bool := d.canLay0
def eqOk (a b : PyData) : Bool := a.canLay0 && b.canLay0 && decide (min a.depth b.depth ≤ 64)
def inOk (xs : List PyData) (d : PyData) : Bool := PyData.canLayAll0 xs && d.canLay0 && decide (d.depth ≤ 64)
/-- a text in a text -/
def inTxt (x z : Str) : Bool := !(Builtin.Str.occurrences z x 0 z.length 1).isEmpty
def cmpD : Cop → PyData → PyData → Res PyData
  | .eq, a, b => guardR (eqOk a b) (.bool (PyData.eqv a b))
  | .ne, a, b => guardR (eqOk a b) (.bool (!PyData.eqv a b))
  | .lt, .int i, .int j => .ok (.bool (decide (i < j)))
  | .le, .int i, .int j => .ok (.bool (decide (i ≤ j)))
  | .gt, .int i, .int j => .ok (.bool (decide (j < i)))
  | .ge, .int i, .int j => .ok (.bool (decide (j ≤ i)))
  | .isin, a, .list xs => guardR (inOk xs a) (.bool (xs.any fun z => PyData.eqv z a))
  | .isin, a, .tuple xs => guardR (inOk xs a) (.bool (xs.any fun z => PyData.eqv z a))
  | .notin, a, .list xs => guardR (inOk xs a) (.bool (!xs.any fun z => PyData.eqv z a))
  | .notin, a, .tuple xs => guardR (inOk xs a) (.bool (!xs.any fun z => PyData.eqv z a))
  | .isin, .str x, .str z => (match x.cps.toList with
    | [c] => .ok (.bool (decide (c ∈ z.cps.toList)))
    | _ => .ok (.bool (inTxt x z)))
  | .notin, .str x, .str z => (match x.cps.toList with
    | [c] => .ok (.bool (!decide (c ∈ z.cps.toList)))
    | _ => .ok (.bool (!inTxt x z)))
  | .is, a, .none => .ok (.bool (match a with | .none => true | _ => false))
  | .is, .int _, .bool _ => .ok (.bool false)
  | .is, .str _, .bool _ => .ok (.bool false)
  | .is, .none, .bool _ => .ok (.bool false)
  | .is, .bool a, .bool b => .ok (.bool (decide (a = b)))
  | .isnot, a, .none => .ok (.bool (match a with | .none => false | _ => true))
  | _, _, _ => .stuck
def ixN (n : Nat) (i : Int) : Option Nat := if 0 ≤ i then (if i < n then some i.toNat else none) else if -(n : Int) ≤ i then some (i + n).toNat else none
def atI {α : Type} (xs : List α) (i : Int) : Option α := (ixN xs.length i).bind fun j => xs[j]?
def someR {α : Type} : Option α → Res α
  | some a => .ok a
  | none => .stuck
def ixD : PyData → PyData → Res PyData
  | .list xs, .int i => someR (atI xs i)
  | .tuple xs, .int i => someR (atI xs i)
  | .str x, .int i => if x.length ≤ sizeLine then (match atI x.cps.toList i with | some c => .ok (.str ⟨#[c]⟩) | none => .stuck) else .stuck
  | _, _ => .stuck
def sIx (n d : Nat) : Option Int → Nat
  | none => d
  | some v => if v < 0 then (v + (n : Int)).toNat else min v.toNat n
def cutL {α : Type} (xs : List α) (lo hi : Option Int) : List α := (xs.drop (sIx xs.length 0 lo)).take (sIx xs.length xs.length hi - sIx xs.length 0 lo)
def partD : Option PyData → Res (Option Int)
  | none => .ok none
  | some (.int i) => .ok (some i)
  | _ => .stuck
def slD (a : PyData) (lo hi : Option Int) : Res PyData := match a with
  | .list xs => .ok (.list (cutL xs lo hi))
  | .tuple xs => .ok (.tuple (cutL xs lo hi))
  | .str x => guardR (decide (x.length ≤ sizeLine)) (.str ⟨(cutL x.cps.toList lo hi).toArray⟩)
  | _ => .stuck
def rvD : PyData → Res PyData
  | .list xs => .ok (.list xs.reverse)
  | .tuple xs => .ok (.tuple xs.reverse)
  | .str x => guardR (decide (x.length ≤ 1000)) (.str ⟨x.cps.toList.reverse.toArray⟩)
  | _ => .stuck
/-- all ints, all bools -/
def intsOf : List PyData → Option (List Int)
  | [] => some []
  | .int i :: r => (intsOf r).map (i :: ·)
  | _ :: _ => none
def boolsOf : List PyData → Option (List Bool)
  | [] => some []
  | .bool b :: r => (boolsOf r).map (b :: ·)
  | _ :: _ => none
def strsOf : List PyData → Option (List Str)
  | [] => some []
  | .str x :: r => (strsOf r).map (x :: ·)
  | _ :: _ => none
/-- the signs of a text -/
def sgnL (x : Str) : List PyData := x.cps.toList.map fun c => .str ⟨#[c]⟩
def seqOf : PyData → Option (List PyData)
  | .list xs => some xs
  | .tuple xs => some xs
  | _ => none
def insI (x : Int) : List Int → List Int
  | [] => [x]
  | y :: r => if x ≤ y then x :: y :: r else y :: insI x r
def sortI : List Int → List Int
  | [] => []
  | x :: r => insI x (sortI r)
def dedupI : List Int → List Int
  | [] => []
  | x :: r => if x ∈ r then dedupI r else x :: dedupI r
def maxI : List Int → Int
  | [] => 0
  | x :: r => r.foldl (fun a y => if a < y then y else a) x
def minI : List Int → Int
  | [] => 0
  | x :: r => r.foldl (fun a y => if y < a then y else a) x
def prsOf : List PyData → Option (List (Int × Int))
  | [] => some []
  | .tuple [.int i, .int j] :: r => (prsOf r).map ((i, j) :: ·)
  | _ :: _ => none
def lexB (p q : Int × Int) : Bool := decide (p.1 < q.1) || (decide (p.1 = q.1) && decide (p.2 < q.2))
def minP (p : Int × Int) (r : List (Int × Int)) : Int × Int := r.foldl (fun a y => if lexB y a then y else a) p
def ePr (p : Int × Int) : PyData := .tuple [.int p.1, .int p.2]
def bltD : Blt → List PyData → Res PyData
  | .len, [.list xs] => .ok (.int xs.length)
  | .len, [.tuple xs] => .ok (.int xs.length)
  | .len, [.str x] => guardR (decide (x.length ≤ sizeLine)) (.int x.length)
  | .abs, [.int i] => .ok (.int (if i < 0 then -i else i))
  | .max, [.int i, .int j] => .ok (.int (if j > i then j else i))
  | .min, [.int i, .int j] => .ok (.int (if j < i then j else i))
  | .max, [a] => (match (seqOf a).bind intsOf with
    | some (x :: r) => .ok (.int (maxI (x :: r)))
    | _ => .stuck)
  | .min, [a] => (match (seqOf a).bind intsOf with
    | some (x :: r) => .ok (.int (minI (x :: r)))
    | _ => .stuck)
  | .int, [.int i] => .ok (.int i)
  | .int, [.bool b] => .ok (.int (if b then 1 else 0))
  | .int, [.str x] => (match PySem.intText? x with
    | some n => guardR (decide (x.length ≤ 640)) (.int n)
    | none => .stuck)
  | .str, [.int i] => guardR (decide (i.natAbs.log2 < 1920)) (.str (toString i : String))
  | .list, [.list xs] => .ok (.list xs)
  | .list, [.tuple xs] => .ok (.list xs)
  | .tuple, [.list xs] => .ok (.tuple xs)
  | .tuple, [.tuple xs] => .ok (.tuple xs)
  | .sum, [.list xs] => (match intsOf xs with
    | some ns => .ok (.int ns.sum)
    | none => .stuck)
  | .all, [.list xs] => (match boolsOf xs with
    | some bs => .ok (.bool (bs.all id))
    | none => .stuck)
  | .sorted, [.list xs] => (match intsOf xs with
    | some ns => .ok (.list ((sortI ns).map .int))
    | none => .stuck)
  | .sorted, [.tuple xs] => (match intsOf xs with
    | some ns => guardR (decide (ns.length < 64)) (.list ((sortI ns).map .int))
    | none => .stuck)
  | .sset, [.list xs] => (match intsOf xs with
    | some ns => guardR (decide (ns.length ≤ 1000) && decide ((dedupI ns).length < 64)) (.list ((sortI (dedupI ns)).map .int))
    | none => .stuck)
  | .minp, [.list xs] => (match prsOf xs with
    | some (p :: r) => .ok (ePr (minP p r))
    | _ => .stuck)
  | _, _ => .stuck
def isiD : PyData → Ty → Bool
  | .int _, .int => true
  | .bool _, .int => true
  | .bool _, .bool => true
  | .str _, .str => true
  | .tuple _, .tuple => true
  | .list _, .list => true
  | _, _ => false
def idxOf (d : PyData) : List PyData → Option Nat
  | [] => none
  | x :: r => if PyData.eqv x d then some 0 else (idxOf d r).map (· + 1)
/-- every other of eight -/
def alt8 (k : Int) : List PyData → Res PyData
  | [a, b, c, d, e, f, g, h] => if k = 0 then .ok (.list [a, c, e, g]) else if k = 1 then .ok (.list [b, d, f, h]) else .stuck
  | _ => .stuck
/-- pairs of a set that rise -/
def rsP (ps : List (Int × Int)) : Bool := decide (ps.length < 64) && ps.all (fun p => decide (-400 ≤ p.2 ∧ p.2 ≤ 400)) && decide (ps.Pairwise fun p q => p.1 < q.1)
def mtD : Mth → PyData → List PyData → Res PyData
  | .inr, .int i, [.int n] => .ok (.bool (decide (0 ≤ i ∧ i < n)))
  | .stp2, .list xs, [.int k] => alt8 k xs
  | .cntS, .str x, [.str y] => .ok (.int (Txt.count x y))
  | .sset, d, [] => bltD .sset [d]
  | .ssp, .list xs, [] => (match prsOf xs with
    | some ps => guardR (rsP ps) (.list xs)
    | none => .stuck)
  | .join, .str x, [.list ds] => (match strsOf ds with
    | some ys => guardR (decide ((ys.map (·.length)).sum + ys.length * x.length ≤ 16777216)) (.str (Txt.join x ys))
    | none => .stuck)
  | .split, .str x, [.str y] => guardR (!(y.length == 0) && decide (x.length + 2 ≤ sizeLine)) (.list ((Txt.split x y).map .str))
  | .count, .tuple xs, [d] => guardR (inOk xs d) (.int (xs.countP fun z => PyData.eqv z d))
  | .index, .tuple xs, [d] => if inOk xs d then (match idxOf d xs with | some j => .ok (.int j) | none => .stuck) else .stuck
  | .count, .list xs, [d] => guardR (inOk xs d) (.int (xs.countP fun z => PyData.eqv z d))
  | .index, .list xs, [d] => if inOk xs d then (match idxOf d xs with | some j => .ok (.int j) | none => .stuck) else .stuck
  | _, _, _ => .stuck
/-- whose method it is -/
def recv : Mth → PyData → Res Unit
  | .sset, _ => .ok ()
  | .ssp, _ => .ok ()
  | .count, .list _ => .ok ()
  | .count, .tuple _ => .ok ()
  | .index, .tuple _ => .ok ()
  | .index, .list _ => .ok ()
  | .join, .str _ => .ok ()
  | .split, .str _ => .ok ()
  | .inr, .int _ => .ok ()
  | .stp2, .list _ => .ok ()
  | .cntS, .str _ => .ok ()
  | _, _ => .stuck
/-! ### loops -/
def setAll (env : Ev) : List Nat → List PyData → Option Ev
  | [], [] => some env
  | i :: is, d :: ds => setAll (setV env i d) is ds
  | _, _ => none
def bindT (env : Ev) (t : Tg) (d : PyData) : Res Ev := match t, d with
  | .nm i, d => .ok (setV env i d)
  | .tp is, .tuple ds => someR (setAll env is ds)
  | _, _ => .stuck
def rangeL (lo : Int) (n : Nat) : List PyData := (List.range n).map fun k => .int (lo + (k : Nat))
def okI (i : Int) : Bool := decide (-16777216 ≤ i ∧ i ≤ 16777216)
def rgD : List PyData → Res (List PyData)
  | [.int n] => if okI n then .ok (rangeL 0 n.toNat) else .stuck
  | [.int a, .int b] => if okI a && okI b then .ok (rangeL a (b - a).toNat) else .stuck
  | [.int a, .int b, .int c] => if okI a && okI b && decide (0 < c ∧ c ≤ 16777216) then .ok ((List.range (if a < b then ((b - a - 1) / c + 1).toNat else 0)).map fun k => .int (a + (k : Nat) * c)) else if okI a && okI b && decide (c = -1) then .ok ((List.range (a - b).toNat).map fun k => .int (a + (k : Nat) * c)) else .stuck
  | _ => .stuck
def enumL (k : Nat) : List PyData → List PyData
  | [] => []
  | d :: r => .tuple [.int (k : Nat), d] :: enumL (k + 1) r
def zipL : List PyData → List PyData → List PyData
  | a :: r, b :: q => .tuple [a, b] :: zipL r q
  | _, _ => []
def consO : Option PyData → List PyData → List PyData
  | some x, ds => x :: ds
  | none, ds => ds
@[simp] theorem consO_some (x : PyData) (ds : List PyData) : consO (some x) ds = x :: ds := rfl
@[simp] theorem consO_none (ds : List PyData) : consO none ds = ds := rfl
/-- [e for .. if ..] -/
def lcR (f : PyData → Res (Option PyData)) : List PyData → Res (List PyData)
  | [] => .ok []
  | d :: r => f d >>= fun o => lcR f r >>= fun ds => .ok (consO o ds)
/-- a table of the module -/
def kLook (z : Str) : List (Str × Cn) → Option Cn
  | [] => none
  | (k, c) :: r => if k = z then some c else kLook z r
def kinD (kvs : List (Str × Cn)) : PyData → Res PyData
  | .str z => .ok (.bool (kLook z kvs).isSome)
  | _ => .stuck
def kgetD (kvs : List (Str × Cn)) : PyData → Res PyData
  | .str z => (match kLook z kvs with
    | some c => .ok c.d
    | none => .stuck)
  | _ => .stuck
/-! ### objects, as what their fields hold -/
def cname : Nat → Str
  | 0 => "Catcher"
  | _ => "Watch"
def cfs : Nat → List Str
  | 0 => ["sign", "off", "ahead", "behind", "track", "whole"]
  | _ => ["signs", "track", "past", "later"]
abbrev obD (c : Nat) (ds : List PyData) : PyData := .dict [(.int c, .tuple ds)]
/-- the fields of an object of the class c -/
def obF (c : Nat) : PyData → Res (List PyData)
  | .dict [(.int k, .tuple ds)] => if k = (c : Int) then .ok ds else .stuck
  | _ => .stuck
@[simp] theorem obF_ob (c : Nat) (ds : List PyData) : obF c (obD c ds) = .ok ds := if_pos rfl
def lookS (x : Str) : List Str → List PyData → Res PyData
  | k :: ks, d :: ds => if x = k then .ok d else lookS x ks ds
  | _, _ => .stuck

mutual
def ev (C : Nat → List PyData → Res PyData) (env : Ev) : E → Res PyData
  | .var i => getV env i
  | .cn c => .ok c.d
  | .gl _ c => .ok c.d
  | .bin o a b => ev C env a >>= fun x => ev C env b >>= fun y => binD o x y
  | .neg a => ev C env a >>= fun x => negD x
  | .inv a => ev C env a >>= fun x => boolD x >>= fun k => .ok (.bool (!k))
  | .an xs => evan C env xs
  | .or xs => evor C env xs
  | .cmp o a b => ev C env a >>= fun x => ev C env b >>= fun y => cmpD o x y
  | .chn o p a b c => ev C env a >>= fun x => ev C env b >>= fun y => cmpD o x y >>= fun r => boolD r >>= fun k =>
      if k then ev C env c >>= fun z => cmpD p y z else .ok (.bool false)
  | .ch3 o p q a b c d => ev C env a >>= fun x => ev C env b >>= fun y => cmpD o x y >>= fun r => boolD r >>= fun k =>
      if k then ev C env c >>= fun z => cmpD p y z >>= fun r => boolD r >>= fun k => if k then ev C env d >>= fun w => cmpD q z w else .ok (.bool false) else .ok (.bool false)
  | .ite c a b => ev C env c >>= fun x => boolD x >>= fun k => if k then ev C env a else ev C env b
  | .tup xs => evs C env xs >>= fun ds => guardR (fitsL ds.length) (.tuple ds)
  | .lst xs => evs C env xs >>= fun ds => guardR (fitsL ds.length) (.list ds)
  | .ix a i => ev C env a >>= fun x => ev C env i >>= fun y => ixD x y
  | .sl a lo hi => ev C env a >>= fun x => evo C env lo >>= fun l => partD l >>= fun l => evo C env hi >>= fun h => partD h >>= fun h => slD x l h
  | .rv a => ev C env a >>= fun x => rvD x
  | .call f xs => evs C env xs >>= fun ds => C f ds
  | .sel fs i xs => ev C env i >>= fun k => (match k with | .int j => someR (atI fs j) | _ => .stuck) >>= fun f => evs C env xs >>= fun ds => C f ds
  | .bl b xs => evs C env xs >>= fun ds => bltD b ds
  | .isi a t => ev C env a >>= fun x => .ok (.bool (isiD x t))
  | .mt m o xs => ev C env o >>= fun x => recv m x >>= fun _ => evs C env xs >>= fun ds => mtD m x ds
  | .lc t it c e => evi C env it >>= fun ds => lcR (fun d => calm (bindT env t d >>= fun env' => evc C env' c >>= fun k => if k then ev C env' e >>= fun x => .ok (some x) else .ok none)) ds >>= fun xs =>
      guardR (fitsL ds.length) (.list xs)
  | .lx t it c e => evi C env it >>= fun ds => if fitsL ds.length then lcR (fun d => bindT env t d >>= fun env' => evc C env' c >>= fun k => if k then ev C env' e >>= fun x => .ok (some x) else .ok none) ds >>= fun xs => .ok (.list xs) else .stuck
  | .lit it => evi C env it >>= fun ds => guardR (fitsL ds.length) (.list ds)
  | .dg ks vs k => evs C env vs >>= fun ds => ev C env k >>= fun x => (match x with | .str z => lookS z ks ds | _ => .stuck)
  | .kin _ kvs a => ev C env a >>= fun d => kinD kvs d
  | .kget _ kvs a => ev C env a >>= fun d => kgetD kvs d
  | .fld c i a => ev C env a >>= fun d => obF c d >>= fun ds => someR ds[i]?
  | .mc c f o xs => ev C env o >>= fun d => obF c d >>= fun _ => evs C env xs >>= fun ds => C f (d :: ds)
def evan (C : Nat → List PyData → Res PyData) (env : Ev) : Es → Res PyData
  | .nil => .stuck
  | .cons a .nil => ev C env a
  | .cons a (.cons b r) => ev C env a >>= fun x => boolD x >>= fun k => if k then evan C env (.cons b r) else .ok (.bool false)
def evor (C : Nat → List PyData → Res PyData) (env : Ev) : Es → Res PyData
  | .nil => .stuck
  | .cons a .nil => ev C env a
  | .cons a (.cons b r) => ev C env a >>= fun x => boolD x >>= fun k => if k then .ok (.bool true) else evor C env (.cons b r)
def evs (C : Nat → List PyData → Res PyData) (env : Ev) : Es → Res (List PyData)
  | .nil => .ok []
  | .cons a r => ev C env a >>= fun x => evs C env r >>= fun xs => .ok (x :: xs)
def evo (C : Nat → List PyData → Res PyData) (env : Ev) : Eo → Res (Option PyData)
  | .non => .ok none
  | .som a => ev C env a >>= fun x => .ok (some x)
/-- a comprehension's test -/
def evc (C : Nat → List PyData → Res PyData) (env : Ev) : Eo → Res Bool
  | .non => .ok true
  | .som a => ev C env a >>= fun x => boolD x
def evi (C : Nat → List PyData → Res PyData) (env : Ev) : It → Res (List PyData)
  | .ov a => ev C env a >>= fun x => someR (seqOf x)
  | .rg xs => evs C env xs >>= fun ds => rgD ds
  | .en a => ev C env a >>= fun x => someR ((seqOf x).map (enumL 0))
  | .os a => ev C env a >>= fun x => (match x with | .str z => .ok (sgnL z) | _ => .stuck)
  | .zp a b => ev C env a >>= fun x => ev C env b >>= fun y => someR ((seqOf x).bind fun xs => (seqOf y).map fun ys => zipL xs ys)
end

/-! ### statements -/
inductive Fl where
  | nx (env : Ev)
  | rt (d : PyData)
  | xc (c : Nat) (env : Ev)
  | stuck
def Res.fl {α : Type} (r : Res α) (env : Ev) (k : α → Fl) : Fl := match r with
  | .ok a => k a
  | .exc c => .xc c env
  | .stuck => .stuck
@[simp] theorem Res.fl_ok {α : Type} (a : α) (env : Ev) (k : α → Fl) : (Res.ok a).fl env k = k a := rfl
@[simp] theorem Res.fl_exc {α : Type} (c : Nat) (env : Ev) (k : α → Fl) : (Res.exc c : Res α).fl env k = .xc c env := rfl
@[simp] theorem Res.fl_stuck {α : Type} (env : Ev) (k : α → Fl) : (Res.stuck : Res α).fl env k = .stuck := rfl
/-! no list within -/
mutual
def flat : PyData → Bool
  | .none | .bool _ | .int _ | .str _ => true
  | .tuple xs => flats xs
  | .list _ => false
  | .dict _ => false
def flats : List PyData → Bool
  | [] => true
  | d :: r => flat d && flats r
end
def Fl.thn (r : Fl) (k : Ev → Fl) : Fl := match r with
  | .nx env => k env
  | r => r
@[simp] theorem Fl.thn_nx (env : Ev) (k : Ev → Fl) : (Fl.nx env).thn k = k env := rfl
@[simp] theorem Fl.thn_rt (d : PyData) (k : Ev → Fl) : (Fl.rt d).thn k = .rt d := rfl
@[simp] theorem Fl.thn_xc (c : Nat) (env : Ev) (k : Ev → Fl) : (Fl.xc c env).thn k = .xc c env := rfl
@[simp] theorem Fl.thn_stuck (k : Ev → Fl) : (Fl.stuck).thn k = .stuck := rfl
def forR (t : Tg) (b : Ev → Fl) : List PyData → Ev → Fl
  | [], env => .nx env
  | d :: r, env => (bindT env t d).fl env fun env' => (b env').thn fun env2 => forR t b r env2
def whR (c : Ev → Res Bool) (b : Ev → Fl) : Nat → Ev → Fl
  | 0, _ => .stuck
  | n + 1, env => (c env).fl env fun k => if k then (b env).thn fun env2 => whR c b n env2 else .nx env
def listV (env : Ev) (i : Nat) : Res (List PyData) := getV env i >>= fun d => match d with
  | .list xs => .ok xs
  | _ => .stuck
/-- classes: 0 .. 99 the refusals, 100 their base, 101 ValueError -/
def subX (c k : Nat) : Bool := decide (c = k) || decide (100 ≤ k)
/-- a try: what the handler tells of a refusal that it takes -/
def trR (h : Nat → Res PyData) (k : Nat) : Fl → Fl
  | .xc c env => (match h c with
    | .ok d => if subX c k then .rt d else .xc c env
    | _ => .stuck)
  | r => r
/-- a list of plain things -/
def isEch : PyData → Bool
  | .list xs => flats xs && decide (xs.length < sizeLine)
  | _ => false
def unV (env : Ev) (i : Nat) : Ev := env.set i none
/-! Hd f c: what the handler f tells of a refusal of the class c -/
mutual
def rn (C : Nat → List PyData → Res PyData) (Hd : Nat → Nat → Res PyData) : Ss → Ev → Fl
  | .nil, env => .nx env
  | .cons a r, env => (rn1 C Hd a env).thn fun env2 => rn C Hd r env2
def rn1 (C : Nat → List PyData → Res PyData) (Hd : Nat → Nat → Res PyData) : S → Ev → Fl
  | .set i m e, env => (ev C env e).fl env fun d => if m && !flat d then .stuck else .nx (setV env i d)
  | .own i e, env => (ev C env e).fl env fun d => match d with
      | .list xs => .nx (setV env i (.list xs))
      | _ => .stuck
  | .fls i e, env => (ev C env e).fl env fun d => match d with
      | .list xs => if flats xs then .nx (setV env i (.list xs)) else .stuck
      | _ => .stuck
  | .ofl i e, env => (ev C env e).fl env fun d => match d with
      | .list xs => if flats xs then .nx (setV env i (.list xs)) else .stuck
      | _ => .stuck
  | .unp is e, env => (ev C env e).fl env fun d => (bindT env (.tp is) d).fl env fun env' => .nx env'
  | .par i j a b, env => (ev C env a).fl env fun x => (ev C env b).fl env fun y => .nx (setV (setV env i x) j y)
  | .app i m e, env => (listV env i).fl env fun _ => (ev C env e).fl env fun d => if m && !flat d then .stuck else (listV env i).fl env fun xs =>
      if xs.length < sizeLine then .nx (setV env i (.list (xs ++ [d]))) else .stuck
  | .ext i e, env => (listV env i).fl env fun _ => (ev C env e).fl env fun d => (listV env i).fl env fun xs => (someR (seqOf d)).fl env fun ys =>
      if xs.length + ys.length ≤ sizeLine then .nx (setV env i (.list (xs ++ ys))) else .stuck
  | .put i m k e, env => (ev C env e).fl env fun d => if m && !flat d then .stuck else (listV env i).fl env fun xs => (ev C env k).fl env fun kd =>
      match kd with
      | .int z => (match ixN xs.length z with
        | some j => .nx (setV env i (.list (xs.set j d)))
        | none => .stuck)
      | _ => .stuck
  | .ret e, env => (ev C env e).fl env fun d => .rt d
  | .retn, _ => .rt .none
  | .ifs c a b, env => (ev C env c).fl env fun x => (boolD x).fl env fun k => if k then rn C Hd a env else rn C Hd b env
  | .fr t it b, env => (evi C env it).fl env fun ds => forR t (rn C Hd b) ds env
  | .wh c b, env => whR (fun env => ev C env c >>= boolD) (rn C Hd b) 100 env
  | .rs c _, env => .xc c env
  | .tr _ k b f, env => trR (Hd f) k (rn C Hd b env)
  | .ex e, env => (ev C env e).fl env fun _ => .nx env
  | .ech i j xs _, env => (listV env j).fl env fun us => (evs C env xs).fl env fun ds => if decide (us.length + ds.length < sizeLine) && ds.all isEch && decide (i < env.length) then .nx (unV (setV env j (.list (us ++ ds))) i) else .stuck
  | .skip, env => .nx env
end
/-- a def: how many parameters, how many slots, its body -/
structure Df where
  np : Nat
  nn : Nat
  body : Ss
def runD (C : Nat → List PyData → Res PyData) (Hd : Nat → Nat → Res PyData) (d : Df) (args : List PyData) : Res PyData :=
  if args.length = d.np then (match rn C Hd d.body (args.map some ++ List.replicate (d.nn - d.np) none) with
    | .rt x => .ok x
    | .nx _ => .ok .none
    | .xc c _ => .exc c
    | .stuck => .stuck) else .stuck
def flagsX (cs : List Nat) (c : Nat) : List PyData := cs.map fun k => .bool (subX c k)
/-- ("refused", which of them), by the class alone -/
def refD (cs : List Nat) (c : Nat) : PyData :=
  if (flagsX cs c).countP (fun z => PyData.eqv z (.bool true)) = 1 then .tuple [.str "refused", .int ((idxOf (.bool true) (flagsX cs c)).getD 0 : Nat)] else .tuple [.str "refused", .int (-1)]
/-- what is told of a refusal -/
inductive Hk where
  | ref (cs : List Nat)
  | isv (k : Nat)
  | iss (k : Nat) (a b : Str)
def Hk.d : Hk → Nat → PyData
  | .ref cs, c => refD cs c
  | .isv k, c => .bool (subX c k)
  | .iss k a b, c => .str (if subX c k then a else b)
/-- the defs, the handlers, the classes of refusals -/
structure Tb where
  fs : List Df
  hs : List Hk
  xs : List Nat
def hotF (T : Tb) (f c : Nat) : Res PyData := match T.hs[f]? with
  | some h => if T.xs.contains c then .ok (h.d c) else .stuck
  | none => .stuck
def callF (T : Tb) : Nat → Nat → List PyData → Res PyData
  | 0, _, _ => .stuck
  | n + 1, f, args => match T.fs[f]? with
    | some d => runD (callF T n) (hotF T) d args
    | none => .stuck
end Z
end
section
/-! Z2: values in the heap, the wishes. -/
namespace Z
open PySem PySem.Spec PyProof.Rows L2

/-! ### data in the heap -/
/-- a tuple that has no dict of its own -/
def TpN (K : PySem.W.Frag) (R : Hp) (a : Addr) (xs : List V) : Prop :=
  (∃ o : Obj, o.dict = none ∧ R a = some (.frz o (.tup xs))) ∨ ∃ (o : Obj) (its : Array Value) (n : Nat), (K.lookup a = some o ∧ o.dict = none) ∧ o.cls = .type "tuple" ∧ o.data = .seq its n ∧ its.size ≤ sizeLine ∧ Vals xs its.toList
theorem TpN.sq {K : PySem.W.Frag} {R : Hp} {a : Addr} {xs : List V} (h : TpN K R a xs) : SqT K R a xs := by
  rcases h with ⟨o, _, h⟩ | ⟨o, its, n, ⟨h1, _⟩, h2⟩
  · exact .inl (.inr ⟨o, h⟩)
  · exact .inr ⟨o, its, n, h1, h2⟩
theorem TpN.mono {K : PySem.W.Frag} {R R' : Hp} {a : Addr} {xs : List V} (s : Same R R') (h : TpN K R a xs) : TpN K R' a xs := by
  rcases h with ⟨o, h1, h⟩ | h
  · exact .inl ⟨o, h1, s _ _ h⟩
  · exact .inr h
theorem TpN.sqm {K : PySem.W.Frag} {R R' : Hp} {a : Addr} {xs : List V} (s : Same R R') (h : TpN K R a xs) : SqT K R' a xs := (h.mono s).sq
/-- what is known of a class -/
structure ClsOk (K : PySem.W.Frag) (c : Nat) : Prop where
  cls : Cls K (He.ga K (cname c))
  noat : ∀ f ∈ cfs c, NoAttr K (He.ga K (cname c)) f
  ha : PySem.W.findIn K (.ref (He.ga K (cname c))) "__class__" = some (some (.builtin "object.__class__"))
  hn : PySem.W.specialIn K (.builtin "object.__class__") "__get__" = some (some (.builtin "getset_descriptor.__get__"))
  htk : PySem.W.takesIn K (.builtin "object.__class__") = some true
  hm : PySem.W.mroIn K (He.ga K (cname c)) (.type "object") = some true
  kit : ∀ t ∈ ["int", "bool", "str", "tuple", "list"], PySem.W.kitOne K (.ref (He.ga K (cname c))) (.type t) = some false
/-- an object's attributes -/
structure FsOk (c : Nat) (fs : List (Str × V)) (n : Nat) : Prop where
  nm : fs.map (·.1) = (cfs c).take n
  le : n ≤ (cfs c).length
mutual
inductive Dn (K : PySem.W.Frag) (R : Hp) : V → PyData → Prop
  | non : Dn K R .non .none
  | bl (b : Bool) : Dn K R (.bl b) (.bool b)
  | int (i : Int) : Dn K R (.int i) (.int i)
  | str (x : Str) : Dn K R (.str x) (.str x)
  | lst {a : Addr} {xs : List V} {ds : List PyData} : Rd R a (.lst xs) → DnA K R xs ds → Dn K R (.ref a) (.list ds)
  | tup {a : Addr} {xs : List V} {ds : List PyData} : TpN K R a xs → DnA K R xs ds → Dn K R (.ref a) (.tuple ds)
  | obj {a dx : Addr} {fs : List (Str × V)} {c : Nat} {ds : List PyData} {vs : List V} : R a = some (.ins (He.ga K (cname c)) dx fs) → fs.map (·.2) = vs → ClsOk K c → FsOk c fs ds.length → DnA K R vs ds → Dn K R (.ref a) (.dict [(.int c, .tuple ds)])
inductive DnA (K : PySem.W.Frag) (R : Hp) : List V → List PyData → Prop
  | nil : DnA K R [] []
  | cons {v : V} {vs : List V} {d : PyData} {ds : List PyData} : Dn K R v d → DnA K R vs ds → DnA K R (v :: vs) (d :: ds)
end
theorem Rd.mono {R R' : Hp} {a : Addr} {u : HO} (s : Same R R') (h : Rd R a u) : Rd R' a u := by
  rcases h with h | ⟨o, h⟩
  · exact .inl (s _ _ h)
  · exact .inr ⟨o, s _ _ h⟩
theorem SqT.mono {K : PySem.W.Frag} {R R' : Hp} {a : Addr} {xs : List V} (s : Same R R') (h : SqT K R a xs) : SqT K R' a xs := by
  rcases h with h | h
  · exact .inl (Rd.mono s h)
  · exact .inr h
mutual
theorem Dn.mono {K : PySem.W.Frag} {R R' : Hp} (s : Same R R') : ∀ (d : PyData) (v : V), Dn K R v d → Dn K R' v d
  | .none, _, h => by cases h; exact .non
  | .bool b, _, h => by cases h; exact .bl b
  | .int i, _, h => by cases h; exact .int i
  | .str x, _, h => by cases h; exact .str x
  | .list ds, _, h => by
    cases h with
    | lst hs ha => exact .lst (Rd.mono s hs) (DnA.mono s ds _ ha)
  | .tuple ds, _, h => by
    cases h with
    | tup hs ha => exact .tup (hs.mono s) (DnA.mono s ds _ ha)
  | .dict kvs, _, h => by
    cases h with
    | obj h1 h2 h3 h4 h5 => exact .obj (s _ _ h1) h2 h3 h4 (DnA.mono s _ _ h5)
theorem DnA.mono {K : PySem.W.Frag} {R R' : Hp} (s : Same R R') : ∀ (ds : List PyData) (vs : List V), DnA K R vs ds → DnA K R' vs ds
  | [], _, h => by cases h; exact .nil
  | d :: ds, _, h => by
    cases h with
    | cons h1 h2 => exact .cons (Dn.mono s d _ h1) (DnA.mono s ds _ h2)
end
mutual
theorem Dn.dp {K : PySem.W.Frag} {R : Hp} : ∀ (d : PyData) (v : V), d.canLay0 = true → Dn K R v d → Dp K R v d
  | .none, _, _, h => by cases h; exact .non
  | .bool b, _, _, h => by cases h; exact .bl b
  | .int i, _, _, h => by cases h; exact .int i
  | .str x, _, _, h => by cases h; exact .str x
  | .list ds, _, l, h => by
    cases h with
    | lst hs ha => exact .lst (.inl hs) (DnA.dp ds _ (by simpa [PyData.canLay0] using l) ha)
  | .tuple ds, _, l, h => by
    cases h with
    | tup hs ha => exact .tup hs.sq (DnA.dp ds _ (by simpa [PyData.canLay0] using l) ha)
  | .dict _, _, l, h => by simp [PyData.canLay0] at l
theorem DnA.dp {K : PySem.W.Frag} {R : Hp} : ∀ (ds : List PyData) (vs : List V), PyData.canLayAll0 ds = true → DnA K R vs ds → DpAll K R vs ds
  | [], _, _, h => by cases h; exact .nil
  | d :: ds, _, l, h => by
    have l : d.canLay0 = true ∧ PyData.canLayAll0 ds = true := by simpa [PyData.canLayAll0] using l
    cases h with
    | cons h1 h2 => exact .cons (Dn.dp d _ l.1 h1) (DnA.dp ds _ l.2 h2)
end
theorem DnA.length {K : PySem.W.Frag} {R : Hp} : ∀ {ds : List PyData} {vs : List V}, DnA K R vs ds → vs.length = ds.length
  | [], _, h => by cases h; rfl
  | _ :: ds, _, h => by
    cases h with
    | cons _ h2 => simp [DnA.length h2]
theorem DnA.append {K : PySem.W.Frag} {R : Hp} : ∀ {ds es : List PyData} {vs ws : List V}, DnA K R vs ds → DnA K R ws es → DnA K R (vs ++ ws) (ds ++ es)
  | [], _, _, _, h, g => by cases h; exact g
  | _ :: ds, _, _, _, h, g => by
    cases h with
    | cons h1 h2 => exact .cons h1 (DnA.append h2 g)
theorem DnA.get {K : PySem.W.Frag} {R : Hp} : ∀ {ds : List PyData} {vs : List V} {i : Nat} {d : PyData}, DnA K R vs ds → ds[i]? = some d → ∃ v, vs[i]? = some v ∧ Dn K R v d
  | [], _, _, _, h, e => by simp at e
  | _ :: ds, _, 0, _, h, e => by
    cases h with
    | cons h1 h2 => simp at e; subst e; exact ⟨_, rfl, h1⟩
  | _ :: ds, _, i + 1, _, h, e => by
    cases h with
    | cons h1 h2 =>
      obtain ⟨v, a, b⟩ := DnA.get h2 (show ds[i]? = some _ by simpa using e)
      exact ⟨v, by simpa using a, b⟩
theorem DnA.take {K : PySem.W.Frag} {R : Hp} : ∀ {ds : List PyData} {vs : List V} (n : Nat), DnA K R vs ds → DnA K R (vs.take n) (ds.take n)
  | _, _, 0, _ => .nil
  | [], _, _ + 1, h => by cases h; exact .nil
  | _ :: ds, _, n + 1, h => by
    cases h with
    | cons h1 h2 => exact .cons h1 (DnA.take n h2)
theorem DnA.drop {K : PySem.W.Frag} {R : Hp} : ∀ {ds : List PyData} {vs : List V} (n : Nat), DnA K R vs ds → DnA K R (vs.drop n) (ds.drop n)
  | _, _, 0, h => h
  | [], _, _ + 1, h => by cases h; exact .nil
  | _ :: ds, _, n + 1, h => by
    cases h with
    | cons h1 h2 => exact DnA.drop n h2
theorem DnA.set {K : PySem.W.Frag} {R : Hp} {v : V} {d : PyData} (hv : Dn K R v d) : ∀ {ds : List PyData} {vs : List V} (n : Nat), DnA K R vs ds → DnA K R (vs.set n v) (ds.set n d)
  | [], _, _, h => by cases h; exact .nil
  | _ :: ds, _, 0, h => by
    cases h with
    | cons h1 h2 => exact .cons hv h2
  | _ :: ds, _, n + 1, h => by
    cases h with
    | cons h1 h2 => exact .cons h1 (DnA.set hv n h2)
theorem DnA.reverse {K : PySem.W.Frag} {R : Hp} {ds : List PyData} {vs : List V} (h : DnA K R vs ds) : DnA K R vs.reverse ds.reverse := by
  induction ds generalizing vs with
  | nil => cases h; exact .nil
  | cons d ds ih =>
    cases h with
    | cons h1 h2 =>
      rw [List.reverse_cons, List.reverse_cons]
      exact DnA.append (ih h2) (.cons h1 .nil)
theorem DnA.rep {K : PySem.W.Frag} {R : Hp} {ds : List PyData} {vs : List V} (h : DnA K R vs ds) : ∀ n : Nat, DnA K R (List.replicate n vs).flatten (List.replicate n ds).flatten
  | 0 => .nil
  | n + 1 => by
    rw [List.replicate_succ, List.replicate_succ, List.flatten_cons, List.flatten_cons]
    exact DnA.append h (DnA.rep h n)
/-- ints, bools -/
theorem DnA.ints {K : PySem.W.Frag} {R : Hp} : ∀ {ds : List PyData} {vs : List V} {ns : List Int}, DnA K R vs ds → intsOf ds = some ns → vs = ns.map V.int ∧ ds = ns.map .int
  | [], _, ns, h, e => by
    cases h
    simp [intsOf] at e
    subst e
    exact ⟨rfl, rfl⟩
  | d :: ds, _, ns, h, e => by
    cases h with
    | cons h1 h2 =>
      cases d with
      | int i =>
        cases q : intsOf ds with
        | none => simp [intsOf, q] at e
        | some ms =>
          simp [intsOf, q] at e
          subst e
          obtain ⟨a, b⟩ := DnA.ints h2 q
          cases h1
          exact ⟨by rw [a]; rfl, by rw [b]; rfl⟩
      | _ => simp [intsOf] at e
theorem DnA.bools {K : PySem.W.Frag} {R : Hp} : ∀ {ds : List PyData} {vs : List V} {bs : List Bool}, DnA K R vs ds → boolsOf ds = some bs → vs = bs.map V.bl
  | [], _, bs, h, e => by
    cases h
    simp [boolsOf] at e
    subst e
    rfl
  | d :: ds, _, bs, h, e => by
    cases h with
    | cons h1 h2 =>
      cases d with
      | bool i =>
        cases q : boolsOf ds with
        | none => simp [boolsOf, q] at e
        | some ms =>
          simp [boolsOf, q] at e
          subst e
          have a := DnA.bools h2 q
          cases h1
          rw [a]
          rfl
      | _ => simp [boolsOf] at e
theorem DnA.ofInts {K : PySem.W.Frag} {R : Hp} : ∀ ns : List Int, DnA K R (ns.map V.int) (ns.map .int)
  | [] => .nil
  | i :: r => .cons (.int i) (DnA.ofInts r)
theorem DnA.ofStrs {K : PySem.W.Frag} {R : Hp} : ∀ ns : List Str, DnA K R (ns.map V.str) (ns.map .str)
  | [] => .nil
  | i :: r => .cons (.str i) (DnA.ofStrs r)

/-! ### how heaps grow -/
structure Ext (R H R' H' : Hp) : Prop where
  r : Same R R'
  sub : Same R' H'
  h : Same H H'
  new : ∀ a o, R' a = some o → R a = some o ∨ H a = none
theorem Ext.refl {R H : Hp} (s : Same R H) : Ext R H R H := ⟨Same.refl _, s, Same.refl _, fun _ _ h => .inl h⟩
theorem Ext.trans {R H R1 H1 R2 H2 : Hp} (a : Ext R H R1 H1) (b : Ext R1 H1 R2 H2) : Ext R H R2 H2 :=
  ⟨a.r.trans b.r, b.sub, a.h.trans b.h, fun x o h => by
    rcases b.new x o h with q | q
    · exact a.new x o q
    · exact .inr (a.h.free q)⟩
theorem same_upd {H : Hp} {p : Addr} {o : HO} (n : H p = none) : Same H (upd H p o) := fun b u e => by
  rw [upd_ne (ne_of_none e n)]
  exact e
theorem Ext.alloc {R H : Hp} {p : Addr} {o : HO} (s : Same R H) (n : H p = none) : Ext R H (upd R p o) (upd H p o) := by
  refine ⟨same_upd (s.free n), fun a u e => ?_, same_upd n, fun a u e => ?_⟩
  · by_cases h : a = p
    · subst h; rw [upd_same] at e ⊢; exact e
    · rw [upd_ne h] at e ⊢; exact s a u e
  · by_cases h : a = p
    · subst h; exact .inr n
    · rw [upd_ne h] at e; exact .inl e
/-- the heap grows by what is no data -/
theorem Ext.beside {R H H' : Hp} (s : Same R H) (g : Same H H') : Ext R H R H' := ⟨Same.refl _, s.trans g, g, fun _ _ h => .inl h⟩

structure Rel (K : PySem.W.Frag) (R H : Hp) (σ : L2.St) (env : Ev) : Prop where
  sub : Same R H
  len : env.length = σ.length
  at_ : ∀ (i : Nat) (d : PyData), env[i]? = some (some d) → ∃ v, σ[i]? = some (some v) ∧ Dn K R v d
theorem Rel.ext {K : PySem.W.Frag} {R H R' H' : Hp} {σ : L2.St} {env : Ev} (r : Rel K R H σ env) (e : Ext R H R' H') : Rel K R' H' σ env :=
  ⟨e.sub, r.len, fun i d h => let ⟨v, a, b⟩ := r.at_ i d h; ⟨v, a, Dn.mono e.r _ _ b⟩⟩
theorem Rel.set {K : PySem.W.Frag} {R H : Hp} {σ : L2.St} {env : Ev} (r : Rel K R H σ env) (i : Nat) {v : V} {d : PyData} (h : Dn K R v d) : Rel K R H (σ.set i (some v)) (setV env i d) := by
  refine ⟨r.sub, by simp [setV, r.len], fun j d' e => ?_⟩
  unfold setV at e
  by_cases hj : i = j
  · subst hj
    by_cases hl : i < env.length
    · rw [List.getElem?_set_self hl] at e
      cases e
      exact ⟨v, by rw [List.getElem?_set_self (by rw [← r.len]; exact hl)], h⟩
    · rw [List.getElem?_eq_none (by simpa using hl)] at e
      cases e
  · rw [List.getElem?_set_ne hj] at e ⊢
    exact r.at_ j d' e

/-! ### wishes -/
/-- the names of the refusals' classes -/
def xname : Nat → Str
  | 0 => "NoTrack" | 1 => "NoLevel" | 2 => "NoSign" | 3 => "NoNumber" | 4 => "NoPlace" | 5 => "NoRoom" | 6 => "NoText" | 7 => "NoStep" | 100 => "CatchError" | _ => "ValueError"
abbrev xcls (K : PySem.W.Frag) (c : Nat) : Value := .ref (He.ga K (xname c))
def WantG {α β : Type} (K : PySem.W.Frag) (W : WX) (σ : L2.St) (den : Hp → β → α → Prop) (R H : Hp) (r : Res α) (Q : β → Hp → Prop) : Prop := match r with
  | .ok a => ∀ (b : β) (H' R' : Hp), Ext R H R' H' → den R' b a → Q b H'
  | .exc c => ∀ (H' R' : Hp), Ext R H R' H' → W (xcls K c) none σ H'
  | .stuck => False
section
variable {α β γ δ : Type} {K : PySem.W.Frag} {W : WX} {σ : L2.St} {den : Hp → β → α → Prop} {den2 : Hp → δ → γ → Prop} {R H R' H' : Hp}
theorem WantG.ext {r : Res α} {Q : β → Hp → Prop} (h : WantG K W σ den R H r Q) (e : Ext R H R' H') : WantG K W σ den R' H' r Q := by
  cases r with
  | ok a => exact fun b H2 R2 e2 d => h b H2 R2 (e.trans e2) d
  | exc c => exact fun H2 R2 e2 => h H2 R2 (e.trans e2)
  | stuck => exact h
theorem WantG.split {r : Res γ} {f : γ → Res α} {Q : β → Hp → Prop} {Q1 : δ → Hp → Prop} (h : WantG K W σ den R H (r >>= f) Q)
    (k : ∀ (a : γ) (b : δ) (H' R' : Hp), Ext R H R' H' → den2 R' b a → WantG K W σ den R' H' (f a) Q → Q1 b H') : WantG K W σ den2 R H r Q1 := by
  cases r with
  | ok a => exact fun b H' R' e d => k a b H' R' e d (WantG.ext h e)
  | exc c => exact h
  | stuck => exact h
/-- what is reckoned without the heap -/
theorem WantG.pure {r : Res γ} {f : γ → Res α} {Q : β → Hp → Prop} (h : WantG K W σ den R H (r >>= f) Q) (n : ∀ c, r ≠ .exc c) : ∃ a, r = .ok a ∧ WantG K W σ den R H (f a) Q := by
  cases r with
  | ok a => exact ⟨a, rfl, h⟩
  | exc c => exact absurd rfl (n c)
  | stuck => exact False.elim h
end
/-- a value, values, a truth -/
abbrev denV (K : PySem.W.Frag) : Hp → V → PyData → Prop := fun R v d => Dn K R v d
abbrev denL (K : PySem.W.Frag) : Hp → List V → List PyData → Prop := fun R v d => DnA K R v d
abbrev denB : Hp → Bool → Bool → Prop := fun _ b c => b = c
abbrev denO : Hp → Option Int → Option Int → Prop := fun _ b c => b = c
def tD (K : PySem.W.Frag) (W : WX) (f : Ev → Res PyData) : TE := fun σ H Q => ∃ R env, Rel K R H σ env ∧ WantG K W σ (denV K) R H (f env) Q
def tDA (K : PySem.W.Frag) (W : WX) (f : Ev → Res (List PyData)) : TA := fun σ H Q => ∃ R env, Rel K R H σ env ∧ WantG K W σ (denL K) R H (f env) Q
def tDT (K : PySem.W.Frag) (W : WX) (f : Ev → Res Bool) : TT := fun σ H Q => ∃ R env, Rel K R H σ env ∧ WantG K W σ denB R H (f env) Q
def tDO (K : PySem.W.Frag) (W : WX) (f : Ev → Res (Option Int)) : TO := fun σ H Q => ∃ R env, Rel K R H σ env ∧ WantG K W σ denO R H (f env) Q

theorem peImp {X : Cx} {e : Expr} {t t' : TE} (h : PE X e t) (m : ∀ σ H Q, t' σ H Q → t σ H Q) : PE X e t' := ⟨fun pins s σ H Q I q => h.run pins s σ H Q I (m _ _ _ q)⟩
theorem ptImp {X : Cx} {e : Expr} {t t' : TT} (h : PT X e t) (m : ∀ σ H Q, t' σ H Q → t σ H Q) : PT X e t' := ⟨fun pins s σ H Q I q => h.run pins s σ H Q I (m _ _ _ q)⟩
theorem pwImp {X : Cx} {e : Expr} {t t' : TT} (h : PW X e t) (m : ∀ σ H Q, t' σ H Q → t σ H Q) : PW X e t' := ⟨fun wh pins s σ H Q I q => h.run wh pins s σ H Q I (m _ _ _ q)⟩
theorem paImp {X : Cx} {e : List Expr} {t t' : TA} (h : PA X e t) (m : ∀ σ H Q, t' σ H Q → t σ H Q) : PA X e t' := ⟨fun pos pins s σ H Q I q => h.run pos pins s σ H Q I (m _ _ _ q)⟩
theorem poImp {X : Cx} {e : Option Expr} {t t' : TO} (h : PO X e t) (m : ∀ σ H Q, t' σ H Q → t σ H Q) : PO X e t' := ⟨fun pins s σ H Q I q => h.run pins s σ H Q I (m _ _ _ q)⟩
theorem psImp {X : Cx} {e : Stmt} {t t' : TS} (h : PS X e t) (m : ∀ D σ H, t' D σ H → t D σ H) : PS X e t' := ⟨fun pins s σ H D I q => h.run pins s σ H D I (m _ _ _ q)⟩
theorem pssImp {X : Cx} {e : List Stmt} {t t' : TS} (h : PSs X e t) (m : ∀ D σ H, t' D σ H → t D σ H) : PSs X e t' := ⟨fun pins s σ H D I q => h.run pins s σ H D I (m _ _ _ q)⟩

/-! ### operations -/
def OpD (K : PySem.W.Frag) (r : R2) (g : PyData → PyData → Res PyData) : Prop := ∀ (W : WX) (σ : L2.St) (R H : Hp) (x y : V) (dx dy : PyData) (Q : VK), Same R H → Dn K R x dx → Dn K R y dy → WantG K W σ (denV K) R H (g dx dy) Q → r x y H Q
def UnD (K : PySem.W.Frag) (r : V → Hp → VK → Prop) (g : PyData → Res PyData) : Prop := ∀ (W : WX) (σ : L2.St) (R H : Hp) (x : V) (dx : PyData) (Q : VK), Same R H → Dn K R x dx → WantG K W σ (denV K) R H (g dx) Q → r x H Q
def CaD (K : PySem.W.Frag) (r : List V → Hp → VK → Prop) (g : List PyData → Res PyData) : Prop := ∀ (W : WX) (σ : L2.St) (R H : Hp) (xs : List V) (ds : List PyData) (Q : VK), Same R H → DnA K R xs ds → WantG K W σ (denV K) R H (g ds) Q → r xs H Q
section
variable {X : Cx} {W : WX} {a b : Expr} {pos : Pos}
theorem de_bin {op : Operator} {r : R2} {g : PyData → PyData → Res PyData} {fa fb : Ev → Res PyData} (ho : OpR X (binaryOp op) r) (hd : OpD X.K r g) (ha : PE X a (tD X.K W fa)) (hb : PE X b (tD X.K W fb)) :
    PE X (.BinOp a op b pos) (tD X.K W fun env => fa env >>= fun x => fb env >>= fun y => g x y) := by
  refine peImp (pe_op ho ha hb) fun σ H Q ⟨R, env, rel, h⟩ => ?_
  refine ⟨R, env, rel, h.split fun dx x H1 R1 e1 d1 h1 => ⟨R1, env, rel.ext e1, h1.split fun dy y H2 R2 e2 d2 h2 => ?_⟩⟩
  exact hd W σ R2 H2 x y dx dy Q e2.sub (Dn.mono e2.r _ _ d1) d2 h2
theorem de_cmp {op : CmpOp} {r : R2} {g : PyData → PyData → Res PyData} {fa fb : Ev → Res PyData} (ho : OpR X (compareOp op) r) (hd : OpD X.K r g) (ha : PE X a (tD X.K W fa)) (hb : PE X b (tD X.K W fb)) (hm : behindInMarks op b = false) :
    PE X (.Compare a [op] [b] pos) (tD X.K W fun env => fa env >>= fun x => fb env >>= fun y => g x y) := by
  refine peImp (pe_cmpR ho ha hb hm) fun σ H Q ⟨R, env, rel, h⟩ => ?_
  refine ⟨R, env, rel, h.split fun dx x H1 R1 e1 d1 h1 => ⟨R1, env, rel.ext e1, h1.split fun dy y H2 R2 e2 d2 h2 => ?_⟩⟩
  exact hd W σ R2 H2 x y dx dy Q e2.sub (Dn.mono e2.r _ _ d1) d2 h2
theorem de_un {op : UnaryOp} {r : V → Hp → VK → Prop} {g : PyData → Res PyData} {fa : Ev → Res PyData} (ho : UnR X (unaryOp op) r) (hd : UnD X.K r g) (ha : PE X a (tD X.K W fa)) :
    PE X (.UnaryOp op a pos) (tD X.K W fun env => fa env >>= fun x => g x) := by
  refine peImp (pe_un ho ha) fun σ H Q ⟨R, env, rel, h⟩ => ?_
  refine ⟨R, env, rel, h.split fun dx x H1 R1 e1 d1 h1 => ?_⟩
  exact hd W σ R1 H1 x dx Q e1.sub d1 h1
end
/-- the wish at a plain value -/
theorem WantG.val {K : PySem.W.Frag} {W : WX} {σ : L2.St} {R H : Hp} {d : PyData} {v : V} {Q : VK} (h : WantG K W σ (denV K) R H (.ok d) Q) (s : Same R H) (dn : Dn K R v d) : Q v H := h v H R (Ext.refl s) dn
theorem WantG.guard {K : PySem.W.Frag} {W : WX} {σ : L2.St} {R H : Hp} {b : Bool} {d : PyData} {Q : VK} (h : WantG K W σ (denV K) R H (guardR b d) Q) : b = true ∧ WantG K W σ (denV K) R H (.ok d) Q := by
  unfold guardR at h
  cases b with
  | true => exact ⟨rfl, h⟩
  | false => exact False.elim h
/-- a new list, a new tuple -/
theorem WantG.newL {K : PySem.W.Frag} {W : WX} {σ : L2.St} {R H : Hp} {ds : List PyData} {xs : List V} {Q : VK} (h : WantG K W σ (denV K) R H (.ok (.list ds)) Q) (s : Same R H) (dn : DnA K R xs ds) {p : Addr} (n : H p = none) : Q (.ref p) (upd H p (.lst xs)) :=
  h _ _ _ (Ext.alloc s n) (.lst (.inl upd_same) (DnA.mono (same_upd (s.free n)) _ _ dn))
theorem WantG.newT {K : PySem.W.Frag} {W : WX} {σ : L2.St} {R H : Hp} {ds : List PyData} {xs : List V} {Q : VK} (h : WantG K W σ (denV K) R H (.ok (.tuple ds)) Q) (s : Same R H) (dn : DnA K R xs ds) {p : Addr} {o : Obj} (ho : o.dict = none) (n : H p = none) : Q (.ref p) (upd H p (.frz o (.tup xs))) :=
  h _ _ _ (Ext.alloc s n) (.tup (.inl ⟨o, ho, upd_same⟩) (DnA.mono (same_upd (s.free n)) _ _ dn))
/-- a list that was just made joins the data -/
theorem Ext.join {R1 H1 R2 H : Hp} {D : Addr} {acc : List V} (hD : H1 D = none) (e2 : Ext R1 H1 R2 H) (r2 : R2 D = none) (hDl : H D = some (.lst acc)) : Ext R1 H1 (upd R2 D (.lst acc)) H := by
  refine ⟨e2.r.trans (same_upd r2), fun a u q => ?_, e2.h, fun a u q => ?_⟩
  · by_cases h : a = D
    · subst h; rw [upd_same] at q; cases q; exact hDl
    · rw [upd_ne h] at q; exact e2.sub a u q
  · by_cases h : a = D
    · subst h; exact .inr hD
    · rw [upd_ne h] at q; exact e2.new a u q
/-- a list that is new -/
def FreshK (K : PySem.W.Frag) (R H : Hp) (ds : List PyData) (Q : VK) : Prop := ∀ (p : Addr) (vs : List V) (H' R' : Hp), Ext R H R' H' → H p = none → R' p = none → H' p = some (.lst vs) → DnA K R' vs ds → Q (.ref p) H'
theorem WantG.fresh {K : PySem.W.Frag} {W : WX} {σ : L2.St} {R H : Hp} {ds : List PyData} {Q : VK} (h : WantG K W σ (denV K) R H (.ok (.list ds)) Q) : FreshK K R H ds Q :=
  fun p vs H' R' e n r hp dn => h _ H' (upd R' p (.lst vs)) (Ext.join n e r hp) (.lst (.inl upd_same) (DnA.mono (same_upd r) _ _ dn))
/-- what is wished of a def: a list that it tells is new, if it is said so -/
def WantR (fr : Bool) (K : PySem.W.Frag) (W : WX) (σ : L2.St) (R H : Hp) (r : Res PyData) (Q : VK) : Prop := match r with
  | .ok (.list ds) => if fr then FreshK K R H ds Q else WantG K W σ (denV K) R H (.ok (.list ds)) Q
  | r => WantG K W σ (denV K) R H r Q
theorem WantG.r {fr : Bool} {K : PySem.W.Frag} {W : WX} {σ : L2.St} {R H : Hp} {r : Res PyData} {Q : VK} (h : WantG K W σ (denV K) R H r Q) : WantR fr K W σ R H r Q := by
  cases r with
  | ok d =>
    cases d with
    | list ds =>
      show if fr then FreshK K R H ds Q else WantG K W σ (denV K) R H (.ok (.list ds)) Q
      split
      · exact h.fresh
      · exact h
    | _ => exact h
  | exc c => exact h
  | stuck => exact h
theorem FreshK.ext {K : PySem.W.Frag} {R H R1 H1 : Hp} {ds : List PyData} {Q : VK} (h : FreshK K R H ds Q) (e : Ext R H R1 H1) : FreshK K R1 H1 ds Q := fun p vs H' R' e' n r hp dn => h p vs H' R' (e.trans e') (e.h.free n) r hp dn
theorem WantR.ext {fr : Bool} {K : PySem.W.Frag} {W : WX} {σ : L2.St} {R H R1 H1 : Hp} {r : Res PyData} {Q : VK} (h : WantR fr K W σ R H r Q) (e : Ext R H R1 H1) : WantR fr K W σ R1 H1 r Q := by
  have pl : ∀ r : Res PyData, WantG K W σ (denV K) R H r Q → WantG K W σ (denV K) R1 H1 r Q := fun r h => WantG.ext h e
  cases r with
  | ok d =>
    cases d with
    | list ds =>
      have h : if fr then FreshK K R H ds Q else WantG K W σ (denV K) R H (.ok (.list ds)) Q := h
      show if fr then FreshK K R1 H1 ds Q else WantG K W σ (denV K) R1 H1 (.ok (.list ds)) Q
      cases fr with
      | true => rw [if_pos rfl] at h ⊢; exact FreshK.ext h e
      | false => rw [if_neg Bool.false_ne_true] at h ⊢; exact pl _ h
    | none => exact pl (.ok .none) h
    | bool b => exact pl (.ok (.bool b)) h
    | int b => exact pl (.ok (.int b)) h
    | str b => exact pl (.ok (.str b)) h
    | tuple b => exact pl (.ok (.tuple b)) h
    | dict b => exact pl (.ok (.dict b)) h
  | exc c => exact pl (.exc c) h
  | stuck => exact h
theorem WantR.split {fr : Bool} {K : PySem.W.Frag} {W : WX} {σ : L2.St} {R H : Hp} {γ δ : Type} {den2 : Hp → δ → γ → Prop} {r : Res γ} {f : γ → Res PyData} {Q : VK} {Q1 : δ → Hp → Prop} (h : WantR fr K W σ R H (r >>= f) Q)
    (k : ∀ (a : γ) (b : δ) (H' R' : Hp), Ext R H R' H' → den2 R' b a → WantR fr K W σ R' H' (f a) Q → Q1 b H') : WantG K W σ den2 R H r Q1 := by
  cases r with
  | ok a => exact fun b H' R' e d => k a b H' R' e d (WantR.ext h e)
  | exc c => exact h
  | stuck => exact h
/-- as tD, where a list is new -/
def tR (fr : Bool) (K : PySem.W.Frag) (W : WX) (f : Ev → Res PyData) : TE := fun σ H Q => ∃ R env, Rel K R H σ env ∧ WantR fr K W σ R H (f env) Q
end Z
end
section
/-! Z2b: new tuples, of which is known what they are. -/
namespace Z
open PySem PySem.Spec PyProof.Rows L2
section
variable {X : Cx}
abbrev tupO (its : Array Value) : Obj := { cls := .type "tuple", data := .seq its }
/-- a wish at a new tuple -/
def NewT (H : Hp) (xs : List V) (Q : VK) : Prop := ∀ (p : Addr) (o : Obj), o.dict = none → H p = none → Q (.ref p) (upd H p (.frz o (.tup xs)))
theorem laidT {pins : List (Addr × Obj)} {σ : L2.St} {H : Hp} {st : Shared} (inv : Inv X pins σ H st) {xs : List V} {its : List Value} (rv : Vals xs its) (hz : xs.length ≤ sizeLine) :
    Inv X pins σ (upd H st.heap.objs.size (.frz (tupO its.toArray) (.tup xs))) { st with heap := st.heap.push (tupO its.toArray) } := by
  refine inv.laid (t' := st.toks) (o := .frz (tupO its.toArray) (.tup xs)) (fun _ _ e => Heap.get?_push_of_some _ e) (Nat.le_refl _) ?_
  exact ⟨Heap.get?_push_size _ rfl, hz, its, rv, ⟨_, Heap.get?_push_size _ rfl, rfl, _, rfl⟩⟩
theorem endT {pins : List (Addr × Obj)} {σ : L2.St} {H : Hp} {st : Shared} {Q : VK} (inv : Inv X pins σ H st) {xs : List V} {its : List Value} (rv : Vals xs its) (hz : xs.length ≤ sizeLine) (q : NewT H xs Q) :
    EP X pins σ Q (.ref st.heap.objs.size) { st with heap := st.heap.push (tupO its.toArray) } :=
  ⟨.ref st.heap.objs.size, _, laidT inv rv hz, rfl, q _ _ rfl (inv.hok.fresh (Nat.le_refl _))⟩
/-- t + u -/
def rCatF (K : PySem.W.Frag) : R2 := fun x y H Q => ∃ a b xs ys, (x = .ref a ∧ y = .ref b) ∧ (SqT K H a xs ∧ SqT K H b ys) ∧ xs.length + ys.length ≤ sizeLine ∧ (xs = [] → Q (.ref b) H) ∧ (xs ≠ [] → ys = [] → Q (.ref a) H) ∧ (xs ≠ [] → ys ≠ [] → NewT H (xs ++ ys) Q)
theorem op_catF : OpR X (binaryOp .Add) (rCatF X.K) := by
  intro pins st σ H x y v u Q inv rx ry want
  obtain ⟨a, b, xs, ys, ⟨rfl, rfl⟩, ⟨ha, hb⟩, hz, w0, w1, w2⟩ := want
  cases rx
  cases ry
  obtain ⟨i1, v1, t1, z1⟩ := inv.tuple ha
  obtain ⟨i2, v2, t2, z2⟩ := inv.tuple hb
  by_cases hx : xs = []
  · subst hx
    cases v1
    exact cat_tup0 t1 t2 ⟨.ref b, H, inv, rfl, w0 rfl⟩
  · refine HT.cat_tup t1 t2 (fun e => hx (v1.nil_iff.mp e)) (fun e => ⟨.ref a, H, inv, rfl, w1 hx (v2.nil_iff.mp e)⟩) (fun e => ?_) (by rw [← v1.length, ← v2.length]; exact hz)
    exact endT inv (v1.append v2) (by rw [List.length_append]; exact hz) (w2 hx fun w => e (v2.nil_iff.mpr w))
/-- t[lo:hi] -/
def rSlF (K : PySem.W.Frag) : V → Option Int → Option Int → Hp → VK → Prop := fun x lo hi H Q => ∃ a xs, x = .ref a ∧ SqT K H a xs ∧ ((HT.sIx xs.length 0 lo = 0 ∧ HT.sIx xs.length xs.length hi = xs.length) → Q (.ref a) H) ∧ (¬ (HT.sIx xs.length 0 lo = 0 ∧ HT.sIx xs.length xs.length hi = xs.length) → NewT H (cutV xs lo hi) Q)
theorem sl_tupF : SlR X (rSlF X.K) := by
  intro pins st σ H x v vl vu lo hi sl Q inv rx hs pl pu want
  obtain ⟨a, xs, rfl, hx, w1, w2⟩ := want
  cases rx
  obtain ⟨its, rv, tp, zz⟩ := inv.tuple hx
  have eL : its.toArray.size = xs.length := by rw [List.size_toArray]; exact rv.length.symm
  refine ⟨"tuple", _, PyProof.Rows.slot_tuple_getitem.lookup, tp.typeIs, ?_⟩
  by_cases hw : HT.sIx xs.length 0 lo = 0 ∧ HT.sIx xs.length xs.length hi = xs.length
  · exact getItem_tuple_whole tp hs pl pu (by rw [eL]; exact hw) ⟨.ref a, H, inv, rfl, w1 hw⟩
  · refine HT.getItem_tuple_cut tp hs pl pu (by rw [eL]; exact hw) ?_ (by rw [eL]; exact zz)
    rw [eL]
    exact endT inv ((rv.drop _).take _) (Nat.le_trans (cutV_length xs lo hi) zz) (w2 hw)
/-- (a, b, ..) -/
def tTupF (t : TA) : TE := fun σ H Q => t σ H fun xs H1 => xs.length ≤ sizeLine ∧ NewT H1 xs Q
theorem pe_tupF {es : List Expr} {t : TA} {k : Nat} {pos : Pos} (h : PA X es t) : PE X (.Tuple es k pos) (tTupF t) := by
  refine ⟨fun pins st σ H Q inv want => ?_⟩
  refine wpAny_Tuple_spliced (thn (h.run pos pins st σ H _ inv want) fun us s1 ⟨xs, H1, I1, rv, zz, w1⟩ => ⟨by rw [← rv.length]; exact zz, ?_⟩)
  exact endT I1 rv zz w1
/-- tuple(xs) -/
theorem call_tupleF : CallR X (.type "tuple") (fun xs H Q => ∃ p ys, xs = [.ref p] ∧ ((SqL X.K H p ys ∧ NewT H ys Q) ∨ (SqT X.K H p ys ∧ Q (.ref p) H))) := by
  intro pins st σ H xs us Q inv rv want
  obtain ⟨p, ys, rfl, want⟩ := want
  obtain ⟨u, rfl, ru⟩ := rv.one
  cases ru
  rcases want with ⟨hq, w⟩ | ⟨hq, w⟩
  · obtain ⟨its, r2, pl, zz⟩ := inv.list hq
    have eL := r2.length
    refine call_tuple_list pl.isList (fun hp keep => ?_) (by simp only [List.size_toArray] <;> omega)
    exact endT (st := { st with heap := hp }) (inv.kept (t' := st.toks) keep) r2 zz w
  · obtain ⟨its, r2, pl, zz⟩ := inv.tuple hq
    exact call_tuple_same pl ⟨.ref p, H, inv, rfl, w⟩
end
end Z
end
section
/-! Z3: the operations keep their promises. -/
namespace Z
open PySem PySem.Spec PyProof.Rows L2
section
variable {X : Cx}
theorem Inv.lstR {pins : List (Addr × Obj)} {σ : L2.St} {H : Hp} {s : Shared} {l : Addr} {xs : List V} (I : Inv X pins σ H s) (hH : Rd H l (.lst xs)) : xs.length ≤ sizeLine ∧ ∃ (its : List Value) (n : Nat), Vals xs its ∧ xs.length = its.length ∧ s.heap.get? l = some { cls := .type "list", data := .seq its.toArray n } := by
  obtain ⟨z, its, n, r, e⟩ := hH.ok I.hok
  exact ⟨z, its, n, r, r.length, e⟩
/-! ### + -/
def rCatR : R2 := fun x y H Q => ∃ l b xs zs, x = .ref l ∧ y = .ref b ∧ Rd H l (.lst xs) ∧ Rd H b (.lst zs) ∧ xs.length + zs.length ≤ sizeLine ∧ ∀ p, H p = none → Q (.ref p) (upd H p (.lst (xs ++ zs)))
theorem op_catR : OpR X (binaryOp .Add) rCatR := by
  intro pins s σ H x y v u Q I rx ry h
  obtain ⟨l, b, xs, zs, rfl, rfl, hH, hB, hz, q⟩ := h
  cases rx
  cases ry
  obtain ⟨z, its, n, r, hl, e⟩ := Inv.lstR I hH
  obtain ⟨z2, its2, n2, r2, hl2, e2⟩ := Inv.lstR I hB
  refine PySem.P.add_list e e2 ?_ (by rw [List.size_toArray, List.size_toArray]; omega)
  have ea : its.toArray ++ its2.toArray = (its ++ its2).toArray := by simp
  rw [ea]
  exact ⟨.ref _, _, I.lnew (t' := s.toks) (r.append r2) (by rw [List.length_append]; omega), rfl, q _ I.fresh⟩
def rAddA (K : PySem.W.Frag) : R2 := fun x y H Q => (∃ i j, x = .int i ∧ y = .int j ∧ Q (.int (i + j)) H) ∨ ((∃ i j, x = .str i ∧ y = .str j ∧ i.length + j.length ≤ sizeLine ∧ Q (.str (i ++ j)) H) ∨ (rCatR x y H Q ∨ rCatF K x y H Q))
theorem or_add : OpR X (binaryOp .Add) (rAddA X.K) := op_add.or (op_add_str.or (op_catR.or op_catF))
theorem od_add {K : PySem.W.Frag} : OpD K (rAddA K) (binD .add) := by
  intro W σ R H x y dx dy Q s hx hy h
  cases hx with
  | int i => cases hy with
    | int j => exact .inl ⟨i, j, rfl, rfl, h.val s (.int _)⟩
    | _ => exact False.elim h
  | str i => cases hy with
    | str j =>
      obtain ⟨g, h⟩ := h.guard
      exact .inr (.inl ⟨i, j, rfl, rfl, of_decide_eq_true g, h.val s (.str _)⟩)
    | _ => exact False.elim h
  | lst hl ha => cases hy with
    | lst hm hb =>
      obtain ⟨g, h⟩ := h.guard
      have g := of_decide_eq_true g
      refine .inr (.inr (.inl ⟨_, _, _, _, rfl, rfl, Rd.mono s hl, Rd.mono s hm, by rw [ha.length, hb.length]; exact g, fun p n => h.newL s (ha.append hb) n⟩))
    | _ => exact False.elim h
  | tup hl ha => cases hy with
    | tup hm hb =>
      obtain ⟨g, h⟩ := h.guard
      have g := of_decide_eq_true g
      refine .inr (.inr (.inr ⟨_, _, _, _, ⟨rfl, rfl⟩, ⟨hl.sqm s, hm.sqm s⟩, by rw [ha.length, hb.length]; exact g, fun e => ?_, fun e1 e2 => ?_, fun _ _ p o ho n => h.newT s (ha.append hb) ho n⟩))
      · subst e
        cases ha
        exact h.val s (.tup hm hb)
      · subst e2
        cases hb
        rw [List.append_nil] at h
        exact h.val s (.tup hl ha)
    | _ => exact False.elim h
  | _ => exact False.elim h
/-! ### -, //, % -/
theorem od_sub {K : PySem.W.Frag} : OpD K (rI0 fun i j => .int (i - j)) (binD .sub) := by
  intro W σ R H x y dx dy Q s hx hy h
  cases hx with
  | int i => cases hy with
    | int j => exact ⟨i, j, rfl, rfl, h.val s (.int _)⟩
    | _ => exact False.elim h
  | _ => exact False.elim h
theorem od_div {K : PySem.W.Frag} : OpD K (rI CDiv fun i j => .int (i / j)) (binD .div) := by
  intro W σ R H x y dx dy Q s hx hy h
  cases hx with
  | int i => cases hy with
    | int j =>
      obtain ⟨g, h⟩ := h.guard
      have g : 0 < j ∧ j < 1073741824 := of_decide_eq_true g
      exact ⟨i, j, rfl, rfl, g, h.val s (.int _)⟩
    | _ => exact False.elim h
  | _ => exact False.elim h
theorem od_mod {K : PySem.W.Frag} : OpD K (rI (fun _ j => 0 < j) fun i j => .int (i % j)) (binD .mod) := by
  intro W σ R H x y dx dy Q s hx hy h
  cases hx with
  | int i => cases hy with
    | int j =>
      obtain ⟨g, h⟩ := h.guard
      exact ⟨i, j, rfl, rfl, of_decide_eq_true g, h.val s (.int _)⟩
    | _ => exact False.elim h
  | _ => exact False.elim h
/-! ### * -/
def rRepR : R2 := fun x y H Q => ∃ l k xs, x = .ref l ∧ y = .int k ∧ Rd H l (.lst xs) ∧ -(2 ^ 63) ≤ k ∧ k < 2 ^ 63 ∧ xs.length * k.toNat ≤ sizeLine ∧
  ∀ p, H p = none → Q (.ref p) (upd H p (.lst (List.replicate k.toNat xs).flatten))
theorem op_repR : OpR X (binaryOp .Mult) rRepR := by
  intro pins s σ H x y v u Q I rx ry h
  obtain ⟨l, k, xs, rfl, rfl, hH, h1, h2, hz, q⟩ := h
  cases rx
  obtain ⟨t, rfl⟩ := ry
  obtain ⟨z, its, n, r, hl, e⟩ := Inv.lstR I hH
  have hlen : its.toArray.size * k.toNat ≤ sizeLine := by rw [List.size_toArray, ← hl]; exact hz
  have hcap : ¬ its.toArray.size * k.toNat > (2 ^ 63 - 1) / 8 := by
    have : (sizeLine : Nat) ≤ (2 ^ 63 - 1) / 8 := by decide
    omega
  have hfit : ¬ (!Builtin.List.listFitsIndex k) = true := by
    rw [fitsIndex_both h1 h2]
    exact Bool.false_ne_true
  have hlong : ¬ Builtin.List.listTooLong (its.toArray.size * k.toNat) = true := by
    rw [notLongL hlen]
    exact Bool.false_ne_true
  have hnew : List.foldl (fun x1 x2 => x1 ++ x2) #[] (List.replicate (if its.toArray.isEmpty = true then 0 else k.toNat) its.toArray) = (List.replicate k.toNat its).flatten.toArray := by
    have f0 : ∀ m : Nat, List.foldl (fun x1 x2 => x1 ++ x2) #[] (List.replicate m its.toArray) = (List.replicate m its).flatten.toArray := fun m => by
      have := foldl_rep its m []
      rw [List.nil_append] at this
      exact this
    rw [f0]
    cases its with
    | nil => simp
    | cons a r' => rw [if_neg (by simp)]
  refine wpAny_binaryOp_repeat_ref (T := "list") (U := "int") (by decide) ⟨_, e, rfl⟩ (fun s' => typeIs_int s' k t) noFill_list_mul F.fills_int_mul F.slot_int_rmul repeat_list F.slot_int_index.lookup
    (call_meets F.slot_int_rmul (typeIs_int s k t) F.entry_int_rmul (F.args_int_rmul_2 _ _) (int___rmul___int_list k t l its.toArray n)
      ⟨e, rfl, ⟨_, e, rfl⟩, call_meets F.slot_list_mul ⟨_, e, rfl⟩ F.entry_list_mul (F.args_list_mul_2 _ _) (AutoListH.list___mul___list_int_3 l its.toArray n k t hfit hcap hlong) ⟨e, ?_⟩⟩)
  rw [hnew]
  exact ⟨.ref _, _, I.lnew (t' := s.toks) (r.rep k.toNat) (by rw [PyProof.Rows.lm_len_rep_flat, Nat.mul_comm]; exact hz), rfl, q _ I.fresh⟩
/-- a tuple times one, or an empty one: itself -/
theorem tuple_mul1 (l : Addr) (items : Array Value) (n : Nat) (sl : Array (Option Value)) (dd : Option Addr) (x : Int) (u : Tok) (c0 : (decide (x < -(2 ^ 63)) || decide (x ≥ 2 ^ 63)) = false) (c1 : (items.isEmpty || x == 1) = true) :
    Meets (Builtin.«tuple.__mul__» ⟨[.ref l, .int x u], []⟩) (fun _ R s => s.heap.get? l = some { cls := .type "tuple", dict := dd, data := .seq items n, slots := sl } ∧ R (.ok (.ret (Value.ref l))) s) :=
  .of_wp fun prog w A R s h => by
    obtain ⟨hp, g, d, tk, os⟩ := s
    obtain ⟨hl, h⟩ := h
    have f1 := AutoSeq1.idx_int
    wp_walk using wpAny_loadPart' hl
    repeat (first
      | (refine wpAny_ite_false (decide_eq_false (by rw [c0]; exact Bool.false_ne_true)) ?_; wp_walk using wpAny_loadPart' hl)
      | (refine wpAny_ite_true (decide_eq_true c1) ?_; wp_walk using wpAny_loadPart' hl))
    exact ⟨_, rfl, h⟩
theorem tuple_mul0 (l : Addr) (items : Array Value) (n : Nat) (sl : Array (Option Value)) (dd : Option Addr) (x : Int) (u : Tok) (c0 : (decide (x < -(2 ^ 63)) || decide (x ≥ 2 ^ 63)) = false) (c1 : (items.isEmpty || x == 1) = false) (c2 : (decide (x ≤ 0) || items.isEmpty) = true) :
    Meets (Builtin.«tuple.__mul__» ⟨[.ref l, .int x u], []⟩) (fun _ R s => s.heap.get? l = some { cls := .type "tuple", dict := dd, data := .seq items n, slots := sl } ∧
      R (.ok (.ret (Value.ref s.heap.objs.size))) { s with heap := s.heap.push { cls := Value.type "tuple", data := Data.seq #[] }, toks := s.toks }) :=
  .of_wp fun prog w A R s h => by
    obtain ⟨hp, g, d, tk, os⟩ := s
    obtain ⟨hl, h⟩ := h
    have f1 := AutoSeq1.idx_int
    wp_walk using wpAny_loadPart' hl
    repeat (first
      | (refine wpAny_ite_false (decide_eq_false (by rw [c0]; exact Bool.false_ne_true)) ?_; wp_walk using wpAny_loadPart' hl)
      | (refine wpAny_ite_false (decide_eq_false (by rw [c1]; exact Bool.false_ne_true)) ?_; wp_walk using wpAny_loadPart' hl)
      | (refine wpAny_ite_true (decide_eq_true c2) ?_; wp_walk using wpAny_loadPart' hl))
    exact ⟨_, rfl, h⟩
def rRepU (K : PySem.W.Frag) : R2 := fun x y H Q => ∃ l k xs, x = .ref l ∧ y = .int k ∧ SqT K H l xs ∧ (xs = [] ∨ k ≤ 1) ∧ -1000000 ≤ k ∧ k ≤ 1000 ∧ ((xs = [] ∨ k = 1) → Q (.ref l) H) ∧ (¬ (xs = [] ∨ k = 1) → NewT H [] Q)
theorem op_repU : OpR X (binaryOp .Mult) (rRepU X.K) := by
  intro pins s σ H x y v u Q I rx ry h
  obtain ⟨l, k, xs, rfl, rfl, hT, hc0, h1, h2, q1, q2⟩ := h
  cases rx
  obtain ⟨t, rfl⟩ := ry
  obtain ⟨its, r, ⟨⟨cls, dd, data, sl⟩, ho, hc, n, hd⟩, hs⟩ := I.tuple hT
  simp only at hc hd
  subst hc hd
  have hle : its.length = xs.length := r.length.symm
  have c0 : (decide (k < -(2 ^ 63)) || decide (k ≥ 2 ^ 63)) = false := by
    rw [decide_eq_false (by omega), decide_eq_false (by omega)] <;> rfl
  have hemp : its.toArray.isEmpty = true ↔ xs = [] := by
    cases its with
    | nil => cases r; simp
    | cons a b =>
      cases r
      simp
  by_cases hq : xs = [] ∨ k = 1
  · have c1 : (its.toArray.isEmpty || k == 1) = true := by
      rcases hq with z | z
      · rw [hemp.mpr z, Bool.true_or]
      · rw [z]; simp
    refine wpAny_binaryOp_repeat_ref (T := "tuple") (U := "int") (by decide) ⟨_, ho, rfl⟩ (fun s' => typeIs_int s' k t) noFill_tuple_mul F.fills_int_mul F.slot_int_rmul repeat_tuple F.slot_int_index.lookup
      (call_meets F.slot_int_rmul (typeIs_int s k t) F.entry_int_rmul (F.args_int_rmul_2 _ _) (int_rmul_tuple k t l its.toArray n dd sl)
        ⟨ho, rfl, ⟨_, ho, rfl⟩, call_meets F.slot_tuple_mul ⟨_, ho, rfl⟩ F.entry_tuple_mul (F.args_tuple_mul_2 _ _) (tuple_mul1 l its.toArray n sl dd k t c0 c1) ⟨ho, ?_⟩⟩)
    exact ⟨.ref l, H, I, rfl, q1 hq⟩
  · have c1 : (its.toArray.isEmpty || k == 1) = false := by
      cases e : its.toArray.isEmpty with
      | true => exact absurd (.inl (hemp.mp e)) hq
      | false => simp; exact fun z => hq (.inr z)
    have c2 : (decide (k ≤ 0) || its.toArray.isEmpty) = true := by
      have : k ≤ 0 := by
        rcases hc0 with z | z
        · exact absurd (.inl z) hq
        · have : k ≠ 1 := fun z => hq (.inr z)
          omega
      rw [decide_eq_true this, Bool.true_or]
    refine wpAny_binaryOp_repeat_ref (T := "tuple") (U := "int") (by decide) ⟨_, ho, rfl⟩ (fun s' => typeIs_int s' k t) noFill_tuple_mul F.fills_int_mul F.slot_int_rmul repeat_tuple F.slot_int_index.lookup
      (call_meets F.slot_int_rmul (typeIs_int s k t) F.entry_int_rmul (F.args_int_rmul_2 _ _) (int_rmul_tuple k t l its.toArray n dd sl)
        ⟨ho, rfl, ⟨_, ho, rfl⟩, call_meets F.slot_tuple_mul ⟨_, ho, rfl⟩ F.entry_tuple_mul (F.args_tuple_mul_2 _ _) (tuple_mul0 l its.toArray n sl dd k t c0 c1 c2) ⟨ho, ?_⟩⟩)
    exact endT I (its := []) .nil (Nat.zero_le _) (q2 hq)
/-- a tuple times two or more -/
def rRepF (K : PySem.W.Frag) : R2 := fun x y H Q => ∃ l k xs, (x = .ref l ∧ y = .int k) ∧ SqT K H l xs ∧ xs ≠ [] ∧ 2 ≤ k ∧ k ≤ 1000 ∧ xs.length ≤ 1000 ∧ NewT H (List.replicate k.toNat xs).flatten Q
theorem op_repF : OpR X (binaryOp .Mult) (rRepF X.K) := by
  intro pins st σ H x y v u Q inv rx ry want
  obtain ⟨l, k, xs, ⟨rfl, rfl⟩, hT, hne, k1, k2, hz, w⟩ := want
  cases rx
  obtain ⟨t, rfl⟩ := ry
  obtain ⟨its, rv, ⟨⟨cls, dd, data, sl⟩, ho, hcl, n, hdt⟩, hs⟩ := inv.tuple hT
  have hcl : cls = .type "tuple" := hcl
  have hdt : data = .seq its.toArray n := hdt
  subst hcl hdt
  have eL : its.length = xs.length := rv.length.symm
  have emp : its.toArray.isEmpty = false := by
    cases its with
    | nil => cases rv; exact absurd rfl hne
    | cons a b => rfl
  have sz : its.toArray.size = xs.length := by rw [List.size_toArray, eL]
  have pr : ((its.toArray.size : Nat) : Int) * k ≤ 1000000 := by
    rw [sz]
    have := Int.mul_le_mul_of_nonneg_right (show ((xs.length : Nat) : Int) ≤ 1000 by omega) (show 0 ≤ k by omega)
    omega
  have pn : k.toNat * xs.length ≤ 1000 * 1000 := Nat.mul_le_mul (by omega) hz
  have d0 : (decide (k < -(2 ^ 63)) || decide (k ≥ 2 ^ 63)) = false := by
    rw [decide_eq_false (by omega), decide_eq_false (by omega)] <;> rfl
  have d1 : (its.toArray.isEmpty || k == 1) = false := by rw [emp, Bool.false_or, beq_eq_false_iff_ne.mpr (by omega)]
  have d2 : (decide (k ≤ 0) || its.toArray.isEmpty) = false := by rw [emp, Bool.or_false, decide_eq_false (by omega)]
  have d4 : Builtin.Tuple.tupleTooMany (((its.toArray.size : Nat) : Int) * k) = false := by
    unfold Builtin.Tuple.tupleTooMany
    rw [sizeLine_eq, decide_eq_false (by omega)]
  have fl : (List.replicate k.toNat its).flatten.length ≤ sizeLine := by
    rw [PyProof.Rows.lm_len_rep_flat, eL, sizeLine_eq]; omega
  have fl2 : (List.replicate k.toNat xs).flatten.length ≤ sizeLine := by
    rw [PyProof.Rows.lm_len_rep_flat, sizeLine_eq]; omega
  refine wpAny_binaryOp_repeat_ref (T := "tuple") (U := "int") (by decide) ⟨_, ho, rfl⟩ (fun z => typeIs_int z k t) noFill_tuple_mul F.fills_int_mul F.slot_int_rmul repeat_tuple F.slot_int_index.lookup
    (call_meets F.slot_int_rmul (typeIs_int st k t) F.entry_int_rmul (F.args_int_rmul_2 _ _) (int_rmul_tuple k t l its.toArray n dd sl)
      ⟨ho, rfl, ⟨_, ho, rfl⟩, call_meets F.slot_tuple_mul ⟨_, ho, rfl⟩ F.entry_tuple_mul (F.args_tuple_mul_2 _ _) (tuple_mulW l its.toArray n dd sl k t d0 d1 d2 (by omega) d4 (by rw [size_rep, List.size_toArray]; exact fl)) ⟨ho, ?_⟩⟩)
  rw [size_rep]
  exact endT inv (rv.rep k.toNat) fl2 w
/-- a text twice -/
def rTwice : R2 := fun x y H Q => ∃ z : Str, x = .str z ∧ y = .int 2 ∧ (1 ≤ z.length ∧ z.length ≤ 1000) ∧ Q (.str (z ++ z)) H
theorem op_twice : OpR X (binaryOp .Mult) rTwice := by
  intro pins s σ H x y v u Q I rx ry h
  obtain ⟨z, rfl, rfl, ⟨z1, z2⟩, q⟩ := h
  obtain ⟨t, rfl⟩ := rx
  obtain ⟨t', rfl⟩ := ry
  have e : (⟨(List.replicate (2 : Int).toNat z.cps).foldl (· ++ ·) #[]⟩ : Str) = z ++ z := by
    show (⟨(#[] ++ z.cps) ++ z.cps⟩ : Str) = ⟨z.cps ++ z.cps⟩
    rw [Array.empty_append]
  refine PySem.P.mul_str (by decide) (fun _ _ => by omega) (fun _ _ => ?_) ?_
  · unfold Builtin.Str.tooLong
    exact decide_eq_false (by rw [sizeLine_eq]; show ¬ z.length * 2 > _; omega)
  · rw [if_neg (by decide), if_neg (by
      have : (z.length == 0) = false := by simp; omega
      rw [this]; decide), e]
    refine ⟨by
      have : (z ++ z).length = z.length + z.length := PySem.Str.length_append z z
      rw [sizeLine_eq]; omega, ?_⟩
    exact ⟨.str (z ++ z), H, I.tok _, ⟨_, rfl⟩, q⟩
def rMulA (K : PySem.W.Frag) : R2 := fun x y H Q => (∃ i j, x = .int i ∧ y = .int j ∧ CMul i j ∧ Q (.int (i * j)) H) ∨ (rRepR x y H Q ∨ (rRepF K x y H Q ∨ (rRepU K x y H Q ∨ rTwice x y H Q)))
theorem or_mul : OpR X (binaryOp .Mult) (rMulA X.K) := op_mul.or (op_repR.or (op_repF.or (op_repU.or op_twice)))
theorem small64_of {i : Int} (h : small64 i = true) : -(2 ^ 64) < i ∧ i < 2 ^ 64 := of_decide_eq_true h
theorem od_mul {K : PySem.W.Frag} : OpD K (rMulA K) (binD .mul) := by
  intro W σ R H x y dx dy Q s hx hy h
  cases hx with
  | int i => cases hy with
    | int j =>
      obtain ⟨g, h⟩ := h.guard
      refine .inl ⟨i, j, rfl, rfl, ?_, h.val s (.int _)⟩
      rcases (Bool.or_eq_true _ _).mp g with z | z
      · exact .inl (small64_of z)
      · exact .inr (small64_of z)
    | _ => exact False.elim h
  | lst hl ha => cases hy with
    | int k =>
      obtain ⟨g, h⟩ := h.guard
      obtain ⟨g1, g2⟩ := (Bool.and_eq_true _ _).mp g
      have g1 := of_decide_eq_true g1
      have g2 := of_decide_eq_true g2
      refine .inr (.inl ⟨_, k, _, rfl, rfl, Rd.mono s hl, by omega, by omega, by rw [ha.length]; exact g2, fun p n => h.newL s (ha.rep _) n⟩)
    | _ => exact False.elim h
  | tup hl ha => cases hy with
    | int k =>
      rename_i a xs ds
      obtain ⟨g, h⟩ := h.guard
      obtain ⟨g12, g3⟩ := (Bool.and_eq_true _ _).mp g
      obtain ⟨g1, g2⟩ := (Bool.and_eq_true _ _).mp g12
      have g1 := of_decide_eq_true g1
      have g2 := of_decide_eq_true g2
      have g3 := of_decide_eq_true g3
      by_cases hc : xs = [] ∨ k ≤ 1
      · refine .inr (.inr (.inr (.inl ⟨_, k, xs, rfl, rfl, hl.sqm s, hc, g2, g1, fun hq => ?_, fun hq p o ho n => ?_⟩)))
        · refine h.val s ?_
          have e : repL k ds = ds := by
            rcases hq with z | z
            · subst z
              cases ha
              simp [repL]
            · subst z
              simp [repL]
          rw [e]
          exact .tup hl ha
        · have e : repL k ds = [] := by
            have : k ≠ 1 := fun z => hq (.inr z)
            have : k.toNat = 0 := by
              rcases hc with z | z
              · exact absurd (.inl z) hq
              · omega
            simp [repL, this]
          rw [e] at h
          exact h.newT s .nil ho n
      · refine .inr (.inr (.inl ⟨_, k, xs, ⟨rfl, rfl⟩, hl.sqm s, fun z => hc (.inl z), ?_, g1, by rw [ha.length]; exact g3, fun p o ho n => h.newT s (ha.rep _) ho n⟩))
        have : ¬ k ≤ 1 := fun z => hc (.inr z)
        omega
    | _ => exact False.elim h
  | str z => cases hy with
    | int k =>
      obtain ⟨g, hh⟩ := h.guard
      obtain ⟨g1, g2⟩ := (Bool.and_eq_true _ _).mp g
      have g1 : k = 2 := of_decide_eq_true g1
      exact .inr (.inr (.inr (.inr ⟨z, rfl, by rw [g1], of_decide_eq_true g2, hh.val s (.str _)⟩)))
    | _ => exact False.elim h
  | _ => exact False.elim h
/-! ### comparisons -/
theorem Dn.dpH {K : PySem.W.Frag} {R H : Hp} {v : V} {d : PyData} (s : Same R H) (h : Dn K R v d) (l : d.canLay0 = true) : Dp K H v d := Dn.dp _ _ l (Dn.mono s _ _ h)
theorem inOk_l {xs : List PyData} {d : PyData} (h : inOk xs d = true) : PyData.canLayAll0 xs = true ∧ d.canLay0 = true := by
  unfold inOk at h
  obtain ⟨h1, h2⟩ := (Bool.and_eq_true _ _).mp h
  exact (Bool.and_eq_true _ _).mp h1
theorem layLd {xs : List PyData} (h : PyData.canLayAll0 xs = true) : (PyData.list xs).canLay0 = true := h
theorem layTd {xs : List PyData} (h : PyData.canLayAll0 xs = true) : (PyData.tuple xs).canLay0 = true := h
def rEqE (K : PySem.W.Frag) (ne : Bool) : R2 := fun x y H Q => ∃ d e, Dp K H x d ∧ Dp K H y e ∧ eqOk d e = true ∧ Q (.bl (if ne then !PyData.eqv d e else PyData.eqv d e)) H
theorem eqOk_ {d e : PyData} (h : eqOk d e = true) : d.canLay0 = true ∧ e.canLay0 = true ∧ min d.depth e.depth ≤ 64 := by
  unfold eqOk at h
  obtain ⟨h1, h2⟩ := (Bool.and_eq_true _ _).mp h
  obtain ⟨h3, h4⟩ := (Bool.and_eq_true _ _).mp h1
  exact ⟨h3, h4, of_decide_eq_true h2⟩
theorem or_eq (hu : X.A.units + 64 < cLine) : OpR X (compareOp .Eq) (rEqE X.K false) := by
  intro pins s σ H x y v u Q I rx ry h
  obtain ⟨d, e, hd, he, ok, q⟩ := h
  obtain ⟨o1, o2, o3⟩ := eqOk_ ok
  obtain ⟨as, r1⟩ := Dp.reads I d x v hd rx
  obtain ⟨bs, r2⟩ := Dp.reads I e y u he ry
  exact SeqAt.compareEq_reads r1 r2 o1 o2 (by omega) ⟨.bl _, H, I, rfl, q⟩
theorem or_ne (hu : X.A.units + 64 < cLine) : OpR X (compareOp .NotEq) (rEqE X.K true) := by
  intro pins s σ H x y v u Q I rx ry h
  obtain ⟨d, e, hd, he, ok, q⟩ := h
  obtain ⟨o1, o2, o3⟩ := eqOk_ ok
  obtain ⟨as, r1⟩ := Dp.reads I d x v hd rx
  obtain ⟨bs, r2⟩ := Dp.reads I e y u he ry
  exact SeqAt.compareNe_reads r1 r2 o1 o2 (by omega) ⟨.bl _, H, I, rfl, q⟩
theorem od_eq {K : PySem.W.Frag} : OpD K (rEqE K false) (cmpD .eq) := by
  intro W σ R H x y dx dy Q s hx hy h
  have h : WantG K W σ (denV K) R H (guardR (eqOk dx dy) (.bool (PyData.eqv dx dy))) Q := h
  obtain ⟨g, h⟩ := h.guard
  exact ⟨dx, dy, Dn.dpH s hx (eqOk_ g).1, Dn.dpH s hy (eqOk_ g).2.1, g, h.val s (.bl _)⟩
theorem od_ne {K : PySem.W.Frag} : OpD K (rEqE K true) (cmpD .ne) := by
  intro W σ R H x y dx dy Q s hx hy h
  have h : WantG K W σ (denV K) R H (guardR (eqOk dx dy) (.bool (!PyData.eqv dx dy))) Q := h
  obtain ⟨g, h⟩ := h.guard
  exact ⟨dx, dy, Dn.dpH s hx (eqOk_ g).1, Dn.dpH s hy (eqOk_ g).2.1, g, h.val s (.bl _)⟩
theorem od_lt {K : PySem.W.Frag} : OpD K (rI0 fun i j => .bl (decide (i < j))) (cmpD .lt) := by
  intro W σ R H x y dx dy Q s hx hy h
  cases hx with
  | int i => cases hy with
    | int j => exact ⟨i, j, rfl, rfl, h.val s (.bl _)⟩
    | _ => exact False.elim h
  | _ => exact False.elim h
theorem od_le {K : PySem.W.Frag} : OpD K (rI0 fun i j => .bl (decide (i ≤ j))) (cmpD .le) := by
  intro W σ R H x y dx dy Q s hx hy h
  cases hx with
  | int i => cases hy with
    | int j => exact ⟨i, j, rfl, rfl, h.val s (.bl _)⟩
    | _ => exact False.elim h
  | _ => exact False.elim h
theorem od_gt {K : PySem.W.Frag} : OpD K (rI0 fun i j => .bl (decide (j < i))) (cmpD .gt) := by
  intro W σ R H x y dx dy Q s hx hy h
  cases hx with
  | int i => cases hy with
    | int j => exact ⟨i, j, rfl, rfl, h.val s (.bl _)⟩
    | _ => exact False.elim h
  | _ => exact False.elim h
theorem od_ge {K : PySem.W.Frag} : OpD K (rI0 fun i j => .bl (decide (j ≤ i))) (cmpD .ge) := by
  intro W σ R H x y dx dy Q s hx hy h
  cases hx with
  | int i => cases hy with
    | int j => exact ⟨i, j, rfl, rfl, h.val s (.bl _)⟩
    | _ => exact False.elim h
  | _ => exact False.elim h
/-- is True, is False -/
def rIsP : R2 := fun x y H Q => ∃ b : Bool, y = .bl b ∧ ((∃ a, x = .bl a ∧ Q (.bl (decide (a = b))) H) ∨ ((x = .non ∨ (∃ i, x = .int i) ∨ ∃ z, x = .str z) ∧ Q (.bl false) H))
theorem op_isP {X : Cx} : OpR X (compareOp .Is) rIsP := by
  intro pins s σ H x y v u Q I rx ry h
  obtain ⟨b, rfl, h⟩ := h
  cases (show u = Value.bool b from ry)
  rcases h with ⟨a, rfl, q⟩ | ⟨h, q⟩
  · cases (show v = Value.bool a from rx)
    by_cases e : a = b
    · subst e
      exact wpAny_is_self rfl ⟨.bl true, H, I, rfl, by simpa using q⟩
    · exact wpAny_is_other rfl (fun z => e (Value.bool.inj z)) ⟨.bl false, H, I, rfl, by simpa [e] using q⟩
  · rcases h with rfl | ⟨i, rfl⟩ | ⟨z, rfl⟩
    · cases rx
      exact wpAny_is_other rfl (fun z => nomatch z) ⟨.bl false, H, I, rfl, q⟩
    · obtain ⟨t, rfl⟩ := rx
      exact wpAny_is_other rfl (fun z => nomatch z) ⟨.bl false, H, I, rfl, q⟩
    · obtain ⟨t, rfl⟩ := rx
      exact wpAny_is_other rfl (fun z => nomatch z) ⟨.bl false, H, I, rfl, q⟩
theorem od_is {K : PySem.W.Frag} : OpD K (fun x y H Q => (y = .non ∧ Q (.bl (decide (x = .non))) H) ∨ rIsP x y H Q) (cmpD .is) := by
  intro W σ R H x y dx dy Q s hx hy h
  cases hy with
  | non =>
    refine .inl ⟨rfl, ?_⟩
    cases hx <;> exact h.val s (.bl _)
  | bl b =>
    cases hx with
    | bl a => exact .inr ⟨b, rfl, .inl ⟨a, rfl, h.val s (.bl _)⟩⟩
    | non => exact .inr ⟨b, rfl, .inr ⟨.inl rfl, h.val s (.bl _)⟩⟩
    | int i => exact .inr ⟨b, rfl, .inr ⟨.inr (.inl ⟨i, rfl⟩), h.val s (.bl _)⟩⟩
    | str z => exact .inr ⟨b, rfl, .inr ⟨.inr (.inr ⟨z, rfl⟩), h.val s (.bl _)⟩⟩
    | _ => exact False.elim h
  | _ => cases hx <;> exact False.elim h
theorem od_isnot {K : PySem.W.Frag} : OpD K (fun x y H Q => y = .non ∧ Q (.bl (!decide (x = .non))) H) (cmpD .isnot) := by
  intro W σ R H x y dx dy Q s hx hy h
  cases hy with
  | non =>
    refine ⟨rfl, ?_⟩
    cases hx <;> exact h.val s (.bl _)
  | _ => cases hx <;> exact False.elim h
def rInE (K : PySem.W.Frag) (neg : Bool) : R2 := fun x y H Q => ∃ d ds, Dp K H x d ∧ (Dp K H y (.list ds) ∨ Dp K H y (.tuple ds)) ∧ inOk ds d = true ∧ Q (.bl (if neg then !(ds.any fun z => PyData.eqv z d) else ds.any fun z => PyData.eqv z d)) H
theorem inOk_ {ds : List PyData} {d : PyData} (h : inOk ds d = true) : PyData.canLayAll0 ds = true ∧ d.canLay0 = true ∧ d.depth ≤ 64 := by
  unfold inOk at h
  obtain ⟨h1, h2⟩ := (Bool.and_eq_true _ _).mp h
  obtain ⟨h3, h4⟩ := (Bool.and_eq_true _ _).mp h1
  exact ⟨h3, h4, of_decide_eq_true h2⟩
theorem or_in (hu : X.A.units + 65 < cLine) : OpR X (compareOp .In) (rInE X.K false) := by
  intro pins s σ H x y v u Q I rx ry h
  obtain ⟨d, ds, hd, he, ok, q⟩ := h
  obtain ⟨o1, o2, o3⟩ := inOk_ ok
  obtain ⟨as, r1⟩ := Dp.reads I d x v hd rx
  have room : X.A.units + 1 + min (PyData.depthAll ds) d.depth < cLine := by have := Nat.min_le_right (PyData.depthAll ds) d.depth; omega
  rcases he with he | he
  · obtain ⟨bs, r2⟩ := Dp.reads I (.list ds) y u he ry
    exact SeqAt.in_list_reads r2 r1 o1 o2 room ⟨.bl _, H, I, rfl, q⟩
  · obtain ⟨bs, r2⟩ := Dp.reads I (.tuple ds) y u he ry
    exact SeqAt.in_tuple_reads r2 r1 o1 o2 room ⟨.bl _, H, I, rfl, q⟩
theorem or_notin (hu : X.A.units + 65 < cLine) : OpR X (compareOp .NotIn) (rInE X.K true) := by
  intro pins s σ H x y v u Q I rx ry h
  obtain ⟨d, ds, hd, he, ok, q⟩ := h
  obtain ⟨o1, o2, o3⟩ := inOk_ ok
  obtain ⟨as, r1⟩ := Dp.reads I d x v hd rx
  have room : X.A.units + 1 + min (PyData.depthAll ds) d.depth < cLine := by have := Nat.min_le_right (PyData.depthAll ds) d.depth; omega
  rcases he with he | he
  · obtain ⟨bs, r2⟩ := Dp.reads I (.list ds) y u he ry
    exact SeqAt.notIn_list_reads r2 r1 o1 o2 room ⟨.bl _, H, I, rfl, q⟩
  · obtain ⟨bs, r2⟩ := Dp.reads I (.tuple ds) y u he ry
    exact SeqAt.notIn_tuple_reads r2 r1 o1 o2 room ⟨.bl _, H, I, rfl, q⟩
def rInS (neg : Bool) : R2 := fun x y H Q => ∃ (c : Nat) (z : Str), x = .str ⟨#[c]⟩ ∧ y = .str z ∧ Q (.bl (if neg then !decide (c ∈ z.cps.toList) else decide (c ∈ z.cps.toList))) H
def rInT (neg : Bool) : R2 := fun x y H Q => ∃ i j : Str, x = .str i ∧ y = .str j ∧ Q (.bl (if neg then !inTxt i j else inTxt i j)) H
theorem or_inT : OpR X (compareOp .In) (rInT false) := by
  intro pins s σ H x y v u Q I rx ry h
  obtain ⟨c, z, rfl, rfl, q⟩ := h
  obtain ⟨t, rfl⟩ := rx
  obtain ⟨t', rfl⟩ := ry
  exact PyProof.Rows.in_str ⟨.bl _, H, I, rfl, q⟩
theorem or_notinT : OpR X (compareOp .NotIn) (rInT true) := by
  intro pins s σ H x y v u Q I rx ry h
  obtain ⟨c, z, rfl, rfl, q⟩ := h
  obtain ⟨t, rfl⟩ := rx
  obtain ⟨t', rfl⟩ := ry
  exact PyProof.Rows.notIn_str ⟨.bl _, H, I, rfl, q⟩
def rIn2 (K : PySem.W.Frag) (neg : Bool) : R2 := fun x y H Q => rInE K neg x y H Q ∨ rInS neg x y H Q ∨ rInT neg x y H Q
theorem or_in2 (hu : X.A.units + 65 < cLine) : OpR X (compareOp .In) (rIn2 X.K false) := (or_in hu).or (OpR.or op_in_sign or_inT)
theorem or_notin2 (hu : X.A.units + 65 < cLine) : OpR X (compareOp .NotIn) (rIn2 X.K true) := (or_notin hu).or (OpR.or op_notIn_sign or_notinT)
theorem one_sign {x : Str} {c : Nat} (h : x.cps.toList = [c]) : x = ⟨#[c]⟩ := by
  cases x with
  | mk a =>
    have : a = #[c] := by rw [← Array.toList_inj]; exact h
    rw [this]
theorem od_in {K : PySem.W.Frag} : OpD K (rIn2 K false) (cmpD .isin) := by
  intro W σ R H x y dx dy Q s hx hy h
  cases dy with
  | list ds =>
    have h : WantG K W σ (denV K) R H (guardR (inOk ds dx) (.bool (ds.any fun z => PyData.eqv z dx))) Q := by cases dx <;> exact h
    obtain ⟨g, h⟩ := h.guard
    exact .inl ⟨dx, ds, Dn.dpH s hx (inOk_l g).2, .inl (Dn.dpH s hy (layLd (inOk_l g).1)), g, h.val s (.bl _)⟩
  | tuple ds =>
    have h : WantG K W σ (denV K) R H (guardR (inOk ds dx) (.bool (ds.any fun z => PyData.eqv z dx))) Q := by cases dx <;> exact h
    obtain ⟨g, h⟩ := h.guard
    exact .inl ⟨dx, ds, Dn.dpH s hx (inOk_l g).2, .inr (Dn.dpH s hy (layTd (inOk_l g).1)), g, h.val s (.bl _)⟩
  | str z =>
    cases dx with
    | str x' =>
      cases hx
      cases hy
      have h : WantG K W σ (denV K) R H (match x'.cps.toList with | [c] => .ok (.bool (decide (c ∈ z.cps.toList))) | _ => .ok (.bool (inTxt x' z))) Q := h
      cases q : x'.cps.toList with
      | nil => rw [q] at h; exact .inr (.inr ⟨x', z, rfl, rfl, h.val s (.bl _)⟩)
      | cons c r =>
        cases r with
        | nil =>
          rw [q] at h
          exact .inr (.inl ⟨c, z, by rw [one_sign q], rfl, h.val s (.bl _)⟩)
        | cons _ _ => rw [q] at h; exact .inr (.inr ⟨x', z, rfl, rfl, h.val s (.bl _)⟩)
    | _ => exact False.elim h
  | _ => cases dx <;> exact False.elim h
theorem od_notin {K : PySem.W.Frag} : OpD K (rIn2 K true) (cmpD .notin) := by
  intro W σ R H x y dx dy Q s hx hy h
  cases dy with
  | list ds =>
    have h : WantG K W σ (denV K) R H (guardR (inOk ds dx) (.bool (!ds.any fun z => PyData.eqv z dx))) Q := by cases dx <;> exact h
    obtain ⟨g, h⟩ := h.guard
    exact .inl ⟨dx, ds, Dn.dpH s hx (inOk_l g).2, .inl (Dn.dpH s hy (layLd (inOk_l g).1)), g, h.val s (.bl _)⟩
  | tuple ds =>
    have h : WantG K W σ (denV K) R H (guardR (inOk ds dx) (.bool (!ds.any fun z => PyData.eqv z dx))) Q := by cases dx <;> exact h
    obtain ⟨g, h⟩ := h.guard
    exact .inl ⟨dx, ds, Dn.dpH s hx (inOk_l g).2, .inr (Dn.dpH s hy (layTd (inOk_l g).1)), g, h.val s (.bl _)⟩
  | str z =>
    cases dx with
    | str x' =>
      cases hx
      cases hy
      have h : WantG K W σ (denV K) R H (match x'.cps.toList with | [c] => .ok (.bool (!decide (c ∈ z.cps.toList))) | _ => .ok (.bool (!inTxt x' z))) Q := h
      cases q : x'.cps.toList with
      | nil => rw [q] at h; exact .inr (.inr ⟨x', z, rfl, rfl, h.val s (.bl _)⟩)
      | cons c r =>
        cases r with
        | nil =>
          rw [q] at h
          exact .inr (.inl ⟨c, z, by rw [one_sign q], rfl, h.val s (.bl _)⟩)
        | cons _ _ => rw [q] at h; exact .inr (.inr ⟨x', z, rfl, rfl, h.val s (.bl _)⟩)
    | _ => exact False.elim h
  | _ => cases dx <;> exact False.elim h
/-! ### a[i], a[lo:hi] -/
theorem ixN_eq (n : Nat) (i : Int) : Z.ixN n i = L2.ixN n i := rfl
theorem atI_dn {K : PySem.W.Frag} {R : Hp} {ds : List PyData} {xs : List V} {i : Int} {d : PyData} (h : DnA K R xs ds) (e : Z.atI ds i = some d) : ∃ v, L2.atI xs i = some v ∧ Dn K R v d := by
  unfold Z.atI at e
  unfold L2.atI
  rw [ixN_eq, ← h.length] at e
  cases q : L2.ixN xs.length i with
  | none => rw [q] at e; cases e
  | some j =>
    rw [q] at e
    exact h.get e
theorem someR_ok {α : Type} {o : Option α} {a : α} (h : someR o = .ok a) : o = some a := by
  cases o with
  | none => cases h
  | some b => cases h; rfl
theorem od_ix {K : PySem.W.Frag} : OpD K (rIx K) ixD := by
  intro W σ R H x y dx dy Q s hx hy h
  cases hx with
  | lst hl ha =>
    rename_i a xs ds
    cases hy with
    | int i =>
      have h : WantG K W σ (denV K) R H (someR (Z.atI ds i)) Q := h
      cases q : Z.atI ds i with
      | none => rw [q] at h; exact False.elim h
      | some d =>
        rw [q] at h
        obtain ⟨v, e, dn⟩ := atI_dn ha q
        exact .inl ⟨_, xs, i, v, rfl, rfl, .inl (Rd.mono s hl), e, h.val s dn⟩
    | _ => exact False.elim h
  | tup hl ha =>
    rename_i a xs ds
    cases hy with
    | int i =>
      have h : WantG K W σ (denV K) R H (someR (Z.atI ds i)) Q := h
      cases q : Z.atI ds i with
      | none => rw [q] at h; exact False.elim h
      | some d =>
        rw [q] at h
        obtain ⟨v, e, dn⟩ := atI_dn ha q
        exact .inr (.inl ⟨_, xs, i, v, rfl, rfl, hl.sqm s, e, h.val s dn⟩)
    | _ => exact False.elim h
  | str z =>
    cases hy with
    | int i =>
      have h : WantG K W σ (denV K) R H (if z.length ≤ sizeLine then (match Z.atI z.cps.toList i with | some c => .ok (.str ⟨#[c]⟩) | none => .stuck) else .stuck) Q := h
      by_cases hz : z.length ≤ sizeLine
      · rw [if_pos hz] at h
        cases q : Z.atI z.cps.toList i with
        | none => rw [q] at h; exact False.elim h
        | some c =>
          rw [q] at h
          exact .inr (.inr ⟨z, i, c, rfl, rfl, hz, q, h.val s (.str _)⟩)
      · rw [if_neg hz] at h
        exact False.elim h
    | _ => exact False.elim h
  | _ => exact False.elim h
theorem sIx_eq (n d : Nat) (o : Option Int) : Z.sIx n d o = HT.sIx n d o := by
  cases o <;> rfl
theorem cut_dn {K : PySem.W.Frag} {R : Hp} {ds : List PyData} {xs : List V} (lo hi : Option Int) (h : DnA K R xs ds) : DnA K R (cutV xs lo hi) (cutL ds lo hi) := by
  unfold cutV cutL
  rw [sIx_eq, sIx_eq, h.length]
  exact (h.drop _).take _
/-- a list's part, for what is known -/
def rSlR : V → Option Int → Option Int → Hp → VK → Prop := fun x lo hi H Q => ∃ a xs, x = .ref a ∧ Rd H a (.lst xs) ∧ ∀ p, H p = none → Q (.ref p) (upd H p (.lst (cutV xs lo hi)))
theorem sl_listR : SlR X rSlR := fun pins s σ H x v vl vu lo hi sl Q I rx hs pl pu h => by
  obtain ⟨a, xs, e, hr, q⟩ := h
  exact sl_list pins s σ H x v vl vu lo hi sl Q I rx hs pl pu ⟨a, xs, e, .inl hr, q⟩
def rSl (K : PySem.W.Frag) : V → Option Int → Option Int → Hp → VK → Prop := fun x lo hi H Q => rSlR x lo hi H Q ∨ (rSlF K x lo hi H Q ∨ rSlS x lo hi H Q)
theorem sl_or : SlR X (rSl X.K) := sl_listR.or (sl_tupF.or sl_str)
theorem sd_sl {K : PySem.W.Frag} {W : WX} {σ : L2.St} {R H : Hp} {x : V} {dx : PyData} {lo hi : Option Int} {Q : VK} (s : Same R H) (hx : Dn K R x dx) (h : WantG K W σ (denV K) R H (slD dx lo hi) Q) : rSl K x lo hi H Q := by
  cases hx with
  | lst hl ha => exact .inl ⟨_, _, rfl, Rd.mono s hl, fun p n => h.newL s (cut_dn lo hi ha) n⟩
  | tup hl ha =>
    rename_i a xs ds
    refine .inr (.inl ⟨_, xs, rfl, hl.sqm s, fun hw => ?_, fun _ p o ho n => h.newT s (cut_dn lo hi ha) ho n⟩)
    refine h.val s ?_
    have e : cutL ds lo hi = ds := by
      unfold cutL
      rw [sIx_eq, sIx_eq, ← ha.length, hw.1, hw.2, ha.length]
      simp
    rw [e]
    exact .tup hl ha
  | str z =>
    obtain ⟨g, h⟩ := h.guard
    refine .inr (.inr ⟨z, rfl, of_decide_eq_true g, ?_⟩)
    have e : cutS z lo hi = ⟨(cutL z.cps.toList lo hi).toArray⟩ := by
      unfold cutS cutL
      have : z.cps.toList.length = z.length := Array.length_toList
      rw [this, sIx_eq, sIx_eq]
    rw [e]
    exact h.val s (.str _)
  | _ => exact False.elim h
end
end Z
end
section
/-! Z3b: e[::-1]. -/
namespace HT
open PySem PySem.Spec PyProof.Rows L2
section
variable {prog : Program} {w : World} {A : Around} {E : Value → Shared → Prop} {s : Shared}
theorem adjust_back (n : Nat) : Builtin.Slice.sliceAdjust none none (-1) (n : Int) = ((n : Int) - 1, -1) := by
  unfold Builtin.Slice.sliceAdjust
  simp
theorem places_back (n : Nat) : Builtin.Slice.slicePlaces ((n : Int) - 1) (-1) (-1) = n := by
  unfold Builtin.Slice.slicePlaces
  simp
  try omega
theorem sliceApplied_back {sl : Addr} {vs : Value} {n : Nat} {Q : Int × Int × Nat → Shared → Prop} (hs : s.heap.IsSliceOf sl .none .none vs) (ps : IsPart vs (some (-1)))
    (h : Q ((n : Int) - 1, -1, n) s) : wpAny (model prog w) A (Builtin.Slice.sliceApplied (.ref sl) (pure (n : Int))) Q E s := by
  obtain ⟨os, hos, hcs, hds⟩ := id hs
  unfold Builtin.Slice.sliceApplied Builtin.Slice.sliceFields
  refine wpAny_bind (wpAny_bind (wpAny_field hos hds (x := .none) rfl (wpAny_bind (wpAny_field hos hds (x := .none) rfl (wpAny_bind (wpAny_field hos hds (x := vs) rfl (wpAny_pure ?_)))))))
  refine wpAny_bind (slicePart_ ps ?_)
  show wpAny _ _ (if ((-1 : Int) == 0) = true then _ else _) _ _ s
  rw [if_neg (by decide)]
  refine wpAny_bind (slicePart_none (wpAny_bind (slicePart_none (wpAny_bind (wpAny_pure ?_)))))
  show wpAny _ _ (match Builtin.Slice.sliceAdjust none none (-1) (n : Int) with | (lo, hi) => pure (lo, (-1 : Int), Builtin.Slice.slicePlaces lo hi (-1))) _ _ s
  rw [adjust_back n]
  show wpAny _ _ (pure ((n : Int) - 1, (-1 : Int), Builtin.Slice.slicePlaces ((n : Int) - 1) (-1) (-1))) _ _ s
  rw [places_back]
  exact wpAny_pure h
theorem fm_congr {α β : Type} {f g : α → Option β} : ∀ (l : List α), (∀ a ∈ l, f a = g a) → l.filterMap f = l.filterMap g
  | [], _ => rfl
  | a :: r, h => by
    rw [List.filterMap_cons, List.filterMap_cons, h a List.mem_cons_self, fm_congr r fun b hb => h b (List.mem_cons_of_mem _ hb)]
theorem pick_back (xs : Array Value) : ((List.range xs.size).filterMap fun (m : Nat) => xs[(((xs.size : Nat) : Int) - 1 + (m : Int) * (-1)).toNat]?).toArray = xs.toList.reverse.toArray := by
  congr 1
  have key : ∀ (l : List Value) (n : Nat) (_ : n ≤ l.length), (List.range n).filterMap (fun m => l[l.length - 1 - m]?) = (l.reverse).take n := by
    intro l n
    induction n with
    | zero => intro _; simp
    | succ n ih =>
      intro h
      rw [List.range_succ, List.filterMap_append, ih (by omega), List.take_add_one]
      congr 1
      have e : l.reverse[n]? = l[l.length - 1 - n]? := List.getElem?_reverse (by omega)
      rw [e]
      have h2 : l.length - 1 - n < l.length := by omega
      simp [List.getElem?_eq_getElem h2]
  have := key xs.toList xs.size (by simp)
  rw [List.take_of_length_le (by simp)] at this
  rw [← this]
  refine fm_congr _ fun m hm => ?_
  have hm := List.mem_range.mp hm
  have e : (((xs.size : Nat) : Int) - 1 + (m : Int) * (-1)).toNat = xs.size - 1 - m := by omega
  rw [e]
  simp
theorem getItem_tuple_back {t sl : Addr} {items : Array Value} {vs : Value} {Q : Value → Shared → Prop} (ht : IsTup s.heap t items) (hs : s.heap.IsSliceOf sl .none .none vs) (ps : IsPart vs (some (-1)))
    (h : Q (.ref s.heap.objs.size) { s with heap := s.heap.push { cls := .type "tuple", data := .seq items.toList.reverse.toArray } })
    (hsz : items.size ≤ sizeLine) : wpAny (model prog w) A (getItem (.ref t) (.ref sl)) Q E s := by
  have htake : sizeOk (.seq items.toList.reverse.toArray) := by
    show items.toList.reverse.toArray.size ≤ sizeLine
    simpa using hsz
  obtain ⟨os, hos, hcs, hds⟩ := id hs
  have hTs : s.TypeIs (.ref sl) "slice" := ⟨os, hos, hcs⟩
  unfold getItem
  try with_reducible refine wpAny_holding ?_
  first | refine wpAny_bind (wpAny_pure ?_) | skip
  refine wpAny_bind (wpAny_sequenceKey ht.typeIs (by decide) ?_)
  refine wpAny_bind (wpAny_callSpecial?_slot (name := Str.ofString "__getitem__") ht.typeIs PyProof.Rows.slot_tuple_getitem
    (wpAny_call_entry PyProof.Rows.slot_tuple_getitem ht.typeIs entry_tuple_getitem ?_ (args_tuple_getitem _ _)))
  show wpAny _ _ (Builtin.Tuple.tupleItemsOf (.ref t) >>= _) _ _ s
  refine wpAny_bind (tupleItemsOf_ ht ?_)
  refine wpAny_bind (wpAny_typeOf hTs ?_)
  rw [if_pos (by decide)]
  refine wpAny_bind (sliceApplied_back hs ps ?_)
  have hno : ¬ ((((items.size : Int) - 1) == 0 && (-1 : Int) == 1 && items.size == items.size) = true) := by
    intro q
    rw [Bool.and_eq_true, Bool.and_eq_true] at q
    exact absurd q.1.2 (by decide)
  show wpAny _ _ (if (((items.size : Int) - 1) == 0 && (-1 : Int) == 1 && items.size == items.size) = true then _ else _) _ _ s
  rw [if_neg hno, pick_back]
  first
    | exact wpAny_bind (m := Builtin.Tuple.tupleExact _) (wpAny_newObj_type (wpAny_pure ⟨_, rfl, wpAny_pure h⟩) htake)
    | exact wpAny_bind (m := Builtin.Tuple.tupleExact _) (wpAny_newObj_type (wpAny_bind (wpAny_pure (wpAny_pure ⟨_, rfl, wpAny_pure h⟩))) htake)
    | exact wpAny_bind (wpAny_bind (m := Builtin.Tuple.tupleExact _) (wpAny_newObj_type (wpAny_pure (wpAny_pure ⟨_, rfl, wpAny_pure h⟩)) htake))
    | exact wpAny_bind (wpAny_bind (m := Builtin.Tuple.tupleExact _) (wpAny_newObj_type (wpAny_pure ⟨_, rfl, wpAny_pure h⟩) htake))
end
end HT
namespace Z
open PySem PySem.Spec PyProof.Rows L2
section
variable {X : Cx}
theorem rev_signs (z : Str) : ((Builtin.Str.strSliceIndices none none (-1) z.length).filterMap (z.cps[·]?)) = z.cps.toList.reverse := by
  rw [picked_rev, filterMap_get, List.map_map]
  · apply List.ext_getElem?
    intro i
    rw [List.getElem?_map]
    have hl : z.cps.toList.length = z.length := Array.length_toList
    by_cases h : i < z.length
    · rw [List.getElem?_range h, List.getElem?_reverse (by rw [hl]; exact h), hl]
      show some (z.cps.getD (z.length - 1 - i) 0) = _
      have h2 : z.length - 1 - i < z.cps.size := by show _ < z.length; omega
      simp [Array.getD, h2]
    · rw [List.getElem?_eq_none (by rw [List.length_range]; omega), List.getElem?_eq_none (by rw [List.length_reverse, hl]; omega)]
      rfl
  · intro i hi
    obtain ⟨k, hk, rfl⟩ := List.mem_map.mp hi
    have := List.mem_range.mp hk
    show z.length - 1 - k < z.length
    omega
def tBack (K : PySem.W.Frag) (te : TE) : TE := fun σ H Q => te σ H fun x H1 => (∃ a xs, x = .ref a ∧ ((SqL K H1 a xs ∧ ∀ p, H1 p = none → Q (.ref p) (upd H1 p (.lst xs.reverse))) ∨ (SqT K H1 a xs ∧ NewT H1 xs.reverse Q))) ∨ ∃ z : Str, x = .str z ∧ z.length ≤ 1000 ∧ Q (.str ⟨z.cps.toList.reverse.toArray⟩) H1
theorem pe_back {e : Expr} {te : TE} {k : Nat} {p1 p2 p3 pos : Pos} (he : PE X e te) : PE X (.Subscript e (.Slice none none (some (.UnaryOp .USub (.Constant (.int 1) k p1) p2)) p3) pos) (tBack X.K te) := by
  refine ⟨fun pins s σ H Q I h => ?_⟩
  refine Subscript_ (thn (he.run pins s σ H _ I h) fun v s1 ⟨x, H1, I1, r1, q1⟩ => ?_)
  rcases q1 with ⟨a, xs, ex, hq⟩ | ⟨z, ex, hz, q⟩
  · subst ex
    cases r1
    have hst : PO X (some (.UnaryOp .USub (.Constant (.int 1) k p1) p2)) (tPart (tUn (rU fun i => .int (-i)) (tC (.int 1)))) := po_some (pe_un un_neg pe_int)
    refine wpAny_Slice (thn (po_none.run pins s1 σ H1 (fun o H2 => o = none ∧ H2 = H1) I1 ⟨rfl, rfl⟩) fun vl s2 ⟨l, H2, I2, pl, el, e2⟩ => ?_)
    subst el e2
    refine thn (po_none.run pins s2 σ H2 (fun o H3 => o = none ∧ H3 = H2) I2 ⟨rfl, rfl⟩) fun vu s3 ⟨u, H3, I3, pu, eu, e3⟩ => ?_
    subst eu e3
    refine thn (hst.run pins s3 σ H3 (fun o H4 => o = some (-1) ∧ H4 = H3) I3 ⟨1, rfl, -1, rfl, rfl, rfl⟩) fun vs s4 ⟨o, H4, I4, ps, eo, e4⟩ => ?_
    subst eo e4
    have I5 : Inv X pins σ H4 { s4 with heap := s4.heap.push { cls := .type "slice", data := .fields #[vl, vu, vs] } } := I4.kept (t' := s4.toks) fun b ob q => Heap.get?_push_of_some _ q
    show wpAny (model X.prog X.w) X.A (subscriptTail e (.Slice none none (some (.UnaryOp .USub (.Constant (.int 1) k p1) p2)) p3) (.ref a) (.ref s4.heap.objs.size)) (EP X pins σ Q) X.xe { s4 with heap := s4.heap.push { cls := .type "slice", data := .fields #[vl, vu, vs] } }
    rcases hq with ⟨hx, q⟩ | ⟨hx, q⟩
    · obtain ⟨its, r, ht, hz⟩ := I5.list hx
      have hlen := r.length
      refine tail_any (ops := [.ref a, .ref s4.heap.objs.size]) ht.isList.typeIs (PySem.slot_list_getitem.lookup) ?_ (by with_unfolding_all rfl)
      refine wpAny_getItem_list_slice ht.isList (Heap.IsSliceOf.new _ vl vu vs) pl pu ps (by decide) ?_ (by rw [List.size_toArray]; omega)
      rw [PySem.W.krv_pick]
      refine ⟨.ref _, _, I5.laid (t' := s4.toks) (o := .lst xs.reverse) (fun b ob q => Heap.get?_push_of_some _ q) (Nat.le_refl _) ?_, rfl, q _ (I5.hok.fresh (Nat.le_refl _))⟩
      exact ⟨by rw [List.length_reverse]; exact hz, _, 0, r.reverse, Heap.get?_push_size _ rfl⟩
    · obtain ⟨its, r, ht, hz⟩ := I5.tuple hx
      have hlen := r.length
      cases pl
      cases pu
      refine tail_any (ops := [.ref a, .ref s4.heap.objs.size]) ht.typeIs (PyProof.Rows.slot_tuple_getitem.lookup) ?_ (by with_unfolding_all rfl)
      refine HT.getItem_tuple_back ht (Heap.IsSliceOf.new _ .none .none vs) ps ?_ (by rw [List.size_toArray]; omega)
      exact endT I5 r.reverse (by rw [List.length_reverse]; exact hz) q

  · subst ex
    obtain ⟨t, rfl⟩ := r1
    have hst : PO X (some (.UnaryOp .USub (.Constant (.int 1) k p1) p2)) (tPart (tUn (rU fun i => .int (-i)) (tC (.int 1)))) := po_some (pe_un un_neg pe_int)
    refine wpAny_Slice (thn (po_none.run pins s1 σ H1 (fun o H2 => o = none ∧ H2 = H1) I1 ⟨rfl, rfl⟩) fun vl s2 ⟨l, H2, I2, pl, el, e2⟩ => ?_)
    subst el e2
    refine thn (po_none.run pins s2 σ H2 (fun o H3 => o = none ∧ H3 = H2) I2 ⟨rfl, rfl⟩) fun vu s3 ⟨u, H3, I3, pu, eu, e3⟩ => ?_
    subst eu e3
    refine thn (hst.run pins s3 σ H3 (fun o H4 => o = some (-1) ∧ H4 = H3) I3 ⟨1, rfl, -1, rfl, rfl, rfl⟩) fun vs s4 ⟨o, H4, I4, ps, eo, e4⟩ => ?_
    subst eo e4
    have I5 : Inv X pins σ H4 { s4 with heap := s4.heap.push { cls := .type "slice", data := .fields #[vl, vu, vs] } } := I4.kept (t' := s4.toks) fun b ob q => Heap.get?_push_of_some _ q
    cases pl
    cases pu
    cases ps with
    | int i0 t0 =>
      refine tail_any (ops := [.str z t, .ref s4.heap.objs.size]) (typeIs_str _ _ _) F.slot_str_getitem.lookup ?_ (by with_unfolding_all rfl)
      refine wpAny_getItem_str_slice (l := none) (u := none) (st := some (-1, t0)) ⟨_, Heap.get?_push_size _ rfl, rfl, rfl⟩ rfl ?_
      show Made.post (if ((-1 : Int) == 1 && (Builtin.Str.strSliceIndices none none (-1) z.length).length == z.length) = true then Made.val (.str z t) else Made.str ⟨((Builtin.Str.strSliceIndices none none (-1) z.length).filterMap (z.cps[·]?)).toArray⟩) (EP X pins σ Q) _
      rw [if_neg (by simp), rev_signs]
      refine ⟨?_, ?_⟩
      · show (z.cps.toList.reverse.toArray).size ≤ sizeLine
        have hl : z.cps.toList.length = z.length := Array.length_toList
        rw [List.size_toArray, List.length_reverse, hl, sizeLine_eq]
        omega
      · exact ⟨.str _, H4, I5.tok _, ⟨_, rfl⟩, q⟩
theorem de_back {W : WX} {e : Expr} {f : Ev → Res PyData} {k : Nat} {p1 p2 p3 pos : Pos} (he : PE X e (tD X.K W f)) : PE X (.Subscript e (.Slice none none (some (.UnaryOp .USub (.Constant (.int 1) k p1) p2)) p3) pos) (tD X.K W fun env => f env >>= fun x => rvD x) := by
  refine peImp (pe_back he) fun σ H Q ⟨R, env, rel, h⟩ => ?_
  refine ⟨R, env, rel, h.split fun dx x H1 R1 e1 d1 h1 => ?_⟩
  cases d1 with
  | lst hl ha => exact .inl ⟨_, _, rfl, .inl ⟨.inl (Rd.mono e1.sub hl), fun p n => h1.newL e1.sub ha.reverse n⟩⟩
  | tup hl ha => exact .inl ⟨_, _, rfl, .inr ⟨hl.sqm e1.sub, fun p o ho n => h1.newT e1.sub ha.reverse ho n⟩⟩
  | str z =>
    obtain ⟨g, h1⟩ := h1.guard
    exact .inr ⟨z, rfl, of_decide_eq_true g, h1.val e1.sub (.str _)⟩
  | _ => exact False.elim h1
end
end Z
end
section
/-! Z4: which text a term of the small language is; what is walked. -/
namespace Z
open PySem PySem.Spec PyProof.Rows L2

structure GT where
  fns : List Str
  cons : List (Str × Gc)
  free : List Str
  hots : List (Str × Hk)
  xs : List Nat
  ks : List Nat
  dics : List (Str × List (Str × Cn)) := []
  mts : List (Nat × Nat × Str) := []
  cls : List Nat := []
  ofs : List (Str × List Nat) := []
  omts : List (Nat × Nat × Str × List Nat) := []
  mks : List (Nat × Nat) := []
  frs : List Nat := []
  ofrs : List Nat := []
  les : List Nat := []
def GT.leOf (G : GT) (f : Nat) : List Nat := if G.les.contains f then [1] else []
structure Sx where
  N : List Str
  sc : Scope
  fn : Str → Bool
  G : GT
  hot : Option Str
  top : Bool
  fr : Bool
def vis (sc : Scope) (x : Str) : Bool := match sc.names.lookup x with
  | some .local => true
  | some .cell => true
  | some .free => true
  | _ => false
def glb (sc : Scope) (x : Str) : Bool := match sc.names.lookup x with
  | some .globalImplicit => true
  | _ => false
/-- a name that may be stored -/
def sto (S : Sx) (x : Str) : Bool := match S.sc.names.lookup x with
  | some .local => true
  | some .cell => S.fn x
  | _ => false
def okName (x : Str) : Bool := !(x == ("__debug__" : Str)) && !(x == ("__classdict__" : Str)) && !(x == ("__name__" : Str)) && !decide (x = ("" : Str))
def chkC : Cn → Const → Bool
  | .non, .none => true
  | .bl b, .bool c => b == c
  | .int i, .int j => decide (i = j)
  | .str x, .str y => decide (x = y)
  | _, _ => false
def chkO : Bop → Operator → Bool
  | .add, .Add => true
  | .sub, .Sub => true
  | .mul, .Mult => true
  | .div, .FloorDiv => true
  | .mod, .Mod => true
  | _, _ => false
def chkCo : Cop → CmpOp → Bool
  | .eq, .Eq => true
  | .ne, .NotEq => true
  | .lt, .Lt => true
  | .le, .LtE => true
  | .gt, .Gt => true
  | .ge, .GtE => true
  | .isin, .In => true
  | .notin, .NotIn => true
  | .is, .Is => true
  | .isnot, .IsNot => true
  | _, _ => false
def bname : Blt → Str
  | .len => "len" | .abs => "abs" | .max => "max" | .min => "min" | .int => "int" | .list => "list" | .tuple => "tuple" | .sum => "sum" | .all => "all" | .sorted => "sorted" | .str => "str" | .sset => "sorted" | .minp => "min"
def tname : Ty → String
  | .int => "int" | .bool => "bool" | .str => "str" | .tuple => "tuple" | .list => "list"
def mname : Mth → Str
  | .count => "count" | .index => "index" | .join => "join" | .split => "split" | .sset => "sorted" | .inr => "" | .stp2 => "" | .cntS => "count" | .ssp => "sorted"
/-- a global name that is a built-in's -/
def bltn (S : Sx) (x : Str) : Bool := glb S.sc x && okName x && S.G.free.contains x
def chkT (S : Sx) : Tg → Expr → Bool
  | .nm i, .Name x _ => decide (S.N[i]? = some x) && sto S x
  | .tp is, .Tuple es _ _ => goT S is es
  | _, _ => false
where goT (S : Sx) : List Nat → List Expr → Bool
  | [], [] => true
  | i :: is, .Name x _ :: es => decide (S.N[i]? = some x) && sto S x && goT S is es
  | _, _ => false
def slots : Tg → List Nat
  | .nm i => [i]
  | .tp is => is
def ownOf (N : List Str) (t : Tg) : List (Str × Nat) := (slots t).map fun i => (N.getD i Str.empty, i)
def isSet : Expr → Bool
  | .Set _ _ _ => true
  | _ => false
def isTup : Expr → Bool
  | .Tuple _ _ _ => true
  | _ => false
def isSlice : Expr → Bool
  | .Slice _ _ _ _ => true
  | _ => false
/-- the block of a comprehension -/
def Sx.blk (S : Sx) (scope : Scope) : Sx := { S with sc := relS scope S.sc, fn := fun x => scope.names.lookup x == some .cell, top := false }
def asCall : Expr → Option (Str × List Expr)
  | .Call (.Name x _) es [] _ => some (x, es)
  | _ => none
theorem asCall_ {e : Expr} {x : Str} {es : List Expr} (h : asCall e = some (x, es)) : ∃ p pos, e = .Call (.Name x p) es [] pos := by
  unfold asCall at h
  split at h
  · cases h; exact ⟨_, _, rfl⟩
  · cases h
def asName : Expr → Option Str
  | .Name x _ => some x
  | _ => none
theorem asName_ {e : Expr} {x : Str} (h : asName e = some x) : ∃ p, e = .Name x p := by
  unfold asName at h
  split at h
  · cases h; exact ⟨_, rfl⟩
  · cases h
def asLc : Expr → Option (Expr × Expr × Expr × List Expr × Scope)
  | .ListComp elt [⟨tg, iter, ifs, 0⟩] scope _ => some (elt, tg, iter, ifs, scope)
  | _ => none
theorem asLc_ {e elt tg iter : Expr} {ifs : List Expr} {scope : Scope} (h : asLc e = some (elt, tg, iter, ifs, scope)) : ∃ pos, e = .ListComp elt [⟨tg, iter, ifs, 0⟩] scope pos := by
  unfold asLc at h
  split at h
  · cases h; exact ⟨_, rfl⟩
  · cases h
/-- e[::-1] -/
def asBack : Expr → Option Expr
  | .Subscript e (.Slice none none (some (.UnaryOp .USub (.Constant (.int 1) _ _) _)) _) _ => some e
  | _ => none
theorem asBack_ {e x : Expr} (h : asBack e = some x) : ∃ k p1 p2 p3 pos, e = .Subscript x (.Slice none none (some (.UnaryOp .USub (.Constant (.int 1) k p1) p2)) p3) pos := by
  unfold asBack at h
  split at h
  · cases h; exact ⟨_, _, _, _, _, rfl⟩
  · cases h
/-- the written keys of a dict -/
def chkKs : List Str → List (Option Expr) → Bool
  | [], [] => true
  | k :: ks, some (.Constant (.str x) _ _) :: es => decide (x = k) && chkKs ks es
  | _, _ => false
def asDg : Expr → Option (List (Option Expr) × List Expr × Expr)
  | .Subscript (.Dict keys vals _) ke _ => some (keys, vals, ke)
  | _ => none
theorem asDg_ {e ke : Expr} {keys : List (Option Expr)} {vals : List Expr} (h : asDg e = some (keys, vals, ke)) : ∃ p1 p2, e = .Subscript (.Dict keys vals p1) ke p2 := by
  unfold asDg at h
  split at h
  · cases h; exact ⟨_, _, rfl⟩
  · cases h
/-- the row's names -/
def chkFs (S : Sx) : List Nat → List Expr → Bool
  | [], [] => true
  | f :: fs, e :: es => (match asName e with
    | some x => decide (S.G.fns[f]? = some x) && glb S.sc x && okName x
    | none => false) && chkFs S fs es
  | _, _ => false
def asSel : Expr → Option (List Expr × Expr × List Expr)
  | .Call (.Subscript (.List es _) ie _) args [] _ => some (es, ie, args)
  | _ => none
theorem asSel_ {e ie : Expr} {es args : List Expr} (h : asSel e = some (es, ie, args)) : ∃ p1 p2 p3, e = .Call (.Subscript (.List es p1) ie p2) args [] p3 := by
  unfold asSel at h
  split at h
  · cases h; exact ⟨_, _, _, rfl⟩
  · cases h
def plainB : Expr → Bool
  | .Call (.Name _ _) [] [] _ => false
  | _ => true
/-- a in y(b) -/
def asInr : Expr → Option (Expr × Str × Expr)
  | .Compare l [.In] [.Call (.Name y _) [b] [] _] _ => some (l, y, b)
  | _ => none
theorem asInr_ {e l b : Expr} {y : Str} (h : asInr e = some (l, y, b)) : ∃ p cp pos, e = .Compare l [.In] [.Call (.Name y p) [b] [] cp] pos := by
  unfold asInr at h
  split at h
  · cases h; exact ⟨_, _, _, rfl⟩
  · cases h
/-- o[lo::2] -/
def asStp : Expr → Option (Expr × Expr)
  | .Subscript o (.Slice (some lo) none (some (.Constant (.int 2) _ _)) _) _ => some (o, lo)
  | _ => none
theorem asStp_ {e o lo : Expr} (h : asStp e = some (o, lo)) : ∃ k p1 p2 p3, e = .Subscript o (.Slice (some lo) none (some (.Constant (.int 2) k p1)) p2) p3 := by
  unfold asStp at h
  split at h
  · cases h; exact ⟨_, _, _, _, rfl⟩
  · cases h
/-- l in y -/
def asKin : Expr → Option (Expr × Str)
  | .Compare l [.In] [.Name y _] _ => some (l, y)
  | _ => none
theorem asKin_ {e l : Expr} {y : Str} (h : asKin e = some (l, y)) : ∃ p pos, e = .Compare l [.In] [.Name y p] pos := by
  unfold asKin at h
  split at h
  · cases h; exact ⟨_, _, rfl⟩
  · cases h
def asMt : Expr → Option (Expr × Str × List Expr)
  | .Call (.Attribute o m ap) es [] cp => if (ap.endLine == cp.line) = true ∧ plainB o = true then some (o, m, es) else none
  | _ => none
theorem asMt_ {e o : Expr} {m : Str} {es : List Expr} (h : asMt e = some (o, m, es)) : ∃ ap cp, e = .Call (.Attribute o m ap) es [] cp ∧ (ap.endLine == cp.line) = true ∧ plainB o = true := by
  unfold asMt at h
  split at h
  · split at h
    · rename_i q; cases h; exact ⟨_, _, rfl, q.1, q.2⟩
    · cases h
  · cases h
mutual
def chkE : E → Sx → Expr → Bool
  | .var i, S, .Name x _ => decide (S.N[i]? = some x) && vis S.sc x && okName x
  | .cn c, _, .Constant k _ _ => chkC c k
  | .gl x c, S, .Name y _ => decide (x = y) && glb S.sc x && okName x && decide ((x, c) ∈ S.G.cons)
  | .bin o a b, S, .BinOp l op r _ => chkO o op && chkE a S l && chkE b S r
  | .neg a, S, .UnaryOp .USub e _ => chkE a S e
  | .inv a, S, .UnaryOp .Not e _ => chkE a S e
  | .an xs, S, .BoolOp .And es _ => chkEs xs S es
  | .or xs, S, .BoolOp .Or es _ => chkEs xs S es
  | .cmp o a b, S, .Compare l [op] [r] _ => chkCo o op && chkE a S l && chkE b S r && !behindInMarks op r
  | .chn o p a b c, S, .Compare l [o1, o2] [r1, r2] _ => chkCo o o1 && chkCo p o2 && chkE a S l && chkE b S r1 && chkE c S r2 && !lastMarks [o1, o2] [r1, r2]
  | .ite c a b, S, .IfExp t x y _ => chkE c S t && chkE a S x && chkE b S y
  | .tup xs, S, .Tuple es _ _ => chkEs xs S es
  | .lst xs, S, .List es _ => chkEs xs S es
  | .ix a i, S, .Subscript e s _ => chkE a S e && chkE i S s && !isSlice s
  | .sl a lo hi, S, .Subscript e (.Slice l h none _) _ => chkE a S e && chkEo lo S l && chkEo hi S h
  | .rv a, S, e => (match asBack e with
    | some x => chkE a S x
    | none => false)
  | .call f (.cons a r), S, e => (match asCall e with
    | some (x, e :: es) => S.hot.isNone && decide (S.G.fns[f]? = some x) && glb S.sc x && okName x && chkE a S e && chkEs r S es
    | _ => false)
  | .bl b (.cons a r), S, e => (match asCall e with
    | some (x, e :: es) => S.hot.isNone && decide (x = bname b) && decide (b ≠ .sset) && bltn S x && chkE a S e && chkEs r S es
    | _ => false)
  | .isi a t, S, e => (match asCall e with
    | some (x, [e, ey]) => (match asName ey with
      | some y => decide (x = ("isinstance" : Str)) && bltn S x && decide (y = Str.ofString (tname t)) && bltn S y && chkE a S e
      | none => false)
    | _ => false)
  | .mt .sset a .nil, S, e => (match asCall e with
    | some (x, [ez]) => (match asCall ez with
      | some (y, [e1]) => S.hot.isNone && decide (x = ("sorted" : Str)) && bltn S x && decide (y = ("set" : Str)) && bltn S y && chkE a S e1
      | _ => false)
    | _ => false)
  | .mt .ssp a .nil, S, e => (match asCall e with
    | some (x, [ez]) => (match asCall ez with
      | some (y, [e1]) => S.hot.isNone && decide (x = ("sorted" : Str)) && bltn S x && decide (y = ("set" : Str)) && bltn S y && chkE a S e1
      | _ => false)
    | _ => false)
  | .mt .count a (.cons b .nil), S, e => (match asMt e with
    | some (o, m, [e1]) => decide (m = ("count" : Str)) && chkE a S o && chkE b S e1
    | _ => false)
  | .mt .index a (.cons b .nil), S, e => (match asMt e with
    | some (o, m, [e1]) => decide (m = ("index" : Str)) && chkE a S o && chkE b S e1
    | _ => false)
  | .mt .cntS a (.cons b .nil), S, e => (match asMt e with
    | some (o, m, [e1]) => decide (m = ("count" : Str)) && chkE a S o && chkE b S e1
    | _ => false)
  | .kin x kvs a, S, e => (match asKin e with
    | some (l, y) => decide (x = y) && glb S.sc x && okName x && decide ((x, kvs) ∈ S.G.dics) && chkE a S l
    | none => false)
  | .kget x kvs a, S, .Subscript (.Name y _) s _ => decide (x = y) && glb S.sc x && okName x && decide ((x, kvs) ∈ S.G.dics) && chkE a S s && !isSlice s
  | .mt .join a (.cons b .nil), S, e => (match asMt e with
    | some (o, m, [e1]) => decide (m = ("join" : Str)) && chkE a S o && chkE b S e1
    | _ => false)
  | .mt .split a (.cons b .nil), S, e => (match asMt e with
    | some (o, m, [e1]) => decide (m = ("split" : Str)) && chkE a S o && chkE b S e1
    | _ => false)
  | .mt .inr a (.cons b .nil), S, e => (match asInr e with
    | some (l, y, e1) => decide (y = ("range" : Str)) && bltn S y && chkE a S l && chkE b S e1
    | none => false)
  | .mt .stp2 a (.cons b .nil), S, e => (match asStp e with
    | some (o, lo) => chkE a S o && chkE b S lo
    | none => false)
  | .dg ks vs k, S, e => (match asDg e with
    | some (keys, vals, ke) => decide ks.Nodup && decide (ks ≠ []) && decide (ks.length ≤ 15) && chkKs ks keys && decide (keys.length = vals.length) && chkEs vs S vals && chkE k S ke && !isSlice ke
    | none => false)
  | .ch3 o p q a b c d, S, .Compare l [x, y, z] [r1, r2, r3] _ => chkCo o x && chkCo p y && chkCo q z && chkE a S l && chkE b S r1 && chkE c S r2 && chkE d S r3 && !lastMarks [x, y, z] [r1, r2, r3]
  | .sel fs i (.cons a r), S, e => (match asSel e with
    | some (es, ie, e1 :: args) => S.hot.isNone && chkFs S fs es && decide (fs.length ≤ 100) && chkE i S ie && !isSlice ie && chkE a S e1 && chkEs r S args
    | _ => false)
  | .lit (.zp a b), S, e => (match asCall e with
    | some (x, [ez]) => (match asCall ez with
      | some (y, [e1, e2]) => S.hot.isNone && decide (x = ("list" : Str)) && bltn S x && decide (y = ("zip" : Str)) && bltn S y && chkE a S e1 && chkE b S e2
      | _ => false)
    | _ => false)
  | .lit (.en a), S, e => (match asCall e with
    | some (x, [ez]) => (match asCall ez with
      | some (y, [e1]) => S.hot.isNone && decide (x = ("list" : Str)) && bltn S x && decide (y = ("enumerate" : Str)) && bltn S y && chkE a S e1
      | _ => false)
    | _ => false)
  | .lit (.rg (.cons a .nil)), S, e => (match asCall e with
    | some (x, [ez]) => (match asCall ez with
      | some (y, [e1]) => S.hot.isNone && decide (x = ("list" : Str)) && bltn S x && decide (y = ("range" : Str)) && bltn S y && chkE a S e1
      | _ => false)
    | _ => false)
  | .lit (.rg (.cons a (.cons b .nil))), S, e => (match asCall e with
    | some (x, [ez]) => (match asCall ez with
      | some (y, [e1, e2]) => S.hot.isNone && decide (x = ("list" : Str)) && bltn S x && decide (y = ("range" : Str)) && bltn S y && chkE a S e1 && chkE b S e2
      | _ => false)
    | _ => false)
  | .fld c i a, S, .Attribute e f _ => decide ((cfs c)[i]? = some f) && plainB e && chkE a S e
  | .mc c f o xs, S, e => (match asMt e with
    | some (oe, m, es) => S.hot.isNone && decide ((f, c, m) ∈ S.G.mts) && decide (c ∈ S.G.cls) && decide (m ∉ cfs c) && decide (es.length < 20) && chkE o S oe && chkEs xs S es
    | none => false)
  | .lc t it c e, S, ex => (match asLc ex with
    | some (elt, tg, iter, ifs, scope) => S.hot.isNone && blkC S.N S.sc scope (ownOf S.N t) && chkT (S.blk scope) t tg && chkI it S (isTup tg) iter && chkEf c (S.blk scope) ifs && chkE e (S.blk scope) elt && !isSet iter
    | none => false)
  | .lx t it c e, S, ex => (match asLc ex with
    | some (elt, tg, iter, ifs, scope) => S.hot.isNone && S.top && blkC S.N S.sc scope (ownOf S.N t) && chkT (S.blk scope) t tg && chkI it S (isTup tg) iter && chkEf c (S.blk scope) ifs && chkE e (S.blk scope) elt && !isSet iter
    | none => false)
  | _, _, _ => false
def chkEs : Es → Sx → List Expr → Bool
  | .nil, _, [] => true
  | .cons a r, S, e :: es => chkE a S e && chkEs r S es
  | _, _, _ => false
def chkEo : Eo → Sx → Option Expr → Bool
  | .non, _, none => true
  | .som a, S, some e => chkE a S e
  | _, _, _ => false
/-- a comprehension's tests -/
def chkEf : Eo → Sx → List Expr → Bool
  | .non, _, [] => true
  | .som a, S, [e] => chkE a S e
  | _, _, _ => false
def chkI : It → Sx → Bool → Expr → Bool
  | .ov a, S, _, e => chkE a S e
  | .os a, S, _, e => chkE a S e
  | .rg (.cons a .nil), S, _, e => (match asCall e with
    | some (x, [e]) => decide (x = ("range" : Str)) && bltn S x && chkE a S e
    | _ => false)
  | .rg (.cons a (.cons b .nil)), S, _, e => (match asCall e with
    | some (x, [e1, e2]) => decide (x = ("range" : Str)) && bltn S x && chkE a S e1 && chkE b S e2
    | _ => false)
  | .rg (.cons a (.cons b (.cons c .nil))), S, _, e => (match asCall e with
    | some (x, [e1, e2, e3]) => decide (x = ("range" : Str)) && bltn S x && chkE a S e1 && chkE b S e2 && chkE c S e3
    | _ => false)
  | .en a, S, tup, e => (match asCall e with
    | some (x, [e]) => tup && decide (x = ("enumerate" : Str)) && bltn S x && chkE a S e
    | _ => false)
  | .zp a b, S, tup, e => (match asCall e with
    | some (x, [e1, e2]) => tup && decide (x = ("zip" : Str)) && bltn S x && chkE a S e1 && chkE b S e2
    | _ => false)
  | _, _, _, _ => false
end
/-! ### no star -/
def isStar : Expr → Bool
  | .Starred _ _ => true
  | _ => false
theorem noStar {c : E} {S : Sx} {e : Expr} (h : chkE c S e = true) : isStar e = false := by
  cases e with
  | Starred e p =>
    cases c with
    | call f xs => cases xs <;> simp [chkE, asCall] at h
    | bl f xs => cases xs <;> simp [chkE, asCall] at h
    | sel f i xs => cases xs <;> simp [chkE, asSel] at h
    | mt m o xs =>
      cases m <;> cases xs with
      | nil => simp [chkE, asCall, asMt] at h
      | cons b r => cases r <;> simp [chkE, asCall, asMt, asInr, asStp] at h
    | lit it =>
      cases it with
      | rg xs =>
        cases xs with
        | nil => simp [chkE] at h
        | cons a r =>
          cases r with
          | nil => simp [chkE, asCall] at h
          | cons b q => cases q <;> simp [chkE, asCall] at h
      | _ => simp [chkE, asCall] at h
    | _ => simp [chkE, asCall, asLc, asBack, asDg, asKin, asMt] at h
  | _ => rfl
theorem star1 {e : Expr} (h : isStar e = false) (es : List Expr) (env : PySem.Env) : starEach (e :: es) env = (false, eval e env) :: starEach es env := by
  cases e with
  | Starred _ _ => cases h
  | _ => rfl
theorem star2 {xs : Es} {S : Sx} {env : PySem.Env} {pos : Pos} : ∀ {es : List Expr}, chkEs xs S es = true → (backTo pos (starEach es env)).any (·.1) = false := by
  intro es h
  induction es generalizing xs with
  | nil => rfl
  | cons e es ih =>
    cases xs with
    | nil => simp [chkEs] at h
    | cons a r =>
      rw [chkEs, Bool.and_eq_true] at h
      rw [star1 (noStar h.1)]
      show (false || (backTo pos (starEach es env)).any (·.1)) = false
      rw [ih h.2]
      rfl
theorem noFold {e : Expr} (h : isSet e = false) (env : PySem.Env) (x : Value) : foldedSetIterable e env x = pure x := by
  cases e with
  | Set _ _ _ => cases h
  | _ => rfl
theorem plainIx {e : Expr} (h : isSlice e = false) : PlainIx e := by
  intro o i
  cases e with
  | Slice _ _ _ _ => cases h
  | _ => rfl
/-! ### names -/
theorem vis_ok {sc : Scope} {x : Str} (h : vis sc x = true) : Vis sc x := by
  unfold vis at h
  split at h
  · exact .inl (by assumption)
  · exact .inr (.inl (by assumption))
  · exact .inr (.inr (by assumption))
  · cases h
theorem glb_ok {sc : Scope} {x : Str} (h : glb sc x = true) : sc.names.lookup x = some .globalImplicit := by
  unfold glb at h
  split at h
  · assumption
  · cases h
theorem okName_ {x : Str} (h : okName x = true) : (x == ("__debug__" : Str)) = false ∧ (x == ("__classdict__" : Str)) = false ∧ x ≠ "__name__" := by
  unfold okName at h
  simp only [Bool.and_eq_true, Bool.not_eq_true'] at h
  exact ⟨h.1.1.1, h.1.1.2, fun e => by rw [e] at h; simp at h⟩
theorem okName_ne {x : Str} (h : okName x = true) : x ≠ ("" : Str) := by
  unfold okName at h
  rw [Bool.and_eq_true, Bool.not_eq_true', decide_eq_false_iff_not] at h
  exact h.2
/-! ### what stands around -/
def Cn.v : Cn → V
  | .non => .non
  | .bl b => .bl b
  | .int i => .int i
  | .str x => .str x
theorem Cn.dn {K : PySem.W.Frag} {R : Hp} (c : Cn) : Dn K R c.v c.d := by
  cases c with
  | non => exact .non
  | bl b => exact .bl b
  | int i => exact .int i
  | str x => exact .str x
/-- a table of the module -/
structure DicAt (K : PySem.W.Frag) (w : World) (mg : Str → Option Value) (x : Str) (kvs : List (Str × Cn)) : Prop where
  mg : mg x = some (.ref (He.ga K x))
  kd : ∃ es n, KDict K w (He.ga K x) es n
  at_ : ∀ z, match kLook z kvs with
    | some c => ∃ u, PySem.W.nsIn K (He.ga K x) z = some (some u) ∧ RelV c.v u
    | none => PySem.W.nsIn K (He.ga K x) z = some none
structure Glob (K : PySem.W.Frag) (w : World) (mg : Str → Option Value) (G : GT) : Prop where
  con : ∀ x c, (x, c) ∈ G.cons → ∃ u v, mg x = some u ∧ RelV v u ∧ ∀ R, Dn K R v c.d
  free : ∀ x, x ∈ G.free → mg x = none
  dic : ∀ x kvs, (x, kvs) ∈ G.dics → DicAt K w mg x kvs
  cls : ∀ c ∈ G.cls, ClsOk K c
/-- what a call may be -/
structure CallOk (X : Cx) (C : Nat → List PyData → Res PyData) (fr : Bool) (f : Nat) (x : Str) : Prop where
  ex : ∃ (a : Addr) (fd : FuncData) (ps : List Str) (k : Nat) (sp : Sp), X.mg x = some (.ref a) ∧ PySem.W.keepIn X.K (.ref a) = true ∧ Binds X.K fd ps [] ∧ FnOk X.prog X.w X.K X.mg X.base (L2.CX X.prog X.w) k a fd ps sp ∧ Room k X.A ∧
    ∀ (W : WX) (σ : L2.St) (R H : Hp) (vs : List V) (ds : List PyData) (Q : VK), Same R H → DnA X.K R vs ds → WantR fr X.K W σ R H (C f ds) Q → sp vs H Q (WE W σ)
/-- what a method may be -/
structure MethOk (X : Cx) (C : Nat → List PyData → Res PyData) (fr : Bool) (f c : Nat) (m : Str) : Prop where
  ex : ∃ (a : Addr) (fd : FuncData) (ps : List Str) (k : Nat) (sp : Sp), Meth X.K (He.ga X.K (cname c)) m a ∧ Binds X.K fd ps [] ∧ FnOk X.prog X.w X.K X.mg X.base (L2.CX X.prog X.w) k a fd ps sp ∧ Room k X.A ∧
    ∀ (W : WX) (σ : L2.St) (R H : Hp) (vs : List V) (ds : List PyData) (Q : VK), Same R H → DnA X.K R vs ds → WantR fr X.K W σ R H (C f ds) Q → sp vs H Q (WE W σ)
structure Fits (X : Cx) (S : Sx) (C : Nat → List PyData → Res PyData) : Prop where
  hN : X.N = S.N
  nd : X.N.Nodup
  sc : X.env.scope = S.sc
  fn : X.fn = S.fn
  gl : Glob X.K X.w X.mg S.G
  hu : X.A.units + 65 < cLine
  calm : S.hot = none → X.calm = true
  fns : S.hot = none → ∀ f x, S.G.fns[f]? = some x → x ≠ ("" : Str) → CallOk X C (S.G.frs.contains f) f x
  stk : S.top = true → X.stack = X.env :: X.outer ∧ X.env.frame = some X.env.locals
  mts : S.hot = none → ∀ f c m, (f, c, m) ∈ S.G.mts → MethOk X C (S.G.frs.contains f) f c m
section
variable {X : Cx} {S : Sx} {C : Nat → List PyData → Res PyData}
theorem Fits.blk (F : Fits X S C) (s : Shared) (H : Hp) (scope : Scope) (cl : List (Str × Addr)) (c : Addr) (fp : List Addr) : Fits (X.blk s H scope (compEnvC scope cl c X.env) fp) (S.blk scope) C where
  hN := F.hN
  nd := F.nd
  sc := by
    show relS scope X.env.scope = relS scope S.sc
    rw [F.sc]
  fn := rfl
  gl := F.gl
  hu := F.hu
  calm := F.calm
  fns := fun h f x e n => by
    obtain ⟨a, fd, ps, k, sp, h⟩ := (F.fns h f x e n).ex
    exact ⟨a, fd, ps, k, sp, h⟩
  stk := fun h => nomatch h
  mts := fun h f c m e => by
    obtain ⟨a, fd, ps, k, sp, h⟩ := (F.mts h f c m e).ex
    exact ⟨a, fd, ps, k, sp, h⟩
theorem Fits.xe (F : Fits X S C) (xe : Value → Shared → Prop) : Fits { X with xe := xe } S C where
  hN := F.hN
  nd := F.nd
  sc := F.sc
  fn := F.fn
  gl := F.gl
  hu := F.hu
  calm := F.calm
  fns := fun h f x e n => by
    obtain ⟨a, fd, ps, k, sp, h⟩ := (F.fns h f x e n).ex
    exact ⟨a, fd, ps, k, sp, h⟩
  stk := F.stk
  mts := fun h f c m e => by
    obtain ⟨a, fd, ps, k, sp, h⟩ := (F.mts h f c m e).ex
    exact ⟨a, fd, ps, k, sp, h⟩
theorem Fits.glb (F : Fits X S C) {x : Str} (h : glb S.sc x = true) : Gl X x := by
  show X.env.scope.names.lookup x = _
  rw [F.sc]
  exact glb_ok h
theorem Fits.bltn (F : Fits X S C) {x : Str} (h : bltn S x = true) : Gl X x ∧ X.mg x = none ∧ x ≠ "__name__" ∧ (x == ("__debug__" : Str)) = false := by
  unfold Z.bltn at h
  simp only [Bool.and_eq_true] at h
  obtain ⟨⟨h1, h2⟩, h3⟩ := h
  obtain ⟨n1, n2, n3⟩ := okName_ h2
  exact ⟨F.glb h1, F.gl.free x (by simpa using h3), n3, n1⟩
theorem Fits.name (F : Fits X S C) {i : Nat} {x : Str} (h : decide (S.N[i]? = some x) = true) : X.N[i]? = some x := by rw [F.hN]; exact of_decide_eq_true h
theorem Fits.sto (F : Fits X S C) {x : Str} (h : sto S x = true) : Loc X.env.scope x ∧ (X.fn x = true ∨ X.env.scope.names.lookup x = some .local) := by
  unfold Z.sto at h
  rw [F.sc, F.fn]
  split at h
  · rename_i e; exact ⟨.inl e, .inr e⟩
  · rename_i e; exact ⟨.inr e, .inl h⟩
  · cases h
/-! ### targets -/
def gNms : List Nat → TGs
  | [] => gNil
  | i :: is => gCons (gName i) (gNms is)
def tgD (K : PySem.W.Frag) : Tg → TG
  | .nm i => gName i
  | .tp is => gTup K is.length (gNms is)
theorem pgs_of (F : Fits X S C) : ∀ {is : List Nat} {es : List Expr}, chkT.goT S is es = true → PGs X es (gNms is) ∧ (assignEach es X.env).length = is.length ∧ (assignEach es X.env).findIdx? (·.1) = none
  | [], [], _ => ⟨pgs_nil, rfl, rfl⟩
  | [], e :: es, h => by cases e <;> simp [chkT.goT] at h
  | i :: is, [], h => by simp [chkT.goT] at h
  | i :: is, e :: es, h => by
    cases e with
    | Name x pos =>
      simp only [chkT.goT, Bool.and_eq_true] at h
      obtain ⟨⟨h1, h2⟩, h3⟩ := h
      obtain ⟨a, b, c⟩ := pgs_of F h3
      obtain ⟨l, f⟩ := F.sto h2
      have e0 : assignEach (.Name x pos :: es) X.env = (false, assign (.Name x pos) X.env) :: assignEach es X.env := rfl
      refine ⟨pgs_cons (pg_name F.nd (F.name h1) l f) a rfl, ?_, ?_⟩
      · rw [e0, List.length_cons, b]; rfl
      · rw [e0, List.findIdx?_cons]
        simp [c]
    | _ => simp [chkT.goT] at h
theorem pg_of (F : Fits X S C) (hc : X.calm = true) {t : Tg} {e : Expr} (h : chkT S t e = true) : PG X e (tgD X.K t) := by
  cases t with
  | nm i =>
    cases e with
    | Name x pos =>
      simp only [chkT, Bool.and_eq_true] at h
      obtain ⟨l, f⟩ := F.sto h.2
      exact pg_name F.nd (F.name h.1) l f
    | _ => simp [chkT] at h
  | tp is =>
    cases e with
    | Tuple es k pos =>
      have h : chkT.goT S is es = true := h
      obtain ⟨a, b, c⟩ := pgs_of F h
      exact pg_tup hc a b c
    | _ => simp [chkT] at h
theorem pg_ofL (F : Fits X S C) (hc : X.calm = true) {is : List Nat} {e : Expr} (h : chkT S (.tp is) e = true) : PG X e (gLst X.K is.length (gNms is)) := by
  cases e with
  | Tuple es k pos =>
    have h : chkT.goT S is es = true := h
    obtain ⟨a, b, c⟩ := pgs_of F h
    exact pg_lst hc a b c
  | _ => simp [chkT] at h
end
/-! ### wiped slots -/
theorem wipe_get (σ : L2.St) (j : Nat) : ∀ vs : List Nat, (wipe σ vs)[j]? = if j ∈ vs then (σ[j]?).map (fun _ => none) else σ[j]?
  | [] => by simp [wipe]
  | v :: vs => by
    unfold wipe
    by_cases h : v = j
    · subst h
      rw [List.getElem?_set_self']
      rw [wipe_get σ v vs]
      simp
      split <;> cases σ[v]? <;> rfl
    · rw [List.getElem?_set_ne h, wipe_get σ j vs]
      have : j ≠ v := fun e => h e.symm
      simp [this]
theorem wipe_set {σ : L2.St} {i : Nat} {o : Option V} {vs : List Nat} (h : i ∈ vs) : wipe (σ.set i o) vs = wipe σ vs := by
  apply List.ext_getElem?
  intro j
  rw [wipe_get, wipe_get]
  by_cases hj : j ∈ vs
  · rw [if_pos hj, if_pos hj]
    by_cases e : i = j
    · subst e
      rw [List.getElem?_set_self']
      cases σ[i]? <;> rfl
    · rw [List.getElem?_set_ne e]
  · rw [if_neg hj, if_neg hj]
    have e : i ≠ j := fun e => hj (e ▸ h)
    rw [List.getElem?_set_ne e]
theorem wipe_wipe {σ : L2.St} {vs : List Nat} : wipe (wipe σ vs) vs = wipe σ vs := by
  apply List.ext_getElem?
  intro j
  rw [wipe_get, wipe_get]
  split
  · cases σ[j]? <;> rfl
  · rfl
/-- the slots but some -/
structure RelX (K : PySem.W.Frag) (R H : Hp) (σ : L2.St) (env : Ev) (vs : List Nat) : Prop where
  sub : Same R H
  len : env.length = σ.length
  at_ : ∀ (i : Nat) (d : PyData), i ∉ vs → env[i]? = some (some d) → ∃ v, σ[i]? = some (some v) ∧ Dn K R v d
theorem Rel.wiped {K : PySem.W.Frag} {R H : Hp} {σ : L2.St} {env : Ev} (r : Rel K R H σ env) (vs : List Nat) : RelX K R H (wipe σ vs) env vs :=
  ⟨r.sub, by rw [wipe_length]; exact r.len, fun i d hi e => by
    obtain ⟨v, a, b⟩ := r.at_ i d e
    exact ⟨v, by rw [wipe_get, if_neg hi]; exact a, b⟩⟩
theorem RelX.set {K : PySem.W.Frag} {R H : Hp} {σ : L2.St} {env : Ev} {vs : List Nat} (r : RelX K R H σ env vs) (i : Nat) {v : V} {d : PyData} (h : Dn K R v d) : RelX K R H (σ.set i (some v)) (setV env i d) (vs.filter (· ≠ i)) := by
  refine ⟨r.sub, by simp [setV, r.len], fun j d' hj e => ?_⟩
  unfold setV at e
  by_cases hij : i = j
  · subst hij
    by_cases hl : i < env.length
    · rw [List.getElem?_set_self hl] at e
      cases e
      exact ⟨v, by rw [List.getElem?_set_self (by rw [← r.len]; exact hl)], h⟩
    · rw [List.getElem?_eq_none (by simpa using hl)] at e
      cases e
  · rw [List.getElem?_set_ne hij] at e ⊢
    refine r.at_ j d' (fun hm => hj ?_) e
    exact List.mem_filter.mpr ⟨hm, by simpa using fun e => hij e.symm⟩
theorem RelX.done {K : PySem.W.Frag} {R H : Hp} {σ : L2.St} {env : Ev} (r : RelX K R H σ env []) : Rel K R H σ env := ⟨r.sub, r.len, fun i d e => r.at_ i d (by simp) e⟩
theorem RelX.mono {K : PySem.W.Frag} {R H : Hp} {σ : L2.St} {env : Ev} {vs ws : List Nat} (r : RelX K R H σ env vs) (h : ∀ i ∈ vs, i ∈ ws) : RelX K R H σ env ws := ⟨r.sub, r.len, fun i d hi e => r.at_ i d (fun z => hi (h i z)) e⟩
/-- the targets are bound -/
theorem gnms_ok {K : PySem.W.Frag} {R H : Hp} {vs0 : List Nat} {Q : L2.St → Hp → Prop} : ∀ {is : List Nat} {σ : L2.St} {env env' : Ev} {vs : List Nat} {xs : List V} {ds : List PyData}, RelX K R H σ env vs → (∀ i ∈ is, i ∈ vs0) → DnA K R xs ds → setAll env is ds = some env' →
    (∀ σ2, RelX K R H σ2 env' (vs.filter (· ∉ is)) → wipe σ2 vs0 = wipe σ vs0 → Q σ2 H) → gNms is xs σ H Q
  | [], σ, env, env', vs, xs, ds, r, hi, hd, e, k => by
    cases hd with
    | nil =>
      have e : some env = some env' := e
      cases e
      exact ⟨rfl, k σ (r.mono fun i hi => List.mem_filter.mpr ⟨hi, by simp⟩) rfl⟩
    | cons _ _ => simp [setAll] at e
  | i :: is, σ, env, env', vs, xs, ds, r, hi, hd, e, k => by
    cases hd with
    | nil => simp [setAll] at e
    | cons h1 h2 =>
      have e : setAll (setV env i _) is _ = some env' := e
      refine ⟨_, _, rfl, ?_⟩
      refine gnms_ok (r.set i h1) (fun j hj => hi j (List.mem_cons_of_mem _ hj)) h2 e fun σ2 r2 hw => k σ2 ?_ (hw.trans (wipe_set (hi i List.mem_cons_self)))
      refine r2.mono fun j hj => ?_
      obtain ⟨hj1, hj2⟩ := List.mem_filter.mp hj
      obtain ⟨hj3, hj4⟩ := List.mem_filter.mp hj1
      refine List.mem_filter.mpr ⟨hj3, ?_⟩
      simp at hj2 hj4 ⊢
      exact ⟨hj4, hj2⟩
/-- data, or (w) a pair that is taken apart at once -/
def DnI (w : Bool) (K : PySem.W.Frag) (R : Hp) (v : V) (d : PyData) : Prop := Dn K R v d ∨ (w = true ∧ ∃ a xs ds, v = .ref a ∧ d = .tuple ds ∧ SqT K R a xs ∧ DnA K R xs ds)
theorem DnI.no {K : PySem.W.Frag} {R : Hp} {v : V} {d : PyData} (h : DnI false K R v d) : Dn K R v d := h.elim id fun z => nomatch z.1
theorem DnI.tp {w : Bool} {K : PySem.W.Frag} {R : Hp} {v : V} {ds : List PyData} (h : DnI w K R v (.tuple ds)) : ∃ a xs, v = .ref a ∧ SqT K R a xs ∧ DnA K R xs ds := by
  rcases h with h | ⟨_, a, xs, ds', e, z, hs, ha⟩
  · cases h with
    | tup hs ha => exact ⟨_, _, rfl, hs.sq, ha⟩
  · cases z; exact ⟨a, xs, e, hs, ha⟩
theorem tgD_ok {w : Bool} {K : PySem.W.Frag} {R H : Hp} {vs0 : List Nat} {Q : L2.St → Hp → Prop} {t : Tg} {σ : L2.St} {env env' : Ev} {x : V} {d : PyData} (r : RelX K R H σ env (slots t)) (hi : ∀ i ∈ slots t, i ∈ vs0) (hwt : w = true → ∃ is, t = .tp is) (hd : DnI w K R x d) (e : bindT env t d = .ok env')
    (k : ∀ σ2, Rel K R H σ2 env' → wipe σ2 vs0 = wipe σ vs0 → Q σ2 H) : tgD K t x σ H Q := by
  cases t with
  | nm i =>
    cases e
    refine k _ ?_ (wipe_set (hi i (by simp [slots])))
    have hd : Dn K R x d := by
      cases w with
      | true => obtain ⟨is, z⟩ := hwt rfl; cases z
      | false => exact hd.no
    have := r.set i hd
    simp [slots] at this
    exact this.done
  | tp is =>
    cases d with
    | tuple ds =>
      have e := someR_ok (show someR (setAll env is ds) = .ok env' from e)
      obtain ⟨a, xs, rfl, hs, ha⟩ := hd.tp
      · have hl : ∀ {is : List Nat} {env : Ev} {ds : List PyData}, setAll env is ds = some env' → ds.length = is.length := by
          intro is
          induction is with
          | nil => intro env ds h; cases ds <;> simp [setAll] at h ⊢
          | cons i is ih =>
            intro env ds h
            cases ds with
            | nil => simp [setAll] at h
            | cons d ds => simp [ih (show setAll (setV env i d) is ds = some env' from h)]
        refine ⟨_, _, rfl, SqT.mono r.sub hs, by rw [ha.length, hl e], ?_⟩
        refine gnms_ok (vs0 := vs0) r hi ha e fun σ2 r2 hw => k σ2 ?_ hw
        have : (slots (.tp is)).filter (· ∉ is) = [] := by
          rw [List.filter_eq_nil_iff]
          intro a ha
          simpa [slots] using ha
        rw [this] at r2
        exact r2.done
    | _ => cases e
end Z
end
section
/-! Z5: what is walked. -/
namespace Z
open PySem PySem.Spec PyProof.Rows L2
/-- the walk of data -/
def WalkD (w : Bool) (K : PySem.W.Frag) (R : Hp) (J : L2.It) (ds : List PyData) : Prop := ∃ (G : Hp → Prop) (Y : Nat → Hp → V → Hp → Prop), Walk J ds.length G Y ∧ (∀ H, Same R H → G H) ∧
  ∀ (i : Nat) (H : Hp) (x : V) (H' R2 : Hp), i < ds.length → Same R R2 → Same R2 H → Y i H x H' → ∃ R3 d, Ext R2 H R3 H' ∧ ds[i]? = some d ∧ DnI w K R3 x d
abbrev denI (w : Bool) (K : PySem.W.Frag) : Hp → L2.It → List PyData → Prop := fun R J ds => WalkD w K R J ds
def iD (w : Bool) (K : PySem.W.Frag) (W : WX) (f : Ev → Res (List PyData)) : TI := fun σ H Q => ∃ R env, Rel K R H σ env ∧ WantG K W σ (denI w K) R H (f env) Q
theorem piImp {X : Cx} {tg e : Expr} {t t' : TI} (h : PI X tg e t) (m : ∀ σ H Q, t' σ H Q → t σ H Q) : PI X tg e t' := ⟨fun pins s σ H Q I q => h.run pins s σ H Q I (m _ _ _ q)⟩
theorem walkD_list {w : Bool} {K : PySem.W.Frag} {R : Hp} {a : Addr} {xs : List V} {ds : List PyData} (h : Rd R a (.lst xs)) (ha : DnA K R xs ds) : WalkD w K R (Itl K a) ds := by
  refine ⟨fun H => SqL K H a xs, YAt xs, ?_, fun H s => .inl (Rd.mono s h), fun i H x H' R2 hi s1 s2 y => ?_⟩
  · rw [← ha.length]; exact walk_list
  · obtain ⟨rfl, e⟩ := y
    obtain ⟨v, e2, dn⟩ := ha.get (show ds[i]? = some ds[i] by simp [hi])
    rw [e] at e2
    cases e2
    exact ⟨R2, _, Ext.refl s2, by simp [hi], .inl (Dn.mono s1 _ _ dn)⟩
theorem walkD_tup {w : Bool} {K : PySem.W.Frag} {R : Hp} {a : Addr} {xs : List V} {ds : List PyData} (h : SqT K R a xs) (ha : DnA K R xs ds) : WalkD w K R (Itt K a) ds := by
  refine ⟨fun H => SqT K H a xs, YAt xs, ?_, fun H s => SqT.mono s h, fun i H x H' R2 hi s1 s2 y => ?_⟩
  · rw [← ha.length]; exact walk_tup
  · obtain ⟨rfl, e⟩ := y
    obtain ⟨v, e2, dn⟩ := ha.get (show ds[i]? = some ds[i] by simp [hi])
    rw [e] at e2
    cases e2
    exact ⟨R2, _, Ext.refl s2, by simp [hi], .inl (Dn.mono s1 _ _ dn)⟩
section
variable {w : Bool} {X : Cx} {W : WX} {tg e : Expr}
/-- a list, a tuple -/
theorem pi_seq {fa : Ev → Res PyData} (he : PE X e (tD X.K W fa)) : PI X tg e (iD w X.K W fun env => fa env >>= fun x => someR (seqOf x)) := by
  refine ⟨fun pins s σ H R I h => ?_⟩
  obtain ⟨R0, env, rel, hw⟩ := h
  have go : tD X.K W fa σ H (fun x H1 => ∃ a, x = .ref a ∧ ((∃ xs, SqL X.K H1 a xs ∧ R (Itl X.K a) H1) ∨ (∃ xs, SqT X.K H1 a xs ∧ R (Itt X.K a) H1))) := by
    refine ⟨R0, env, rel, hw.split fun dx x H1 R1 e1 d1 h1 => ?_⟩
    cases d1 with
    | lst hs ha => exact ⟨_, rfl, .inl ⟨_, .inl (Rd.mono e1.sub hs), h1 _ _ _ (Ext.refl e1.sub) (walkD_list hs ha)⟩⟩
    | tup hs ha => exact ⟨_, rfl, .inr ⟨_, hs.sqm e1.sub, h1 _ _ _ (Ext.refl e1.sub) (walkD_tup hs.sq ha)⟩⟩
    | _ => exact False.elim h1
  refine thn (he.run pins s σ H _ I go) fun v s1 ⟨x, H1, I1, r1, a, ex, q⟩ => ?_
  subst ex
  cases r1
  rcases q with ⟨xs, hq, q⟩ | ⟨xs, hq, q⟩
  · obtain ⟨its, rv, p, hz⟩ := I1.list hq
    refine wpAny_pyIter_list p.isList ?_
    refine ⟨s1.heap.objs.size, [s1.heap.objs.size], _, _, H1, rfl, I1.kept (t' := s1.toks) fun b o e => Heap.get?_push_of_some _ e, turn_list a _, ⟨_, Heap.get?_push_size _ rfl, rfl, rfl⟩, fun b hb => ?_, q⟩
    have e : b = s1.heap.objs.size := by simpa using hb
    subst e
    exact I1.fpOk (Nat.le_refl _) (I1.hok.fresh (Nat.le_refl _))
  · obtain ⟨its, rv, p, hz⟩ := I1.tuple hq
    refine wpAny_pyIter_tuple (show s1.heap.IsTuple a its.toArray from p) ?_
    refine ⟨s1.heap.objs.size, [s1.heap.objs.size], _, _, H1, rfl, I1.kept (t' := s1.toks) fun b o e => Heap.get?_push_of_some _ e, turn_tuple a _, ⟨_, Heap.get?_push_size _ rfl, rfl, rfl⟩, fun b hb => ?_, q⟩
    have e : b = s1.heap.objs.size := by simpa using hb
    subst e
    exact I1.fpOk (Nat.le_refl _) (I1.hok.fresh (Nat.le_refl _))
/-- a text -/
theorem walkD_str {w : Bool} {K : PySem.W.Frag} {R : Hp} (z : Str) : WalkD w K R (Its z) (sgnL z) := by
  have hl : (sgnL z).length = z.cps.size := by unfold sgnL; rw [List.length_map, Array.length_toList]
  refine ⟨fun _ => True, _, by rw [hl]; exact walk_str, fun _ _ => trivial, fun i H x H' R2 hi s1 s2 y => ?_⟩
  obtain ⟨rfl, c, e, rfl⟩ := y
  refine ⟨R2, .str ⟨#[c]⟩, Ext.refl s2, ?_, .inl (.str _)⟩
  unfold sgnL
  rw [List.getElem?_map, Array.getElem?_toList, e]
  rfl
theorem pi_os {fa : Ev → Res PyData} (he : PE X e (tD X.K W fa)) : PI X tg e (iD w X.K W fun env => fa env >>= fun x => (match x with | .str z => .ok (sgnL z) | _ => .stuck)) := by
  refine piImp (pi_str he) fun σ H Q ⟨R, env, rel, hw⟩ => ?_
  refine ⟨R, env, rel, hw.split fun dx x H1 R1 e1 d1 h1 => ?_⟩
  cases d1 with
  | str z => exact ⟨z, rfl, h1 _ _ _ (Ext.refl e1.sub) (walkD_str z)⟩
  | _ => exact False.elim h1
/-! ### range -/
theorem walkD_range {w : Bool} {K : PySem.W.Frag} {R : Hp} (lo : Int) (n : Nat) : WalkD w K R (Itr lo n) (rangeL lo n) := by
  have hl : (rangeL lo n).length = n := by simp [rangeL]
  refine ⟨fun _ => True, YFn fun i => .int (lo + i), by rw [hl]; exact walk_range, fun _ _ => trivial, fun i H x H' R2 hi s1 s2 y => ?_⟩
  obtain ⟨rfl, rfl⟩ := y
  rw [hl] at hi
  exact ⟨R2, .int (lo + (i : Nat)), Ext.refl s2, by simp [rangeL, hi], .inl (.int _)⟩
theorem walkD_rangeC {w : Bool} {K : PySem.W.Frag} {R : Hp} (lo c : Int) (n : Nat) : WalkD w K R (Itc lo c n) ((List.range n).map fun k => .int (lo + (k : Nat) * c)) := by
  have hl : ((List.range n).map fun k => PyData.int (lo + (k : Nat) * c)).length = n := by simp
  refine ⟨fun _ => True, YFn fun i => .int (lo + (i : Nat) * c), by rw [hl]; exact walk_rangeC, fun _ _ => trivial, fun i H x H' R2 hi s1 s2 y => ?_⟩
  obtain ⟨rfl, rfl⟩ := y
  rw [hl] at hi
  exact ⟨R2, .int (lo + (i : Nat) * c), Ext.refl s2, by simp [hi], .inl (.int _)⟩
theorem okI_ {i : Int} (h : okI i = true) : -16777216 ≤ i ∧ i ≤ 16777216 := of_decide_eq_true h
/-- arguments, one by one -/
def tOne (K : PySem.W.Frag) (W : WX) (fa : Ev → Res PyData) : TA := tCons (tD K W fa) tNil
/-- ranges: by no heap -/
abbrev denR (w : Bool) (K : PySem.W.Frag) : Hp → L2.It → List PyData → Prop := fun _ J ds => ∀ R, WalkD w K R J ds
def iR (w : Bool) (K : PySem.W.Frag) (W : WX) (f : Ev → Res (List PyData)) : TI := fun σ H Q => ∃ R env, Rel K R H σ env ∧ WantG K W σ (denR w K) R H (f env) Q
theorem iR_iD {w : Bool} {K : PySem.W.Frag} {W : WX} {f : Ev → Res (List PyData)} {σ : L2.St} {H : Hp} {Q : L2.It → Hp → Prop} (h : iD w K W f σ H Q) : iR w K W f σ H Q := by
  obtain ⟨R, env, rel, hw⟩ := h
  refine ⟨R, env, rel, ?_⟩
  revert hw
  cases f env with
  | ok ds => exact fun hw J H' R' e d => hw J H' R' e (d R')
  | exc c => exact fun hw => hw
  | stuck => exact fun hw => hw
theorem pi_rg1 {a : Expr} {p pos : Pos} {fa : Ev → Res PyData} (hg : Gl X "range") (hm : X.mg "range" = none) (ha : PE X a (tD X.K W fa)) (hs : starEach [a] X.env = [(false, eval a X.env)]) :
    PI X tg (.Call (.Name "range" p) [a] [] pos) (iR w X.K W fun env => fa env >>= fun x => rgD [x]) := by
  refine piImp (pi_range1 hg hm (pa_cons ha pa_nil hs) hs) fun σ H Q ⟨R, env, rel, h⟩ => ⟨R, env, rel, h.split fun d1 v1 H1 R1 e1 d1 h1 => ?_⟩
  cases d1 with
  | int n =>
    have h1 : WantG X.K W σ (denR w X.K) R1 H1 (if okI n then .ok (rangeL 0 n.toNat) else .stuck) Q := h1
    by_cases hn : okI n = true
    · rw [if_pos hn] at h1
      obtain ⟨k1, k2⟩ := okI_ hn
      exact ⟨n, rfl, by omega, by omega, h1 _ _ _ (Ext.refl e1.sub) (fun _ => walkD_range 0 _)⟩
    · rw [if_neg hn] at h1
      exact False.elim h1
  | _ => exact False.elim h1
theorem pi_rg2 {a b : Expr} {p pos : Pos} {fa fb : Ev → Res PyData} (hg : Gl X "range") (hm : X.mg "range" = none) (ha : PE X a (tD X.K W fa)) (hb : PE X b (tD X.K W fb)) (hs : starEach [a, b] X.env = [(false, eval a X.env), (false, eval b X.env)]) (hs2 : starEach [b] X.env = [(false, eval b X.env)]) :
    PI X tg (.Call (.Name "range" p) [a, b] [] pos) (iR w X.K W fun env => fa env >>= fun x => fb env >>= fun y => rgD [x, y]) := by
  refine piImp (pi_range2 hg hm (pa_cons ha (pa_cons hb pa_nil hs2) (by rw [hs, hs2])) hs hs2) fun σ H Q ⟨R, env, rel, h⟩ => ⟨R, env, rel, h.split fun d1 v1 H1 R1 e1 d1 h1 => ⟨R1, env, rel.ext e1, h1.split fun d2 v2 H2 R2 e2 d2 h2 => ?_⟩⟩
  cases d1 with
  | int n => cases d2 with
    | int m =>
      have h2 : WantG X.K W σ (denR w X.K) R2 H2 (if okI n && okI m then .ok (rangeL n (m - n).toNat) else .stuck) Q := h2
      by_cases hn : (okI n && okI m) = true
      · rw [if_pos hn] at h2
        obtain ⟨hn, hm'⟩ := (Bool.and_eq_true _ _).mp hn
        obtain ⟨k1, k2⟩ := okI_ hn
        obtain ⟨k3, k4⟩ := okI_ hm'
        exact ⟨n, m, rfl, ⟨by omega, by omega, by omega, by omega⟩, h2 _ _ _ (Ext.refl e2.sub) (fun _ => walkD_range n _)⟩
      · rw [if_neg hn] at h2
        exact False.elim h2
    | _ => exact False.elim h2
  | _ => exact False.elim (by cases d2 <;> exact h2)
theorem div_small {x k : Int} (hk : 0 < k) (h0 : 0 ≤ x) (h1 : x ≤ 100000000) : 0 ≤ x / k ∧ x / k ≤ 100000000 := by
  refine ⟨Int.ediv_nonneg h0 (by omega), ?_⟩
  exact Int.le_trans (Int.ediv_le_self k h0) h1
theorem small_up {n m k : Int} (h1 : -16777216 ≤ n) (h2 : n ≤ 16777216) (h3 : -16777216 ≤ m) (h4 : m ≤ 16777216) (h5 : 0 < k) (h6 : k ≤ 16777216) : Builtin.Range.small n m k = true := by
  unfold Builtin.Range.small Builtin.Range.rangeSize
  rw [if_pos h5]
  by_cases hlt : n < m
  · rw [if_pos hlt]
    obtain ⟨q1, q2⟩ := div_small h5 (show 0 ≤ m - n - 1 by omega) (by omega)
    generalize (m - n - 1) / k = z at q1 q2 ⊢
    simp only [Builtin.Range.rangeFitsLong, Bool.and_eq_true, Bool.or_eq_true, decide_eq_true_eq, beq_iff_eq]
    rw [if_pos (show k > 0 from h5)]
    refine ⟨⟨⟨⟨⟨by omega, by omega⟩, by omega, by omega⟩, by omega, by omega⟩, by omega, by omega⟩, ?_⟩
    refine .inr ((Bool.and_eq_true _ _).mpr ⟨decide_eq_true (by omega), decide_eq_true (by omega)⟩)
  · rw [if_neg hlt]
    simp only [Builtin.Range.rangeFitsLong, Bool.and_eq_true, Bool.or_eq_true, decide_eq_true_eq, beq_iff_eq]
    rw [if_pos (show k > 0 from h5)]
    refine ⟨⟨⟨⟨⟨by omega, by omega⟩, by omega, by omega⟩, by omega, by omega⟩, by omega, by omega⟩, ?_⟩
    refine .inr ((Bool.and_eq_true _ _).mpr ⟨decide_eq_true (by omega), decide_eq_true (by omega)⟩)
theorem pi_rg3 {a b c : Expr} {p pos : Pos} {fa fb fc : Ev → Res PyData} (hg : Gl X "range") (hm : X.mg "range" = none) (ha : PE X a (tD X.K W fa)) (hb : PE X b (tD X.K W fb)) (hc : PE X c (tD X.K W fc)) (hs : starEach [a, b, c] X.env = (false, eval a X.env) :: starEach [b, c] X.env)
    (hs2 : starEach [b, c] X.env = (false, eval b X.env) :: starEach [c] X.env) (hs3 : starEach [c] X.env = (false, eval c X.env) :: starEach [] X.env) :
    PI X tg (.Call (.Name "range" p) [a, b, c] [] pos) (iR w X.K W fun env => fa env >>= fun x => fb env >>= fun y => fc env >>= fun z => rgD [x, y, z]) := by
  refine piImp (pi_range3 hg hm (pa_cons ha (pa_cons hb (pa_cons hc pa_nil hs3) hs2) hs) hs (by rw [hs2, hs3]; rfl)) fun σ H Q ⟨R, env, rel, h⟩ => ⟨R, env, rel, h.split fun d1 v1 H1 R1 e1 d1 h1 => ⟨R1, env, rel.ext e1, h1.split fun d2 v2 H2 R2 e2 d2 h2 =>
    ⟨R2, env, (rel.ext e1).ext e2, h2.split fun d3 v3 H3 R3 e3 d3 h3 => ?_⟩⟩⟩
  cases d1 with
  | int n => cases d2 with
    | int m => cases d3 with
      | int k =>
        have h3 : WantG X.K W σ (denR w X.K) R3 H3 (if okI n && okI m && decide (0 < k ∧ k ≤ 16777216) then .ok ((List.range (if n < m then ((m - n - 1) / k + 1).toNat else 0)).map fun j => .int (n + (j : Nat) * k)) else if okI n && okI m && decide (k = -1) then .ok ((List.range (n - m).toNat).map fun j => .int (n + (j : Nat) * k)) else .stuck) Q := h3
        by_cases hn : (okI n && okI m && decide (0 < k ∧ k ≤ 16777216)) = true
        · rw [if_pos hn] at h3
          obtain ⟨hn, hk⟩ := (Bool.and_eq_true _ _).mp hn
          obtain ⟨hn, hm'⟩ := (Bool.and_eq_true _ _).mp hn
          obtain ⟨k1, k2⟩ := okI_ hn
          obtain ⟨k3, k4⟩ := okI_ hm'
          have hk := of_decide_eq_true hk
          refine ⟨n, m, k, _, rfl, ⟨by omega, by omega, small_up k1 k2 k3 k4 hk.1 hk.2, ?_⟩, h3 _ _ _ (Ext.refl e3.sub) (fun _ => walkD_rangeC n k _)⟩
          unfold Builtin.Range.rangeSize
          rw [if_pos hk.1]
          split
          · have : 0 ≤ (m - n - 1) / k := Int.ediv_nonneg (by omega) (by omega)
            omega
          · rfl
        · rw [if_neg hn] at h3
          by_cases hn2 : (okI n && okI m && decide (k = -1)) = true
          · rw [if_pos hn2] at h3
            obtain ⟨hn2, hk⟩ := (Bool.and_eq_true _ _).mp hn2
            obtain ⟨hn2, hm'⟩ := (Bool.and_eq_true _ _).mp hn2
            obtain ⟨k1, k2⟩ := okI_ hn2
            obtain ⟨k3, k4⟩ := okI_ hm'
            have hk : k = -1 := of_decide_eq_true hk
            subst hk
            exact ⟨n, m, -1, _, rfl, RgC.neg (by omega) (by omega) (by omega) (by omega), h3 _ _ _ (Ext.refl e3.sub) (fun _ => walkD_rangeC n (-1) _)⟩
          · rw [if_neg hn2] at h3
            exact False.elim h3
      | _ => exact False.elim h3
    | _ => exact False.elim (by cases d3 <;> exact h3)
  | _ => exact False.elim (by cases d2 <;> cases d3 <;> exact h3)
/-! ### enumerate, zip -/
def IsSq (b : Bool) (h : Heap) (a : Addr) (items : Array Value) : Prop := match b with
  | true => h.IsList a items
  | false => h.IsTuple a items
def IsSqIt (b : Bool) (h : Heap) (it a : Addr) (i : Nat) : Prop := match b with
  | true => h.IsListIter it a i
  | false => h.IsTupleIter it a i
def sqIter (b : Bool) (a : Addr) : Obj := match b with
  | true => { cls := .type "list_iterator", data := .fields #[.ref a, .int 0 0] }
  | false => { cls := .type "tuple_iterator", data := .fields #[.ref a, .int 0 0] }
theorem draws_sq {prog : Program} {w : World} {A : Around} (b : Bool) (hh : A.handled = none) (it l : Addr) (hne : l ≠ it) (items : Array Value) :
    Draws prog w A it [it, l] items.size (fun i v => items[i]? = some v) (fun i h => IsSqIt b h it l i ∧ IsSq b h l items) := by
  cases b with
  | true => exact Draws.list hh it l hne items
  | false => exact Draws.tuple hh it l hne items
theorem begins_sq (b : Bool) (l : Addr) (items : Array Value) : Begins (.ref l) (sqIter b l) fun h => IsSq b h l items := by
  cases b with
  | true => exact begins_list l items
  | false => exact begins_tuple l items
theorem IsSqIt.at {b : Bool} {h h' : Heap} {it a : Addr} {i : Nat} (x : IsSqIt b h it a i) (k : ∀ o, h.get? it = some o → h'.get? it = some o) : IsSqIt b h' it a i := by
  cases b with
  | true => exact Heap.IsListIter.at x k
  | false => exact Heap.IsTupleIter.at x k
theorem IsSqIt.obj {b : Bool} {h : Heap} {it a : Addr} {i : Nat} (x : IsSqIt b h it a i) : ∃ o c vs, h.get? it = some o ∧ o.cls = .type c ∧ (c = "list_iterator" ∨ c = "tuple_iterator") ∧ o.data = .fields vs := by
  cases b with
  | true => obtain ⟨o, e, c, d⟩ := x; exact ⟨o, _, _, e, c, .inl rfl, d⟩
  | false => obtain ⟨o, e, c, d⟩ := x; exact ⟨o, _, _, e, c, .inr rfl, d⟩
theorem IsSq.obj {b : Bool} {h : Heap} {a : Addr} {items : Array Value} (x : IsSq b h a items) : ∃ o c, h.get? a = some o ∧ o.cls = .type c ∧ (c = "list" ∨ c = "tuple") := by
  cases b with
  | true => obtain ⟨o, e, c, d⟩ := x; exact ⟨o, _, e, c, .inl rfl⟩
  | false => obtain ⟨o, e, c, d⟩ := x; exact ⟨o, _, e, c, .inr rfl⟩
theorem sq_apart {b : Bool} {h : Heap} {a x : Addr} {items : Array Value} {o : Obj} {c : String} (q : IsSq b h a items) (e : h.get? x = some o) (hc : o.cls = .type c) (h1 : c ≠ "list") (h2 : c ≠ "tuple") : x ≠ a := by
  intro z
  obtain ⟨o', c', e', k, r⟩ := q.obj
  rw [z, e'] at e
  cases e
  rw [k] at hc
  cases hc
  rcases r with r | r
  · exact h1 r
  · exact h2 r
/-- which it is, in the heap -/
def SqB (b : Bool) (K : PySem.W.Frag) (H : Hp) (a : Addr) (xs : List V) : Prop := match b with
  | true => Rd H a (.lst xs)
  | false => SqT K H a xs
theorem SqB.mono {b : Bool} {K : PySem.W.Frag} {H H' : Hp} {a : Addr} {xs : List V} (s : Same H H') (h : SqB b K H a xs) : SqB b K H' a xs := by
  cases b with
  | true => exact Rd.mono s h
  | false => exact SqT.mono s h
theorem SqB.sq {b : Bool} {pins : List (Addr × Obj)} {σ : L2.St} {H : Hp} {s : Shared} {a : Addr} {xs : List V} (I : Inv X pins σ H s) (h : SqB b X.K H a xs) : ∃ its : List Value, Vals xs its ∧ IsSq b s.heap a its.toArray := by
  cases b with
  | true =>
    obtain ⟨its, rv, p, _⟩ := I.list (.inl h)
    exact ⟨its, rv, p.isList⟩
  | false =>
    obtain ⟨its, rv, p, _⟩ := I.tuple h
    exact ⟨its, rv, p⟩
theorem seq_of {K : PySem.W.Frag} {R : Hp} {v : V} {d : PyData} {ds : List PyData} (h : Dn K R v d) (e : seqOf d = some ds) : ∃ b a xs, v = .ref a ∧ SqB b K R a xs ∧ DnA K R xs ds := by
  cases h with
  | lst hs ha => cases e; exact ⟨true, _, _, rfl, hs, ha⟩
  | tup hs ha => cases e; exact ⟨false, _, _, rfl, hs.sq, ha⟩
  | _ => cases e
def Jen (b : Bool) (K : PySem.W.Frag) (a : Addr) (xs : List V) : L2.It :=
  ⟨fun i H => i < xs.length ∧ SqB b K H a xs, fun i H v H' => ∃ T x, v = .ref T ∧ H T = none ∧ H' = upd H T (.tup [.int (i : Nat), x]) ∧ xs[i]? = some x, fun i H => i = xs.length ∧ SqB b K H a xs⟩
theorem turn_en {P : Program} {w : World} {K : PySem.W.Frag} {elts : List Expr} {kk : Nat} {tpos : Pos} (b : Bool) (a e it : Addr) (xs : List V) :
    Turn P w K (.Tuple elts kk tpos) (Jen b K a xs) [e, it] e (fun i h => (∃ old, IsEnum h e it (0 + (i : Int)) old) ∧ IsSqIt b h it a i ∧ e ≠ it) where
  mem := by simp
  obj := fun i h st c hb => by
    obtain ⟨⟨old, he⟩, hi, _⟩ := st
    obtain ⟨o, _, vs, ho, _, _, hd⟩ := hi.obj
    have e' : c = e ∨ c = it := by simpa using hb
    rcases e' with z | z
    · rw [z]; exact ⟨_, he, fun v q => nomatch q⟩
    · rw [z]; exact ⟨o, ho, fun v q => by rw [hd] at q; cases q⟩
  keep := fun i h h' st k => let ⟨⟨old, he⟩, hi, hne⟩ := st; ⟨⟨old, k e (by simp) _ he⟩, hi.at fun o q => k it (by simp) o q, hne⟩
  item := by
    intro X hP hw hK hc i pins s σ H E I hf st hg
    subst hP hw hK
    obtain ⟨⟨old, he⟩, hit, hne⟩ := st
    obtain ⟨hi, hq⟩ := hg
    obtain ⟨its, rv, p⟩ := SqB.sq I hq
    obtain ⟨x, hx⟩ : ∃ x, xs[i]? = some x := ⟨xs[i], by simp [hi]⟩
    obtain ⟨oi, ci, vi, hoi, hci, hcc, _⟩ := hit.obj
    have n1 : it ≠ a := sq_apart p hoi hci (by rcases hcc with z | z <;> rw [z] <;> decide) (by rcases hcc with z | z <;> rw [z] <;> decide)
    have n2 : e ≠ a := sq_apart (c := "enumerate") p he rfl (by decide) (by decide)
    have D := draws_sq (prog := X.prog) (w := X.w) (A := X.A.in1) b (I.ok.hd hc) it a (Ne.symm n1) its.toArray
    have G := GoesN.enumFrom (elts := elts) (x1 := kk) (pos := tpos) 0 D e hne (by simp [hne, n2]) (by simp)
    refine G.goes i s _ E (by rw [List.size_toArray, ← rv.length]; exact hi) ⟨⟨old, he⟩, hit, p⟩ fun v h' tk hY st' hk _ => ?_
    obtain ⟨T, t, y, rfl, hT, hy, hTt⟩ := hY
    obtain ⟨u, hu, ru⟩ := rv.get hx
    have hyu : y = u := by
      have : its.toArray[i]? = some u := by simpa using hu
      rw [this] at hy
      exact (Option.some.inj hy).symm
    subst hyu
    have new : ObjOk X.prog X.w (upd H T (.tup [.int (i : Nat), x])) h' T (.tup [.int (i : Nat), x]) :=
      ⟨by show 2 ≤ sizeLine; decide, [.int (0 + (i : Int)) t, y], .cons ⟨t, by rw [Int.zero_add]⟩ (.cons ru .nil), hTt⟩
    have I1 : Inv X pins σ (upd H T (.tup [.int (i : Nat), x])) { s with heap := h', toks := tk } := I.turnedNew (ch := [e, it]) hk hf hT new
    obtain ⟨he2, hit2, _⟩ := st'
    refine ⟨.ref T, _, I1, rfl, ⟨T, x, rfl, I.hok.fresh hT, rfl, hx⟩, ⟨he2, hit2, hne⟩, fun c hb => ?_⟩
    have hb' : c < s.heap.objs.size := by
      have e' : c = e ∨ c = it := by simpa using hb
      rcases e' with z | z
      · rw [z]; exact Heap.lt_size he
      · rw [z]; exact Heap.lt_size hoi
    rw [upd_ne (Nat.ne_of_lt (Nat.lt_of_lt_of_le hb' hT))]
    exact (hf c hb).1
  done := by
    intro X hP hw hK hc i pins s σ H E I hf st hg
    subst hP hw hK
    obtain ⟨⟨old, he⟩, hit, hne⟩ := st
    obtain ⟨hi, hq⟩ := hg
    obtain ⟨its, rv, p⟩ := SqB.sq I hq
    obtain ⟨oi, ci, vi, hoi, hci, hcc, _⟩ := hit.obj
    have n1 : it ≠ a := sq_apart p hoi hci (by rcases hcc with z | z <;> rw [z] <;> decide) (by rcases hcc with z | z <;> rw [z] <;> decide)
    have n2 : e ≠ a := sq_apart (c := "enumerate") p he rfl (by decide) (by decide)
    have D := draws_sq (prog := X.prog) (w := X.w) (A := X.A.in1) b (I.ok.hd hc) it a (Ne.symm n1) its.toArray
    have G := GoesN.enumFrom (elts := elts) (x1 := kk) (pos := tpos) 0 D e hne (by simp [hne, n2]) (by simp)
    have hn : i = its.toArray.size := by rw [List.size_toArray, ← rv.length]; exact hi
    subst hn
    exact G.stops s _ E ⟨⟨old, he⟩, hit, p⟩ fun h' tk hk _ => I.turnedL hk hf
  self := fun A i s Q E st h => let ⟨⟨_, he⟩, _⟩ := st; wpAny_pyIter_enum he h
theorem meets_enumerate_new1 {v : Value} {o : Obj} {H : Heap → Prop} (B : Begins v o H) :
    Meets (Builtin.«enumerate.__new__» ⟨[.type "enumerate", v], []⟩) (fun _ R s => H s.heap ∧
      R (.ok (.ret (.ref (s.heap.push o).objs.size))) { s with heap := (s.heap.push o).push { cls := .type "enumerate", data := .fields #[.none, .bool false, .ref s.heap.objs.size, rawInt 0, .none, .none] } }) :=
  .of_wp fun prog w A R s h => by
    obtain ⟨hp, g, d, tk, os⟩ := s; obtain ⟨h1, h⟩ := h
    have hsub := sub_enumerate
    have q1 : ∀ {A' : Around} {E : Value → Shared → Prop} {Q : Value → Shared → Prop}, Q (.ref hp.objs.size) ⟨hp.push o, g, d, tk, os⟩ → wpAny (model prog w) A' (pyIter v) Q E ⟨hp, g, d, tk, os⟩ :=
      fun q => B.iter prog w _ _ ⟨hp, g, d, tk, os⟩ _ h1 q
    wp_walk using q1
    refine wpAny_stack_any fun st => wpAny_pure ?_
    split
    · rename_i c _ _ _ _ _
      cases (c == Value.type "enumerate")
      · wp_walk using q1
        exact ⟨_, rfl, h⟩
      · wp_walk using q1
        exact ⟨_, rfl, h⟩
    · wp_walk using q1
      exact ⟨_, rfl, h⟩
theorem enum_begins1 {prog : Program} {w : World} {A : Around} {E : Value → Shared → Prop} {s : Shared} {v : Value} {o : Obj} {H : Heap → Prop} {Q : Value → Shared → Prop} (B : Begins v o H) (h1 : H s.heap)
    (h : ∀ h', IsEnum h' (s.heap.objs.size + 1) s.heap.objs.size 0 .none → h'.get? s.heap.objs.size = some o → h'.objs.size = s.heap.objs.size + 2 →
      (∀ b o, s.heap.get? b = some o → h'.get? b = some o) → Q (.ref (s.heap.objs.size + 1)) { s with heap := h' }) :
    wpAny (model prog w) A (call (.type "enumerate") [v]) Q E s := by
  refine callType_new F.called_enumerate (by decide) (F.typeCall_enumerate_1 _) (F.newCall_enumerate_1 _) (fun obj => F.args_object_init_2 obj _) F.entry_enumerate_new
    (meets_enumerate_new1 B) ⟨h1, ?_⟩
  have hz : (s.heap.push o).objs.size = s.heap.objs.size + 1 := Heap.size_push ..
  show _ ∧ _
  rw [hz]
  have he : IsEnum ((s.heap.push o).push { cls := .type "enumerate", data := .fields #[.none, .bool false, .ref s.heap.objs.size, rawInt 0, .none, .none] }) (s.heap.objs.size + 1) s.heap.objs.size 0 .none := by
    have := Heap.get?_push_size (s.heap.push o) (o := { cls := .type "enumerate", data := .fields #[.none, .bool false, .ref s.heap.objs.size, rawInt 0, .none, .none] }) rfl
    rw [hz] at this; exact this
  exact ⟨⟨_, he, rfl⟩, h _ he (Heap.get?_push_of_some _ (Heap.get?_push_size _ B.free)) (by rw [Heap.size_push, hz]) fun b o x => Heap.get?_push_of_some _ (Heap.get?_push_of_some _ x)⟩
theorem enumL_get (ds : List PyData) : ∀ (k i : Nat), (enumL k ds)[i]? = (ds[i]?).map fun d => .tuple [.int ((k + i : Nat) : Int), d] := by
  induction ds with
  | nil => intro k i; simp [enumL]
  | cons d r ih =>
    intro k i
    cases i with
    | zero => simp [enumL]
    | succ i =>
      have := ih (k + 1) i
      simp only [enumL, List.getElem?_cons_succ, this]
      congr 2
      funext d
      congr 4
      omega
theorem enumL_length (ds : List PyData) : ∀ k : Nat, (enumL k ds).length = ds.length := by
  induction ds with
  | nil => intro k; rfl
  | cons d r ih => intro k; simp [enumL, ih]
theorem walkD_en {K : PySem.W.Frag} {R : Hp} {b : Bool} {a : Addr} {xs : List V} {ds : List PyData} (h : SqB b K R a xs) (ha : DnA K R xs ds) : WalkD true K R (Jen b K a xs) (enumL 0 ds) := by
  have hl : (enumL 0 ds).length = xs.length := by rw [enumL_length, ha.length]
  refine ⟨fun H => SqB b K H a xs, fun i H v H' => ∃ T x, v = .ref T ∧ H T = none ∧ H' = upd H T (.tup [.int (i : Nat), x]) ∧ xs[i]? = some x, ?_, fun H s => h.mono s, fun i H x H' R2 hi s1 s2 y => ?_⟩
  · rw [hl]
    exact ⟨fun i H hi g => ⟨hi, g⟩, fun H g => ⟨rfl, g⟩, fun i H x H' hi g y => y⟩
  · obtain ⟨T, x', rfl, hT, rfl, hx⟩ := y
    rw [enumL_length] at hi
    obtain ⟨v, e2, dn⟩ := ha.get (show ds[i]? = some ds[i] by simp [hi])
    rw [hx] at e2
    cases e2
    refine ⟨upd R2 T (.tup [.int (i : Nat), x']), .tuple [.int (i : Nat), ds[i]], Ext.alloc s2 hT, by rw [enumL_get]; simp [hi], .inr ⟨rfl, _, _, _, rfl, rfl, .inl (.inl upd_same), .cons (.int _) (.cons ?_ .nil)⟩⟩
    exact Dn.mono (s1.trans (same_upd (s2.free hT))) _ _ dn
theorem pi_en {e : Expr} {p pos tpos : Pos} {elts : List Expr} {kk : Nat} {fa : Ev → Res PyData} (hg : Gl X "enumerate") (hm : X.mg "enumerate" = none) (ha : PE X e (tD X.K W fa)) (hs : starEach [e] X.env = [(false, eval e X.env)]) :
    PI X (.Tuple elts kk tpos) (.Call (.Name "enumerate" p) [e] [] pos) (iD true X.K W fun env => fa env >>= fun x => someR ((seqOf x).map (enumL 0))) := by
  refine ⟨fun pins s σ H R I h => ?_⟩
  obtain ⟨R0, env, rel, hw⟩ := h
  have go : tCons (tD X.K W fa) tNil σ H (fun vs H1 => ∃ b a xs, vs = [.ref a] ∧ SqB b X.K H1 a xs ∧ R (Jen b X.K a xs) H1) := by
    refine ⟨R0, env, rel, hw.split fun dx x H1 R1 e1 d1 h1 => ?_⟩
    cases q : seqOf dx with
    | none => rw [q] at h1; exact False.elim h1
    | some ds =>
      rw [q] at h1
      obtain ⟨b, a, xs, rfl, hs, ha⟩ := seq_of d1 q
      exact ⟨b, a, xs, rfl, hs.mono e1.sub, h1 _ _ _ (Ext.refl e1.sub) (walkD_en hs ha)⟩
  refine Call_ (ld_blt I hg hm boot_enumerate (PyProof.Rows.callWith_type1 (thn ((pa_cons ha pa_nil hs).run pos pins s σ H _ I go) fun us s1 ⟨vs, H1, I1, r1, q1⟩ => ?_) hs rfl))
  obtain ⟨b, a, xs, ex, hq, q⟩ := q1
  subst ex
  cases r1 with
  | cons r rr =>
    cases rr
    cases r
    obtain ⟨its, rv, p'⟩ := SqB.sq I1 hq
    refine enum_begins1 (begins_sq b a its.toArray) p' fun h' he hit hsz hk => wpAny_pyIter_enum he ?_
    have I2 : Inv X pins σ H1 { s1 with heap := h' } := I1.kept (t' := s1.toks) hk
    refine ⟨s1.heap.objs.size + 1, [s1.heap.objs.size + 1, s1.heap.objs.size], _, _, H1, rfl, I2, turn_en b a (s1.heap.objs.size + 1) s1.heap.objs.size xs, ⟨⟨.none, he⟩, ?_, Nat.succ_ne_self _⟩, fun c hb => ?_, q⟩
    · cases b with
      | true => exact ⟨_, hit, rfl, rfl⟩
      | false => exact ⟨_, hit, rfl, rfl⟩
    · have e' : c = s1.heap.objs.size + 1 ∨ c = s1.heap.objs.size := by simpa using hb
      have hle : s1.heap.objs.size ≤ c := by
        rcases e' with z | z
        · rw [z]; exact Nat.le_add_right _ _
        · rw [z]; exact Nat.le_refl _
      exact I1.fpOk hle (I1.hok.fresh hle)
/-! zip -/
def Jzp (b c : Bool) (K : PySem.W.Frag) (a d : Addr) (xs ys : List V) : L2.It :=
  ⟨fun i H => i < min xs.length ys.length ∧ SqB b K H a xs ∧ SqB c K H d ys, fun i H v H' => ∃ T x y, v = .ref T ∧ H T = none ∧ H' = upd H T (.tup [x, y]) ∧ xs[i]? = some x ∧ ys[i]? = some y,
    fun i H => i = min xs.length ys.length ∧ SqB b K H a xs ∧ SqB c K H d ys⟩
structure ZpSt (b c : Bool) (a d z TI TO i1 i2 : Addr) (i : Nat) (h : Heap) : Prop where
  zp : IsZip h z TI TO .none
  ti : IsTupOf2 h TI (.ref i1) (.ref i2)
  to : ∃ a1 a2, IsTupOf2 h TO a1 a2
  s1 : IsSqIt b h i1 a i
  s2 : IsSqIt c h i2 d i
structure ZpNe (z TI TO i1 i2 : Addr) : Prop where
  TIz : TI ≠ z
  TOz : TO ≠ z
  TITO : TI ≠ TO
  TIi1 : TI ≠ i1
  TIi2 : TI ≠ i2
  zi1 : z ≠ i1
  zi2 : z ≠ i2
  TOi1 : TO ≠ i1
  TOi2 : TO ≠ i2
  i12 : i1 ≠ i2
theorem zp_sep {b c : Bool} {a d z TI TO i1 i2 : Addr} {i : Nat} {h : Heap} {u v : Array Value} (D : ZpNe z TI TO i1 i2) (st : ZpSt b c a d z TI TO i1 i2 i h) (ha : IsSq b h a u) (hd : IsSq c h d v) (hTa : TO ≠ a) (hTd : TO ≠ d) :
    ZipSep2 z TI TO i1 i2 [i1, a] [i2, d] ∧ i1 ≠ a ∧ i2 ≠ d := by
  obtain ⟨o1, c1, _, e1, k1, r1, _⟩ := st.s1.obj
  obtain ⟨o2, c2, _, e2, k2, r2, _⟩ := st.s2.obj
  have w1 : c1 ≠ "list" ∧ c1 ≠ "tuple" := by rcases r1 with z | z <;> rw [z] <;> decide
  have w2 : c2 ≠ "list" ∧ c2 ≠ "tuple" := by rcases r2 with z | z <;> rw [z] <;> decide
  have za : z ≠ a := sq_apart (c := "zip") ha st.zp rfl (by decide) (by decide)
  have zd : z ≠ d := sq_apart (c := "zip") hd st.zp rfl (by decide) (by decide)
  have i1a : i1 ≠ a := sq_apart ha e1 k1 w1.1 w1.2
  have i1d : i1 ≠ d := sq_apart hd e1 k1 w1.1 w1.2
  have i2a : i2 ≠ a := sq_apart ha e2 k2 w2.1 w2.2
  have i2d : i2 ≠ d := sq_apart hd e2 k2 w2.1 w2.2
  exact ⟨⟨D.TIz, D.TOz, D.TITO, D.TIi1, by simp, by simp [D.zi1, za], by simp [D.TOi1, hTa], D.TIi2, by simp, by simp [D.zi2, zd], by simp [D.TOi2, hTd], by simp [D.i12, i1d], by simp [Ne.symm D.i12, i2a]⟩, i1a, i2d⟩
theorem turn_zp {P : Program} {w : World} {K : PySem.W.Frag} {elts : List Expr} {kk : Nat} {tpos : Pos} (b c : Bool) (a d z TI TO i1 i2 : Addr) (xs ys : List V) (D : ZpNe z TI TO i1 i2) (hTa : TO ≠ a) (hTd : TO ≠ d) :
    Turn P w K (.Tuple elts kk tpos) (Jzp b c K a d xs ys) [z, TI, TO, i1, i2] z (fun i h => ZpSt b c a d z TI TO i1 i2 i h) where
  mem := by simp
  obj := fun i h st x hb => by
    obtain ⟨o1, c1, v1, e1, k1, r1, d1⟩ := st.s1.obj
    obtain ⟨o2, c2, v2, e2, k2, r2, d2⟩ := st.s2.obj
    obtain ⟨a1, a2, hTO⟩ := st.to
    have e' : x = z ∨ x = TI ∨ x = TO ∨ x = i1 ∨ x = i2 := by simpa using hb
    rcases e' with q | q | q | q | q
    · rw [q]; exact ⟨_, st.zp, fun v q => nomatch q⟩
    · rw [q]; exact ⟨_, st.ti, fun v q => nomatch q⟩
    · rw [q]; exact ⟨_, hTO, fun v q => nomatch q⟩
    · rw [q]; exact ⟨o1, e1, fun v q => by rw [d1] at q; cases q⟩
    · rw [q]; exact ⟨o2, e2, fun v q => by rw [d2] at q; cases q⟩
  keep := fun i h h' st k => by
    obtain ⟨hz, hTI, ⟨x, y, hTO⟩, h1, h2⟩ := st
    exact ⟨k z (by simp) _ hz, k TI (by simp) _ hTI, ⟨x, y, k TO (by simp) _ hTO⟩, h1.at fun o q => k i1 (by simp) o q, h2.at fun o q => k i2 (by simp) o q⟩
  item := by
    intro X hP hw hK hc i pins s σ H E I hf st hg
    subst hP hw hK
    obtain ⟨hi, hq1, hq2⟩ := hg
    obtain ⟨its, rv, p⟩ := SqB.sq I hq1
    obtain ⟨its2, rv2, p2⟩ := SqB.sq I hq2
    obtain ⟨S, n1, n2⟩ := zp_sep D st p p2 hTa hTd
    have D1 := draws_sq (prog := X.prog) (w := X.w) (A := X.A.in1) b (I.ok.hd hc) i1 a (Ne.symm n1) its.toArray
    have D2 := draws_sq (prog := X.prog) (w := X.w) (A := X.A.in1) c (I.ok.hd hc) i2 d (Ne.symm n2) its2.toArray
    have G := GoesN.zip2 (elts := elts) (x1 := kk) (pos := tpos) S D1 D2
    obtain ⟨x, hx⟩ : ∃ x, xs[i]? = some x := ⟨xs[i]'(by omega), by simp [show i < xs.length by omega]⟩
    obtain ⟨y, hy⟩ : ∃ y, ys[i]? = some y := ⟨ys[i]'(by omega), by simp [show i < ys.length by omega]⟩
    refine G.goes i s _ E (by rw [List.size_toArray, List.size_toArray, ← rv.length, ← rv2.length]; exact hi) ⟨st.zp, st.ti, st.to, ⟨st.s1, p⟩, st.s2, p2⟩ fun v h' tk hY st' hk _ => ?_
    obtain ⟨T, x', y', rfl, hT, hx', hy', hTt⟩ := hY
    obtain ⟨u, hu, ru⟩ := rv.get hx
    obtain ⟨u2, hu2, ru2⟩ := rv2.get hy
    have hxu : x' = u := by
      have : its.toArray[i]? = some u := by simpa using hu
      rw [this] at hx'
      exact (Option.some.inj hx').symm
    have hyu : y' = u2 := by
      have : its2.toArray[i]? = some u2 := by simpa using hu2
      rw [this] at hy'
      exact (Option.some.inj hy').symm
    subst hxu hyu
    have new : ObjOk X.prog X.w (upd H T (.tup [x, y])) h' T (.tup [x, y]) := ⟨by show 2 ≤ sizeLine; decide, [x', y'], .cons ru (.cons ru2 .nil), hTt⟩
    have I1 : Inv X pins σ (upd H T (.tup [x, y])) { s with heap := h', toks := tk } := I.turnedNew (ch := [z, TI, TO, i1, i2]) (fun b o hb => hk b o fun hm => hb (by
      have e' : b = z ∨ b = TO ∨ b = i1 ∨ b = i2 := by simpa using hm
      rcases e' with q | q | q | q <;> simp [q])) hf hT new
    obtain ⟨z2, ti2, to2, ⟨q1, _⟩, q2, _⟩ := st'
    refine ⟨.ref T, _, I1, rfl, ⟨T, x, y, rfl, I.hok.fresh hT, rfl, hx, hy⟩, ⟨z2, ti2, to2, q1, q2⟩, fun b hb => ?_⟩
    have hlt : b < s.heap.objs.size := by
      obtain ⟨o1, _, _, e1, _⟩ := st.s1.obj
      obtain ⟨o2, _, _, e2, _⟩ := st.s2.obj
      obtain ⟨a1, a2, hTO⟩ := st.to
      have e' : b = z ∨ b = TI ∨ b = TO ∨ b = i1 ∨ b = i2 := by simpa using hb
      rcases e' with q | q | q | q | q
      · rw [q]; exact Heap.lt_size st.zp
      · rw [q]; exact Heap.lt_size st.ti
      · rw [q]; exact Heap.lt_size hTO
      · rw [q]; exact Heap.lt_size e1
      · rw [q]; exact Heap.lt_size e2
    rw [upd_ne (Nat.ne_of_lt (Nat.lt_of_lt_of_le hlt hT))]
    exact (hf b hb).1
  done := by
    intro X hP hw hK hc i pins s σ H E I hf st hg
    subst hP hw hK
    obtain ⟨hi, hq1, hq2⟩ := hg
    obtain ⟨its, rv, p⟩ := SqB.sq I hq1
    obtain ⟨its2, rv2, p2⟩ := SqB.sq I hq2
    obtain ⟨S, n1, n2⟩ := zp_sep D st p p2 hTa hTd
    have D1 := draws_sq (prog := X.prog) (w := X.w) (A := X.A.in1) b (I.ok.hd hc) i1 a (Ne.symm n1) its.toArray
    have D2 := draws_sq (prog := X.prog) (w := X.w) (A := X.A.in1) c (I.ok.hd hc) i2 d (Ne.symm n2) its2.toArray
    have G := GoesN.zip2 (elts := elts) (x1 := kk) (pos := tpos) S D1 D2
    have hn : i = min its.toArray.size its2.toArray.size := by rw [List.size_toArray, List.size_toArray, ← rv.length, ← rv2.length]; exact hi
    subst hn
    exact G.stops s _ E ⟨st.zp, st.ti, st.to, ⟨st.s1, p⟩, st.s2, p2⟩ fun h' tk hk _ => I.turnedL (ch := [z, TI, TO, i1, i2]) (fun b o hb => hk b o fun hm => hb (by
      have e' : b = z ∨ b = TO ∨ b = i1 ∨ b = i2 := by simpa using hm
      rcases e' with q | q | q | q <;> simp [q])) hf
  self := fun A i s Q E st h => wpAny_pyIter_zip st.zp h
theorem zipL_get : ∀ (xs ys : List PyData) (i : Nat) (x y : PyData), xs[i]? = some x → ys[i]? = some y → (zipL xs ys)[i]? = some (.tuple [x, y])
  | [], _, _, _, _, h, _ => by simp at h
  | _ :: _, [], _, _, _, _, h => by simp at h
  | a :: r, b :: q, 0, x, y, h1, h2 => by simp at h1 h2; simp [zipL, h1, h2]
  | a :: r, b :: q, i + 1, x, y, h1, h2 => by
    have := zipL_get r q i x y (by simpa using h1) (by simpa using h2)
    simpa [zipL] using this
theorem zipL_length : ∀ xs ys : List PyData, (zipL xs ys).length = min xs.length ys.length
  | [], _ => by simp [zipL]
  | _ :: _, [] => by simp [zipL]
  | a :: r, b :: q => by simp [zipL, zipL_length r q, Nat.succ_min_succ]
theorem walkD_zp {K : PySem.W.Frag} {R : Hp} {b c : Bool} {a d : Addr} {xs ys : List V} {ds es : List PyData} (h : SqB b K R a xs) (ha : DnA K R xs ds) (h2 : SqB c K R d ys) (ha2 : DnA K R ys es) : WalkD true K R (Jzp b c K a d xs ys) (zipL ds es) := by
  have hl : (zipL ds es).length = min xs.length ys.length := by rw [zipL_length, ha.length, ha2.length]
  refine ⟨fun H => SqB b K H a xs ∧ SqB c K H d ys, fun i H v H' => ∃ T x y, v = .ref T ∧ H T = none ∧ H' = upd H T (.tup [x, y]) ∧ xs[i]? = some x ∧ ys[i]? = some y, ?_, fun H s => ⟨h.mono s, h2.mono s⟩, fun i H x H' R2 hi s1 s2 y => ?_⟩
  · rw [hl]
    exact ⟨fun i H hi g => ⟨hi, g⟩, fun H g => ⟨rfl, g⟩, fun i H x H' hi g y => y⟩
  · obtain ⟨T, x', y', rfl, hT, rfl, hx, hy⟩ := y
    rw [zipL_length] at hi
    have i1 : i < ds.length := by omega
    have i2 : i < es.length := by omega
    obtain ⟨v, e2, dn⟩ := ha.get (show ds[i]? = some ds[i] by simp [i1])
    obtain ⟨v', e2', dn'⟩ := ha2.get (show es[i]? = some es[i] by simp [i2])
    rw [hx] at e2
    rw [hy] at e2'
    cases e2
    cases e2'
    refine ⟨upd R2 T (.tup [x', y']), .tuple [ds[i], es[i]], Ext.alloc s2 hT, zipL_get _ _ _ _ _ (by simp [i1]) (by simp [i2]), .inr ⟨rfl, _, _, _, rfl, rfl, .inl (.inl upd_same), .cons ?_ (.cons ?_ .nil)⟩⟩
    · exact Dn.mono (s1.trans (same_upd (s2.free hT))) _ _ dn
    · exact Dn.mono (s1.trans (same_upd (s2.free hT))) _ _ dn'
theorem pi_zp {e e2 : Expr} {p pos tpos : Pos} {elts : List Expr} {kk : Nat} {fa fb : Ev → Res PyData} (hg : Gl X "zip") (hm : X.mg "zip" = none) (ha : PE X e (tD X.K W fa)) (hb : PE X e2 (tD X.K W fb)) (hs : starEach [e, e2] X.env = (false, eval e X.env) :: starEach [e2] X.env)
    (hs2 : starEach [e2] X.env = (false, eval e2 X.env) :: starEach [] X.env) :
    PI X (.Tuple elts kk tpos) (.Call (.Name "zip" p) [e, e2] [] pos) (iD true X.K W fun env => fa env >>= fun x => fb env >>= fun y => someR ((seqOf x).bind fun xs => (seqOf y).map fun ys => zipL xs ys)) := by
  refine ⟨fun pins s σ H R I h => ?_⟩
  obtain ⟨R0, env, rel, hw⟩ := h
  have go : tCons (tD X.K W fa) (tCons (tD X.K W fb) tNil) σ H (fun vs H1 => ∃ b c a d xs ys, vs = [.ref a, .ref d] ∧ SqB b X.K H1 a xs ∧ SqB c X.K H1 d ys ∧ R (Jzp b c X.K a d xs ys) H1) := by
    refine ⟨R0, env, rel, hw.split fun dx x H1 R1 e1 d1 h1 => ⟨R1, env, rel.ext e1, h1.split fun dy y H2 R2 e2 d2 h2 => ?_⟩⟩
    cases q : seqOf dx with
    | none => rw [q] at h2; exact False.elim h2
    | some ds =>
      rw [q] at h2
      cases q2 : seqOf dy with
      | none => rw [q2] at h2; exact False.elim h2
      | some es =>
        rw [q2] at h2
        obtain ⟨b, a, xs, rfl, hs, ha⟩ := seq_of (Dn.mono e2.r _ _ d1) q
        obtain ⟨c, d, ys, rfl, hs2, ha2⟩ := seq_of d2 q2
        exact ⟨b, c, a, d, xs, ys, rfl, hs.mono e2.sub, hs2.mono e2.sub, h2 _ _ _ (Ext.refl e2.sub) (walkD_zp hs ha hs2 ha2)⟩
  refine Call_ (ld_blt I hg hm PyProof.Rows.boot_zip (PyProof.Rows.callWith_type1 (thn ((pa_cons ha (pa_cons hb pa_nil hs2) hs).run pos pins s σ H _ I go) fun us s1 ⟨vs, H1, I1, r1, q1⟩ => ?_) hs (by rw [hs2]; rfl)))
  obtain ⟨b, c, a, d, xs, ys, ex, hq1, hq2, q⟩ := q1
  subst ex
  cases r1 with
  | cons r rr =>
    cases rr with
    | cons r' rr =>
      cases rr
      cases r
      cases r'
      obtain ⟨its, rv, p1⟩ := SqB.sq I1 hq1
      obtain ⟨its2, rv2, p2⟩ := SqB.sq I1 hq2
      have la : a < s1.heap.objs.size := by obtain ⟨o, _, e, _⟩ := p1.obj; exact Heap.lt_size e
      have ld : d < s1.heap.objs.size := by obtain ⟨o, _, e, _⟩ := p2.obj; exact Heap.lt_size e
      refine zip_begins2 (begins_sq b a its.toArray) (begins_sq c d its2.toArray) p1 p2 fun h' hz hTI hTO h1 h2 hsz hk => wpAny_pyIter_zip hz ?_
      have I2 : Inv X pins σ H1 { s1 with heap := h' } := I1.kept (t' := s1.toks) hk
      have sep : ∀ n : Nat, ZpNe (n + 4) (n + 2) (n + 3) n (n + 1) := fun n => ⟨(by show (n + 2 : Nat) ≠ n + 4; omega), (by show (n + 3 : Nat) ≠ n + 4; omega), (by show (n + 2 : Nat) ≠ n + 3; omega), (by show (n + 2 : Nat) ≠ n; omega), (by show (n + 2 : Nat) ≠ n + 1; omega), (by show (n + 4 : Nat) ≠ n; omega), (by show (n + 4 : Nat) ≠ n + 1; omega), (by show (n + 3 : Nat) ≠ n; omega), (by show (n + 3 : Nat) ≠ n + 1; omega), (by show (n : Nat) ≠ n + 1; omega)⟩
      refine ⟨s1.heap.objs.size + 4, [s1.heap.objs.size + 4, s1.heap.objs.size + 2, s1.heap.objs.size + 3, s1.heap.objs.size, s1.heap.objs.size + 1], _, _, H1, rfl, I2,
        turn_zp b c a d _ _ _ _ _ xs ys (sep s1.heap.objs.size) (Nat.ne_of_gt (Nat.lt_of_lt_of_le la (Nat.le_add_right _ _))) (Nat.ne_of_gt (Nat.lt_of_lt_of_le ld (Nat.le_add_right _ _))), ⟨hz, hTI, ⟨_, _, hTO⟩, ?_, ?_⟩, fun x hcm => ?_, q⟩
      · cases b with
        | true => exact ⟨_, h1, rfl, rfl⟩
        | false => exact ⟨_, h1, rfl, rfl⟩
      · cases c with
        | true => exact ⟨_, h2, rfl, rfl⟩
        | false => exact ⟨_, h2, rfl, rfl⟩
      · have hle : s1.heap.objs.size ≤ x := by
          have e' : x = s1.heap.objs.size + 4 ∨ x = s1.heap.objs.size + 2 ∨ x = s1.heap.objs.size + 3 ∨ x = s1.heap.objs.size ∨ x = s1.heap.objs.size + 1 := by simpa using hcm
          rcases e' with z | z | z | z | z
          · rw [z]; exact Nat.le_add_right _ _
          · rw [z]; exact Nat.le_add_right _ _
          · rw [z]; exact Nat.le_add_right _ _
          · rw [z]; exact Nat.le_refl _
          · rw [z]; exact Nat.le_add_right _ _
        exact I1.fpOk hle (I1.hok.fresh hle)
end
end Z
end
section
/-! Z6: built-in calls. -/
namespace Z
open PySem PySem.Spec PyProof.Rows L2
/-! ### sorting ints: one answer -/
theorem insI_perm (x : Int) : ∀ l : List Int, (insI x l).Perm (x :: l)
  | [] => .refl _
  | y :: r => by
    unfold insI
    split
    · exact .refl _
    · exact ((insI_perm x r).cons y).trans (.swap x y r)
theorem sortI_perm : ∀ l : List Int, (sortI l).Perm l
  | [] => .refl _
  | x :: r => (insI_perm x _).trans ((sortI_perm r).cons x)
theorem insI_sorted (x : Int) : ∀ {l : List Int}, l.Pairwise (· ≤ ·) → (insI x l).Pairwise (· ≤ ·)
  | [], _ => by simp [insI]
  | y :: r, h => by
    obtain ⟨h1, h2⟩ := List.pairwise_cons.mp h
    unfold insI
    split
    · rename_i hxy
      refine List.pairwise_cons.mpr ⟨fun z hz => ?_, h⟩
      rcases List.mem_cons.mp hz with rfl | hz
      · exact hxy
      · exact Int.le_trans hxy (h1 z hz)
    · rename_i hxy
      refine List.pairwise_cons.mpr ⟨fun z hz => ?_, insI_sorted x h2⟩
      rcases List.mem_cons.mp ((insI_perm x r).mem_iff.mp hz) with rfl | hz
      · omega
      · exact h1 z hz
theorem sortI_sorted : ∀ l : List Int, (sortI l).Pairwise (· ≤ ·)
  | [] => .nil
  | x :: r => insI_sorted x (sortI_sorted r)
theorem sorted_eq {l m : List Int} (hp : l.Perm m) (h1 : l.Pairwise (· ≤ ·)) (h2 : m.Pairwise (· ≤ ·)) : l = m := List.Perm.eq_of_pairwise (le := (· ≤ ·)) (fun a b _ _ h1 h2 => Int.le_antisymm h1 h2) h1 h2 hp
section
variable {X : Cx}
/-! ### max, min of ints -/
theorem ints_alike (ns : List Int) : PySem.W.AlikeAll (ns.map PyData.int) := by
  constructor
  · intro x hx y hy
    obtain ⟨a, _, rfl⟩ := List.mem_map.mp hx
    obtain ⟨b, _, rfl⟩ := List.mem_map.mp hy
    rfl
  · intro x hx
    obtain ⟨a, _, rfl⟩ := List.mem_map.mp hx
    exact fun z => nomatch z
theorem depth_ints : ∀ ns : List Int, PyData.depthAll (ns.map PyData.int) = 0
  | [] => rfl
  | i :: r => by
    rw [List.map_cons]
    simp only [PyData.depthAll, PyData.depth, depth_ints r]
    rfl
theorem minD_ints : ∀ (r : List Int) (x : Int), PySem.W.minD (.int x) (r.map .int) = .int (r.foldl (fun a y => if y < a then y else a) x)
  | [], _ => rfl
  | y :: r, x => by
    have h : PySem.W.dataLt (.int y) (.int x) = decide (y < x) := PySem.W.dataLt_int _ _
    unfold PySem.W.minD
    rw [List.map_cons, List.foldl_cons, List.foldl_cons, h]
    by_cases hlt : y < x
    · simp only [hlt, decide_true, if_true]; exact minD_ints r y
    · simp only [hlt, decide_false, if_false, Bool.false_eq_true]; exact minD_ints r x
theorem maxD_ints : ∀ (r : List Int) (x : Int), PySem.W.maxD (.int x) (r.map .int) = .int (r.foldl (fun a y => if a < y then y else a) x)
  | [], _ => rfl
  | y :: r, x => by
    have h : PySem.W.dataLt (.int x) (.int y) = decide (x < y) := PySem.W.dataLt_int _ _
    unfold PySem.W.maxD
    rw [List.map_cons, List.foldl_cons, List.foldl_cons, h]
    by_cases hlt : x < y
    · simp only [hlt, decide_true, if_true]; exact maxD_ints r y
    · simp only [hlt, decide_false, if_false, Bool.false_eq_true]; exact maxD_ints r x
theorem reads_int {h : Heap} {v : Value} {m : Int} {bs : List Addr} (r : Reads h v (.int m) bs) : ∃ t, v = .int m t := by
  cases r
  exact ⟨_, rfl⟩
theorem vals_readsAll {h : Heap} : ∀ {ns : List Int} {us : List Value}, Vals (ns.map V.int) us → ∃ as, ReadsAll h us (ns.map .int) as
  | [], _, r => by cases r; exact ⟨_, .nil⟩
  | i :: ns, _, r => by
    cases r with
    | cons r1 r2 =>
      obtain ⟨t, rfl⟩ := r1
      obtain ⟨as, q⟩ := vals_readsAll r2
      exact ⟨_, .cons (.int i t) q⟩
def rMx (K : PySem.W.Frag) (mx : Bool) : List V → Hp → VK → Prop := fun vs H Q => ∃ (b : Bool) (a : Addr) (x : Int) (r : List Int), vs = [V.ref a] ∧ SqB b K H a ((x :: r).map V.int) ∧ Q (.int (if mx then maxI (x :: r) else minI (x :: r))) H
theorem cr_mx (hc : X.calm = true) (hu : X.A.units + 65 < cLine) : CallR X (.builtin "max") (rMx X.K true) := by
  intro pins s σ H vs us Q I r h
  obtain ⟨b, a, x, ns, rfl, hs, q⟩ := h
  obtain ⟨its, rv, p⟩ := SqB.sq I hs
  rw [Vals.ref1 r]
  obtain ⟨as, hr⟩ := vals_readsAll (h := s.heap) rv
  have hd : X.A.units + 1 + PyData.depthAll (PyData.int x :: ns.map .int) < cLine := by
    have := depth_ints (x :: ns)
    rw [List.map_cons] at this
    omega
  cases b with
  | true =>
    refine PySem.W.max_list_data (I.ok.hd hc) (show s.heap.IsList a its.toArray from p) (x := .int x) (xs := ns.map .int) (by simpa using hr) (ints_alike (x :: ns)) hd fun i v h' tk bs _ hrd hk => ?_
    rw [maxD_ints] at hrd
    obtain ⟨t, rfl⟩ := reads_int hrd
    exact ⟨.int _, H, I.kept hk, ⟨t, rfl⟩, q⟩
  | false =>
    refine PySem.W.max_tuple_data (I.ok.hd hc) (show s.heap.IsTuple a its.toArray from p) (x := .int x) (xs := ns.map .int) (by simpa using hr) (ints_alike (x :: ns)) hd fun i v h' tk bs _ hrd hk => ?_
    rw [maxD_ints] at hrd
    obtain ⟨t, rfl⟩ := reads_int hrd
    exact ⟨.int _, H, I.kept hk, ⟨t, rfl⟩, q⟩
theorem cr_mn (hc : X.calm = true) (hu : X.A.units + 65 < cLine) : CallR X (.builtin "min") (rMx X.K false) := by
  intro pins s σ H vs us Q I r h
  obtain ⟨b, a, x, ns, rfl, hs, q⟩ := h
  obtain ⟨its, rv, p⟩ := SqB.sq I hs
  rw [Vals.ref1 r]
  obtain ⟨as, hr⟩ := vals_readsAll (h := s.heap) rv
  have hd : X.A.units + 1 + PyData.depthAll (PyData.int x :: ns.map .int) < cLine := by
    have := depth_ints (x :: ns)
    rw [List.map_cons] at this
    omega
  cases b with
  | true =>
    refine PySem.W.min_list_data (I.ok.hd hc) (show s.heap.IsList a its.toArray from p) (x := .int x) (xs := ns.map .int) (by simpa using hr) (ints_alike (x :: ns)) hd fun i v h' tk bs _ hrd hk => ?_
    rw [minD_ints] at hrd
    obtain ⟨t, rfl⟩ := reads_int hrd
    exact ⟨.int _, H, I.kept hk, ⟨t, rfl⟩, q⟩
  | false =>
    refine PySem.W.min_tuple_data (I.ok.hd hc) (show s.heap.IsTuple a its.toArray from p) (x := .int x) (xs := ns.map .int) (by simpa using hr) (ints_alike (x :: ns)) hd fun i v h' tk bs _ hrd hk => ?_
    rw [minD_ints] at hrd
    obtain ⟨t, rfl⟩ := reads_int hrd
    exact ⟨.int _, H, I.kept hk, ⟨t, rfl⟩, q⟩
/-! ### each built-in -/
def bval : Blt → Value
  | .len => .builtin "len" | .abs => .builtin "abs" | .max => .builtin "max" | .min => .builtin "min" | .int => .type "int" | .list => .type "list" | .tuple => .type "tuple" | .sum => .builtin "sum" | .all => .builtin "all" | .sorted => .builtin "sorted" | .str => .type "str" | .sset => .builtin "sorted" | .minp => .builtin "min"
def BltOk (X : Cx) (b : Blt) : Prop := ∃ r, CallR X (bval b) r ∧ CaD X.K r (bltD b)
theorem callR_false {f : Value} : CallR X f (fun _ _ _ => False) := fun _ _ _ _ _ _ _ _ _ h => h.elim
theorem blt_len : BltOk X .len := by
  refine ⟨_, call_len_seq.or call_len_str, ?_⟩
  intro W σ R H xs ds Q s hx h
  cases hx with
  | nil => exact False.elim h
  | cons h1 h2 =>
    cases h2 with
    | cons _ _ => exact False.elim (by revert h; cases h1 <;> exact id)
    | nil =>
      cases h1 with
      | lst hl ha => exact .inl ⟨_, _, rfl, .inl (.inl (Rd.mono s hl)), by rw [ha.length]; exact h.val s (.int _)⟩
      | tup hl ha => exact .inl ⟨_, _, rfl, .inr (hl.sqm s), by rw [ha.length]; exact h.val s (.int _)⟩
      | str z =>
        obtain ⟨g, h⟩ := WantG.guard h
        exact .inr ⟨z, rfl, of_decide_eq_true g, h.val s (.int _)⟩
      | _ => exact False.elim h
theorem blt_abs : BltOk X .abs := by
  refine ⟨_, call_abs, ?_⟩
  intro W σ R H xs ds Q s hx h
  cases hx with
  | nil => exact False.elim h
  | cons h1 h2 =>
    cases h2 with
    | cons _ _ => exact False.elim (by revert h; cases h1 <;> exact id)
    | nil =>
      cases h1 with
      | int i => exact ⟨i, rfl, h.val s (.int _)⟩
      | _ => exact False.elim h
theorem blt_int : BltOk X .int := by
  refine ⟨_, call_int1.or call_int_str, ?_⟩
  intro W σ R H xs ds Q s hx h
  cases hx with
  | nil => exact False.elim h
  | cons h1 h2 =>
    cases h2 with
    | cons _ _ => exact False.elim (by revert h; cases h1 <;> exact id)
    | nil =>
      cases h1 with
      | int i => exact .inl (.inl ⟨i, rfl, h.val s (.int _)⟩)
      | bl b => exact .inl (.inr ⟨b, rfl, h.val s (.int _)⟩)
      | str z =>
        have h : WantG X.K W σ (denV X.K) R H (match PySem.intText? z with | some n => guardR (decide (z.length ≤ 640)) (.int n) | none => .stuck) Q := h
        cases q : PySem.intText? z with
        | none => rw [q] at h; exact False.elim h
        | some n =>
          rw [q] at h
          obtain ⟨g, h⟩ := WantG.guard h
          exact .inr ⟨z, n, rfl, q, of_decide_eq_true g, h.val s (.int _)⟩
      | _ => exact False.elim h
theorem blt_list : BltOk X .list := by
  refine ⟨_, call_list_of, ?_⟩
  intro W σ R H xs ds Q s hx h
  cases hx with
  | nil => exact False.elim h
  | cons h1 h2 =>
    cases h2 with
    | cons _ _ => exact False.elim (by revert h; cases h1 <;> exact id)
    | nil =>
      cases h1 with
      | lst hl ha => exact ⟨_, _, rfl, .inl (.inl (Rd.mono s hl)), fun p n => h.newL s ha n⟩
      | tup hl ha => exact ⟨_, _, rfl, .inr (hl.sqm s), fun p n => h.newL s ha n⟩
      | _ => exact False.elim h
theorem blt_tuple : BltOk X .tuple := by
  refine ⟨_, call_tupleF, ?_⟩
  intro W σ R H xs ds Q s hx h
  cases hx with
  | nil => exact False.elim h
  | cons h1 h2 =>
    cases h2 with
    | cons _ _ => exact False.elim (by revert h; cases h1 <;> exact id)
    | nil =>
      cases h1 with
      | lst hl ha => exact ⟨_, _, rfl, .inl ⟨.inl (Rd.mono s hl), fun p o ho n => h.newT s ha ho n⟩⟩
      | tup hl ha => exact ⟨_, _, rfl, .inr ⟨hl.sqm s, h.val s (.tup hl ha)⟩⟩
      | _ => exact False.elim h
theorem blt_sum (hc : X.calm = true) : BltOk X .sum := by
  refine ⟨_, cr_sum hc, ?_⟩
  intro W σ R H xs ds Q s hx h
  cases hx with
  | nil => exact False.elim h
  | cons h1 h2 =>
    cases h2 with
    | cons _ _ => exact False.elim (by revert h; cases h1 <;> exact id)
    | nil =>
      cases h1 with
      | lst hl ha =>
        rename_i a xs ds
        have h : WantG X.K W σ (denV X.K) R H (match intsOf ds with | some ns => .ok (.int ns.sum) | none => .stuck) Q := h
        cases q : intsOf ds with
        | none => rw [q] at h; exact False.elim h
        | some ns =>
          rw [q] at h
          obtain ⟨e1, e2⟩ := ha.ints q
          subst e1
          exact ⟨_, ns, rfl, .inl (Rd.mono s hl), h.val s (.int _)⟩
      | _ => exact False.elim h
theorem blt_all (hc : X.calm = true) : BltOk X .all := by
  refine ⟨_, cr_all hc, ?_⟩
  intro W σ R H xs ds Q s hx h
  cases hx with
  | nil => exact False.elim h
  | cons h1 h2 =>
    cases h2 with
    | cons _ _ => exact False.elim (by revert h; cases h1 <;> exact id)
    | nil =>
      cases h1 with
      | lst hl ha =>
        rename_i a xs ds
        have h : WantG X.K W σ (denV X.K) R H (match boolsOf ds with | some ns => .ok (.bool (ns.all id)) | none => .stuck) Q := h
        cases q : boolsOf ds with
        | none => rw [q] at h; exact False.elim h
        | some ns =>
          rw [q] at h
          have e1 := ha.bools q
          subst e1
          exact ⟨_, ns, rfl, .inl (Rd.mono s hl), h.val s (.bl _)⟩
      | _ => exact False.elim h
/-- sorted(t), t a tuple of ints -/
def rSortedT (K : PySem.W.Frag) : List V → Hp → VK → Prop := fun vs H Q => ∃ (a : Addr) (ns : List Int), vs = [V.ref a] ∧ SqT K H a (ns.map V.int) ∧ ns.length < 64 ∧ ∀ (ns' : List Int) (p : Addr), ns'.Perm ns → ns'.Pairwise (· ≤ ·) → H p = none → Q (.ref p) (upd H p (.lst (ns'.map V.int)))
theorem cr_sortedT : CallR X (.builtin "sorted") (rSortedT X.K) := by
  intro pins st σ H args us Q inv rel want
  obtain ⟨a, ns, rfl, hs, h64, q⟩ := want
  obtain ⟨u, rfl, ru⟩ := rel.one
  cases ru
  obtain ⟨its, rv, ⟨o, ho, hcl, n, hdt⟩, hz⟩ := inv.tuple hs
  have hI := rv.ints
  have hlen : its.length = ns.length := by have := rv.length; rw [List.length_map] at this; omega
  refine Calls.call_function_entry kind_sorted plain_sorted entry_sorted (args_sorted1 _) ?_
  unfold Builtin.«sorted»
  refine wpAny_bind (m := checkCount "sorted" 1 1 _) (wpAny_pure (wpAny_bind (wpAny_collect_seq a (.inr rfl) ho hcl hdt (fun hp keep => ?_) (by rw [List.size_toArray, sizeLine_eq]; omega))))
  refine wpAny_bind (wpAny_newList ?_ (by show its.toArray.toList.length ≤ sizeLine; rw [sizeLine_eq, show its.toArray.toList = its from rfl]; omega))
  have hoL : (hp.push (seqObj "list" its.toArray 0)).get? hp.objs.size = some (seqObj "list" its.toArray 0) := Heap.get?_push_size _ rfl
  refine wpAny_bind (wpAny_holding (wpAny_call_entry slot_list_sort ⟨_, hoL, rfl⟩ entry_list_sort (list_sort_tree (vs := its) hoL hI (by omega) fun out ns' a1 a2 a3 => ⟨_, rfl, ?_⟩) (args_list_sort _)))
  obtain ⟨c, hcc⟩ := sortedHeap_at (vs := its) (out := out) hoL
  have I1 : Inv X pins σ H { st with heap := hp } := inv.kept (t' := st.toks) keep
  have hl2 : (ns'.map V.int).length ≤ sizeLine := by rw [List.length_map, a2.length_eq, sizeLine_eq]; omega
  refine wpAny_pure ⟨_, rfl, .ref hp.objs.size, upd H hp.objs.size (.lst (ns'.map V.int)), ?_, rfl, q ns' _ a2 a3 (I1.hok.fresh (Nat.le_refl _))⟩
  refine I1.laid (t' := st.toks) (fun b ob e => ?_) (Nat.le_refl _) ⟨hl2, out.toList, c, vals_of_ints a1, hcc⟩
  have hlt : b < hp.objs.size := Heap.lt_size e
  rw [sortedHeap_old (Nat.ne_of_lt hlt) (by rw [size_push']; exact Nat.lt_succ_of_lt hlt)]
  exact Heap.get?_push_of_some _ e
theorem blt_sorted : BltOk X .sorted := by
  refine ⟨_, CallR.or cr_sortedI cr_sortedT, ?_⟩
  intro W σ R H xs ds Q s hx h
  cases hx with
  | nil => exact False.elim h
  | cons h1 h2 =>
    cases h2 with
    | cons _ _ => exact False.elim (by revert h; cases h1 <;> exact id)
    | nil =>
      cases h1 with
      | lst hl ha =>
        rename_i a xs ds
        have h : WantG X.K W σ (denV X.K) R H (match intsOf ds with | some ns => .ok (.list ((sortI ns).map .int)) | none => .stuck) Q := h
        cases q : intsOf ds with
        | none => rw [q] at h; exact False.elim h
        | some ns =>
          rw [q] at h
          obtain ⟨e1, e2⟩ := ha.ints q
          subst e1
          refine .inl ⟨_, ns, rfl, .inl (Rd.mono s hl), fun ns' p hp hs n => ?_⟩
          have : ns' = sortI ns := sorted_eq (hp.trans (sortI_perm ns).symm) hs (sortI_sorted ns)
          subst this
          exact h.newL s (DnA.ofInts _) n
      | tup hl ha =>
        rename_i a xs ds
        have h : WantG X.K W σ (denV X.K) R H (match intsOf ds with | some ns => guardR (decide (ns.length < 64)) (.list ((sortI ns).map .int)) | none => .stuck) Q := h
        cases q : intsOf ds with
        | none => rw [q] at h; exact False.elim h
        | some ns =>
          rw [q] at h
          obtain ⟨g, h⟩ := WantG.guard h
          obtain ⟨e1, e2⟩ := ha.ints q
          subst e1
          refine .inr ⟨_, ns, rfl, hl.sqm s, of_decide_eq_true g, fun ns' p hp hs n => ?_⟩
          have : ns' = sortI ns := sorted_eq (hp.trans (sortI_perm ns).symm) hs (sortI_sorted ns)
          subst this
          exact h.newL s (DnA.ofInts _) n
      | _ => exact False.elim h
theorem two_ints {K : PySem.W.Frag} {R : Hp} {xs : List V} {ds : List PyData} (h : DnA K R xs ds) : (∃ i j, xs = [.int i, .int j] ∧ ds = [.int i, .int j]) ∨ (∃ v d, xs = [v] ∧ ds = [d] ∧ Dn K R v d) ∨ ((∀ i j, ds ≠ [.int i, .int j]) ∧ ∀ d, ds ≠ [d]) := by
  cases h with
  | nil => exact .inr (.inr ⟨by simp, by simp⟩)
  | cons h1 h2 =>
    cases h2 with
    | nil => exact .inr (.inl ⟨_, _, rfl, rfl, h1⟩)
    | cons h2 h3 =>
      cases h3 with
      | cons _ _ => exact .inr (.inr ⟨by simp, by simp⟩)
      | nil =>
        cases h1 with
        | int i => cases h2 with
          | int j => exact .inl ⟨i, j, rfl, rfl⟩
          | _ => exact .inr (.inr ⟨by simp, by simp⟩)
        | _ => exact .inr (.inr ⟨by simp, by simp⟩)
theorem seq_ints {K : PySem.W.Frag} {R : Hp} {v : V} {d : PyData} {ns : List Int} (h : Dn K R v d) (e : (seqOf d).bind intsOf = some ns) : ∃ b a, v = .ref a ∧ SqB b K R a (ns.map V.int) := by
  cases q : seqOf d with
  | none => rw [q] at e; cases e
  | some ds =>
    rw [q] at e
    obtain ⟨b, a, xs, rfl, hs, ha⟩ := seq_of h q
    obtain ⟨e1, _⟩ := ha.ints e
    subst e1
    exact ⟨b, a, rfl, hs⟩
theorem blt_max (hc : X.calm = true) (hu : X.A.units + 65 < cLine) : BltOk X .max := by
  refine ⟨_, (call_max2 hc).or (cr_mx hc hu), ?_⟩
  intro W σ R H xs ds Q s hx h
  rcases two_ints hx with ⟨i, j, rfl, rfl⟩ | ⟨v, d, rfl, rfl, dn⟩ | ⟨n1, n2⟩
  · exact .inl ⟨i, j, rfl, h.val s (.int _)⟩
  · have h : WantG X.K W σ (denV X.K) R H (match (seqOf d).bind intsOf with | some (x :: r) => .ok (.int (maxI (x :: r))) | _ => .stuck) Q := by cases d <;> exact h
    cases q : (seqOf d).bind intsOf with
    | none => rw [q] at h; exact False.elim h
    | some ns =>
      rw [q] at h
      cases ns with
      | nil => exact False.elim h
      | cons x r =>
        obtain ⟨b, a, rfl, hs⟩ := seq_ints dn q
        exact .inr ⟨b, a, x, r, rfl, hs.mono s, h.val s (.int _)⟩
  · have e : bltD .max ds = .stuck := by
      unfold bltD
      split <;> first | rfl | (exact absurd rfl (n1 _ _)) | (exact absurd rfl (n2 _)) | simp_all
    rw [e] at h
    exact False.elim h
theorem blt_min (hc : X.calm = true) (hu : X.A.units + 65 < cLine) : BltOk X .min := by
  refine ⟨_, (call_min2 hc).or (cr_mn hc hu), ?_⟩
  intro W σ R H xs ds Q s hx h
  rcases two_ints hx with ⟨i, j, rfl, rfl⟩ | ⟨v, d, rfl, rfl, dn⟩ | ⟨n1, n2⟩
  · exact .inl ⟨i, j, rfl, h.val s (.int _)⟩
  · have h : WantG X.K W σ (denV X.K) R H (match (seqOf d).bind intsOf with | some (x :: r) => .ok (.int (minI (x :: r))) | _ => .stuck) Q := by cases d <;> exact h
    cases q : (seqOf d).bind intsOf with
    | none => rw [q] at h; exact False.elim h
    | some ns =>
      rw [q] at h
      cases ns with
      | nil => exact False.elim h
      | cons x r =>
        obtain ⟨b, a, rfl, hs⟩ := seq_ints dn q
        exact .inr ⟨b, a, x, r, rfl, hs.mono s, h.val s (.int _)⟩
  · have e : bltD .min ds = .stuck := by
      unfold bltD
      split <;> first | rfl | (exact absurd rfl (n1 _ _)) | (exact absurd rfl (n2 _)) | simp_all
    rw [e] at h
    exact False.elim h
theorem blt_str : BltOk X .str := by
  refine ⟨_, call_str_int, ?_⟩
  intro W σ R H xs ds Q s hx h
  cases hx with
  | nil => exact False.elim h
  | cons h1 h2 =>
    cases h2 with
    | cons _ _ => exact False.elim (by revert h; cases h1 <;> exact id)
    | nil =>
      cases h1 with
      | int i =>
        obtain ⟨g, h⟩ := WantG.guard h
        exact ⟨i, rfl, of_decide_eq_true g, h.val s (.str _)⟩
      | _ => exact False.elim h
/-! ### the least of pairs -/
theorem prs_eq : ∀ {ds : List PyData} {ps : List (Int × Int)}, prsOf ds = some ps → ds = ps.map ePr
  | [], ps, h => by cases h; rfl
  | d :: r, ps, h => by
    unfold prsOf at h
    split at h
    · rename_i z; cases z
    · rename_i i j r' z
      cases z
      cases q : prsOf r with
      | none => rw [q] at h; cases h
      | some qs =>
        rw [q] at h
        cases h
        rw [prs_eq q]; rfl
    · cases h
theorem minD_prs : ∀ (r : List (Int × Int)) (p : Int × Int), PySem.W.minD (ePr p) (r.map ePr) = ePr (minP p r)
  | [], _ => rfl
  | y :: r, p => by
    have h : PySem.W.dataLt (ePr y) (ePr p) = lexB y p := by
      unfold ePr lexB
      rw [PySem.W.dataLt_ii]
      by_cases h1 : y.1 < p.1 <;> by_cases h2 : y.1 = p.1 <;> by_cases h3 : y.2 < p.2 <;> simp [h1, h2, h3]
    unfold PySem.W.minD minP
    rw [List.map_cons, List.foldl_cons, List.foldl_cons, h]
    cases q : lexB y p with
    | true => simp only [if_true]; exact minD_prs r y
    | false => simp only [if_false, Bool.false_eq_true]; exact minD_prs r p
theorem prs_alike (ps : List (Int × Int)) : PySem.W.AlikeAll (ps.map ePr) := by
  constructor
  · intro x hx y hy
    obtain ⟨a, _, rfl⟩ := List.mem_map.mp hx
    obtain ⟨b, _, rfl⟩ := List.mem_map.mp hy
    rfl
  · intro x hx
    obtain ⟨a, _, rfl⟩ := List.mem_map.mp hx
    exact fun z => nomatch z
theorem depth_prs : ∀ ps : List (Int × Int), PyData.depthAll (ps.map ePr) ≤ 1
  | [] => Nat.zero_le _
  | p :: r => by
    have := depth_prs r
    rw [List.map_cons, PyData.depthAll]
    have e : (ePr p).depth = 1 := rfl
    rw [e]; omega
theorem lay_prs : ∀ ps : List (Int × Int), PyData.canLayAll0 (ps.map ePr) = true
  | [] => rfl
  | p :: r => by rw [List.map_cons, PyData.canLayAll0, lay_prs r]; rfl
def rMnP (K : PySem.W.Frag) : List V → Hp → VK → Prop := fun vs H Q => ∃ (a : Addr) (xs : List V) (p : Int × Int) (r : List (Int × Int)), vs = [V.ref a] ∧ Rd H a (.lst xs) ∧ DpAll K H xs ((p :: r).map ePr) ∧ ∀ (i : Nat) (v : V), xs[i]? = some v → ((p :: r).map ePr)[i]? = some (ePr (minP p r)) → Q v H
theorem cr_mnp (hc : X.calm = true) (hu : X.A.units + 65 < cLine) : CallR X (.builtin "min") (rMnP X.K) := by
  intro pins s σ H vs us Q I r h
  obtain ⟨a, xs, p, ps, rfl, hs, hd, q⟩ := h
  obtain ⟨hz, its, n, rv, hl, e⟩ := Inv.lstR I hs
  rw [Vals.ref1 r]
  obtain ⟨as, hr⟩ := Dp.readsAll I _ _ _ hd rv
  have hdp : X.A.units + 1 + PyData.depthAll (ePr p :: ps.map ePr) < cLine := by
    have := depth_prs (p :: ps)
    rw [List.map_cons] at this
    omega
  refine PySem.W.min_list_data (I.ok.hd hc) (vs := its.toArray) ⟨_, e, rfl, n, rfl⟩ (x := ePr p) (xs := ps.map ePr) (by simpa using hr) (prs_alike (p :: ps)) hdp fun i v h' tk bs hi hrd hk => ?_
  rw [minD_prs] at hrd
  have hi : its[i]? = some v := by simpa using hi
  obtain ⟨il, ie⟩ := List.getElem?_eq_some_iff.mp hi
  have hx : xs[i]? = some (xs[i]'(by omega)) := List.getElem?_eq_getElem (by omega)
  obtain ⟨w, hw, rw'⟩ := rv.get hx
  rw [hi] at hw
  cases hw
  have hlen : xs.length = ((p :: ps).map ePr).length := by
    have e0 : ∀ {ds : List PyData} {vs : List V}, DpAll X.K H vs ds → vs.length = ds.length := by
      intro ds
      induction ds with
      | nil => intro vs h; cases h; rfl
      | cons d ds ih => intro vs h; cases h with | cons _ h2 => simp [ih h2]
    exact e0 hd
  have hdi : ((p :: ps).map ePr)[i]? = some (ePr ((p :: ps)[i]'(by simp at hlen ⊢; omega))) := by
    rw [List.getElem?_map, List.getElem?_eq_getElem]; rfl
  have get : ∀ {ds : List PyData} {vs : List V} {i : Nat} {d : PyData} {v : V}, DpAll X.K H vs ds → ds[i]? = some d → vs[i]? = some v → Dp X.K H v d := by
    intro ds
    induction ds with
    | nil => intro vs i d v h e; simp at e
    | cons d0 ds ih =>
      intro vs i d v h e e2
      cases h with
      | cons h1 h2 =>
        cases i with
        | zero => simp at e e2; subst e e2; exact h1
        | succ i => exact ih h2 (by simpa using e) (by simpa using e2)
  have hdp := get hd hdi hx
  obtain ⟨cs, rc⟩ := Dp.reads I _ _ _ hdp rw'
  have rc := PySem.W.reads_keeps hk rc
  have un : ePr ((p :: ps)[i]'(by simp at hlen ⊢; omega)) = ePr (minP p ps) := (Reads.unique rc _ _ hrd).1
  rw [un] at hdi
  exact ⟨_, H, I.kept hk, rw', q i _ hx hdi⟩
theorem blt_minp (hc : X.calm = true) (hu : X.A.units + 65 < cLine) : BltOk X .minp := by
  refine ⟨_, cr_mnp hc hu, ?_⟩
  intro W σ R H xs ds Q s hx h
  cases hx with
  | nil => exact False.elim h
  | cons h1 h2 =>
    cases h2 with
    | cons _ _ => exact False.elim (by revert h; cases h1 <;> exact id)
    | nil =>
      cases h1 with
      | lst hl ha =>
        rename_i a xs ds
        have h0 : WantG X.K W σ (denV X.K) R H (match prsOf ds with | some (p :: r) => .ok (ePr (minP p r)) | _ => .stuck) Q := h
        clear h
        cases q : prsOf ds with
        | none => rw [q] at h0; exact False.elim h0
        | some ps =>
          rw [q] at h0
          cases ps with
          | nil => exact False.elim h0
          | cons p r =>
            have e := prs_eq q
            subst e
            refine ⟨_, xs, p, r, rfl, Rd.mono s hl, DnA.dp _ _ (lay_prs (p :: r)) (DnA.mono s _ _ ha), fun i v hi hd => ?_⟩
            obtain ⟨w, hw, dn⟩ := ha.get hd
            rw [hi] at hw
            cases hw
            exact WantG.val h0 s dn
      | _ => exact False.elim h
theorem blt_ok (hc : X.calm = true) (hu : X.A.units + 65 < cLine) {b : Blt} (hb : b ≠ .sset) : BltOk X b := by
  cases b with
  | len => exact blt_len
  | abs => exact blt_abs
  | max => exact blt_max hc hu
  | min => exact blt_min hc hu
  | int => exact blt_int
  | list => exact blt_list
  | tuple => exact blt_tuple
  | sum => exact blt_sum hc
  | all => exact blt_all hc
  | sorted => exact blt_sorted
  | str => exact blt_str
  | minp => exact blt_minp hc hu
  | sset => exact absurd rfl hb
theorem boot_b (b : Blt) : bootBuiltins (bname b) = some (bval b) := by
  cases b with
  | len => exact PySem.boot_len
  | abs => exact PyProof.Rows.boot_abs
  | max => exact PyProof.Rows.boot_max
  | min => exact PyProof.Rows.boot_min
  | int => exact PyProof.Rows.boot_int
  | list => exact PyProof.Rows.boot_list
  | tuple => exact PyProof.Rows.boot_tuple
  | sum => exact PyProof.Rows.boot_sum
  | all => exact PyProof.Rows.boot_all
  | sorted => exact PyProof.Rows.boot_sorted
  | str => exact PyProof.Rows.boot_str
  | minp => exact PyProof.Rows.boot_min
  | sset => exact PyProof.Rows.boot_sorted
/-- f(e, ..), f a built-in -/
theorem pe_blt {b : Blt} {x : Str} {p pos : Pos} {e : Expr} {es : List Expr} {t : TA} {r : List V → Hp → VK → Prop} (hc : CallR X (bval b) r) (hx : x = bname b) (hg : Gl X x) (hm : X.mg x = none) (ha : PA X (e :: es) t) (hn : x ≠ "__name__") (hdb : (x == ("__debug__" : Str)) = false)
    (he : starEach (e :: es) X.env = (false, eval e X.env) :: starEach es X.env) (hpl : (backTo pos (starEach es X.env)).any (·.1) = false) : PE X (.Call (.Name x p) (e :: es) [] pos) (tCB r t) := by
  subst hx
  have hv := boot_b b
  cases b with
  | len => exact pe_callB hc hg hm hv ha hn hdb he hpl
  | abs => exact pe_callB hc hg hm hv ha hn hdb he hpl
  | max => exact pe_callB hc hg hm hv ha hn hdb he hpl
  | min => exact pe_callB hc hg hm hv ha hn hdb he hpl
  | int => exact pe_callTy hc hg hm hv ha hn hdb he hpl
  | list => exact pe_callTy hc hg hm hv ha hn hdb he hpl
  | tuple => exact pe_callTy hc hg hm hv ha hn hdb he hpl
  | sum => exact pe_callB hc hg hm hv ha hn hdb he hpl
  | all => exact pe_callB hc hg hm hv ha hn hdb he hpl
  | sorted => exact pe_callB hc hg hm hv ha hn hdb he hpl
  | str => exact pe_callTy hc hg hm hv ha hn hdb he hpl
  | minp => exact pe_callB hc hg hm hv ha hn hdb he hpl
  | sset => exact pe_callB hc hg hm hv ha hn hdb he hpl
/-! ### isinstance -/
theorem tyX_of {K : PySem.W.Frag} {R H : Hp} {v : V} {d : PyData} (s : Same R H) (h : Dn K R v d) : ∃ t : Value, TyX K H v t ∧ ∀ T : Ty, PySem.W.kitOne K t (.type (tname T)) = some (isiD d T) := by
  cases h with
  | non => exact ⟨.type "NoneType", .base .non, fun T => by cases T <;> first | exact kit_ty (r := true) (by decide +kernel) | exact kit_ty (r := false) (by decide +kernel)⟩
  | bl b => exact ⟨.type "bool", .base (.bl b), fun T => by cases T <;> first | exact kit_ty (r := true) (by decide +kernel) | exact kit_ty (r := false) (by decide +kernel)⟩
  | int i => exact ⟨.type "int", .base (.int i), fun T => by cases T <;> first | exact kit_ty (r := true) (by decide +kernel) | exact kit_ty (r := false) (by decide +kernel)⟩
  | str x => exact ⟨.type "str", .base (.str x), fun T => by cases T <;> first | exact kit_ty (r := true) (by decide +kernel) | exact kit_ty (r := false) (by decide +kernel)⟩
  | lst hl ha =>
    rcases hl with hl | ⟨o, hl⟩
    · exact ⟨.type "list", .base (.lst (s _ _ hl)), fun T => by cases T <;> first | exact kit_ty (r := true) (by decide +kernel) | exact kit_ty (r := false) (by decide +kernel)⟩
    · exact ⟨.type "list", .base (.frz (s _ _ hl)), fun T => by cases T <;> first | exact kit_ty (r := true) (by decide +kernel) | exact kit_ty (r := false) (by decide +kernel)⟩
  | tup hl ha =>
    have hl := hl.sq
    rcases hl with (hl | ⟨o, hl⟩) | ⟨o, its, n, hl, hc, _⟩
    · exact ⟨.type "tuple", .base (.tup (s _ _ hl)), fun T => by cases T <;> first | exact kit_ty (r := true) (by decide +kernel) | exact kit_ty (r := false) (by decide +kernel)⟩
    · exact ⟨.type "tuple", .fTuple (s _ _ hl), fun T => by cases T <;> first | exact kit_ty (r := true) (by decide +kernel) | exact kit_ty (r := false) (by decide +kernel)⟩
    · exact ⟨.type "tuple", .kTuple hl hc, fun T => by cases T <;> first | exact kit_ty (r := true) (by decide +kernel) | exact kit_ty (r := false) (by decide +kernel)⟩
  | obj h1 h2 h3 h4 h5 =>
    exact ⟨_, .base (.ins (s _ _ h1) h3.cls h3.ha h3.hn h3.htk h3.hm), fun T => by cases T <;> exact h3.kit _ (by decide)⟩
theorem boot_t (T : Ty) : bootBuiltins (Str.ofString (tname T)) = some (.type (tname T)) := by
  cases T with
  | int => exact PyProof.Rows.boot_int
  | bool => exact PyProof.Rows.boot_bool
  | str => exact PyProof.Rows.boot_str
  | tuple => exact PyProof.Rows.boot_tuple
  | list => exact PyProof.Rows.boot_list
end
end Z
end
section
/-! Z7: expressions. -/
namespace Z
open PySem PySem.Spec PyProof.Rows L2
section
variable {X : Cx} {W : WX}
/-- a value of bools as a test -/
theorem pt_of {e : Expr} {f : Ev → Res PyData} (h : PE X e (tD X.K W f)) (he : ∀ whole, isTrue e X.env whole = (do let v ← whole; standAt e.pos; holding [v] (truthy v))) : PT X e (tDT X.K W fun env => f env >>= boolD) := by
  refine ptImp (pt_val h he) fun σ H Q ⟨R, env, rel, hw⟩ => ⟨R, env, rel, hw.split fun d v H1 R1 e1 dn h1 => ?_⟩
  cases dn with
  | bl b => exact ⟨b, rfl, h1 b H1 R1 (Ext.refl e1.sub) rfl⟩
  | _ => exact False.elim h1
theorem cop_ok (hu : X.A.units + 65 < cLine) {o : Cop} {op : CmpOp} (h : chkCo o op = true) : ∃ r, OpR X (compareOp op) r ∧ OpD X.K r (cmpD o) := by
  cases o with
  | eq =>
    cases op with
    | Eq => exact ⟨_, or_eq (by omega), od_eq⟩
    | _ => exact absurd h (by simp [chkCo])
  | ne =>
    cases op with
    | NotEq => exact ⟨_, or_ne (by omega), od_ne⟩
    | _ => exact absurd h (by simp [chkCo])
  | lt =>
    cases op with
    | Lt => exact ⟨_, op_lt, od_lt⟩
    | _ => exact absurd h (by simp [chkCo])
  | le =>
    cases op with
    | LtE => exact ⟨_, op_le, od_le⟩
    | _ => exact absurd h (by simp [chkCo])
  | gt =>
    cases op with
    | Gt => exact ⟨_, op_gt, od_gt⟩
    | _ => exact absurd h (by simp [chkCo])
  | ge =>
    cases op with
    | GtE => exact ⟨_, op_ge, od_ge⟩
    | _ => exact absurd h (by simp [chkCo])
  | isin =>
    cases op with
    | In => exact ⟨_, or_in2 hu, od_in⟩
    | _ => exact absurd h (by simp [chkCo])
  | notin =>
    cases op with
    | NotIn => exact ⟨_, or_notin2 hu, od_notin⟩
    | _ => exact absurd h (by simp [chkCo])
  | is =>
    cases op with
    | Is => exact ⟨_, op_isN.or op_isP, od_is⟩
    | _ => exact absurd h (by simp [chkCo])
  | isnot =>
    cases op with
    | IsNot => exact ⟨_, op_notN, od_isnot⟩
    | _ => exact absurd h (by simp [chkCo])
theorem bop_ok {o : Bop} {op : Operator} (h : chkO o op = true) : ∃ r, OpR X (binaryOp op) r ∧ OpD X.K r (binD o) := by
  cases o with
  | add =>
    cases op with
    | Add => exact ⟨_, or_add, od_add⟩
    | _ => exact absurd h (by simp [chkO])
  | sub =>
    cases op with
    | Sub => exact ⟨_, op_sub, od_sub⟩
    | _ => exact absurd h (by simp [chkO])
  | mul =>
    cases op with
    | Mult => exact ⟨_, or_mul, od_mul⟩
    | _ => exact absurd h (by simp [chkO])
  | div =>
    cases op with
    | FloorDiv => exact ⟨_, op_fdiv, od_div⟩
    | _ => exact absurd h (by simp [chkO])
  | mod =>
    cases op with
    | Mod => exact ⟨_, op_mod, od_mod⟩
    | _ => exact absurd h (by simp [chkO])
/-- a comparison's answer is a bool -/
theorem cmp_bool (o : Cop) (x y : PyData) : cmpD o x y = .stuck ∨ ∃ b, cmpD o x y = .ok (.bool b) := by
  have g : ∀ c b, guardR c (.bool b) = .stuck ∨ ∃ k, guardR c (.bool b) = .ok (.bool k) := fun c b => by
    unfold guardR
    split
    · exact .inr ⟨_, rfl⟩
    · exact .inl rfl
  unfold cmpD
  split <;> first | exact g _ _ | exact .inr ⟨_, rfl⟩ | exact .inl rfl | (split <;> first | exact .inr ⟨_, rfl⟩ | exact .inl rfl)
theorem de_chn {a b c : Expr} {o p : Cop} {op op' : CmpOp} {pos : Pos} {fa fb fc : Ev → Res PyData} (hu : X.A.units + 65 < cLine) (h1 : chkCo o op = true) (h2 : chkCo p op' = true) (ha : PE X a (tD X.K W fa)) (hb : PE X b (tD X.K W fb)) (hc : PE X c (tD X.K W fc)) (hm : lastMarks [op, op'] [b, c] = false) :
    PE X (.Compare a [op, op'] [b, c] pos) (tD X.K W fun env => fa env >>= fun x => fb env >>= fun y => cmpD o x y >>= fun r => boolD r >>= fun k => if k then fc env >>= fun z => cmpD p y z else .ok (.bool false)) ∧
    PT X (.Compare a [op, op'] [b, c] pos) (tDT X.K W fun env => (fa env >>= fun x => fb env >>= fun y => cmpD o x y >>= fun r => boolD r >>= fun k => if k then fc env >>= fun z => cmpD p y z else .ok (.bool false)) >>= boolD) := by
  obtain ⟨r, o1, d1⟩ := cop_ok hu h1
  obtain ⟨r', o2, d2⟩ := cop_ok hu h2
  have core : ∀ {σ : L2.St} {H : Hp} {Q : VK}, tD X.K W (fun env => fa env >>= fun x => fb env >>= fun y => cmpD o x y >>= fun r => boolD r >>= fun k => if k then fc env >>= fun z => cmpD p y z else .ok (.bool false)) σ H Q → tChain r r' (tD X.K W fa) (tD X.K W fb) (tD X.K W fc) σ H Q := by
    intro σ H Q ⟨R, env, rel, h⟩
    refine ⟨R, env, rel, h.split fun dx x H1 R1 e1 n1 h1 => ⟨R1, env, rel.ext e1, h1.split fun dy y H2 R2 e2 n2 h2 => ?_⟩⟩
    refine d1 W σ R2 H2 x y dx dy _ e2.sub (Dn.mono e2.r _ _ n1) n2 ?_
    rcases cmp_bool o dx dy with q | ⟨k, q⟩
    · rw [q] at h2; exact False.elim h2
    · rw [q] at h2 ⊢
      intro v H3 R3 e3 n3
      cases n3
      refine ⟨k, rfl, ?_⟩
      have h2 : WantG X.K W σ (denV X.K) R2 H2 (if k then fc env >>= fun z => cmpD p dy z else .ok (.bool false)) Q := h2
      cases k with
      | true =>
        refine ⟨R3, env, ((rel.ext e1).ext e2).ext e3, (h2.ext e3).split fun dz z H4 R4 e4 n4 h4 => ?_⟩
        exact d2 W σ R4 H4 y z dy dz Q e4.sub (Dn.mono (e3.r.trans e4.r) _ _ n2) n4 h4
      | false => exact (h2.ext e3).val e3.sub (.bl false)
  refine ⟨peImp (pe_chain o1 o2 ha hb hc hm) fun σ H Q h => core h, ptImp (pt_chain o1 o2 ha hb hc hm) fun σ H Q ⟨R, env, rel, h⟩ => ?_⟩
  refine core ⟨R, env, rel, h.split fun d v H1 R1 e1 n1 h1 => ?_⟩
  cases n1 with
  | bl k => exact ⟨k, rfl, h1 k H1 R1 (Ext.refl e1.sub) rfl⟩
  | _ => exact False.elim h1
end
/-- what is shown of an expression -/
def SE (X : Cx) (W : WX) (C : Nat → List PyData → Res PyData) (c : E) (e : Expr) : Prop :=
  PE X e (tD X.K W fun env => ev C env c) ∧ PT X e (tDT X.K W fun env => ev C env c >>= boolD)
theorem SE.of {X : Cx} {W : WX} {C : Nat → List PyData → Res PyData} {c : E} {e : Expr} (h : PE X e (tD X.K W fun env => ev C env c)) (he : ∀ whole, isTrue e X.env whole = (do let v ← whole; standAt e.pos; holding [v] (truthy v))) : SE X W C c e := ⟨h, pt_of h he⟩
theorem bindAssoc {α β γ : Type} (r : Res α) (f : α → Res β) (g : β → Res γ) : ((r >>= f) >>= g) = (r >>= fun x => f x >>= g) := by
  cases r <;> rfl
section
variable {C : Nat → List PyData → Res PyData}
theorem sVar {X : Cx} {S : Sx} {W : WX} (F : Fits X S C) {i : Nat} {x : Str} {pos : Pos} (h : (decide (S.N[i]? = some x) && vis S.sc x && okName x) = true) : SE X W C (.var i) (.Name x pos) := by
  simp only [Bool.and_eq_true] at h
  obtain ⟨⟨h1, h2⟩, h3⟩ := h
  obtain ⟨n1, n2, _⟩ := okName_ h3
  have hv : Vis X.env.scope x := by rw [F.sc]; exact vis_ok h2
  refine .of (peImp (pe_var (F.name h1) hv n1 n2) fun σ H Q ⟨R, env, rel, hw⟩ => ?_) fun _ => rfl
  have hw : WantG X.K W σ (denV X.K) R H (getV env i) Q := hw
  unfold getV at hw
  split at hw
  · rename_i d e
    obtain ⟨v, a, b⟩ := rel.at_ i d e
    exact ⟨v, a, hw.val rel.sub b⟩
  · exact False.elim hw
theorem sCn {X : Cx} {W : WX} {c : Cn} {k : Const} {j : Nat} {pos : Pos} (h : chkC c k = true) : SE X W C (.cn c) (.Constant k j pos) := by
  refine .of ?_ fun _ => rfl
  cases c with
  | non => cases k with
    | none => exact peImp pe_non fun σ H Q ⟨R, env, rel, hw⟩ => WantG.val (d := .none) hw rel.sub .non
    | _ => simp [chkC] at h
  | bl b => cases k with
    | bool c =>
      have e : b = c := by simpa [chkC] using h
      subst e
      exact peImp pe_bl fun σ H Q ⟨R, env, rel, hw⟩ => WantG.val (d := .bool b) hw rel.sub (.bl b)
    | _ => simp [chkC] at h
  | int b => cases k with
    | int c =>
      have e : b = c := by simpa [chkC] using h
      subst e
      exact peImp pe_int fun σ H Q ⟨R, env, rel, hw⟩ => WantG.val (d := .int b) hw rel.sub (.int b)
    | _ => simp [chkC] at h
  | str b => cases k with
    | str c =>
      have e : b = c := by simpa [chkC] using h
      subst e
      exact peImp pe_str fun σ H Q ⟨R, env, rel, hw⟩ => WantG.val (d := .str b) hw rel.sub (.str b)
    | _ => simp [chkC] at h
theorem sNot {X : Cx} {W : WX} {a : E} {e : Expr} {pos : Pos} (h : SE X W C a e) : SE X W C (.inv a) (.UnaryOp .Not e pos) := by
  refine ⟨peImp (pe_not h.1) fun σ H Q ⟨R, env, rel, hw⟩ => ?_, ptImp (pt_not h.2) fun σ H Q ⟨R, env, rel, hw⟩ => ?_⟩
  · have hw : WantG X.K W σ (denV X.K) R H (ev C env a >>= fun x => boolD x >>= fun k => .ok (.bool (!k))) Q := hw
    refine ⟨R, env, rel, hw.split fun d v H1 R1 e1 n1 h1 => ?_⟩
    cases n1 with
    | bl k => exact ⟨k, rfl, WantG.val (d := .bool (!k)) h1 e1.sub (.bl _)⟩
    | _ => exact False.elim h1
  · have hw : WantG X.K W σ denB R H ((ev C env a >>= fun x => boolD x >>= fun k => .ok (.bool (!k))) >>= boolD) Q := hw
    rw [bindAssoc] at hw
    have hw : WantG X.K W σ denB R H ((ev C env a >>= boolD) >>= fun k => .ok (!k)) Q := by
      rw [bindAssoc]
      have e : ∀ x, (boolD x >>= fun k => Res.ok (PyData.bool (!k))) >>= boolD = (boolD x >>= fun k => Res.ok (!k)) := fun x => by cases x <;> rfl
      simp only [e] at hw
      exact hw
    exact ⟨R, env, rel, hw.split fun k v H1 R1 e1 n1 h1 => by subst n1; exact h1 (!v) H1 R1 (Ext.refl e1.sub) rfl⟩
theorem sIte {X : Cx} {W : WX} {c a b : E} {t x y : Expr} {pos : Pos} (hc : SE X W C c t) (ha : SE X W C a x) (hb : SE X W C b y) : SE X W C (.ite c a b) (.IfExp t x y pos) := by
  have e0 : ∀ env, ev C env (.ite c a b) = ((ev C env c >>= boolD) >>= fun k => if k then ev C env a else ev C env b) := fun env => by
    rw [bindAssoc]; rfl
  refine ⟨peImp (pe_ifExp hc.2 ha.1 hb.1) fun σ H Q ⟨R, env, rel, hw⟩ => ?_, ⟨fun pins s σ H Q I ⟨R, env, rel, hw⟩ => ?_⟩⟩
  · dsimp only at hw
    rw [e0] at hw
    refine ⟨R, env, rel, hw.split fun k v H1 R1 e1 n1 h1 => ?_⟩
    subst n1
    cases v with
    | true => exact ⟨R1, env, rel.ext e1, h1⟩
    | false => exact ⟨R1, env, rel.ext e1, h1⟩
  · dsimp only at hw
    rw [e0, bindAssoc] at hw
    refine isTrue_IfExp (thn (hc.2.run pins s σ H (fun k H1 => if k = true then tDT X.K W (fun env => ev C env a >>= boolD) σ H1 Q else tDT X.K W (fun env => ev C env b >>= boolD) σ H1 Q) I ⟨R, env, rel, hw.split fun k v H1 R1 e1 n1 h1 => ?_⟩) fun d s1 ⟨H1, I1, q1⟩ => ?_)
    · subst n1
      cases v with
      | true => exact ⟨R1, env, rel.ext e1, h1⟩
      | false => exact ⟨R1, env, rel.ext e1, h1⟩
    · cases d with
      | true => exact ha.2.run pins s1 σ H1 Q I1 q1
      | false => exact hb.2.run pins s1 σ H1 Q I1 q1
/-- and, or -/
def SAn (X : Cx) (W : WX) (C : Nat → List PyData → Res PyData) (xs : Es) (es : List Expr) : Prop := ∀ pos,
  (PE X (.BoolOp .And es pos) (tD X.K W fun env => evan C env xs) ∧ PW X (.BoolOp .And es pos) (tDT X.K W fun env => evan C env xs >>= boolD)) ∧
  (PE X (.BoolOp .Or es pos) (tD X.K W fun env => evor C env xs) ∧ PW X (.BoolOp .Or es pos) (tDT X.K W fun env => evor C env xs >>= boolD))
theorem sAn1 {X : Cx} {W : WX} {a : E} {e : Expr} (h : SE X W C a e) : SAn X W C (.cons a .nil) [e] := fun pos =>
  ⟨⟨peImp (pe_one h.1) fun _ _ _ q => q, pwImp (pw_and1 h.2) fun _ _ _ q => q⟩, ⟨peImp (pe_one h.1) fun _ _ _ q => q, pwImp (pw_or1 h.2) fun _ _ _ q => q⟩⟩
theorem sAn2 {X : Cx} {W : WX} {a b : E} {r : Es} {e e2 : Expr} {es : List Expr} (h : SE X W C a e) (h2 : SAn X W C (.cons b r) (e2 :: es)) : SAn X W C (.cons a (.cons b r)) (e :: e2 :: es) := fun pos => by
  have q1 : ∀ env, evan C env (.cons a (.cons b r)) = ((ev C env a >>= boolD) >>= fun k => if k then evan C env (.cons b r) else .ok (.bool false)) := fun env => by rw [bindAssoc]; rfl
  have q2 : ∀ env, evor C env (.cons a (.cons b r)) = ((ev C env a >>= boolD) >>= fun k => if k then .ok (.bool true) else evor C env (.cons b r)) := fun env => by rw [bindAssoc]; rfl
  refine ⟨⟨peImp (pe_and h.1 (h2 pos).1.1) fun σ H Q ⟨R, env, rel, hw⟩ => ?_, pwImp (pw_and h.2 (h2 pos).1.2) fun σ H Q ⟨R, env, rel, hw⟩ => ?_⟩, ⟨peImp (pe_or h.1 (h2 pos).2.1) fun σ H Q ⟨R, env, rel, hw⟩ => ?_, pwImp (pw_or h.2 (h2 pos).2.2) fun σ H Q ⟨R, env, rel, hw⟩ => ?_⟩⟩
  · dsimp only at hw
    rw [q1, bindAssoc] at hw
    refine ⟨R, env, rel, hw.split fun d v H1 R1 e1 n1 h1 => ?_⟩
    cases n1 with
    | bl k =>
      refine ⟨k, rfl, ?_⟩
      cases k with
      | true => exact ⟨R1, env, rel.ext e1, h1⟩
      | false => exact WantG.val (d := .bool false) h1 e1.sub (.bl _)
    | _ => exact False.elim h1
  · dsimp only at hw
    rw [q1, bindAssoc] at hw
    refine ⟨R, env, rel, hw.split fun k v H1 R1 e1 n1 h1 => ?_⟩
    subst n1
    cases v with
    | true => exact ⟨R1, env, rel.ext e1, h1⟩
    | false => exact h1 false H1 R1 (Ext.refl e1.sub) rfl
  · dsimp only at hw
    rw [q2, bindAssoc] at hw
    refine ⟨R, env, rel, hw.split fun d v H1 R1 e1 n1 h1 => ?_⟩
    cases n1 with
    | bl k =>
      refine ⟨k, rfl, ?_⟩
      cases k with
      | true => exact WantG.val (d := .bool true) h1 e1.sub (.bl _)
      | false => exact ⟨R1, env, rel.ext e1, h1⟩
    | _ => exact False.elim h1
  · dsimp only at hw
    rw [q2, bindAssoc] at hw
    refine ⟨R, env, rel, hw.split fun k v H1 R1 e1 n1 h1 => ?_⟩
    subst n1
    cases v with
    | true => exact h1 true H1 R1 (Ext.refl e1.sub) rfl
    | false => exact ⟨R1, env, rel.ext e1, h1⟩
/-- displays -/
theorem sTup {X : Cx} {W : WX} {xs : Es} {es : List Expr} {k : Nat} {pos : Pos} (h : PA X es (tDA X.K W fun env => evs C env xs)) : SE X W C (.tup xs) (.Tuple es k pos) := by
  refine .of (peImp (pe_tupF h) fun σ H Q ⟨R, env, rel, hw⟩ => ?_) fun _ => rfl
  have hw : WantG X.K W σ (denV X.K) R H (evs C env xs >>= fun ds => guardR (fitsL ds.length) (.tuple ds)) Q := hw
  refine ⟨R, env, rel, hw.split fun ds vs H1 R1 e1 n1 h1 => ?_⟩
  obtain ⟨g, h1⟩ := h1.guard
  exact ⟨by rw [n1.length]; exact of_decide_eq_true g, fun p o ho n => h1.newT e1.sub n1 ho n⟩
theorem sLst {X : Cx} {W : WX} {xs : Es} {es : List Expr} {pos : Pos} (h : PA X es (tDA X.K W fun env => evs C env xs)) : SE X W C (.lst xs) (.List es pos) := by
  refine .of (peImp (pe_lst h) fun σ H Q ⟨R, env, rel, hw⟩ => ?_) fun _ => rfl
  have hw : WantG X.K W σ (denV X.K) R H (evs C env xs >>= fun ds => guardR (fitsL ds.length) (.list ds)) Q := hw
  refine ⟨R, env, rel, hw.split fun ds vs H1 R1 e1 n1 h1 => ?_⟩
  obtain ⟨g, h1⟩ := h1.guard
  exact ⟨by rw [n1.length]; exact of_decide_eq_true g, fun p n => h1.newL e1.sub n1 n⟩
theorem seIx {X : Cx} {W : WX} {a i : E} {e s : Expr} {pos : Pos} (ha : SE X W C a e) (hi : SE X W C i s) (hs : isSlice s = false) : SE X W C (.ix a i) (.Subscript e s pos) := by
  refine .of (peImp (pe_ix ix_seq ha.1 hi.1 (plainIx hs)) fun σ H Q ⟨R, env, rel, hw⟩ => ?_) fun _ => rfl
  have hw : WantG X.K W σ (denV X.K) R H (ev C env a >>= fun x => ev C env i >>= fun y => ixD x y) Q := hw
  refine ⟨R, env, rel, hw.split fun dx x H1 R1 e1 d1 h1 => ⟨R1, env, rel.ext e1, h1.split fun dy y H2 R2 e2 d2 h2 => ?_⟩⟩
  exact od_ix W σ R2 H2 x y dx dy Q e2.sub (Dn.mono e2.r _ _ d1) d2 h2
/-- a in X, X[a]: X a table of the module -/
theorem sKin {X : Cx} {S : Sx} {W : WX} (F : Fits X S C) {x : Str} {kvs : List (Str × Cn)} {a : E} {e : Expr} {p pos : Pos} (hg : Gl X x) (hd : (x == ("__debug__" : Str)) = false) (hm : (x, kvs) ∈ S.G.dics) (ha : SE X W C a e) : SE X W C (.kin x kvs a) (.Compare e [.In] [.Name x p] pos) := by
  have D := F.gl.dic x kvs hm
  obtain ⟨es, n, kd⟩ := D.kd
  have hn := pe_glob (X := X) (x := x) (v := .ref (He.ga X.K x)) (pos := p) hg D.mg rfl hd
  have key : ∀ (σ : L2.St) (R1 H1 : Hp) (z : Str) (Q : VK), Same R1 H1 → WantG X.K W σ (denV X.K) R1 H1 (.ok (.bool (kLook z kvs).isSome)) Q → ∃ (z' : Str) (r : Option Value), V.str z = .str z' ∧ V.ref (He.ga X.K x) = .ref (He.ga X.K x) ∧ PySem.W.nsIn X.K (He.ga X.K x) z' = some r ∧ Q (.bl r.isSome) H1 := by
    intro σ R1 H1 z Q sm h1
    have at_ := D.at_ z
    cases q : kLook z kvs with
    | none => rw [q] at at_ h1; exact ⟨z, none, rfl, rfl, at_, h1.val sm (.bl _)⟩
    | some c =>
      rw [q] at at_ h1
      obtain ⟨u, hu, _⟩ := at_
      exact ⟨z, some u, rfl, rfl, hu, h1.val sm (.bl _)⟩
  refine ⟨peImp (pe_cmpR (op_in_kd kd) ha.1 hn rfl) fun σ H Q ⟨R, env, rel, hw⟩ => ?_, ptImp (pt_cmpR (op_in_kd kd) ha.1 hn rfl) fun σ H Q ⟨R, env, rel, hw⟩ => ?_⟩
  · have hw : WantG X.K W σ (denV X.K) R H (ev C env a >>= fun d => kinD kvs d) Q := hw
    refine ⟨R, env, rel, hw.split fun dx x1 H1 R1 e1 d1 h1 => ?_⟩
    cases d1 with
    | str z => exact key σ R1 H1 z Q e1.sub h1
    | _ => exact False.elim h1
  · have hw : WantG X.K W σ denB R H ((ev C env a >>= fun d => kinD kvs d) >>= boolD) Q := hw
    rw [bindAssoc] at hw
    refine ⟨R, env, rel, hw.split fun dx x1 H1 R1 e1 d1 h1 => ?_⟩
    cases d1 with
    | str z =>
      refine key σ R1 H1 z (fun x H' => ∃ k, x = V.bl k ∧ Q k H') e1.sub fun b H' R' e d => ?_
      cases d
      exact ⟨_, rfl, h1 _ H' R' e rfl⟩
    | _ => exact False.elim h1
theorem sKget {X : Cx} {S : Sx} {W : WX} (F : Fits X S C) {x : Str} {kvs : List (Str × Cn)} {a : E} {e : Expr} {p pos : Pos} (hg : Gl X x) (hd : (x == ("__debug__" : Str)) = false) (hm : (x, kvs) ∈ S.G.dics) (ha : SE X W C a e) (hs : isSlice e = false) : SE X W C (.kget x kvs a) (.Subscript (.Name x p) e pos) := by
  have D := F.gl.dic x kvs hm
  obtain ⟨es, n, kd⟩ := D.kd
  refine .of (peImp (pe_ix ix_kdict (pe_glob (v := .ref (He.ga X.K x)) hg D.mg rfl hd) ha.1 (plainIx hs)) fun σ H Q ⟨R, env, rel, hw⟩ => ?_) fun _ => rfl
  have hw : WantG X.K W σ (denV X.K) R H (ev C env a >>= fun d => kgetD kvs d) Q := hw
  refine ⟨R, env, rel, hw.split fun dx x1 H1 R1 e1 d1 h1 => ?_⟩
  cases d1 with
  | str z =>
    have h1 : WantG X.K W σ (denV X.K) R1 H1 (match kLook z kvs with | some c => .ok c.d | none => .stuck) Q := h1
    have at_ := D.at_ z
    cases q : kLook z kvs with
    | none => rw [q] at h1; exact False.elim h1
    | some c =>
      rw [q] at at_ h1
      obtain ⟨u, hu, r⟩ := at_
      exact ⟨_, z, c.v, rfl, rfl, ⟨es, n, u, kd.at_, kd.lit, hu, r⟩, h1.val e1.sub c.dn⟩
  | _ => exact False.elim h1
theorem po_of {X : Cx} {W : WX} {a : E} {e : Expr} (h : SE X W C a e) : PO X (some e) (tDO X.K W fun env => evo C env (.som a) >>= partD) := by
  refine poImp (po_some h.1) fun σ H Q ⟨R, env, rel, hw⟩ => ?_
  have hw : WantG X.K W σ denO R H ((ev C env a >>= fun x => .ok (some x)) >>= partD) Q := hw
  rw [bindAssoc] at hw
  refine ⟨R, env, rel, hw.split fun d v H1 R1 e1 n1 h1 => ?_⟩
  cases n1 with
  | int i => exact ⟨i, rfl, h1 (some i) H1 R1 (Ext.refl e1.sub) rfl⟩
  | _ => exact False.elim h1
theorem po_no {X : Cx} {W : WX} : PO X none (tDO X.K W fun env => evo C env .non >>= partD) :=
  poImp po_none fun σ H Q ⟨R, env, rel, hw⟩ => hw none H R (Ext.refl rel.sub) rfl
theorem sSl {X : Cx} {W : WX} {a : E} {lo hi : Eo} {e : Expr} {l u : Option Expr} {p2 pos : Pos} (ha : SE X W C a e) (hl : PO X l (tDO X.K W fun env => evo C env lo >>= partD)) (hu : PO X u (tDO X.K W fun env => evo C env hi >>= partD)) :
    SE X W C (.sl a lo hi) (.Subscript e (.Slice l u none p2) pos) := by
  refine .of (peImp (pe_slice sl_or ha.1 hl hu) fun σ H Q ⟨R, env, rel, hw⟩ => ?_) fun _ => rfl
  have hw : WantG X.K W σ (denV X.K) R H (ev C env a >>= fun x => (evo C env lo >>= partD) >>= fun l => (evo C env hi >>= partD) >>= fun h => slD x l h) Q := by
    simp only [bindAssoc]; exact hw
  refine ⟨R, env, rel, hw.split fun dx x H1 R1 e1 d1 h1 => ⟨R1, env, rel.ext e1, h1.split fun k v H2 R2 e2 n2 h2 => ⟨R2, env, (rel.ext e1).ext e2, h2.split fun k' v' H3 R3 e3 n3 h3 => ?_⟩⟩⟩
  subst n2 n3
  exact sd_sl e3.sub (Dn.mono (e2.r.trans e3.r) _ _ d1) h3
theorem sCall {X : Cx} {S : Sx} {W : WX} (F : Fits X S C) (tk : Takes X W) {f : Nat} {a : E} {r : Es} {x : Str} {p pos : Pos} {e : Expr} {es : List Expr} (hh : S.hot = none) (hf : S.G.fns[f]? = some x) (hne : x ≠ ("" : Str)) (hg : Gl X x) (hd : (x == ("__debug__" : Str)) = false)
    (hs : starEach (e :: es) X.env = (false, eval e X.env) :: starEach es X.env) (hpl : (backTo pos (starEach es X.env)).any (·.1) = false) (h : PA X (e :: es) (tDA X.K W fun env => evs C env (.cons a r))) : SE X W C (.call f (.cons a r)) (.Call (.Name x p) (e :: es) [] pos) := by
  obtain ⟨ad, fd, ps, k, sp, hm, hk, hb, G, hr, ok⟩ := (F.fns hh f x hf hne).ex
  refine .of (peImp (pe_callS G hr hg hm hk hb (fun σ => passAt tk σ) h hd hs hpl) fun σ H Q ⟨R, env, rel, hw⟩ => ?_) fun _ => rfl
  have hw : WantG X.K W σ (denV X.K) R H (evs C env (.cons a r) >>= fun ds => C f ds) Q := hw
  exact ⟨R, env, rel, hw.split fun ds vs H1 R1 e1 n1 h1 => ok W σ R1 H1 vs ds Q e1.sub n1 h1.r⟩
theorem sBl {X : Cx} {S : Sx} {W : WX} (F : Fits X S C) {b : Blt} {a : E} {r : Es} {x : Str} {p pos : Pos} {e : Expr} {es : List Expr} (hh : S.hot = none) (hx : x = bname b) (hb : b ≠ .sset) (hn : Gl X x ∧ X.mg x = none ∧ x ≠ "__name__" ∧ (x == ("__debug__" : Str)) = false)
    (hs : starEach (e :: es) X.env = (false, eval e X.env) :: starEach es X.env) (hpl : (backTo pos (starEach es X.env)).any (·.1) = false) (h : PA X (e :: es) (tDA X.K W fun env => evs C env (.cons a r))) : SE X W C (.bl b (.cons a r)) (.Call (.Name x p) (e :: es) [] pos) := by
  obtain ⟨n1, n2, n3, n4⟩ := hn
  obtain ⟨rr, hc, hd⟩ := blt_ok (F.calm hh) F.hu hb
  refine .of (peImp (pe_blt hc hx n1 n2 h n3 n4 hs hpl) fun σ H Q ⟨R, env, rel, hw⟩ => ?_) fun _ => rfl
  have hw : WantG X.K W σ (denV X.K) R H (evs C env (.cons a r) >>= fun ds => bltD b ds) Q := hw
  exact ⟨R, env, rel, hw.split fun ds vs H1 R1 e1 n1 h1 => hd W σ R1 H1 vs ds Q e1.sub n1 h1⟩
theorem sIsi {X : Cx} {W : WX} {a : E} {T : Ty} {x y : Str} {p p2 pos : Pos} {e : Expr} (hx : x = ("isinstance" : Str)) (hn : Gl X x ∧ X.mg x = none ∧ x ≠ "__name__" ∧ (x == ("__debug__" : Str)) = false) (hy : y = Str.ofString (tname T)) (hny : Gl X y ∧ X.mg y = none ∧ y ≠ "__name__" ∧ (y == ("__debug__" : Str)) = false)
    (ha : SE X W C a e) (hs : ∀ es, starEach (e :: es) X.env = (false, eval e X.env) :: starEach es X.env) : SE X W C (.isi a T) (.Call (.Name x p) [e, .Name y p2] [] pos) := by
  obtain ⟨n1, n2, n3, n4⟩ := hn
  obtain ⟨m1, m2, m3, m4⟩ := hny
  subst hx
  have hv : bootBuiltins y = some (.type (tname T)) := by rw [hy]; exact boot_t T
  refine .of (peImp (pe_callB call_isi n1 n2 PyProof.Rows.boot_isinstance (pa_cons ha.1 (pa_cons (pe_bltn (v := .ty (tname T)) m1 m2 hv rfl m3 m4) pa_nil rfl) (hs _)) n3 n4 (hs _) rfl) fun σ H Q ⟨R, env, rel, hw⟩ => ?_) fun _ => rfl
  have hw : WantG X.K W σ (denV X.K) R H (ev C env a >>= fun x => .ok (.bool (isiD x T))) Q := hw
  refine ⟨R, env, rel, hw.split fun dx x H1 R1 e1 d1 h1 => ?_⟩
  obtain ⟨t, ty, kt⟩ := tyX_of e1.sub d1
  exact ⟨x, .ty (tname T), _, _, _, rfl, .ty _, ty, kt T, WantG.val (d := .bool (isiD dx T)) h1 e1.sub (.bl _)⟩
/-! ### comprehensions -/
theorem lcR_cons {f : PyData → Res (Option PyData)} {d : PyData} {r : List PyData} {xs : List PyData} (h : lcR f (d :: r) = .ok xs) : ∃ o ys, f d = .ok o ∧ lcR f r = .ok ys ∧ xs = consO o ys := by
  have h : (f d >>= fun o => lcR f r >>= fun ds => .ok (consO o ds)) = .ok xs := h
  cases q : f d with
  | ok o =>
    rw [q] at h
    have h : (lcR f r >>= fun ds => .ok (consO o ds)) = .ok xs := h
    cases q2 : lcR f r with
    | ok ys =>
      rw [q2] at h
      have h : Res.ok (consO o ys) = .ok xs := h
      cases h
      exact ⟨o, ys, rfl, rfl, rfl⟩
    | exc c => rw [q2] at h; cases h
    | stuck => rw [q2] at h; cases h
  | exc c => rw [q] at h; cases h
  | stuck => rw [q] at h; cases h
theorem calm_ok' {α : Type} {r : Res α} {a : α} (h : calm r = .ok a) : r = .ok a := by
  cases r with
  | ok b => exact h
  | exc c => cases h
  | stuck => cases h
theorem bind_ok {α β : Type} {r : Res α} {f : α → Res β} {b : β} (h : (r >>= f) = .ok b) : ∃ a, r = .ok a ∧ f a = .ok b := by
  cases r with
  | ok a => exact ⟨a, rfl, h⟩
  | exc c => cases h
  | stuck => cases h
abbrev noW : WX := fun _ _ _ _ => False
/-- a test of a comprehension -/
def SF (X : Cx) (C : Nat → List PyData → Res PyData) (c : Eo) (ifs : List Expr) : Prop := PTs X ifs (tDT X.K noW fun env => evc C env c)
theorem lc_ext {w : Bool} {K : PySem.W.Frag} {t : Tg} {c : Eo} {e : E} {σ : L2.St} {env : Ev} {R1 H1 : Hp} {J : L2.It} {ds xs : List PyData} {Q : VK} {D : Addr} (rel : Rel K R1 H1 σ env) (hwt : w = true → ∃ is, t = .tp is) (hw : WalkD w K R1 J ds) (hlc : lcR (fun d => calm (bindT env t d >>= fun env' => evc C env' c >>= fun k => if k then ev C env' e >>= fun x => .ok (some x) else .ok none)) ds = .ok xs)
    (hz : ds.length ≤ sizeLine) (hD : H1 D = none) (hQ : ∀ H' R2 acc, Ext R1 H1 R2 H' → R2 D = none → H' D = some (.lst acc) → DnA K R2 acc xs → Q (.ref D) H') :
    ∃ Wv : Nat → Nat → Hp → Prop, (∃ m, Wv 0 m (upd H1 D (.lst []))) ∧ ∀ i m H, Wv i m H → (J.stop i H ∧ Q (.ref D) H) ∨ (J.go i H ∧ ∃ Nx : Hp → Prop, (∀ H', Nx H' → ∃ m', m' < m ∧ Wv (i + 1) m' H') ∧ ∀ x H', J.yld i H x H' → tgD K t x (wipe σ (slots t)) H' fun σ2 H2 => wipe σ2 (slots t) = wipe σ (slots t) ∧ tDT K noW (fun env => evc C env c) σ2 H2 fun b H3 =>
        if b = true then tD K noW (fun env => ev C env e) σ2 H3 fun y H4 => ∃ acc, H4 D = some (.lst acc) ∧ acc.length < sizeLine ∧ Nx (upd H4 D (.lst (acc ++ [y]))) else Nx H3) := by
  obtain ⟨G, Y, wk, hG, hY⟩ := hw
  have R1D : R1 D = none := rel.sub.free hD
  refine lc_it wk (Qd := fun H => Q (.ref D) H) (fun i H => ∃ R2 acc da tail, Ext R1 H1 R2 H ∧ R2 D = none ∧ H D = some (.lst acc) ∧ DnA K R2 acc da ∧ lcR (fun d => calm (bindT env t d >>= fun env' => evc C env' c >>= fun k => if k then ev C env' e >>= fun x => .ok (some x) else .ok none)) (ds.drop i) = .ok tail ∧ da ++ tail = xs ∧ acc.length ≤ i) ?_ ?_ ?_ ?_
  · exact ⟨R1, [], [], xs, Ext.beside rel.sub (same_upd hD), R1D, upd_same, .nil, hlc, rfl, Nat.le_refl _⟩
  · rintro i H hi ⟨R2, acc, da, tail, e2, _⟩
    exact hG H (e2.r.trans e2.sub)
  · rintro i x H H' hi ⟨R2, acc, da, tail, e2, r2, hDl, dn, hl, hxs, hle⟩ y
    obtain ⟨R3, d, e3, hd, dx⟩ := hY i H x H' R2 hi e2.r e2.sub y
    have hdrop : ds.drop i = d :: ds.drop (i + 1) := by
      obtain ⟨h1, h2⟩ := List.getElem?_eq_some_iff.mp hd
      rw [List.drop_eq_getElem_cons h1, h2]
    rw [hdrop] at hl
    obtain ⟨o, ys, hf, hr, htl⟩ := lcR_cons hl
    obtain ⟨env', hb, hf⟩ := bind_ok (calm_ok' hf)
    have relX : RelX K R3 H' (wipe σ (slots t)) env (slots t) := (rel.ext (e2.trans e3)).wiped _
    have H'D : H' D = some (.lst acc) := e3.h _ _ hDl
    have R3D : R3 D = none := by
      cases q : R3 D with
      | none => rfl
      | some o =>
        rcases e3.new D o q with z | z
        · rw [r2] at z; cases z
        · rw [hDl] at z; cases z
    refine tgD_ok (vs0 := slots t) relX (fun _ h => h) hwt dx hb fun σ2 rel2 hw2 => ⟨hw2.trans wipe_wipe, R3, env', rel2, ?_⟩
    have hf : (evc C env' c >>= fun k => if k then ev C env' e >>= fun x => .ok (some x) else .ok none) = .ok o := hf
    obtain ⟨k, hk, hf⟩ := bind_ok hf
    dsimp only
    rw [hk]
    intro b H3 R4 e4 eb
    subst eb
    have keepD : ∀ {Ra Ha Rb Hb : Hp}, Ext Ra Ha Rb Hb → Ha D = some (.lst acc) → Ra D = none → Hb D = some (.lst acc) ∧ Rb D = none := fun {Ra Ha Rb Hb} ex h1 h2 => ⟨ex.h _ _ h1, by
      cases q : Rb D with
      | none => rfl
      | some o =>
        rcases ex.new D o q with z | z
        · rw [h2] at z; cases z
        · rw [h1] at z; cases z⟩
    obtain ⟨H3D, R4D⟩ := keepD e4 H'D R3D
    have dn4 : DnA K R4 acc da := DnA.mono (e3.r.trans e4.r) _ _ dn
    cases b with
    | false =>
      rw [if_neg Bool.false_ne_true]
      have hf : (Res.ok none : Res (Option PyData)) = .ok o := hf
      cases hf
      exact ⟨R4, acc, da, tail, (e2.trans e3).trans e4, R4D, H3D, dn4, by rw [htl]; exact hr, hxs, Nat.le_succ_of_le hle⟩
    | true =>
      rw [if_pos rfl]
      have hf : (ev C env' e >>= fun x => .ok (some x)) = .ok o := hf
      obtain ⟨z, hz1, hf⟩ := bind_ok hf
      cases hf
      refine ⟨R4, env', rel2.ext e4, ?_⟩
      dsimp only
      rw [hz1]
      intro v H4 R5 e5 dz
      obtain ⟨H4D, R5D⟩ := keepD e5 H3D R4D
      have dn5 : DnA K R5 acc da := DnA.mono e5.r _ _ dn4
      refine ⟨acc, H4D, by omega, R5, acc ++ [v], da ++ [z], ys, ?_, R5D, upd_same, dn5.append (.cons dz .nil), hr, ?_, by simp; omega⟩
      · have ex := ((e2.trans e3).trans e4).trans e5
        refine ⟨ex.r, fun a u q => ?_, fun a u q => ?_, ex.new⟩
        · have ne : a ≠ D := fun h => by rw [h, R5D] at q; cases q
          rw [upd_ne ne]
          exact ex.sub a u q
        · have ne : a ≠ D := fun h => by rw [h, hD] at q; cases q
          rw [upd_ne ne]
          exact ex.h a u q
      · rw [List.append_assoc, ← hxs, htl]
        rfl
  · rintro H ⟨R2, acc, da, tail, e2, r2, hDl, dn, hl, hxs, hle⟩
    rw [List.drop_length] at hl
    cases hl
    rw [List.append_nil] at hxs
    subst hxs
    exact hQ H R2 acc e2 r2 hDl dn
/-- as tD, where a new list comes -/
def tF (K : PySem.W.Frag) (W : WX) (f : Ev → Res PyData) : TE := fun σ H Q => ∃ R env, Rel K R H σ env ∧ match f env with
  | .ok (.list ds) => FreshK K R H ds Q
  | .ok _ => False
  | .exc c => ∀ (H' R' : Hp), Ext R H R' H' → W (xcls K c) none σ H'
  | .stuck => False
abbrev lcF (C : Nat → List PyData → Res PyData) (env : Ev) (t : Tg) (c : Eo) (e : E) : PyData → Res (Option PyData) := fun d => calm (bindT env t d >>= fun env' => evc C env' c >>= fun k => if k then ev C env' e >>= fun x => .ok (some x) else .ok none)
theorem lcR_noexc (f : PyData → Res (Option PyData)) (ds : List PyData) (k : Nat) : lcR (fun d => calm (f d)) ds ≠ .exc k := by
  induction ds with
  | nil => intro z; cases z
  | cons d r ih =>
    intro z
    have z : (calm (f d) >>= fun o => lcR (fun d => calm (f d)) r >>= fun ds => .ok (consO o ds)) = .exc k := z
    cases q : f d with
    | ok o =>
      rw [q] at z
      have z : (lcR (fun d => calm (f d)) r >>= fun ds => Res.ok (consO o ds)) = .exc k := z
      cases q2 : lcR (fun d => calm (f d)) r with
      | ok ys => rw [q2] at z; cases z
      | exc c =>
        rw [q2] at z
        cases z
        exact ih q2
      | stuck => rw [q2] at z; cases z
    | exc c => rw [q] at z; cases z
    | stuck => rw [q] at z; cases z
/-- what a comprehension asks, from what is wanted of it -/
theorem lcImp {w : Bool} {K : PySem.W.Frag} {W : WX} {t : Tg} {it : It} {c : Eo} {e : E} {σ : L2.St} {H : Hp} {Q : VK} (hwt : w = true → ∃ is, t = .tp is) (h : tF K W (fun env => ev C env (.lc t it c e)) σ H Q) :
    tLc (iD w K W fun env => evi C env it) (tgD K t) (tDT K noW fun env => evc C env c) (tD K noW fun env => ev C env e) (slots t) σ H Q := by
  obtain ⟨R, env, rel, hw⟩ := h
  have e0 : ev C env (.lc t it c e) = (evi C env it >>= fun ds => lcR (lcF C env t c e) ds >>= fun xs => guardR (fitsL ds.length) (.list xs)) := rfl
  dsimp only at hw
  rw [e0] at hw
  refine ⟨R, env, rel, ?_⟩
  dsimp only
  cases qi : evi C env it with
  | stuck => rw [qi] at hw; exact False.elim hw
  | exc k => rw [qi] at hw; exact hw
  | ok ds =>
    rw [qi] at hw
    intro J H1 R1 e1 wd D hD
    have hw : (match (lcR (lcF C env t c e) ds >>= fun xs => guardR (fitsL ds.length) (.list xs)) with | .ok (.list ds) => FreshK K R H ds Q | .ok _ => False | .exc c => ∀ (H' R' : Hp), Ext R H R' H' → W (xcls K c) none σ H' | .stuck => False) := hw
    cases q : lcR (lcF C env t c e) ds with
    | stuck => rw [q] at hw; exact False.elim hw
    | exc k => exact absurd q (lcR_noexc _ _ _)
    | ok xs =>
      rw [q] at hw
      have hw : (match guardR (fitsL ds.length) (.list xs) with | .ok (.list ds) => FreshK K R H ds Q | .ok _ => False | .exc c => ∀ (H' R' : Hp), Ext R H R' H' → W (xcls K c) none σ H' | .stuck => False) := hw
      cases g : fitsL ds.length with
      | false => rw [g] at hw; exact False.elim hw
      | true =>
        rw [g] at hw
        have hw : FreshK K R H xs Q := hw
        exact lc_ext (rel.ext e1) hwt wd q (of_decide_eq_true g) hD fun H' R2 acc ex r2 hl dn => hw D acc H' R2 (e1.trans ex) (e1.h.free hD) r2 hl dn
theorem tD_tF {K : PySem.W.Frag} {W : WX} {f : Ev → Res PyData} {σ : L2.St} {H : Hp} {Q : VK} (hf : ∀ env d, f env = .ok d → ∃ ds, d = .list ds) (h : tD K W f σ H Q) : tF K W f σ H Q := by
  obtain ⟨R, env, rel, hw⟩ := h
  refine ⟨R, env, rel, ?_⟩
  cases q : f env with
  | ok d =>
    rw [q] at hw
    obtain ⟨ds, rfl⟩ := hf env d q
    exact hw.fresh
  | exc c => rw [q] at hw; exact hw
  | stuck => rw [q] at hw; exact hw
theorem lc_list_ {t : Tg} {it : It} {c : Eo} {e : E} (env : Ev) (d : PyData) (h : ev C env (.lc t it c e) = .ok d) : ∃ ds, d = .list ds := by
  have e0 : ev C env (.lc t it c e) = (evi C env it >>= fun ds => lcR (lcF C env t c e) ds >>= fun xs => guardR (fitsL ds.length) (.list xs)) := rfl
  rw [e0] at h
  obtain ⟨ds, _, h⟩ := bind_ok h
  obtain ⟨xs, _, h⟩ := bind_ok h
  unfold guardR at h
  split at h
  · cases h; exact ⟨xs, rfl⟩
  · cases h
theorem tp_of {S : Sx} {t : Tg} {tg : Expr} (h : chkT S t tg = true) (k : isTup tg = true) : ∃ is, t = .tp is := by
  cases t with
  | tp is => exact ⟨is, rfl⟩
  | nm i =>
    cases tg with
    | Tuple es kk pos => simp [chkT] at h
    | _ => cases k
/-- a comprehension's parts -/
structure LcOk (X : Cx) (W : WX) (C : Nat → List PyData → Res PyData) (t : Tg) (it : It) (c : Eo) (e : E) (elt tg iter : Expr) (ifs : List Expr) (scope : Scope) : Prop where
  calm : X.calm = true
  nd : X.N.Nodup
  tp : isTup tg = true → ∃ is, t = .tp is
  hi : PI X tg iter (iD (isTup tg) X.K W fun env => evi C env it)
  own : ∃ own, BlkOk X.N X.env.scope scope own ∧ own.map (·.2) = slots t
  hg : ∀ (s : Shared) (H : Hp) (Ca : Addr) (cl : List (Str × Addr)) (fp : List Addr), PG (X.blk s H scope (compEnvC scope cl Ca X.env) fp) tg (tgD X.K t)
  ht : ∀ (s : Shared) (H : Hp) (Ca : Addr) (cl : List (Str × Addr)) (fp : List Addr), PTs (X.blk s H scope (compEnvC scope cl Ca X.env) fp) ifs (tDT X.K noW fun env => evc C env c)
  he : ∀ (s : Shared) (H : Hp) (Ca : Addr) (cl : List (Str × Addr)) (fp : List Addr), PE (X.blk s H scope (compEnvC scope cl Ca X.env) fp) elt (tD X.K noW fun env => ev C env e)
  hs : ∀ x, foldedSetIterable iter X.env x = pure x
theorem lcOk {X : Cx} {S : Sx} {W : WX} (F : Fits X S C) (hh : S.hot = none) {t : Tg} {it : It} {c : Eo} {e : E} {elt tg iter : Expr} {ifs : List Expr} {scope : Scope} (hb : blkC S.N S.sc scope (ownOf S.N t) = true) (ht : chkT (S.blk scope) t tg = true) (hi : PI X tg iter (iD (isTup tg) X.K W fun env => evi C env it)) (hset : isSet iter = false)
    (hc : ∀ (s : Shared) (H : Hp) (Ca : Addr) (cl : List (Str × Addr)) (fp : List Addr), SF (X.blk s H scope (compEnvC scope cl Ca X.env) fp) C c ifs)
    (he : ∀ (s : Shared) (H : Hp) (Ca : Addr) (cl : List (Str × Addr)) (fp : List Addr), SE (X.blk s H scope (compEnvC scope cl Ca X.env) fp) noW C e elt) : LcOk X W C t it c e elt tg iter ifs scope :=
  ⟨F.calm hh, F.nd, tp_of ht, hi, ⟨ownOf S.N t, by rw [F.hN, F.sc]; exact blkOk_by hb, by simp [ownOf, Function.comp_def]⟩, fun s H Ca cl fp => pg_of (F.blk s H scope cl Ca fp) (F.calm hh) ht, fun s H Ca cl fp => hc s H Ca cl fp, fun s H Ca cl fp => (he s H Ca cl fp).1, fun x => noFold hset X.env x⟩
theorem LcOk.pe {X : Cx} {W : WX} {t : Tg} {it : It} {c : Eo} {e : E} {elt tg iter : Expr} {ifs : List Expr} {scope : Scope} {pos : Pos} (L : LcOk X W C t it c e elt tg iter ifs scope) : PE X (.ListComp elt [⟨tg, iter, ifs, 0⟩] scope pos) (tF X.K W fun env => ev C env (.lc t it c e)) := by
  obtain ⟨own, ok, eo⟩ := L.own
  have core := pe_lc (pos := pos) L.calm L.nd L.hi ok L.hg L.ht L.he L.hs
  rw [eo] at core
  exact peImp core fun σ H Q h => lcImp L.tp h
theorem LcOk.set {X : Cx} {W : WX} {t : Tg} {it : It} {c : Eo} {e : E} {elt tg iter : Expr} {ifs : List Expr} {scope : Scope} {pos spos py : Pos} {i : Nat} {y : Str} (L : LcOk X W C t it c e elt tg iter ifs scope) (hk : X.env.scope.kind = .function) (hy : X.N[i]? = some y) (hl : Loc X.env.scope y) (hf : X.fn y = true ∨ X.env.scope.names.lookup y = some .local) :
    PS X (.Assign [.Name y py] (.ListComp elt [⟨tg, iter, ifs, 0⟩] scope pos) spos) (tAsg (tF X.K W fun env => ev C env (.lc t it c e)) (gName i)) := by
  obtain ⟨own, ok, eo⟩ := L.own
  have hb : X.env.blockKind = .function := by unfold PySem.Env.blockKind; rw [hk]; rfl
  have sw : swapsWith (.ListComp elt [⟨tg, iter, ifs, 0⟩] scope pos) (some (.Name y py)) spos.line X.env = pure (decide (X.env.kindOf y = some .local) && (py.line == pos.line) && !(scope.names.any fun (n, k) => n == y && (k == .local || k == .cell))) := by
    unfold swapsWith
    simp only [hb, Expr.pos]
    have : (X.env.kindOf y == some NameKind.local) = decide (X.env.kindOf y = some .local) := by
      by_cases h : X.env.kindOf y = some .local
      · rw [h]; rfl
      · rw [decide_eq_false h]; exact beq_eq_false_iff_ne.mpr h
    rw [this]
    rfl
  cases q : (decide (X.env.kindOf y = some .local) && (py.line == pos.line) && !(scope.names.any fun (n, k) => n == y && (k == .local || k == .cell))) with
  | true =>
    rw [q] at sw
    simp only [Bool.and_eq_true, decide_eq_true_eq] at q
    have core := ps_setLc (spos := spos) L.calm L.nd hy q.1.1 sw L.hi ok L.hg L.ht L.he L.hs
    rw [eo] at core
    exact psImp core fun D σ H h => lcImp L.tp h
  | false =>
    rw [q] at sw
    exact ps_set L.nd hy hl L.pe sw hf
theorem sLc {X : Cx} {W : WX} {t : Tg} {it : It} {c : Eo} {e : E} {elt tg iter : Expr} {ifs : List Expr} {scope : Scope} {pos : Pos} (L : LcOk X W C t it c e elt tg iter ifs scope) : PE X (.ListComp elt [⟨tg, iter, ifs, 0⟩] scope pos) (tD X.K W fun env => ev C env (.lc t it c e)) :=
  peImp L.pe fun σ H Q h => tD_tF (fun env d h => lc_list_ env d h) h
end
end Z
end
section
/-! Z5b: list(zip(..)). -/
namespace Z
open PySem PySem.Spec PyProof.Rows L2
section
variable {prog : Program} {w : World} {A : Around} {E : Value → Shared → Prop} {s : Shared}
theorem wpAny_alive {M : Model} {a : Addr} {Q : Option Obj → Shared → Prop} (h : Q (s.heap.get? a) s) : wpAny M A (loadIfAlive a) Q E s := fun Γ p _ => by
  show Sem.wp M Γ (Sem.loadIfAlive a .pure) _ _ p s
  rw [Sem.wp_loadIfAlive]
  exact h
/-- a zip whose last pair was kept by somebody -/
abbrev IsZipK (h : Heap) (z TI TO t : Addr) (f : Bool) : Prop := h.get? z = some { cls := .type "zip", dict := none, data := .fields #[rawInt ((t : Nat) : Int), .bool f, .bool false, .ref TI, .ref TO], slots := #[] }
variable {z TI TO i1 i2 : Addr} {fp1 fp2 : List Addr} {n1 n2 i : Nat} {P1 P2 : Nat → Value → Prop} {St1 St2 : Nat → Heap → Prop}
theorem owned_kept {t : Addr} {f : Bool} {ot : Obj} {Q : Bool → Shared → Prop} (hz : IsZipK s.heap z TI TO t f) (ht : s.heap.get? t = some ot)
    (hQ : ∀ h', IsZipK h' z TI TO t true → Heap.SameBut z s.heap h' → Q false { s with heap := h' }) : wpAny (model prog w) A (Builtin.SmallTypes.ownedTupleIsFree (.ref z)) Q E s := by
  unfold Builtin.SmallTypes.ownedTupleIsFree
  refine wpAny_bind (wpAny_field hz rfl (x := rawInt ((t : Nat) : Int)) rfl ?_)
  show wpAny _ _ (loadIfAlive ((t : Nat) : Int).toNat >>= _) _ _ _
  refine wpAny_bind (wpAny_alive ?_)
  rw [show ((t : Nat) : Int).toNat = t from rfl, ht]
  show wpAny _ _ (field (.ref z) 1 >>= _) _ _ _
  refine wpAny_bind (wpAny_field hz rfl (x := .bool f) rfl ?_)
  cases f with
  | true =>
    show wpAny _ _ (pure false) _ _ _
    exact wpAny_pure (hQ s.heap hz (Heap.SameBut.refl ..))
  | false =>
    show wpAny _ _ (setField (.ref z) 1 (.bool true) >>= fun _ => pure false) _ _ _
    refine wpAny_bind (wpAny_setField_rec hz (by simp) fun h' hz' hs' => wpAny_pure (hQ h' hz' hs'))
theorem zipK_next_item {t : Addr} {f : Bool} {ot : Obj} {Q : Value → Shared → Prop} (S : ZipSep2 z TI TO i1 i2 fp1 fp2) (D1 : Draws prog w A i1 fp1 n1 P1 St1) (D2 : Draws prog w A i2 fp2 n2 P2 St2)
    (hz : IsZipK s.heap z TI TO t f) (ht : s.heap.get? t = some ot) (hTI : IsTupOf2 s.heap TI (.ref i1) (.ref i2)) (st1 : St1 i s.heap) (st2 : St2 i s.heap) (hlt1 : i < n1) (hlt2 : i < n2)
    (hQ : ∀ x1 x2 h' tk, P1 i x1 → P2 i x2 → IsZipK h' z TI TO t true → St1 (i + 1) h' → St2 (i + 1) h' → IsTupOf2 h' s.heap.objs.size x1 x2 → h'.objs.size = s.heap.objs.size + 1 →
      (∀ c o, c ≠ z → c ≠ i1 → c ≠ i2 → s.heap.get? c = some o → h'.get? c = some o) → Q (.ref s.heap.objs.size) { s with heap := h', toks := tk }) :
    wpAny (model prog w) A (Builtin.«zip.__next__» ⟨[.ref z], []⟩) (fun fin s' => ∃ v, fin = .done (.ret v) ∧ Q v s') E s := by
  obtain ⟨hp, g, d, tk0, os⟩ := s
  show wpAny _ _ (field (.ref z) 2 >>= _) _ _ _
  refine wpAny_bind (wpAny_field hz rfl (x := .bool false) rfl ?_)
  show wpAny _ _ (field (.ref z) 3 >>= _) _ _ _
  refine wpAny_bind (wpAny_field hz rfl (x := .ref TI) rfl ?_)
  refine wpAny_bind (wpAny_seqItems hTI rfl ?_)
  show wpAny _ _ (Builtin.SmallTypes.ownedTupleIsFree (.ref z) >>= _) _ _ _
  refine wpAny_bind (owned_kept hz ht fun g0 hz0 hs0 => ?_)
  replace hs0 : Heap.SameBut z hp g0 := hs0
  simp only [Bool.false_eq_true, if_false]
  rw [← Array.forIn_toList]
  show wpAny _ _ (forIn [Value.ref i1, Value.ref i2] _ _ >>= _) _ _ _
  rw [List.forIn_cons]
  refine wpAny_bind (wpAny_bind (wpAny_bind (wpAny_holding ?_)))
  show wpAny _ _ (Builtin.SmallTypes.nextOf (.ref i1) >>= fun x => pure (some x)) _ _ ⟨g0, g, d, tk0, os⟩
  refine wpAny_bind (D1.item i _ _ _ hlt1 (D1.over st1 hs0 S.zf1) fun x1 p1 tk1 hx1 sn1 hp1 => wpAny_pure ?_)
  replace hp1 : Heap.SameBut i1 g0 p1 := hp1
  refine wpAny_pure ?_
  show wpAny _ _ (forIn [Value.ref i2] _ _) _ _ _
  rw [List.forIn_cons]
  refine wpAny_bind (wpAny_bind (wpAny_holding ?_))
  show wpAny _ _ (Builtin.SmallTypes.nextOf (.ref i2) >>= fun x => pure (some x)) _ _ ⟨p1, g, d, tk1, os⟩
  refine wpAny_bind (D2.item i _ _ _ hlt2 (D2.over (D2.over st2 hs0 S.zf2) hp1 S.sep1_2) fun x2 p2 tk2 hx2 sn2 hp2 => wpAny_pure ?_)
  replace hp2 : Heap.SameBut i2 p1 p2 := hp2
  refine wpAny_pure ?_
  show wpAny _ _ (forIn ([] : List Value) _ _) _ _ _
  rw [List.forIn_nil]
  refine wpAny_pure ?_
  show wpAny _ _ (newTuple [x1, x2] >>= fun v => ret v) _ _ ⟨p2, g, d, tk2, os⟩
  refine wpAny_bind (wpAny_newTuple ?_)
  have hsz : p2.objs.size = hp.objs.size := by rw [hp2.1, hp1.1, hs0.1]
  have hzz : IsZipK p2 z TI TO t true := hp2.extBut _ _ S.zi2 (hp1.extBut _ _ S.zi1 hz0)
  have hkk : ∀ c o, c ≠ z → c ≠ i1 → c ≠ i2 → hp.get? c = some o → (p2.push { cls := .type "tuple", data := .seq #[x1, x2] }).get? c = some o := fun c o cz c1 c2 e =>
    Heap.get?_push_of_some _ (hp2.extBut _ _ c2 (hp1.extBut _ _ c1 (hs0.extBut _ _ cz e)))
  refine wpAny_pure ⟨_, rfl, ?_⟩
  show Q (.ref p2.objs.size) ⟨p2.push { cls := .type "tuple", data := .seq #[x1, x2] }, g, d, tk2, os⟩
  rw [hsz]
  refine hQ x1 x2 _ tk2 hx1 hx2 (Heap.get?_push_of_some _ hzz) (D1.frame _ _ _ (D1.over sn1 hp2 S.sep2_1) fun b hb o e => Heap.get?_push_of_some _ e) (D2.frame _ _ _ sn2 fun b hb o e => Heap.get?_push_of_some _ e) ?_ ?_ hkk
  · show IsTupOf2 _ hp.objs.size x1 x2
    rw [← hsz]
    exact Heap.get?_push_size _ rfl
  · show (p2.push _).objs.size = hp.objs.size + 1
    rw [Heap.size_push, hsz]
theorem zipK_next_end {t : Addr} {f : Bool} {ot : Obj} {Q : Fin → Shared → Prop} (S : ZipSep2 z TI TO i1 i2 fp1 fp2) (D1 : Draws prog w A i1 fp1 n1 P1 St1) (D2 : Draws prog w A i2 fp2 n2 P2 St2)
    (hz : IsZipK s.heap z TI TO t f) (ht : s.heap.get? t = some ot) (hTI : IsTupOf2 s.heap TI (.ref i1) (.ref i2)) (st1 : St1 i s.heap) (st2 : St2 i s.heap) (hle1 : i ≤ n1) (hle2 : i ≤ n2) (hend : i = n1 ∨ i = n2)
    (hE : ∀ h' tk e, (∀ c o, c ≠ z → c ≠ i1 → c ≠ i2 → s.heap.get? c = some o → h'.get? c = some o) → (∃ o, h'.get? e = some o ∧ o.cls = .type "StopIteration") → E (.ref e) { s with heap := h', toks := tk }) :
    wpAny (model prog w) A (Builtin.«zip.__next__» ⟨[.ref z], []⟩) Q E s := by
  obtain ⟨hp, g, d, tk0, os⟩ := s
  show wpAny _ _ (field (.ref z) 2 >>= _) _ _ _
  refine wpAny_bind (wpAny_field hz rfl (x := .bool false) rfl ?_)
  show wpAny _ _ (field (.ref z) 3 >>= _) _ _ _
  refine wpAny_bind (wpAny_field hz rfl (x := .ref TI) rfl ?_)
  refine wpAny_bind (wpAny_seqItems hTI rfl ?_)
  show wpAny _ _ (Builtin.SmallTypes.ownedTupleIsFree (.ref z) >>= _) _ _ _
  refine wpAny_bind (owned_kept hz ht fun g0 hz0 hs0 => ?_)
  replace hs0 : Heap.SameBut z hp g0 := hs0
  simp only [Bool.false_eq_true, if_false]
  rw [← Array.forIn_toList]
  show wpAny _ _ (forIn [Value.ref i1, Value.ref i2] _ _ >>= _) _ _ _
  rw [List.forIn_cons]
  refine wpAny_bind (wpAny_bind (wpAny_bind (wpAny_holding ?_)))
  show wpAny _ _ (Builtin.SmallTypes.nextOf (.ref i1) >>= fun x => pure (some x)) _ _ ⟨g0, g, d, tk0, os⟩
  by_cases h1 : i = n1
  · subst h1
    refine wpAny_bind (D1.done _ _ _ (D1.over st1 hs0 S.zf1) fun h' e hx he => hE h' tk0 e (fun c o cz c1 c2 q => hx _ _ c1 (hs0.extBut _ _ cz q)) he)
  · have h2 : i = n2 := by omega
    subst h2
    refine wpAny_bind (D1.item i _ _ _ (by omega) (D1.over st1 hs0 S.zf1) fun x1 p1 tk1 hx1 sn1 hp1 => wpAny_pure ?_)
    replace hp1 : Heap.SameBut i1 g0 p1 := hp1
    refine wpAny_pure ?_
    show wpAny _ _ (forIn [Value.ref i2] _ _) _ _ _
    rw [List.forIn_cons]
    refine wpAny_bind (wpAny_bind (wpAny_holding ?_))
    show wpAny _ _ (Builtin.SmallTypes.nextOf (.ref i2) >>= fun x => pure (some x)) _ _ ⟨p1, g, d, tk1, os⟩
    exact wpAny_bind (D2.done _ _ _ (D2.over (D2.over st2 hs0 S.zf2) hp1 S.sep1_2) fun h' e hx he => hE h' tk1 e (fun c o cz c1 c2 q => hx _ _ c2 (hp1.extBut _ _ c1 (hs0.extBut _ _ cz q))) he)
theorem pyNext_zipK_item {t : Addr} {f : Bool} {ot : Obj} {Q : Option Value → Shared → Prop} (S : ZipSep2 z TI TO i1 i2 fp1 fp2) (D1 : Draws prog w A.in1 i1 fp1 n1 P1 St1) (D2 : Draws prog w A.in1 i2 fp2 n2 P2 St2)
    (hz : IsZipK s.heap z TI TO t f) (ht : s.heap.get? t = some ot) (hTI : IsTupOf2 s.heap TI (.ref i1) (.ref i2)) (st1 : St1 i s.heap) (st2 : St2 i s.heap) (hlt1 : i < n1) (hlt2 : i < n2)
    (hQ : ∀ x1 x2 h' tk, P1 i x1 → P2 i x2 → IsZipK h' z TI TO t true → St1 (i + 1) h' → St2 (i + 1) h' → IsTupOf2 h' s.heap.objs.size x1 x2 → h'.objs.size = s.heap.objs.size + 1 →
      (∀ c o, c ≠ z → c ≠ i1 → c ≠ i2 → s.heap.get? c = some o → h'.get? c = some o) → Q (some (.ref s.heap.objs.size)) { s with heap := h', toks := tk }) :
    wpAny (model prog w) A (pyNext (.ref z)) Q E s := by
  have hT : s.TypeIs (.ref z) "zip" := ⟨_, hz, rfl⟩
  unfold pyNext
  exact wpAny_bind (wpAny_attempt (wpAny_callSpecial?_slot (name := Str.ofString "__next__") hT F.slot_zip_next
    (wpAny_call_entry F.slot_zip_next hT F.entry_zip_next
      (zipK_next_item S D1 D2 hz ht hTI st1 st2 hlt1 hlt2 fun x1 x2 h' tk a1 a2 a3 a4 a5 a6 a7 a8 => wpAny_pure (hQ x1 x2 h' tk a1 a2 a3 a4 a5 a6 a7 a8)) (F.args_zip_next_1 _))))
theorem pyNext_zipK_end {t : Addr} {f : Bool} {ot : Obj} {Q : Option Value → Shared → Prop} (S : ZipSep2 z TI TO i1 i2 fp1 fp2) (D1 : Draws prog w A.in1 i1 fp1 n1 P1 St1) (D2 : Draws prog w A.in1 i2 fp2 n2 P2 St2)
    (hz : IsZipK s.heap z TI TO t f) (ht : s.heap.get? t = some ot) (hTI : IsTupOf2 s.heap TI (.ref i1) (.ref i2)) (st1 : St1 i s.heap) (st2 : St2 i s.heap) (hle1 : i ≤ n1) (hle2 : i ≤ n2) (hend : i = n1 ∨ i = n2)
    (hQ : ∀ h' tk, (∀ c o, c ≠ z → c ≠ i1 → c ≠ i2 → s.heap.get? c = some o → h'.get? c = some o) → Q none { s with heap := h', toks := tk }) :
    wpAny (model prog w) A (pyNext (.ref z)) Q E s := by
  have hT : s.TypeIs (.ref z) "zip" := ⟨_, hz, rfl⟩
  unfold pyNext
  refine wpAny_bind (wpAny_attempt (wpAny_callSpecial?_slot (name := Str.ofString "__next__") hT F.slot_zip_next
    (wpAny_call_entry F.slot_zip_next hT F.entry_zip_next (zipK_next_end S D1 D2 hz ht hTI st1 st2 hle1 hle2 hend fun h' tk e hk he => ?_) (F.args_zip_next_1 _))))
  obtain ⟨o, ho, hc⟩ := he
  refine wpAny_bind (wpAny_isInstance (T := "StopIteration") (b := true) ⟨o, ho, hc⟩ isSubtype_stop ?_)
  exact wpAny_pure (hQ _ _ hk)
end

section
variable {prog : Program} {w : World} {A : Around} {E : Value → Shared → Prop} {s : Shared} {z TI TO i1 i2 : Addr} {fp1 fp2 : List Addr} {n1 n2 i : Nat} {P1 P2 : Nat → Value → Prop} {St1 St2 : Nat → Heap → Prop}
theorem nextG_item {Q : Option Value → Shared → Prop} (S : ZipSep2 z TI TO i1 i2 fp1 fp2) (D1 : Draws prog w A.in1 i1 fp1 n1 P1 St1) (D2 : Draws prog w A.in1 i2 fp2 n2 P2 St2)
    (hz : (IsZip s.heap z TI TO .none ∧ ∃ a1 a2, IsTupOf2 s.heap TO a1 a2) ∨ ∃ t f o, IsZipK s.heap z TI TO t f ∧ s.heap.get? t = some o) (hTI : IsTupOf2 s.heap TI (.ref i1) (.ref i2)) (st1 : St1 i s.heap) (st2 : St2 i s.heap) (hlt1 : i < n1) (hlt2 : i < n2)
    (hQ : ∀ x1 x2 h' tk, P1 i x1 → P2 i x2 → (∃ t f, IsZipK h' z TI TO t f ∧ (t = s.heap.objs.size ∨ ∃ f0, IsZipK s.heap z TI TO t f0)) → St1 (i + 1) h' → St2 (i + 1) h' → IsTupOf2 h' s.heap.objs.size x1 x2 → h'.objs.size = s.heap.objs.size + 1 →
      (∀ c o, c ≠ z → c ≠ TO → c ≠ i1 → c ≠ i2 → s.heap.get? c = some o → h'.get? c = some o) → Q (some (.ref s.heap.objs.size)) { s with heap := h', toks := tk }) :
    wpAny (model prog w) A (pyNext (.ref z)) Q E s := by
  rcases hz with ⟨hz, a1, a2, hTO⟩ | ⟨t, f, o, hz, ht⟩
  · have hT : s.TypeIs (.ref z) "zip" := ⟨_, hz, rfl⟩
    unfold pyNext
    exact wpAny_bind (wpAny_attempt (wpAny_callSpecial?_slot (name := Str.ofString "__next__") hT F.slot_zip_next
      (wpAny_call_entry F.slot_zip_next hT F.entry_zip_next
        (zipD2_next_item S D1 D2 hz hTI hTO st1 st2 hlt1 hlt2 fun x1 x2 h' tk b1 b2 b3 b4 b5 b6 b7 b8 b9 => wpAny_pure (hQ x1 x2 h' tk b1 b2 ⟨_, false, b3, .inl rfl⟩ b5 b6 b7 b8 b9)) (F.args_zip_next_1 _))))
  · exact pyNext_zipK_item S D1 D2 hz ht hTI st1 st2 hlt1 hlt2 fun x1 x2 h' tk b1 b2 b3 b4 b5 b6 b7 b8 => hQ x1 x2 h' tk b1 b2 ⟨t, true, b3, .inr ⟨f, hz⟩⟩ b4 b5 b6 b7 fun c o c1 c2 c3 c4 => b8 c o c1 c3 c4
theorem nextG_end {Q : Option Value → Shared → Prop} (S : ZipSep2 z TI TO i1 i2 fp1 fp2) (D1 : Draws prog w A.in1 i1 fp1 n1 P1 St1) (D2 : Draws prog w A.in1 i2 fp2 n2 P2 St2)
    (hz : (IsZip s.heap z TI TO .none ∧ ∃ a1 a2, IsTupOf2 s.heap TO a1 a2) ∨ ∃ t f o, IsZipK s.heap z TI TO t f ∧ s.heap.get? t = some o) (hTI : IsTupOf2 s.heap TI (.ref i1) (.ref i2)) (st1 : St1 i s.heap) (st2 : St2 i s.heap) (hle1 : i ≤ n1) (hle2 : i ≤ n2) (hend : i = n1 ∨ i = n2)
    (hQ : ∀ h' tk, (∀ c o, c ≠ z → c ≠ TO → c ≠ i1 → c ≠ i2 → s.heap.get? c = some o → h'.get? c = some o) → Q none { s with heap := h', toks := tk }) :
    wpAny (model prog w) A (pyNext (.ref z)) Q E s := by
  rcases hz with ⟨hz, a1, a2, hTO⟩ | ⟨t, f, o, hz, ht⟩
  · have hT : s.TypeIs (.ref z) "zip" := ⟨_, hz, rfl⟩
    unfold pyNext
    refine wpAny_bind (wpAny_attempt (wpAny_callSpecial?_slot (name := Str.ofString "__next__") hT F.slot_zip_next
      (wpAny_call_entry F.slot_zip_next hT F.entry_zip_next (zipD2_next_end S D1 D2 hz hTI hTO st1 st2 hle1 hle2 hend fun h' tk e hk he => ?_) (F.args_zip_next_1 _))))
    obtain ⟨o, ho, hc⟩ := he
    refine wpAny_bind (wpAny_isInstance (T := "StopIteration") (b := true) ⟨o, ho, hc⟩ isSubtype_stop ?_)
    exact wpAny_pure (hQ _ _ hk)
  · exact pyNext_zipK_end S D1 D2 hz ht hTI st1 st2 hle1 hle2 hend fun h' tk hk => hQ h' tk fun c o c1 c2 c3 c4 => hk c o c1 c3 c4
end
theorem nolen_zip : typeLookup (.type "zip") "__len__" = pure none := by rw [typeLookup_type, builtinLookup_eq_fast]; kernel_rfl
theorem nohint_zip : typeLookup (.type "zip") "__length_hint__" = pure none := by rw [typeLookup_type, builtinLookup_eq_fast]; kernel_rfl
/-- what the list of pairs is wished to be -/
def WantZ (xs ys : List V) (S : Addr) : Nat → Nat → Hp → List V → (Hp → Prop) → Prop
  | 0, _, H, _, Q => Q H
  | k + 1, i, H, vs, Q => ∀ x y, xs[i]? = some x → ys[i]? = some y → ∀ (T : Addr) (o : Obj), o.dict = none → H T = none → WantZ xs ys S k (i + 1) (upd (upd H T (.frz o (.tup [x, y]))) S (.lst (vs ++ [.ref T]))) (vs ++ [.ref T]) Q
theorem WantZ.mono {xs ys : List V} {S : Addr} {Q Q' : Hp → Prop} (h : ∀ H, Q H → Q' H) : ∀ {k i : Nat} {H : Hp} {vs : List V}, WantZ xs ys S k i H vs Q → WantZ xs ys S k i H vs Q'
  | 0, _, _, _, w => h _ w
  | _ + 1, _, _, _, w => fun x y hx hy T o ho hT => WantZ.mono h (w x y hx hy T o ho hT)
section
variable {X : Cx} {pins : List (Addr × Obj)} {σ : L2.St}
theorem FpOk.re {H H' : Hp} {b : Addr} (h : FpOk X pins H b) (hn : H' b = none) : FpOk X pins H' b := ⟨hn, h.2⟩
/-- where the zip stands -/
structure ZgSt (b c : Bool) (a d z TI TO i1 i2 : Addr) (H : Hp) (i : Nat) (h : Heap) : Prop where
  zp : (IsZip h z TI TO .none ∧ ∃ a1 a2, IsTupOf2 h TO a1 a2) ∨ ∃ t f u, IsZipK h z TI TO t f ∧ ∃ o, H t = some (.frz o (.tup u))
  ti : IsTupOf2 h TI (.ref i1) (.ref i2)
  s1 : IsSqIt b h i1 a i
  s2 : IsSqIt c h i2 d i
theorem zg_sep {b c : Bool} {a d z TI TO i1 i2 : Addr} {H : Hp} {i : Nat} {h : Heap} {u v : Array Value} (D : ZpNe z TI TO i1 i2) (st : ZgSt b c a d z TI TO i1 i2 H i h) (ha : IsSq b h a u) (hd : IsSq c h d v) (hTa : TO ≠ a) (hTd : TO ≠ d) :
    ZipSep2 z TI TO i1 i2 [i1, a] [i2, d] ∧ i1 ≠ a ∧ i2 ≠ d := by
  obtain ⟨o1, c1, _, e1, k1, r1, _⟩ := st.s1.obj
  obtain ⟨o2, c2, _, e2, k2, r2, _⟩ := st.s2.obj
  have w1 : c1 ≠ "list" ∧ c1 ≠ "tuple" := by rcases r1 with z | z <;> rw [z] <;> decide
  have w2 : c2 ≠ "list" ∧ c2 ≠ "tuple" := by rcases r2 with z | z <;> rw [z] <;> decide
  obtain ⟨oz, ez, kz⟩ : ∃ o, h.get? z = some o ∧ o.cls = .type "zip" := by
    rcases st.zp with ⟨h, _⟩ | ⟨t, f, u, h, _⟩
    · exact ⟨_, h, rfl⟩
    · exact ⟨_, h, rfl⟩
  have za : z ≠ a := sq_apart (c := "zip") ha ez kz (by decide) (by decide)
  have zd : z ≠ d := sq_apart (c := "zip") hd ez kz (by decide) (by decide)
  have i1a : i1 ≠ a := sq_apart ha e1 k1 w1.1 w1.2
  have i1d : i1 ≠ d := sq_apart hd e1 k1 w1.1 w1.2
  have i2a : i2 ≠ a := sq_apart ha e2 k2 w2.1 w2.2
  have i2d : i2 ≠ d := sq_apart hd e2 k2 w2.1 w2.2
  exact ⟨⟨D.TIz, D.TOz, D.TITO, D.TIi1, by simp, by simp [D.zi1, za], by simp [D.TOi1, hTa], D.TIi2, by simp, by simp [D.zi2, zd], by simp [D.TOi2, hTd], by simp [D.i12, i1d], by simp [Ne.symm D.i12, i2a]⟩, i1a, i2d⟩
theorem tup_live {H : Hp} {s : Shared} {t : Addr} {u : List V} (I : Inv X pins σ H s) (h : ∃ o, H t = some (.frz o (.tup u))) : ∃ o, s.heap.get? t = some o := let ⟨_, h⟩ := h; objOk_get (I.hok t _ h)
theorem ext_zip {b c : Bool} {a d z TI TO i1 i2 S : Addr} {xs ys : List V} {H1 : Hp} {A : Around} {R : Result → Shared → Prop} (res : Value) (hh : A.handled = none) (D : ZpNe z TI TO i1 i2) (hTa : TO ≠ a) (hTd : TO ≠ d) (q1 : SqB b X.K H1 a xs) (q2 : SqB c X.K H1 d ys) (hn : min xs.length ys.length ≤ sizeLine) :
    ∀ (k i : Nat) (s : Shared) (H : Hp) (vs : List V), min xs.length ys.length - i = k → i ≤ min xs.length ys.length → Inv X pins σ H s → (∀ x ∈ [z, TI, TO, i1, i2], FpOk X pins H x) → (∀ x ∈ [z, TI, TO, i1, i2], x < s.heap.objs.size) → ZgSt b c a d z TI TO i1 i2 H i s.heap → Same H1 H → H1 S = none → H S = some (.lst vs) → vs.length = i →
      WantZ xs ys S k i H vs (fun H' => ∀ s', Inv X pins σ H' s' → R (.ok (.ret res)) s') → codeAny (model X.prog X.w) A (.builtin "list.extend.loop" ⟨[.ref S, .ref z, res], []⟩) R s := by
  intro k
  induction k with
  | zero =>
    intro i s H vs hk hi I hf hb0 st sm nS hS hl hw
    have hw : ∀ s', Inv X pins σ H s' → R (.ok (.ret res)) s' := hw
    have hin : i = min xs.length ys.length := by omega
    obtain ⟨its, rv, p⟩ := SqB.sq I (q1.mono sm)
    obtain ⟨its2, rv2, p2⟩ := SqB.sq I (q2.mono sm)
    obtain ⟨Sp, n1, n2⟩ := zg_sep D st p p2 hTa hTd
    have D1 := draws_sq (prog := X.prog) (w := X.w) (A := A.in1.in1) b hh i1 a (Ne.symm n1) its.toArray
    have D2 := draws_sq (prog := X.prog) (w := X.w) (A := A.in1.in1) c hh i2 d (Ne.symm n2) its2.toArray
    have l1 : its.toArray.size = xs.length := by rw [List.size_toArray, rv.length]
    have l2 : its2.toArray.size = ys.length := by rw [List.size_toArray, rv2.length]
    have zp : (IsZip s.heap z TI TO .none ∧ ∃ a1 a2, IsTupOf2 s.heap TO a1 a2) ∨ ∃ t f o, IsZipK s.heap z TI TO t f ∧ s.heap.get? t = some o := by
      rcases st.zp with h | ⟨t, f, u, h, hu⟩
      · exact .inl h
      · obtain ⟨o, ho⟩ := tup_live I hu
        exact .inr ⟨t, f, o, h, ho⟩
    refine codeAny_builtin F.entry_extend_loop ?_
    rw [Around.under_plainId F.plain_extend_loop _]
    show wpAny _ A.in1 (pyNext (.ref z) >>= _) _ _ s
    refine wpAny_bind (nextG_end (i := i) Sp D1 D2 zp st.ti ⟨st.s1, p⟩ ⟨st.s2, p2⟩ (by rw [l1]; omega) (by rw [l2]; omega) (by rw [l1, l2]; omega) fun h' tk hk' => ?_)
    exact wpAny_pure (hw _ (I.turnedL (ch := [z, TI, TO, i1, i2]) (fun x o hx => hk' x o (fun e => hx (by simp [e])) (fun e => hx (by simp [e])) (fun e => hx (by simp [e])) (fun e => hx (by simp [e]))) hf))
  | succ k ih =>
    intro i s H vs hk hi I hf hb0 st sm nS hS hl hw
    have hlt : i < min xs.length ys.length := by omega
    obtain ⟨its, rv, p⟩ := SqB.sq I (q1.mono sm)
    obtain ⟨its2, rv2, p2⟩ := SqB.sq I (q2.mono sm)
    obtain ⟨Sp, n1, n2⟩ := zg_sep D st p p2 hTa hTd
    have D1 := draws_sq (prog := X.prog) (w := X.w) (A := A.in1.in1) b hh i1 a (Ne.symm n1) its.toArray
    have D2 := draws_sq (prog := X.prog) (w := X.w) (A := A.in1.in1) c hh i2 d (Ne.symm n2) its2.toArray
    have l1 : its.toArray.size = xs.length := by rw [List.size_toArray, rv.length]
    have l2 : its2.toArray.size = ys.length := by rw [List.size_toArray, rv2.length]
    have zp : (IsZip s.heap z TI TO .none ∧ ∃ a1 a2, IsTupOf2 s.heap TO a1 a2) ∨ ∃ t f o, IsZipK s.heap z TI TO t f ∧ s.heap.get? t = some o := by
      rcases st.zp with h | ⟨t, f, u, h, hu⟩
      · exact .inl h
      · obtain ⟨o, ho⟩ := tup_live I hu
        exact .inr ⟨t, f, o, h, ho⟩
    obtain ⟨x, hx⟩ : ∃ x, xs[i]? = some x := ⟨xs[i]'(by omega), by simp [show i < xs.length by omega]⟩
    obtain ⟨y, hy⟩ : ∃ y, ys[i]? = some y := ⟨ys[i]'(by omega), by simp [show i < ys.length by omega]⟩
    obtain ⟨u, hu, ru⟩ := rv.get hx
    obtain ⟨u2, hu2, ru2⟩ := rv2.get hy
    refine codeAny_builtin F.entry_extend_loop ?_
    rw [Around.under_plainId F.plain_extend_loop _]
    show wpAny _ A.in1 (pyNext (.ref z) >>= _) _ _ s
    refine wpAny_bind (nextG_item (i := i) Sp D1 D2 zp st.ti ⟨st.s1, p⟩ ⟨st.s2, p2⟩ (by rw [l1]; omega) (by rw [l2]; omega) fun x' y' h' tk hx' hy' hz' st1' st2' hT' hsz' hk' => ?_)
    have hxu : x' = u := by
      have : its.toArray[i]? = some u := by simpa using hu
      rw [this] at hx'
      exact (Option.some.inj hx').symm
    have hyu : y' = u2 := by
      have : its2.toArray[i]? = some u2 := by simpa using hu2
      rw [this] at hy'
      exact (Option.some.inj hy').symm
    subst hxu hyu
    have kch : ∀ x o, x ∉ [z, TI, TO, i1, i2] → s.heap.get? x = some o → h'.get? x = some o := fun x o hx => hk' x o (fun e => hx (by simp [e])) (fun e => hx (by simp [e])) (fun e => hx (by simp [e])) (fun e => hx (by simp [e]))
    have hT0 : H s.heap.objs.size = none := I.hok.fresh (Nat.le_refl _)
    have I1 : Inv X pins σ (upd H s.heap.objs.size (.frz (tupO #[x', y']) (.tup [x, y]))) { s with heap := h', toks := tk } := I.turnedNew (ch := [z, TI, TO, i1, i2]) kch hf (Nat.le_refl _) ⟨hT', by show 2 ≤ sizeLine; decide, [x', y'], .cons ru (.cons ru2 .nil), _, hT', rfl, 0, rfl⟩
    have hST : S ≠ s.heap.objs.size := fun e => by rw [e, hT0] at hS; cases hS
    have hS1 : upd H s.heap.objs.size (.frz (tupO #[x', y']) (.tup [x, y])) S = some (.lst vs) := by rw [upd_ne hST]; exact hS
    obtain ⟨hz1, its0, m, rS, hl0, eS⟩ := I1.lstM hS1
    have nz : ∀ b ∈ [z, TI, TO, i1, i2], b ≠ S := fun b hb e => by
      have := (hf b hb).1
      rw [e, hS] at this; cases this
    have hlt' : ∀ b ∈ [z, TI, TO, i1, i2], b ≠ s.heap.objs.size := fun b hb => Nat.ne_of_lt (hb0 b hb)
    show wpAny _ A.in1 (updateSeq S (·.push (.ref s.heap.objs.size)) >>= _) _ _ _
    refine wpAny_bind (wpAny_updateSeq eS rfl (wpAny_pure ⟨plainId_quiet F.plain_extend_loop _, ?_⟩) (by rw [List.size_toArray]; omega) (by rw [Array.size_push, List.size_toArray]; omega))
    have I2 := I1.lset (f := (·.push (.ref s.heap.objs.size))) (its' := its0 ++ [.ref s.heap.objs.size]) (ys := vs ++ [.ref s.heap.objs.size]) (t' := tk) hS1 eS (by simp) (rS.append (.cons (show RelV (.ref s.heap.objs.size) (.ref s.heap.objs.size) from rfl) .nil)) (by simp; omega)
    refine ih (i + 1) _ _ _ (by omega) (by omega) I2 (fun b hb => ?_) (fun b hb => ?_) ?_ ?_ nS upd_same (by simp [hl]) (hw x y hx hy _ _ rfl hT0)
    · refine FpOk.re (hf b hb) ?_
      rw [upd_ne (nz b hb), upd_ne (hlt' b hb)]
      exact (hf b hb).1
    · have := hb0 b hb
      show b < (h'.update S _).objs.size
      rw [Heap.size_update, hsz']
      exact Nat.lt_succ_of_lt this
    · have up : ∀ b o, b ≠ S → h'.get? b = some o → (h'.update S (Obj.mapSeq (·.push (.ref s.heap.objs.size)))).get? b = some o := fun b o hb e => (Heap.get?_update_other _ _ (Ne.symm hb)).trans e
      obtain ⟨t, f, hzk, hor⟩ := hz'
      refine ⟨.inr ⟨t, f, ?_⟩, up _ _ (nz TI (by simp)) (hk' TI _ D.TIz D.TITO D.TIi1 D.TIi2 st.ti), st1'.1.at fun o e => up _ o (nz i1 (by simp)) e, st2'.1.at fun o e => up _ o (nz i2 (by simp)) e⟩
      rcases hor with rfl | ⟨f0, hz0⟩
      · exact ⟨[x, y], up _ _ (nz z (by simp)) hzk, _, by rw [upd_ne (Ne.symm hST)]; exact upd_same⟩
      · rcases st.zp with ⟨h, _⟩ | ⟨t2, f2, u', h, hu'⟩
        · have := hz0.symm.trans h
          cases this
        · obtain ⟨o', hu'⟩ := hu'
          have ht : t = t2 := by
            have := hz0.symm.trans h
            simp only [Option.some.injEq, Obj.mk.injEq, Data.fields.injEq, rawInt] at this
            have := this.2.2.1
            simp at this
            exact Int.ofNat_inj.mp this.1
          subst ht
          refine ⟨u', up _ _ (nz z (by simp)) hzk, o', ?_⟩
          have h1 : t ≠ S := fun e => by rw [e, hS] at hu'; cases hu'
          have h2 : t ≠ s.heap.objs.size := fun e => by rw [e, hT0] at hu'; cases hu'
          rw [upd_ne h1, upd_ne h2]
          exact hu'
    · intro b o e
      have h2 : b ≠ S := fun q => by rw [q, nS] at e; cases e
      have h3 : b ≠ s.heap.objs.size := fun q => by
        have := sm b o e
        rw [q, hT0] at this; cases this
      rw [upd_ne h2, upd_ne h3]
      exact sm b o e
/-- list(a zip) -/
theorem call_list_zip {b c : Bool} {a d z TI TO i1 i2 : Addr} {xs ys : List V} {H1 : Hp} {s : Shared} {Q : VK} (hh : X.A.handled = none) (D : ZpNe z TI TO i1 i2) (hTa : TO ≠ a) (hTd : TO ≠ d) (q1 : SqB b X.K H1 a xs) (q2 : SqB c X.K H1 d ys) (hn : min xs.length ys.length ≤ sizeLine)
    (I : Inv X pins σ H1 s) (hf : ∀ x ∈ [z, TI, TO, i1, i2], FpOk X pins H1 x) (hb0 : ∀ x ∈ [z, TI, TO, i1, i2], x < s.heap.objs.size) (st : ZgSt b c a d z TI TO i1 i2 H1 0 s.heap) (hz0 : IsZip s.heap z TI TO .none) (hTO : ∃ a1 a2, IsTupOf2 s.heap TO a1 a2)
    (hw : ∀ S, H1 S = none → WantZ xs ys S (min xs.length ys.length) 0 (upd H1 S (.lst [])) [] (fun H' => Q (.ref S) H')) : wpAny (model X.prog X.w) X.A (call (.type "list") [.ref z]) (EP X pins σ Q) X.xe s := by
  obtain ⟨oz, ez, kz⟩ : ∃ o, s.heap.get? z = some o ∧ o.cls = .type "zip" := by
    rcases st.zp with ⟨h, _⟩ | ⟨t, f, u, h, _⟩
    · exact ⟨_, h, rfl⟩
    · exact ⟨_, h, rfl⟩
  refine callType_codes (Q₁ := fun obj s₁ => obj = .ref s.heap.objs.size ∧ s₁ = { s with heap := s.heap.push { cls := .type "list", data := .seq #[] } }) F.called_list (F.typeCall_list_1 _) F.entry_list_init
    (code_list_new _ ⟨rfl, rfl⟩) fun obj s₁ h₁ => ?_
  obtain ⟨rfl, rfl⟩ := h₁
  have hS : (s.heap.push { cls := .type "list", data := .seq #[] }).get? s.heap.objs.size = some { cls := .type "list", data := .seq #[] } := Heap.get?_push_size _ rfl
  refine ⟨⟨_, hS, rfl⟩, F.args_list_init_2 _ _, ?_⟩
  have nS : H1 s.heap.objs.size = none := I.hok.fresh (Nat.le_refl _)
  have hSz : s.heap.objs.size ≠ z := Nat.ne_of_gt (hb0 z (by simp))
  show wpAny _ _ (do let old ← Builtin.List.listItems (.ref s.heap.objs.size); Builtin.List.listUpdate (.ref s.heap.objs.size) (fun _ => #[]); letGo old.toList.reverse; Builtin.List.listExtendWith (.ref s.heap.objs.size) (.ref z) .none) _ _ _
  refine wpAny_bind ?_
  unfold Builtin.List.listItems
  refine wpAny_bind (wpAny_seqItems hS rfl (wpAny_pure ?_))
  show wpAny _ _ (updateSeq s.heap.objs.size (fun _ => #[]) >>= fun _ => letGo (#[] : Array Value).toList.reverse >>= fun _ => Builtin.List.listExtendWith (.ref s.heap.objs.size) (.ref z) .none) _ _ _
  refine wpAny_bind (wpAny_updateSeq hS rfl ?_)
  have hS₂ := Heap.get?_update_self (Obj.mapSeq (fun _ => (#[] : Array Value))) hS rfl
  refine wpAny_bind (wpAny_letGo ?_)
  have k2 : ∀ b o, s.heap.get? b = some o → ((s.heap.push { cls := .type "list", data := .seq #[] }).update s.heap.objs.size (Obj.mapSeq (fun _ => (#[] : Array Value)))).get? b = some o := fun b o e =>
    (Heap.get?_update_other _ _ (Nat.ne_of_gt (Heap.lt_size e))).trans (Heap.get?_push_of_some _ e)
  generalize hg : (s.heap.push { cls := .type "list", data := .seq #[] }).update s.heap.objs.size (Obj.mapSeq (fun _ => (#[] : Array Value))) = h2 at hS₂ k2
  unfold Builtin.List.listExtendWith
  have tz : Shared.TypeIs { s with heap := h2 } (.ref z) "zip" := ⟨_, k2 _ _ ez, kz⟩
  refine wpAny_bind (wpAny_typeOf tz ?_)
  have h1 : Builtin.List.listSameRef (.ref s.heap.objs.size) (.ref z) = false := by simp [Builtin.List.listSameRef, hSz]
  have h2' : (Value.type "zip" == Value.type "list") = false := by decide
  have h3' : (Value.type "zip" == Value.type "tuple") = false := by decide
  simp only [h1, h2', h3', Bool.or_false, Bool.false_eq_true, if_false]
  refine wpAny_bind (wpAny_pyIter_zip (k2 _ _ hz0) ?_)
  refine wpAny_bind (wpAny_holding ?_)
  unfold Builtin.List.listLengthHint
  refine wpAny_bind (wpAny_specialOf tz nolen_zip ?_)
  show wpAny _ _ (specialOf (Value.ref z) (Str.ofString "__length_hint__") >>= _) _ _ _
  refine wpAny_bind (wpAny_specialOf tz nohint_zip ?_)
  refine wpAny_pure ?_
  show wpAny _ _ (rule "list.extend.makes-room" >>= fun _ => Builtin.List.listTouch (.ref s.heap.objs.size) >>= fun _ => again (.builtin "list.extend.loop" ⟨[.ref s.heap.objs.size, .ref z, .none], []⟩)) _ _ _
  refine wpAny_bind (wpAny_rule ?_)
  refine wpAny_bind ?_
  show wpAny _ _ (updateSeq s.heap.objs.size (·.push .none) >>= fun _ => updateSeq s.heap.objs.size (·.pop)) _ _ _
  refine wpAny_bind (wpAny_updateSeq hS₂ rfl ?_)
  have hS₃ := Heap.get?_update_self (Obj.mapSeq (·.push Value.none)) hS₂ rfl
  refine wpAny_updateSeq hS₃ rfl ?_
  have hS₄ := Heap.get?_update_self (Obj.mapSeq (·.pop)) hS₃ rfl
  have k4 : ∀ b o, s.heap.get? b = some o → ((h2.update s.heap.objs.size (Obj.mapSeq (·.push Value.none))).update s.heap.objs.size (Obj.mapSeq (·.pop))).get? b = some o := fun b o e =>
    (Heap.get?_update_other _ _ (Nat.ne_of_gt (Heap.lt_size e))).trans ((Heap.get?_update_other _ _ (Nat.ne_of_gt (Heap.lt_size e))).trans (k2 b o e))
  have sz4 : ((h2.update s.heap.objs.size (Obj.mapSeq (·.push Value.none))).update s.heap.objs.size (Obj.mapSeq (·.pop))).objs.size = s.heap.objs.size + 1 := by
    rw [Heap.size_update, Heap.size_update, ← hg, Heap.size_update, Heap.size_push]
  have I4 : Inv X pins σ (upd H1 s.heap.objs.size (.lst [])) { s with heap := (h2.update s.heap.objs.size (Obj.mapSeq (·.push Value.none))).update s.heap.objs.size (Obj.mapSeq (·.pop)) } :=
    I.laid (t' := s.toks) k4 (Nat.le_refl _) ⟨Nat.zero_le _, [], _, .nil, hS₄⟩
  have nz : ∀ b ∈ [z, TI, TO, i1, i2], b ≠ s.heap.objs.size := fun b hb => Nat.ne_of_lt (hb0 b hb)
  obtain ⟨a1, a2, hTO⟩ := hTO
  refine wpAny_pure ⟨plainId_quiet F.plain_extend_loop _, ext_zip (A := X.A.in1) (H1 := H1) .none hh D hTa hTd q1 q2 hn _ 0 _ _ [] rfl (Nat.zero_le _) I4 (fun b hb => FpOk.re (hf b hb) (by rw [upd_ne (nz b hb)]; exact (hf b hb).1)) (fun b hb => ?_) ⟨.inl ⟨k4 _ _ hz0, a1, a2, k4 _ _ hTO⟩, k4 _ _ st.ti, st.s1.at fun o e => k4 _ o e, st.s2.at fun o e => k4 _ o e⟩ (same_upd nS) nS upd_same rfl ((hw _ nS).mono fun H' q s' I' => ⟨rfl, .ref s.heap.objs.size, H', I', rfl, q⟩)⟩
  show b < Array.size _
  rw [sz4]
  exact Nat.lt_succ_of_lt (hb0 b hb)
theorem bindAssoc' {α β γ : Type} (r : Res α) (f : α → Res β) (g : β → Res γ) : ((r >>= f) >>= g) = (r >>= fun x => f x >>= g) := by cases r <;> rfl
/-- zip(e, e2) as a value -/
structure ZipAt (X : Cx) (pins : List (Addr × Obj)) (b c : Bool) (a d z TI TO i1 i2 : Addr) (H1 : Hp) (s : Shared) : Prop where
  ne : ZpNe z TI TO i1 i2
  ta : TO ≠ a
  td : TO ≠ d
  st : ZgSt b c a d z TI TO i1 i2 H1 0 s.heap
  fp : ∀ x ∈ [z, TI, TO, i1, i2], FpOk X pins H1 x
  lt : ∀ x ∈ [z, TI, TO, i1, i2], x < s.heap.objs.size
  z0 : IsZip s.heap z TI TO .none
  to : ∃ a1 a2, IsTupOf2 s.heap TO a1 a2
theorem ev_zip {W : WX} {e e2 : Expr} {p pos : Pos} {fa fb : Ev → Res PyData} (hg : Gl X "zip") (hm : X.mg "zip" = none) (ha : PE X e (tD X.K W fa)) (hb : PE X e2 (tD X.K W fb)) (hs : starEach [e, e2] X.env = (false, eval e X.env) :: starEach [e2] X.env)
    (hs2 : starEach [e2] X.env = (false, eval e2 X.env) :: starEach [] X.env) {s : Shared} {H R0 : Hp} {env : Ev} {f : List PyData → Res PyData} {Q : VK} (I : Inv X pins σ H s) (rel : Rel X.K R0 H σ env) (hw : WantG X.K W σ (denV X.K) R0 H ((fa env >>= fun x => fb env >>= fun y => someR ((seqOf x).bind fun xs => (seqOf y).map fun ys => zipL xs ys)) >>= f) Q) :
    wpAny (model X.prog X.w) X.A (eval (.Call (.Name "zip" p) [e, e2] [] pos) X.env) (fun v s' => ∃ b c a d z TI TO i1 i2 xs ys ds es R1 H1, v = .ref z ∧ Inv X pins σ H1 s' ∧ ZipAt X pins b c a d z TI TO i1 i2 H1 s' ∧ SqB b X.K R1 a xs ∧ SqB c X.K R1 d ys ∧ DnA X.K R1 xs ds ∧ DnA X.K R1 ys es ∧ Same R1 H1 ∧ WantG X.K W σ (denV X.K) R1 H1 (f (zipL ds es)) Q) X.xe s := by
  have go : tCons (tD X.K W fa) (tCons (tD X.K W fb) tNil) σ H (fun vs H1 => ∃ b c a d xs ys ds es R1, vs = [.ref a, .ref d] ∧ SqB b X.K R1 a xs ∧ SqB c X.K R1 d ys ∧ DnA X.K R1 xs ds ∧ DnA X.K R1 ys es ∧ Same R1 H1 ∧ WantG X.K W σ (denV X.K) R1 H1 (f (zipL ds es)) Q) := by
    simp only [bindAssoc'] at hw
    refine ⟨R0, env, rel, hw.split fun dx x H1 R1 e1 d1 h1 => ⟨R1, env, rel.ext e1, h1.split fun dy y H2 R2 e2 d2 h2 => ?_⟩⟩
    cases q : seqOf dx with
    | none => rw [q] at h2; exact False.elim h2
    | some ds =>
      rw [q] at h2
      cases q2 : seqOf dy with
      | none => rw [q2] at h2; exact False.elim h2
      | some es =>
        rw [q2] at h2
        obtain ⟨b, a, xs, rfl, hs, ha⟩ := seq_of (Dn.mono e2.r _ _ d1) q
        obtain ⟨c, d, ys, rfl, hs2, ha2⟩ := seq_of d2 q2
        exact ⟨b, c, a, d, xs, ys, ds, es, R2, rfl, hs, hs2, ha, ha2, e2.sub, h2⟩
  refine Call_ (ld_blt I hg hm PyProof.Rows.boot_zip (PyProof.Rows.callWith_type1 (thn ((pa_cons ha (pa_cons hb pa_nil hs2) hs).run pos pins s σ H _ I go) fun us s1 ⟨vs, H1, I1, r1, q1⟩ => ?_) hs (by rw [hs2]; rfl)))
  obtain ⟨b, c, a, d, xs, ys, ds, es, R1, ex, hq1, hq2, d1, d2, sm, q⟩ := q1
  subst ex
  cases r1 with
  | cons r rr =>
    cases rr with
    | cons r' rr =>
      cases rr
      cases r
      cases r'
      obtain ⟨its, rv, p1⟩ := SqB.sq I1 (hq1.mono sm)
      obtain ⟨its2, rv2, p2⟩ := SqB.sq I1 (hq2.mono sm)
      have la : a < s1.heap.objs.size := by obtain ⟨o, _, e, _⟩ := p1.obj; exact Heap.lt_size e
      have ld : d < s1.heap.objs.size := by obtain ⟨o, _, e, _⟩ := p2.obj; exact Heap.lt_size e
      refine zip_begins2 (begins_sq b a its.toArray) (begins_sq c d its2.toArray) p1 p2 fun h' hz hTI hTO h1 h2 hsz hk => ?_
      have I2 : Inv X pins σ H1 { s1 with heap := h' } := I1.kept (t' := s1.toks) hk
      have sep : ∀ n : Nat, ZpNe (n + 4) (n + 2) (n + 3) n (n + 1) := fun n => ⟨(by show (n + 2 : Nat) ≠ n + 4; omega), (by show (n + 3 : Nat) ≠ n + 4; omega), (by show (n + 2 : Nat) ≠ n + 3; omega), (by show (n + 2 : Nat) ≠ n; omega), (by show (n + 2 : Nat) ≠ n + 1; omega), (by show (n + 4 : Nat) ≠ n; omega), (by show (n + 4 : Nat) ≠ n + 1; omega), (by show (n + 3 : Nat) ≠ n; omega), (by show (n + 3 : Nat) ≠ n + 1; omega), (by show (n : Nat) ≠ n + 1; omega)⟩
      have five : ∀ x ∈ [s1.heap.objs.size + 4, s1.heap.objs.size + 2, s1.heap.objs.size + 3, s1.heap.objs.size, s1.heap.objs.size + 1], s1.heap.objs.size ≤ x ∧ x < s1.heap.objs.size + 5 := by
        intro x hx
        have e' : x = s1.heap.objs.size + 4 ∨ x = s1.heap.objs.size + 2 ∨ x = s1.heap.objs.size + 3 ∨ x = s1.heap.objs.size ∨ x = s1.heap.objs.size + 1 := by simpa using hx
        rcases e' with z | z | z | z | z <;> rw [z]
        · exact ⟨Nat.le_add_right _ _, Nat.add_lt_add_left (by decide) _⟩
        · exact ⟨Nat.le_add_right _ _, Nat.add_lt_add_left (by decide) _⟩
        · exact ⟨Nat.le_add_right _ _, Nat.add_lt_add_left (by decide) _⟩
        · exact ⟨Nat.le_refl _, Nat.lt_add_of_pos_right (by decide)⟩
        · exact ⟨Nat.le_add_right _ _, Nat.add_lt_add_left (by decide) _⟩
      refine ⟨b, c, a, d, _, _, _, _, _, xs, ys, ds, es, R1, H1, rfl, I2, ⟨sep s1.heap.objs.size, Nat.ne_of_gt (Nat.lt_of_lt_of_le la (Nat.le_add_right _ _)), Nat.ne_of_gt (Nat.lt_of_lt_of_le ld (Nat.le_add_right _ _)), ⟨.inl ⟨hz, _, _, hTO⟩, hTI, ?_, ?_⟩, fun x hx => I1.fpOk (five x hx).1 (I1.hok.fresh (five x hx).1), fun x hx => ?_, hz, _, _, hTO⟩, hq1, hq2, d1, d2, sm, q⟩
      · cases b with
        | true => exact ⟨_, h1, rfl, rfl⟩
        | false => exact ⟨_, h1, rfl, rfl⟩
      · cases c with
        | true => exact ⟨_, h2, rfl, rfl⟩
        | false => exact ⟨_, h2, rfl, rfl⟩
      · show x < h'.objs.size
        rw [hsz]
        exact (five x hx).2
theorem join0 {R1 H1 R2 H : Hp} {D : Addr} {acc : List V} (hD : H1 D = none) (e2 : Ext R1 H1 R2 H) (r2 : R2 D = none) (hDl : H D = some (.lst acc)) : Ext R1 H1 (upd R2 D (.lst acc)) H := by
  refine ⟨e2.r.trans (same_upd r2), fun b o e => ?_, e2.h, fun b o e => ?_⟩
  · by_cases hb : b = D
    · subst hb; rw [upd_same] at e; cases e; exact hDl
    · rw [upd_ne hb] at e; exact e2.sub b o e
  · by_cases hb : b = D
    · subst hb; exact .inr hD
    · rw [upd_ne hb] at e; exact e2.new b o e
theorem WantG.fresh0 {K : PySem.W.Frag} {W : WX} {R H : Hp} {ds : List PyData} {Q : VK} (h : WantG K W σ (denV K) R H (.ok (.list ds)) Q) : ∀ (p : Addr) (vs : List V) (H' R' : Hp), Ext R H R' H' → H p = none → R' p = none → H' p = some (.lst vs) → DnA K R' vs ds → Q (.ref p) H' :=
  fun p vs H' R' e n r hp dn => h _ H' (upd R' p (.lst vs)) (join0 n e r hp) (.lst (.inl upd_same) (DnA.mono (same_upd r) _ _ dn))
/-- the wish of a list of pairs -/
theorem wantZ_of {K : PySem.W.Frag} {R H : Hp} {xs ys : List V} {ds es : List PyData} {Q : VK} {S : Addr} (d1 : DnA K R xs ds) (d2 : DnA K R ys es) (hF : ∀ (vs : List V) (H' R' : Hp), Ext R H R' H' → R' S = none → H' S = some (.lst vs) → DnA K R' vs (zipL ds es) → Q (.ref S) H') (nS : H S = none) :
    ∀ (k i : Nat) (H2 R2 : Hp) (vs : List V), min xs.length ys.length - i = k → i ≤ min xs.length ys.length → Ext R H R2 H2 → R2 S = none → H2 S = some (.lst vs) → DnA K R2 vs ((zipL ds es).take i) → WantZ xs ys S k i H2 vs (fun H' => Q (.ref S) H') := by
  intro k
  have hz : (zipL ds es).length = min xs.length ys.length := by rw [zipL_length, d1.length, d2.length]
  induction k with
  | zero =>
    intro i H2 R2 vs hk hi ex nr hS dn
    have e : i = (zipL ds es).length := by omega
    rw [e, List.take_length] at dn
    exact hF vs H2 R2 ex nr hS dn
  | succ k ih =>
    intro i H2 R2 vs hk hi ex nr hS dn x y hx hy T o0 ho0 hT
    have hST : S ≠ T := fun e => by rw [e, hT] at hS; cases hS
    have rT : R2 T = none := ex.sub.free hT
    obtain ⟨l1, e1⟩ := List.getElem?_eq_some_iff.mp hx
    obtain ⟨l2, e2⟩ := List.getElem?_eq_some_iff.mp hy
    have i1 : i < ds.length := by rw [← d1.length]; exact l1
    have i2 : i < es.length := by rw [← d2.length]; exact l2
    obtain ⟨x', hx', dx⟩ := d1.get (List.getElem?_eq_getElem i1)
    obtain ⟨y', hy', dy⟩ := d2.get (List.getElem?_eq_getElem i2)
    rw [hx] at hx'; cases hx'
    rw [hy] at hy'; cases hy'
    have s2 : Same R2 (upd R2 T (.frz o0 (.tup [x, y]))) := same_upd rT
    have sR : Same R (upd R2 T (.frz o0 (.tup [x, y]))) := ex.r.trans s2
    have sub : Same (upd R2 T (.frz o0 (.tup [x, y]))) (upd (upd H2 T (.frz o0 (.tup [x, y]))) S (.lst (vs ++ [.ref T]))) := fun b o e => by
      by_cases hb : b = T
      · subst hb
        rw [upd_same] at e
        rw [upd_ne (Ne.symm hST), upd_same]; exact e
      · rw [upd_ne hb] at e
        have hbS : b ≠ S := fun q => by rw [q, nr] at e; cases e
        rw [upd_ne hbS, upd_ne hb]
        exact ex.sub b o e
    have hh : Same H (upd (upd H2 T (.frz o0 (.tup [x, y]))) S (.lst (vs ++ [.ref T]))) := fun b o e => by
      have hbS : b ≠ S := fun q => by rw [q, nS] at e; cases e
      have hbT : b ≠ T := fun q => by have := ex.h b o e; rw [q, hT] at this; cases this
      rw [upd_ne hbS, upd_ne hbT]
      exact ex.h b o e
    refine ih (i + 1) _ (upd R2 T (.frz o0 (.tup [x, y]))) _ (by omega) (by omega) ?_ ?_ upd_same ?_
    · refine ⟨sR, sub, hh, fun b o e => ?_⟩
      by_cases hb : b = T
      · rw [hb]; exact .inr (ex.h.free hT)
      · rw [upd_ne hb] at e
        exact ex.new b o e
    · rw [upd_ne hST]; exact nr
    · rw [List.take_add_one, zipL_get ds es i _ _ (List.getElem?_eq_getElem i1) (List.getElem?_eq_getElem i2)]
      exact (DnA.mono s2 _ _ dn).append (.cons (.tup (.inl ⟨o0, ho0, upd_same⟩) (.cons (Dn.mono sR _ _ dx) (.cons (Dn.mono sR _ _ dy) .nil))) .nil)
theorem zipL_fit {ds es : List PyData} {Q : VK} {K : PySem.W.Frag} {W : WX} {R H : Hp} (h : WantG K W σ (denV K) R H (guardR (fitsL (zipL ds es).length) (.list (zipL ds es))) Q) : (zipL ds es).length ≤ sizeLine ∧ WantG K W σ (denV K) R H (.ok (.list (zipL ds es))) Q := by
  obtain ⟨g, h⟩ := h.guard
  exact ⟨of_decide_eq_true g, h⟩
theorem de_listZip {W : WX} {e e2 : Expr} {p p2 pos pos2 : Pos} {fa fb : Ev → Res PyData} (hc : X.calm = true) (hgl : Gl X "list") (hml : X.mg "list" = none) (hg : Gl X "zip") (hm : X.mg "zip" = none) (ha : PE X e (tD X.K W fa)) (hb : PE X e2 (tD X.K W fb)) (hs : starEach [e, e2] X.env = (false, eval e X.env) :: starEach [e2] X.env)
    (hs2 : starEach [e2] X.env = (false, eval e2 X.env) :: starEach [] X.env) :
    PE X (.Call (.Name "list" p) [.Call (.Name "zip" p2) [e, e2] [] pos2] [] pos) (tD X.K W fun env => (fa env >>= fun x => fb env >>= fun y => someR ((seqOf x).bind fun xs => (seqOf y).map fun ys => zipL xs ys)) >>= fun ds => guardR (fitsL ds.length) (.list ds)) := by
  refine ⟨fun pins s σ H Q I h => ?_⟩
  obtain ⟨R0, env, rel, hw⟩ := h
  refine Call_ (ld_blt I hgl hml boot_list (PyProof.Rows.callWith_type1 (args_cons (thn (ev_zip (f := fun ds => guardR (fitsL ds.length) (.list ds)) hg hm ha hb hs hs2 I rel hw) fun v s1 ⟨b, c, a, d, z, TI, TO, i1, i2, xs, ys, ds, es, R1, H1, ev, I1, za, q1, q2, d1, d2, sm, q⟩ => args_nil ?_) rfl) rfl))
  subst ev
  obtain ⟨fit, q⟩ := zipL_fit q
  refine call_list_zip (I1.ok.hd hc) za.ne za.ta za.td (q1.mono sm) (q2.mono sm) (by rw [zipL_length, ← d1.length, ← d2.length] at fit; exact fit) I1 za.fp za.lt za.st za.z0 za.to fun S nS => ?_
  have hF := q.fresh0
  refine wantZ_of (R := R1) (H := H1) d1 d2 (fun vs H' R' ex nr hS dn => hF S vs H' R' ex nS nr hS dn) nS _ 0 _ R1 [] rfl (Nat.zero_le _) (Ext.beside sm (same_upd nS)) (sm.free nS) upd_same ?_
  exact .nil
end
end Z
end
section
/-! Z5c: list(enumerate(..)). -/
namespace Z
open PySem PySem.Spec PyProof.Rows L2
section
variable {prog : Program} {w : World} {A : Around} {E : Value → Shared → Prop} {s : Shared} {z i1 T : Addr} {fp : List Addr} {n i : Nat} {c : Int} {P : Nat → Value → Prop} {St : Nat → Heap → Prop} {old : Value} {f : Bool} {oT : Obj}
theorem enumK_next_item {Q : Value → Shared → Prop} (D : Draws prog w A i1 fp n P St) (hz : IsEnumHeld s.heap z i1 c old T f) (hT : s.heap.get? T = some oT) (hTz : T ≠ z) (hTi : T ≠ i1) (st : St i s.heap) (hlt : i < n) (hne : z ≠ i1) (hzf : z ∉ fp)
    (hQ : ∀ x h' tk, P i x → IsEnumHeld h' z i1 (c + 1) old T true → St (i + 1) h' → h'.get? s.heap.objs.size = some { cls := .type "tuple", data := .seq #[.int c tk, x] } → h'.objs.size = s.heap.objs.size + 1 →
      (∀ b o, b ≠ z → b ≠ i1 → s.heap.get? b = some o → h'.get? b = some o) → Q (.ref s.heap.objs.size) { s with heap := h', toks := tk + 1 }) :
    wpAny (model prog w) A (Builtin.«enumerate.__next__» ⟨[.ref z], []⟩) (fun fin s' => ∃ v, fin = .done (.ret v) ∧ Q v s') E s := by
  obtain ⟨hp, gl, dd, k0, os⟩ := s
  show wpAny _ _ (field (.ref z) 2 >>= _) _ _ _
  refine wpAny_bind (wpAny_field hz rfl (x := .ref i1) rfl ?_)
  refine wpAny_bind (D.item i _ _ _ hlt st fun x u1 k1 hPx sn1 s1 => ?_)
  replace s1 : Heap.SameBut i1 hp u1 := s1
  have z1 : IsEnumHeld u1 z i1 c old T f := (s1.2 z hne).trans hz
  show wpAny _ _ (field (.ref z) 3 >>= _) _ _ ⟨u1, gl, dd, k1, os⟩
  refine wpAny_bind (wpAny_field z1 rfl (x := rawInt c) rfl ?_)
  show wpAny _ _ (field (.ref z) 4 >>= _) _ _ ⟨u1, gl, dd, k1, os⟩
  refine wpAny_bind (wpAny_field z1 rfl (x := .none) rfl ?_)
  show wpAny _ _ (mkInt c >>= _) _ _ ⟨u1, gl, dd, k1, os⟩
  refine wpAny_bind (wpAny_mkInt ?_)
  show wpAny _ _ (setField (.ref z) 3 (rawInt (c + 1)) >>= _) _ _ ⟨u1, gl, dd, k1 + 1, os⟩
  refine wpAny_bind (wpAny_setField_rec z1 (by simp) fun u2 z2 s2 => ?_)
  replace s2 : Heap.SameBut z u1 u2 := s2
  replace z2 : IsEnumHeld u2 z i1 (c + 1) old T f := z2
  show wpAny _ _ (setField (.ref z) 4 .none >>= _) _ _ ⟨u2, gl, dd, k1 + 1, os⟩
  refine wpAny_bind (wpAny_setField_rec z2 (by simp) fun u3 z3 s3 => ?_)
  replace s3 : Heap.SameBut z u2 u3 := s3
  replace z3 : IsEnumHeld u3 z i1 (c + 1) old T f := z3
  show wpAny _ _ (newTuple [.int c k1, x] >>= _) _ _ ⟨u3, gl, dd, k1 + 1, os⟩
  refine wpAny_bind (wpAny_newTuple ?_)
  have z4 : IsEnumHeld (u3.push { cls := .type "tuple", data := .seq #[.int c k1, x] }) z i1 (c + 1) old T f := Heap.get?_push_of_some _ z3
  generalize hu4 : u3.push { cls := .type "tuple", data := .seq #[.int c k1, x] } = u4 at z4
  have hsz : u3.objs.size = hp.objs.size := by rw [s3.1, s2.1, s1.1]
  have hzl : z < hp.objs.size := Heap.lt_size hz
  have t4 : u4.get? hp.objs.size = some { cls := .type "tuple", data := .seq #[.int c k1, x] } := by rw [← hu4, ← hsz]; exact Heap.get?_push_size _ rfl
  have l4 : u4.objs.size = hp.objs.size + 1 := by rw [← hu4, Heap.size_push, hsz]
  have kk : ∀ b o, b ≠ z → b ≠ i1 → hp.get? b = some o → u4.get? b = some o := fun b o bz bi hb => by
    rw [← hu4]; exact Heap.get?_push_of_some _ (s3.extBut b o bz (s2.extBut b o bz (s1.extBut b o bi hb)))
  have sn4 : St (i + 1) u4 := D.frame _ _ _ sn1 fun b hb o y => by
    have bz : b ≠ z := fun q => hzf (q ▸ hb)
    rw [← hu4]; exact Heap.get?_push_of_some _ (s3.extBut b o bz (s2.extBut b o bz y))
  show wpAny _ _ (Builtin.SmallTypes.ownedTupleIsFree (.ref z) >>= _) _ _ ⟨u4, gl, dd, k1 + 1, os⟩
  rw [hsz]
  refine wpAny_bind (wpAny_tupleHeld_enum (s := ⟨u4, gl, dd, k1 + 1, os⟩) z4 (kk T oT hTz hTi hT) fun u5 z5 s5 => ?_)
  replace s5 : Heap.SameBut z u4 u5 := s5
  simp only [Bool.false_eq_true, if_false]
  refine wpAny_pure ⟨_, rfl, hQ x u5 k1 hPx z5 (D.frame _ _ _ sn4 fun b hb o y => s5.extBut b o (fun q => hzf (q ▸ hb)) y) (s5.extBut _ _ (Nat.ne_of_gt hzl) t4) ?_ fun b o bz bi hb => s5.extBut b o bz (kk b o bz bi hb)⟩
  show u5.objs.size = hp.objs.size + 1
  rw [s5.1, l4]
theorem pyNext_enumK_item {Q : Option Value → Shared → Prop} (D : Draws prog w A.in1 i1 fp n P St) (hz : IsEnumHeld s.heap z i1 c old T f) (hT : s.heap.get? T = some oT) (hTz : T ≠ z) (hTi : T ≠ i1) (st : St i s.heap) (hlt : i < n) (hne : z ≠ i1) (hzf : z ∉ fp)
    (hQ : ∀ x h' tk, P i x → IsEnumHeld h' z i1 (c + 1) old T true → St (i + 1) h' → h'.get? s.heap.objs.size = some { cls := .type "tuple", data := .seq #[.int c tk, x] } → h'.objs.size = s.heap.objs.size + 1 →
      (∀ b o, b ≠ z → b ≠ i1 → s.heap.get? b = some o → h'.get? b = some o) → Q (some (.ref s.heap.objs.size)) { s with heap := h', toks := tk + 1 }) :
    wpAny (model prog w) A (pyNext (.ref z)) Q E s := by
  have hy : s.TypeIs (.ref z) "enumerate" := ⟨_, hz, rfl⟩
  unfold pyNext
  exact wpAny_bind (wpAny_attempt (wpAny_callSpecial?_slot (name := Str.ofString "__next__") hy F.slot_enumerate_next
    (wpAny_call_entry F.slot_enumerate_next hy F.entry_enumerate_next
      (enumK_next_item D hz hT hTz hTi st hlt hne hzf fun x h' tk a b c d k q => wpAny_pure (hQ x h' tk a b c d k q)) (F.args_enumerate_next_1 _))))
theorem pyNext_enumK_end {Q : Option Value → Shared → Prop} (D : Draws prog w A.in1 i1 fp n P St) (hz : IsEnumHeld s.heap z i1 c old T f) (st : St n s.heap)
    (hQ : ∀ h', Heap.ExtBut i1 s.heap h' → Q none { s with heap := h' }) : wpAny (model prog w) A (pyNext (.ref z)) Q E s := by
  have hy : s.TypeIs (.ref z) "enumerate" := ⟨_, hz, rfl⟩
  unfold pyNext
  refine wpAny_bind (wpAny_attempt (wpAny_callSpecial?_slot (name := Str.ofString "__next__") hy F.slot_enumerate_next
    (wpAny_call_entry F.slot_enumerate_next hy F.entry_enumerate_next ?_ (F.args_enumerate_next_1 _))))
  show wpAny _ _ (field (.ref z) 2 >>= _) _ _ _
  refine wpAny_bind (wpAny_field hz rfl (x := .ref i1) rfl ?_)
  refine wpAny_bind (D.done _ _ _ st fun h' x k' hx => ?_)
  obtain ⟨o, ho, hc⟩ := hx
  refine wpAny_bind (wpAny_isInstance (T := "StopIteration") (b := true) ⟨o, ho, hc⟩ isSubtype_stop ?_)
  exact wpAny_pure (hQ _ k')
end
section
variable {prog : Program} {w : World} {A : Around} {E : Value → Shared → Prop} {s : Shared} {z i1 : Addr} {fp : List Addr} {n i : Nat} {c : Int} {P : Nat → Value → Prop} {St : Nat → Heap → Prop}
theorem nextE_item {Q : Option Value → Shared → Prop} (D : Draws prog w A.in1 i1 fp n P St) (hz : (∃ old, IsEnum s.heap z i1 c old) ∨ ∃ old T f oT, IsEnumHeld s.heap z i1 c old T f ∧ s.heap.get? T = some oT ∧ T ≠ z ∧ T ≠ i1) (st : St i s.heap) (hlt : i < n) (hne : z ≠ i1) (hzf : z ∉ fp)
    (hQ : ∀ x h' tk, P i x → (∃ old T f, IsEnumHeld h' z i1 (c + 1) old T f ∧ (T = s.heap.objs.size ∨ ∃ old0 f0, IsEnumHeld s.heap z i1 c old0 T f0)) → St (i + 1) h' → h'.get? s.heap.objs.size = some { cls := .type "tuple", data := .seq #[.int c tk, x] } → h'.objs.size = s.heap.objs.size + 1 →
      (∀ b o, b ≠ z → b ≠ i1 → s.heap.get? b = some o → h'.get? b = some o) → Q (some (.ref s.heap.objs.size)) { s with heap := h', toks := tk + 1 }) :
    wpAny (model prog w) A (pyNext (.ref z)) Q E s := by
  rcases hz with ⟨old, he⟩ | ⟨old, T, f, oT, he, hT, hTz, hTi⟩
  · exact wpAny_pyNext_enum_itemC D he st hlt hne hzf fun x h' tk a1 a2 a3 a4 a5 a6 => hQ x h' tk a1 ⟨_, _, false, a2, .inl rfl⟩ a3 a4 a5 a6
  · exact pyNext_enumK_item D he hT hTz hTi st hlt hne hzf fun x h' tk a1 a2 a3 a4 a5 a6 => hQ x h' tk a1 ⟨_, _, true, a2, .inr ⟨_, _, he⟩⟩ a3 a4 a5 a6
end
theorem nolen_enum : typeLookup (.type "enumerate") "__len__" = pure none := by rw [typeLookup_type, builtinLookup_eq_fast]; kernel_rfl
theorem nohint_enum : typeLookup (.type "enumerate") "__length_hint__" = pure none := by rw [typeLookup_type, builtinLookup_eq_fast]; kernel_rfl
/-- what the list of pairs is wished to be -/
def WantN (xs : List V) (S : Addr) : Nat → Nat → Hp → List V → (Hp → Prop) → Prop
  | 0, _, H, _, Q => Q H
  | k + 1, i, H, vs, Q => ∀ x, xs[i]? = some x → ∀ (T : Addr) (o : Obj), o.dict = none → H T = none → WantN xs S k (i + 1) (upd (upd H T (.frz o (.tup [.int (i : Nat), x]))) S (.lst (vs ++ [.ref T]))) (vs ++ [.ref T]) Q
theorem WantN.mono {xs : List V} {S : Addr} {Q Q' : Hp → Prop} (h : ∀ H, Q H → Q' H) : ∀ {k i : Nat} {H : Hp} {vs : List V}, WantN xs S k i H vs Q → WantN xs S k i H vs Q'
  | 0, _, _, _, w => h _ w
  | _ + 1, _, _, _, w => fun x hx T o ho hT => WantN.mono h (w x hx T o ho hT)
section
variable {X : Cx} {pins : List (Addr × Obj)} {σ : L2.St}
/-- where the enumerate stands -/
structure EgSt (b : Bool) (a z i1 : Addr) (H : Hp) (i : Nat) (h : Heap) : Prop where
  en : (∃ old, IsEnum h z i1 (i : Nat) old) ∨ ∃ old T f u, IsEnumHeld h z i1 (i : Nat) old T f ∧ (∃ o, H T = some (.frz o (.tup u))) ∧ T ≠ z ∧ T ≠ i1
  it : IsSqIt b h i1 a i
  ne : z ≠ i1
theorem ext_enum {b : Bool} {a z i1 S : Addr} {xs : List V} {H1 : Hp} {A : Around} {R : Result → Shared → Prop} (res : Value) (hh : A.handled = none) (q1 : SqB b X.K H1 a xs) (hn : xs.length ≤ sizeLine) :
    ∀ (k i : Nat) (s : Shared) (H : Hp) (vs : List V), xs.length - i = k → i ≤ xs.length → Inv X pins σ H s → (∀ x ∈ [z, i1], FpOk X pins H x) → (∀ x ∈ [z, i1], x < s.heap.objs.size) → EgSt b a z i1 H i s.heap → Same H1 H → H1 S = none → H S = some (.lst vs) → vs.length = i →
      WantN xs S k i H vs (fun H' => ∀ s', Inv X pins σ H' s' → R (.ok (.ret res)) s') → codeAny (model X.prog X.w) A (.builtin "list.extend.loop" ⟨[.ref S, .ref z, res], []⟩) R s := by
  intro k
  induction k with
  | zero =>
    intro i s H vs hk hi I hf hb0 st sm nS hS hl hw
    have hw : ∀ s', Inv X pins σ H s' → R (.ok (.ret res)) s' := hw
    have hin : i = xs.length := by omega
    obtain ⟨its, rv, p⟩ := SqB.sq I (q1.mono sm)
    obtain ⟨o1, c1, _, e1, k1, r1, _⟩ := st.it.obj
    have w1 : c1 ≠ "list" ∧ c1 ≠ "tuple" := by rcases r1 with z | z <;> rw [z] <;> decide
    have n1 : i1 ≠ a := sq_apart p e1 k1 w1.1 w1.2
    have D1 := draws_sq (prog := X.prog) (w := X.w) (A := A.in1.in1) b hh i1 a (Ne.symm n1) its.toArray
    have l1 : its.toArray.size = xs.length := by rw [List.size_toArray, rv.length]
    refine codeAny_builtin F.entry_extend_loop ?_
    rw [Around.under_plainId F.plain_extend_loop _]
    show wpAny _ A.in1 (pyNext (.ref z) >>= _) _ _ s
    have fin : ∀ h', Heap.ExtBut i1 s.heap h' → R (.ok (.ret res)) { s with heap := h' } := fun h' hk' => hw _ (I.turnedL (t' := s.toks) (ch := [z, i1]) (fun x o hx q => hk' x o (fun e => hx (by simp [e])) q) hf)
    have sN : IsSqIt b s.heap i1 a its.toArray.size ∧ IsSq b s.heap a its.toArray := ⟨by rw [l1, ← hin]; exact st.it, p⟩
    rcases st.en with ⟨old, he⟩ | ⟨old, T, f, u, he, _⟩
    · exact wpAny_bind (wpAny_pyNext_enum_endD D1 he sN fun h' hk' => wpAny_pure (fin h' hk'))
    · exact wpAny_bind (pyNext_enumK_end D1 he sN fun h' hk' => wpAny_pure (fin h' hk'))
  | succ k ih =>
    intro i s H vs hk hi I hf hb0 st sm nS hS hl hw
    have hlt : i < xs.length := by omega
    obtain ⟨its, rv, p⟩ := SqB.sq I (q1.mono sm)
    obtain ⟨o1, c1, _, e1, k1, r1, _⟩ := st.it.obj
    have w1 : c1 ≠ "list" ∧ c1 ≠ "tuple" := by rcases r1 with z | z <;> rw [z] <;> decide
    have n1 : i1 ≠ a := sq_apart p e1 k1 w1.1 w1.2
    obtain ⟨oz, ez, kz⟩ : ∃ o, s.heap.get? z = some o ∧ o.cls = .type "enumerate" := by
      rcases st.en with ⟨old, h⟩ | ⟨old, T, f, u, h, _⟩
      · exact ⟨_, h, rfl⟩
      · exact ⟨_, h, rfl⟩
    have za : z ≠ a := sq_apart (c := "enumerate") p ez kz (by decide) (by decide)
    have D1 := draws_sq (prog := X.prog) (w := X.w) (A := A.in1.in1) b hh i1 a (Ne.symm n1) its.toArray
    have l1 : its.toArray.size = xs.length := by rw [List.size_toArray, rv.length]
    obtain ⟨x, hx⟩ : ∃ x, xs[i]? = some x := ⟨xs[i]'(by omega), by simp [hlt]⟩
    obtain ⟨u, hu, ru⟩ := rv.get hx
    refine codeAny_builtin F.entry_extend_loop ?_
    rw [Around.under_plainId F.plain_extend_loop _]
    show wpAny _ A.in1 (pyNext (.ref z) >>= _) _ _ s
    have en : (∃ old, IsEnum s.heap z i1 (i : Nat) old) ∨ ∃ old T f oT, IsEnumHeld s.heap z i1 (i : Nat) old T f ∧ s.heap.get? T = some oT ∧ T ≠ z ∧ T ≠ i1 := by
      rcases st.en with h | ⟨old, T, f, u, h, hu, h1, h2⟩
      · exact .inl h
      · obtain ⟨o, ho⟩ := tup_live I hu
        exact .inr ⟨old, T, f, o, h, ho, h1, h2⟩
    refine wpAny_bind (nextE_item (i := i) D1 en ⟨st.it, p⟩ (by rw [l1]; omega) st.ne (by simp [st.ne, za]) fun x' h' tk hx' hz' st1' hT' hsz' hk' => ?_)
    have hxu : x' = u := by
      have : its.toArray[i]? = some u := by simpa using hu
      rw [this] at hx'
      exact (Option.some.inj hx').symm
    subst hxu
    have kch : ∀ x o, x ∉ [z, i1] → s.heap.get? x = some o → h'.get? x = some o := fun x o hx => hk' x o (fun e => hx (by simp [e])) (fun e => hx (by simp [e]))
    have hT0 : H s.heap.objs.size = none := I.hok.fresh (Nat.le_refl _)
    have I1 : Inv X pins σ (upd H s.heap.objs.size (.frz (tupO #[.int (i : Nat) tk, x']) (.tup [.int (i : Nat), x]))) { s with heap := h', toks := tk + 1 } := I.turnedNew (ch := [z, i1]) kch hf (Nat.le_refl _) ⟨hT', by show 2 ≤ sizeLine; decide, [.int (i : Nat) tk, x'], .cons ⟨tk, rfl⟩ (.cons ru .nil), _, hT', rfl, 0, rfl⟩
    have hST : S ≠ s.heap.objs.size := fun e => by rw [e, hT0] at hS; cases hS
    have hS1 : upd H s.heap.objs.size (.frz (tupO #[.int (i : Nat) tk, x']) (.tup [.int (i : Nat), x])) S = some (.lst vs) := by rw [upd_ne hST]; exact hS
    obtain ⟨hz1, its0, m, rS, hl0, eS⟩ := I1.lstM hS1
    have nz : ∀ b ∈ [z, i1], b ≠ S := fun b hb e => by
      have := (hf b hb).1
      rw [e, hS] at this; cases this
    have hlt' : ∀ b ∈ [z, i1], b ≠ s.heap.objs.size := fun b hb => Nat.ne_of_lt (hb0 b hb)
    show wpAny _ A.in1 (updateSeq S (·.push (.ref s.heap.objs.size)) >>= _) _ _ _
    refine wpAny_bind (wpAny_updateSeq eS rfl (wpAny_pure ⟨plainId_quiet F.plain_extend_loop _, ?_⟩) (by rw [List.size_toArray]; omega) (by rw [Array.size_push, List.size_toArray]; omega))
    have I2 := I1.lset (f := (·.push (.ref s.heap.objs.size))) (its' := its0 ++ [.ref s.heap.objs.size]) (ys := vs ++ [.ref s.heap.objs.size]) (t' := tk + 1) hS1 eS (by simp) (rS.append (.cons (show RelV (.ref s.heap.objs.size) (.ref s.heap.objs.size) from rfl) .nil)) (by simp; omega)
    refine ih (i + 1) _ _ _ (by omega) (by omega) I2 (fun b hb => ?_) (fun b hb => ?_) ?_ ?_ nS upd_same (by simp [hl]) (hw x hx _ _ rfl hT0)
    · refine FpOk.re (hf b hb) ?_
      rw [upd_ne (nz b hb), upd_ne (hlt' b hb)]
      exact (hf b hb).1
    · have := hb0 b hb
      show b < (h'.update S _).objs.size
      rw [Heap.size_update, hsz']
      exact Nat.lt_succ_of_lt this
    · have up : ∀ b o, b ≠ S → h'.get? b = some o → (h'.update S (Obj.mapSeq (·.push (.ref s.heap.objs.size)))).get? b = some o := fun b o hb e => (Heap.get?_update_other _ _ (Ne.symm hb)).trans e
      obtain ⟨old, T, f, hzk, hor⟩ := hz'
      refine ⟨.inr ⟨old, T, f, ?_⟩, st1'.1.at fun o e => up _ o (nz i1 (by simp)) e, st.ne⟩
      rcases hor with rfl | ⟨old0, f0, hz0⟩
      · exact ⟨[.int (i : Nat), x], up _ _ (nz z (by simp)) hzk, ⟨_, by rw [upd_ne (Ne.symm hST)]; exact upd_same⟩, fun e => hlt' z (by simp) e.symm, fun e => hlt' i1 (by simp) e.symm⟩
      · rcases st.en with ⟨o2, h⟩ | ⟨o2, t2, f2, u', h, hu', h3, h4⟩
        · have := hz0.symm.trans h
          cases this
        · obtain ⟨o', hu'⟩ := hu'
          have ht : T = t2 := by
            have := hz0.symm.trans h
            simp only [Option.some.injEq, Obj.mk.injEq, Data.fields.injEq, rawInt] at this
            have := this.2.2.1
            simp at this
            exact Int.ofNat_inj.mp this.1
          subst ht
          refine ⟨u', up _ _ (nz z (by simp)) hzk, ⟨o', ?_⟩, h3, h4⟩
          have h1 : T ≠ S := fun e => by rw [e, hS] at hu'; cases hu'
          have h2 : T ≠ s.heap.objs.size := fun e => by rw [e, hT0] at hu'; cases hu'
          rw [upd_ne h1, upd_ne h2]
          exact hu'
    · intro b o e
      have h2 : b ≠ S := fun q => by rw [q, nS] at e; cases e
      have h3 : b ≠ s.heap.objs.size := fun q => by
        have := sm b o e
        rw [q, hT0] at this; cases this
      rw [upd_ne h2, upd_ne h3]
      exact sm b o e
/-- list(an enumerate) -/
theorem call_list_en {b : Bool} {a z i1 : Addr} {xs : List V} {H1 : Hp} {s : Shared} {Q : VK} (hh : X.A.handled = none) (q1 : SqB b X.K H1 a xs) (hn : xs.length ≤ sizeLine) (I : Inv X pins σ H1 s) (hf : ∀ x ∈ [z, i1], FpOk X pins H1 x) (hb0 : ∀ x ∈ [z, i1], x < s.heap.objs.size) (he : IsEnum s.heap z i1 0 .none) (hi : IsSqIt b s.heap i1 a 0) (hne : z ≠ i1)
    (hw : ∀ S, H1 S = none → WantN xs S xs.length 0 (upd H1 S (.lst [])) [] (fun H' => Q (.ref S) H')) : wpAny (model X.prog X.w) X.A (call (.type "list") [.ref z]) (EP X pins σ Q) X.xe s := by
  have ez : s.heap.get? z = some { cls := .type "enumerate", dict := none, data := .fields #[.none, .bool false, .ref i1, rawInt 0, .none, .none], slots := #[] } := he
  refine callType_codes (Q₁ := fun obj s₁ => obj = .ref s.heap.objs.size ∧ s₁ = { s with heap := s.heap.push { cls := .type "list", data := .seq #[] } }) F.called_list (F.typeCall_list_1 _) F.entry_list_init
    (code_list_new _ ⟨rfl, rfl⟩) fun obj s₁ h₁ => ?_
  obtain ⟨rfl, rfl⟩ := h₁
  have hS : (s.heap.push { cls := .type "list", data := .seq #[] }).get? s.heap.objs.size = some { cls := .type "list", data := .seq #[] } := Heap.get?_push_size _ rfl
  refine ⟨⟨_, hS, rfl⟩, F.args_list_init_2 _ _, ?_⟩
  have nS : H1 s.heap.objs.size = none := I.hok.fresh (Nat.le_refl _)
  have hSz : s.heap.objs.size ≠ z := Nat.ne_of_gt (hb0 z (by simp))
  show wpAny _ _ (do let old ← Builtin.List.listItems (.ref s.heap.objs.size); Builtin.List.listUpdate (.ref s.heap.objs.size) (fun _ => #[]); letGo old.toList.reverse; Builtin.List.listExtendWith (.ref s.heap.objs.size) (.ref z) .none) _ _ _
  refine wpAny_bind ?_
  unfold Builtin.List.listItems
  refine wpAny_bind (wpAny_seqItems hS rfl (wpAny_pure ?_))
  show wpAny _ _ (updateSeq s.heap.objs.size (fun _ => #[]) >>= fun _ => letGo (#[] : Array Value).toList.reverse >>= fun _ => Builtin.List.listExtendWith (.ref s.heap.objs.size) (.ref z) .none) _ _ _
  refine wpAny_bind (wpAny_updateSeq hS rfl ?_)
  have hS₂ := Heap.get?_update_self (Obj.mapSeq (fun _ => (#[] : Array Value))) hS rfl
  refine wpAny_bind (wpAny_letGo ?_)
  have k2 : ∀ b o, s.heap.get? b = some o → ((s.heap.push { cls := .type "list", data := .seq #[] }).update s.heap.objs.size (Obj.mapSeq (fun _ => (#[] : Array Value)))).get? b = some o := fun b o e =>
    (Heap.get?_update_other _ _ (Nat.ne_of_gt (Heap.lt_size e))).trans (Heap.get?_push_of_some _ e)
  generalize hg : (s.heap.push { cls := .type "list", data := .seq #[] }).update s.heap.objs.size (Obj.mapSeq (fun _ => (#[] : Array Value))) = h2 at hS₂ k2
  unfold Builtin.List.listExtendWith
  have tz : Shared.TypeIs { s with heap := h2 } (.ref z) "enumerate" := ⟨_, k2 _ _ ez, rfl⟩
  refine wpAny_bind (wpAny_typeOf tz ?_)
  have h1 : Builtin.List.listSameRef (.ref s.heap.objs.size) (.ref z) = false := by simp [Builtin.List.listSameRef, hSz]
  have h2' : (Value.type "enumerate" == Value.type "list") = false := by decide
  have h3' : (Value.type "enumerate" == Value.type "tuple") = false := by decide
  simp only [h1, h2', h3', Bool.or_false, Bool.false_eq_true, if_false]
  refine wpAny_bind (wpAny_pyIter_enum (show IsEnum h2 z i1 0 .none from k2 _ _ he) ?_)
  refine wpAny_bind (wpAny_holding ?_)
  unfold Builtin.List.listLengthHint
  refine wpAny_bind (wpAny_specialOf tz nolen_enum ?_)
  show wpAny _ _ (specialOf (Value.ref z) (Str.ofString "__length_hint__") >>= _) _ _ _
  refine wpAny_bind (wpAny_specialOf tz nohint_enum ?_)
  refine wpAny_pure ?_
  show wpAny _ _ (rule "list.extend.makes-room" >>= fun _ => Builtin.List.listTouch (.ref s.heap.objs.size) >>= fun _ => again (.builtin "list.extend.loop" ⟨[.ref s.heap.objs.size, .ref z, .none], []⟩)) _ _ _
  refine wpAny_bind (wpAny_rule ?_)
  refine wpAny_bind ?_
  show wpAny _ _ (updateSeq s.heap.objs.size (·.push .none) >>= fun _ => updateSeq s.heap.objs.size (·.pop)) _ _ _
  refine wpAny_bind (wpAny_updateSeq hS₂ rfl ?_)
  have hS₃ := Heap.get?_update_self (Obj.mapSeq (·.push Value.none)) hS₂ rfl
  refine wpAny_updateSeq hS₃ rfl ?_
  have hS₄ := Heap.get?_update_self (Obj.mapSeq (·.pop)) hS₃ rfl
  have k4 : ∀ b o, s.heap.get? b = some o → ((h2.update s.heap.objs.size (Obj.mapSeq (·.push Value.none))).update s.heap.objs.size (Obj.mapSeq (·.pop))).get? b = some o := fun b o e =>
    (Heap.get?_update_other _ _ (Nat.ne_of_gt (Heap.lt_size e))).trans ((Heap.get?_update_other _ _ (Nat.ne_of_gt (Heap.lt_size e))).trans (k2 b o e))
  have sz4 : ((h2.update s.heap.objs.size (Obj.mapSeq (·.push Value.none))).update s.heap.objs.size (Obj.mapSeq (·.pop))).objs.size = s.heap.objs.size + 1 := by
    rw [Heap.size_update, Heap.size_update, ← hg, Heap.size_update, Heap.size_push]
  have I4 : Inv X pins σ (upd H1 s.heap.objs.size (.lst [])) { s with heap := (h2.update s.heap.objs.size (Obj.mapSeq (·.push Value.none))).update s.heap.objs.size (Obj.mapSeq (·.pop)) } :=
    I.laid (t' := s.toks) k4 (Nat.le_refl _) ⟨Nat.zero_le _, [], _, .nil, hS₄⟩
  have nz : ∀ b ∈ [z, i1], b ≠ s.heap.objs.size := fun b hb => Nat.ne_of_lt (hb0 b hb)
  refine wpAny_pure ⟨plainId_quiet F.plain_extend_loop _, ext_enum (A := X.A.in1) (H1 := H1) .none hh q1 hn _ 0 _ _ [] rfl (Nat.zero_le _) I4 (fun b hb => FpOk.re (hf b hb) (by rw [upd_ne (nz b hb)]; exact (hf b hb).1)) (fun b hb => ?_) ⟨.inl ⟨_, k4 _ _ he⟩, hi.at fun o e => k4 _ _ e, hne⟩ (same_upd nS) nS upd_same rfl ((hw _ nS).mono fun H' q s' I' => ⟨rfl, .ref s.heap.objs.size, H', I', rfl, q⟩)⟩
  show b < Array.size _
  rw [sz4]
  exact Nat.lt_succ_of_lt (hb0 b hb)
theorem ev_en {W : WX} {e : Expr} {p pos : Pos} {fa : Ev → Res PyData} (hg : Gl X "enumerate") (hm : X.mg "enumerate" = none) (ha : PE X e (tD X.K W fa)) (hs : starEach [e] X.env = [(false, eval e X.env)]) {s : Shared} {H R0 : Hp} {env : Ev} {f : List PyData → Res PyData} {Q : VK} (I : Inv X pins σ H s) (rel : Rel X.K R0 H σ env)
    (hw : WantG X.K W σ (denV X.K) R0 H ((fa env >>= fun x => someR ((seqOf x).map (enumL 0))) >>= f) Q) :
    wpAny (model X.prog X.w) X.A (eval (.Call (.Name "enumerate" p) [e] [] pos) X.env) (fun v s' => ∃ b a z i1 xs ds R1 H1, v = .ref z ∧ Inv X pins σ H1 s' ∧ IsEnum s'.heap z i1 0 .none ∧ IsSqIt b s'.heap i1 a 0 ∧ z ≠ i1 ∧ (∀ x ∈ [z, i1], FpOk X pins H1 x) ∧ (∀ x ∈ [z, i1], x < s'.heap.objs.size) ∧ SqB b X.K R1 a xs ∧ DnA X.K R1 xs ds ∧ Same R1 H1 ∧ WantG X.K W σ (denV X.K) R1 H1 (f (enumL 0 ds)) Q) X.xe s := by
  have go : tCons (tD X.K W fa) tNil σ H (fun vs H1 => ∃ b a xs ds R1, vs = [.ref a] ∧ SqB b X.K R1 a xs ∧ DnA X.K R1 xs ds ∧ Same R1 H1 ∧ WantG X.K W σ (denV X.K) R1 H1 (f (enumL 0 ds)) Q) := by
    simp only [bindAssoc'] at hw
    refine ⟨R0, env, rel, hw.split fun dx x H1 R1 e1 d1 h1 => ?_⟩
    cases q : seqOf dx with
    | none => rw [q] at h1; exact False.elim h1
    | some ds =>
      rw [q] at h1
      obtain ⟨b, a, xs, rfl, hs, ha⟩ := seq_of d1 q
      exact ⟨b, a, xs, ds, R1, rfl, hs, ha, e1.sub, h1⟩
  refine Call_ (ld_blt I hg hm boot_enumerate (PyProof.Rows.callWith_type1 (thn ((pa_cons ha pa_nil hs).run pos pins s σ H _ I go) fun us s1 ⟨vs, H1, I1, r1, q1⟩ => ?_) hs rfl))
  obtain ⟨b, a, xs, ds, R1, ex, hq, da, sm, q⟩ := q1
  subst ex
  cases r1 with
  | cons r rr =>
    cases rr
    cases r
    obtain ⟨its, rv, p'⟩ := SqB.sq I1 (hq.mono sm)
    refine enum_begins1 (begins_sq b a its.toArray) p' fun h' he hit hsz hk => ?_
    have I2 : Inv X pins σ H1 { s1 with heap := h' } := I1.kept (t' := s1.toks) hk
    have two : ∀ c ∈ [s1.heap.objs.size + 1, s1.heap.objs.size], s1.heap.objs.size ≤ c ∧ c < s1.heap.objs.size + 2 := by
      intro c hb
      have e' : c = s1.heap.objs.size + 1 ∨ c = s1.heap.objs.size := by simpa using hb
      rcases e' with z | z
      · rw [z]; exact ⟨Nat.le_add_right _ _, Nat.lt_succ_self _⟩
      · rw [z]; exact ⟨Nat.le_refl _, Nat.lt_add_of_pos_right (by decide)⟩
    refine ⟨b, a, s1.heap.objs.size + 1, s1.heap.objs.size, xs, ds, R1, H1, rfl, I2, he, ?_, Nat.succ_ne_self _, fun c hc => I1.fpOk (two c hc).1 (I1.hok.fresh (two c hc).1), fun c hc => ?_, hq, da, sm, q⟩
    · cases b with
      | true => exact ⟨_, hit, rfl, rfl⟩
      | false => exact ⟨_, hit, rfl, rfl⟩
    · show c < h'.objs.size
      rw [hsz]
      exact (two c hc).2
/-- the wish of a list of numbered things -/
theorem wantN_of {K : PySem.W.Frag} {R H : Hp} {xs : List V} {ds : List PyData} {Q : VK} {S : Addr} (d1 : DnA K R xs ds) (hF : ∀ (vs : List V) (H' R' : Hp), Ext R H R' H' → R' S = none → H' S = some (.lst vs) → DnA K R' vs (enumL 0 ds) → Q (.ref S) H') (nS : H S = none) :
    ∀ (k i : Nat) (H2 R2 : Hp) (vs : List V), xs.length - i = k → i ≤ xs.length → Ext R H R2 H2 → R2 S = none → H2 S = some (.lst vs) → DnA K R2 vs ((enumL 0 ds).take i) → WantN xs S k i H2 vs (fun H' => Q (.ref S) H') := by
  intro k
  have hz : (enumL 0 ds).length = xs.length := by rw [enumL_length, d1.length]
  induction k with
  | zero =>
    intro i H2 R2 vs hk hi ex nr hS dn
    have e : i = (enumL 0 ds).length := by omega
    rw [e, List.take_length] at dn
    exact hF vs H2 R2 ex nr hS dn
  | succ k ih =>
    intro i H2 R2 vs hk hi ex nr hS dn x hx T o0 ho0 hT
    have hST : S ≠ T := fun e => by rw [e, hT] at hS; cases hS
    have rT : R2 T = none := ex.sub.free hT
    obtain ⟨l1, e1⟩ := List.getElem?_eq_some_iff.mp hx
    have i1 : i < ds.length := by rw [← d1.length]; exact l1
    obtain ⟨x', hx', dx⟩ := d1.get (List.getElem?_eq_getElem i1)
    rw [hx] at hx'; cases hx'
    have s2 : Same R2 (upd R2 T (.frz o0 (.tup [.int (i : Nat), x]))) := same_upd rT
    have sR : Same R (upd R2 T (.frz o0 (.tup [.int (i : Nat), x]))) := ex.r.trans s2
    have sub : Same (upd R2 T (.frz o0 (.tup [.int (i : Nat), x]))) (upd (upd H2 T (.frz o0 (.tup [.int (i : Nat), x]))) S (.lst (vs ++ [.ref T]))) := fun b o e => by
      by_cases hb : b = T
      · subst hb
        rw [upd_same] at e
        rw [upd_ne (Ne.symm hST), upd_same]; exact e
      · rw [upd_ne hb] at e
        have hbS : b ≠ S := fun q => by rw [q, nr] at e; cases e
        rw [upd_ne hbS, upd_ne hb]
        exact ex.sub b o e
    have hh : Same H (upd (upd H2 T (.frz o0 (.tup [.int (i : Nat), x]))) S (.lst (vs ++ [.ref T]))) := fun b o e => by
      have hbS : b ≠ S := fun q => by rw [q, nS] at e; cases e
      have hbT : b ≠ T := fun q => by have := ex.h b o e; rw [q, hT] at this; cases this
      rw [upd_ne hbS, upd_ne hbT]
      exact ex.h b o e
    refine ih (i + 1) _ (upd R2 T (.frz o0 (.tup [.int (i : Nat), x]))) _ (by omega) (by omega) ?_ ?_ upd_same ?_
    · refine ⟨sR, sub, hh, fun b o e => ?_⟩
      by_cases hb : b = T
      · rw [hb]; exact .inr (ex.h.free hT)
      · rw [upd_ne hb] at e
        exact ex.new b o e
    · rw [upd_ne hST]; exact nr
    · have eg : (enumL 0 ds)[i]? = some (.tuple [.int (i : Nat), ds[i]]) := by
        rw [enumL_get, List.getElem?_eq_getElem i1, Nat.zero_add]; rfl
      rw [List.take_add_one, eg]
      exact (DnA.mono s2 _ _ dn).append (.cons (.tup (.inl ⟨o0, ho0, upd_same⟩) (.cons (.int _) (.cons (Dn.mono sR _ _ dx) .nil))) .nil)
theorem de_listEn {W : WX} {e : Expr} {p p2 pos pos2 : Pos} {fa : Ev → Res PyData} (hc : X.calm = true) (hgl : Gl X "list") (hml : X.mg "list" = none) (hg : Gl X "enumerate") (hm : X.mg "enumerate" = none) (ha : PE X e (tD X.K W fa)) (hs : starEach [e] X.env = [(false, eval e X.env)]) :
    PE X (.Call (.Name "list" p) [.Call (.Name "enumerate" p2) [e] [] pos2] [] pos) (tD X.K W fun env => (fa env >>= fun x => someR ((seqOf x).map (enumL 0))) >>= fun ds => guardR (fitsL ds.length) (.list ds)) := by
  refine ⟨fun pins s σ H Q I h => ?_⟩
  obtain ⟨R0, env, rel, hw⟩ := h
  refine Call_ (ld_blt I hgl hml boot_list (PyProof.Rows.callWith_type1 (args_cons (thn (ev_en (f := fun ds => guardR (fitsL ds.length) (.list ds)) hg hm ha hs I rel hw) fun v s1 ⟨b, a, z, i1, xs, ds, R1, H1, ev, I1, he, hi, hne, hf, hb0, q1, d1, sm, q⟩ => args_nil ?_) rfl) rfl))
  subst ev
  obtain ⟨g, q⟩ := q.guard
  have fit : (enumL 0 ds).length ≤ sizeLine := of_decide_eq_true g
  refine call_list_en (I1.ok.hd hc) (q1.mono sm) (by rw [enumL_length, ← d1.length] at fit; exact fit) I1 hf hb0 he hi hne fun S nS => ?_
  have hF := q.fresh0
  refine wantN_of (R := R1) (H := H1) d1 (fun vs H' R' ex nr hS dn => hF S vs H' R' ex nS nr hS dn) nS _ 0 _ R1 [] rfl (Nat.zero_le _) (Ext.beside sm (same_upd nS)) (sm.free nS) upd_same ?_
  exact .nil
end
end Z
end
section
/-! Z6b: sorted(set(..)) of ints in a list. -/
namespace Z
open PySem PySem.Spec PyProof.Rows L2
section
variable {P : Program} {w : World} {A : Around} {E : Value → Shared → Prop} {s : Shared}
abbrev set0 (w : World) : Obj := { cls := .type "set", dict := none, data := .set #[] 0 (.fresh 0 0 (!w.params.followText "set-order")) }
/-- set(v): the shell -/
theorem set_shell {v : Value} {Q : Value → Shared → Prop} (hi : wpAny (model P w) A.in1.in1 (Builtin.«set.__init__» ⟨[.ref s.heap.objs.size, v], []⟩)
    (fun fin s' => match fin with | .done f => wants (fun r s₂ => r = .none ∧ Q (.ref s.heap.objs.size) s₂) E (.ok f) s' | .again c' => c'.quiet = true ∧ codeAny (model P w) A.in1 c' (wants (fun r s₂ => r = .none ∧ Q (.ref s.heap.objs.size) s₂) E) s') (fun e s' => wants (fun r s₂ => r = .none ∧ Q (.ref s.heap.objs.size) s₂) E (.error e) s') { s with heap := s.heap.push (set0 w) }) :
    wpAny (model P w) A (call (.type "set") [v]) Q E s := by
  obtain ⟨c0, tl0, m0⟩ := F.called_set.mro
  have m1 := F.called_set.made
  have m2 := F.called_set.sub
  refine wpAny_call (codeAny_of_tree ?_)
  show wpAny _ _ (callAny (.type "set") _) _ _ _
  refine wpAny_pure ⟨Code.quiet_builtin _ (by decide +kernel), codeAny_builtin F.entry_type_call ?_⟩
  rw [Around.under_plain (weight_type_call_type "set" [v] []) rfl]
  have m3 := F.called_set.notType
  have m4 := F.called_set.canCreate
  have m5 := F.typeCall_set_1 v
  repeat (any_goals (first | assumption | wp_step))
  refine codeAny_mono (code_set_led1 v (E := E) (Q₁ := fun o1 s1 => o1 = .ref s.heap.objs.size ∧ s1 = { s with heap := s.heap.push (set0 w) }) ⟨rfl, rfl⟩) fun r s1 hr => ?_
  cases r with
  | error e => exact hr
  | ok fl =>
    cases fl with
    | ret o1 =>
      obtain ⟨rfl, rfl⟩ := hr
      have g0 : (s.heap.push (set0 w)).get? s.heap.objs.size = some (set0 w) := Heap.get?_push_size _ rfl
      have g1 : Shared.TypeIs { s with heap := s.heap.push (set0 w) } (.ref s.heap.objs.size) "set" := ⟨_, g0, rfl⟩
      have m6 := F.called_set.init.lookup
      have m7 := F.called_set.init.bind (.ref s.heap.objs.size)
      repeat (any_goals (first | assumption | wp_step))
      refine codeAny_mono (codeAny_call_builtin (R := wants (fun r s2 => r = .none ∧ Q (.ref s.heap.objs.size) s2) E) F.called_set.init.plain F.entry_set_init (check_set_init_1 g1 hi)) fun r2 s2 hr2 => ?_
      cases r2 with
      | error e => exact hr2
      | ok f2 =>
        cases f2 with
        | ret r =>
          obtain ⟨rfl, q⟩ := hr2
          repeat (any_goals (first | assumption | wp_step))
        | _ => exact hr2.elim
    | _ => exact hr.elim
/-- set(xs), xs a list of ints -/
theorem zset_list {l : Addr} {its : Array Value} (ns : List Int) {Q : Value → Shared → Prop} (hh : A.handled = none) (hl : s.heap.IsList l its) (hit : IntsAre its.toList ns) (hb : ns.length + 1 < scanBound)
    (h : ∀ (h' : Heap) (tk c : Nat), SetR w h' s.heap.objs.size (fun j => decide (j ∈ ns)) c → (∀ b o, s.heap.get? b = some o → h'.get? b = some o) → Q (.ref s.heap.objs.size) { s with heap := h', toks := tk }) :
    wpAny (model P w) A (call (.type "set") [.ref l]) Q E s := by
  refine set_shell ?_
  have len : its.size = ns.length := by
    have q := IntsAre.length hit
    rw [Array.length_toList] at q
    exact q
  obtain ⟨o, ho, hc, n0, hd⟩ := hl
  obtain ⟨c1, c2, c3, c4⟩ := o
  simp only at hc hd
  subst hc hd
  have llt : l < s.heap.objs.size := Heap.lt_size ho
  have ho1 : (s.heap.push (set0 w)).get? l = some { cls := .type "list", dict := c2, data := .seq its n0, slots := c4 } := Heap.get?_push_of_some _ ho
  have f1 := F.sub_list_set
  have f2 := F.sub_list_frozenset
  have f3 : (Value.type "list" == Value.type "dict") = false := by decide
  have hl1 : (s.heap.push (set0 w)).IsList l its := ⟨_, ho1, rfl, n0, rfl⟩
  unfold Builtin.«set.__init__» noKeywords Builtin.Frozenset.updateFrom
  generalize hPI : pyIter = PI
  wp_walk
  subst hPI
  refine wpAny_pyIter_list hl1 ?_
  refine wpAny_bind (wpAny_runValue ?_)
  have h3 : A.in1.in1.in1.handled = none := by simp [hh]
  have z1 : (s.heap.push (set0 w)).objs.size = s.heap.objs.size + 1 := Heap.size_push ..
  have ne1 : l ≠ (s.heap.push (set0 w)).objs.size := by
    rw [z1]; exact Nat.ne_of_lt (Nat.lt_succ_of_lt llt)
  have nf : s.heap.objs.size ∉ [(s.heap.push (set0 w)).objs.size, l] := by
    rw [z1]
    simp only [List.mem_cons, List.mem_singleton, List.not_mem_nil, or_false, not_or]
    exact ⟨Nat.ne_of_lt (Nat.lt_succ_self _), Nat.ne_of_gt llt⟩
  have val : ∀ (i : Nat) (v : Value), its[i]? = some v → ∃ k t, ns[i]? = some k ∧ v = .int k t := fun i v hv => by
    have hi : i < ns.length := by rw [← len]; exact (Array.getElem?_eq_some_iff.mp hv).1
    obtain ⟨t, e⟩ := PyProof.Rows.IntsAre.int_at hit i v (by rw [Array.getElem?_toList]; exact hv)
    refine ⟨ns[i], t, List.getElem?_eq_getElem hi, ?_⟩
    rw [e, List.getD_eq_getElem?_getD, List.getElem?_eq_getElem hi] <;> rfl
  have g0 : (s.heap.push (set0 w)).get? s.heap.objs.size = some (set0 w) := Heap.get?_push_size _ rfl
  refine set_update_ints ((Walks.list h3 _ l ne1 its).toS) s.heap.objs.size nf ns len hb val (its.size - 0) 0 _ (by omega) (Nat.zero_le _) ⟨⟨_, Heap.get?_push_size _ rfl, rfl, rfl⟩, (hl1.push _)⟩ ?hS0 ?hR
  case hS0 =>
    have g1 : ((s.heap.push (set0 w)).push { cls := .type "list_iterator", data := .fields #[.ref l, .int 0 0] }).get? s.heap.objs.size = some (set0 w) := Heap.get?_push_of_some _ g0
    exact ⟨0, Nat.le_refl 0, setR_new_at g1⟩
  case hR =>
    intro s2 c2 hm hc2 hS2
    obtain ⟨h2, g2, d2, tk2, os2⟩ := s2
    have eg : g2 = s.gens := hm.gens
    have ed : d2 = s.drawn := hm.drawn
    have eo : os2 = s.os := hm.os
    subst eg ed eo
    show wpAny _ _ _ _ _ _
    refine wpAny_pure ?_
    show wpAny _ _ (ret Value.none) _ _ _
    refine wpAny_pure ⟨rfl, h h2 tk2 c2 hS2 fun b o e => ?_⟩
    have hb0 : b < s.heap.objs.size := Heap.lt_size e
    refine hm.heap b o ?_ (Heap.get?_push_of_some _ (Heap.get?_push_of_some _ e))
    rw [z1]
    simp only [List.mem_cons, List.mem_singleton, List.not_mem_nil, or_false, not_or]
    exact ⟨Nat.ne_of_lt hb0, Nat.ne_of_lt (Nat.lt_succ_of_lt hb0)⟩
end
theorem dedupI_mem : ∀ (l : List Int) (x : Int), x ∈ dedupI l ↔ x ∈ l
  | [], x => Iff.rfl
  | y :: r, x => by
    have ih := dedupI_mem r x
    unfold dedupI
    by_cases q : y ∈ r
    · rw [if_pos q, ih, List.mem_cons]
      exact ⟨.inr, fun h => h.elim (fun e => e ▸ q) id⟩
    · rw [if_neg q, List.mem_cons, List.mem_cons, ih]
theorem dedupI_nodup : ∀ l : List Int, (dedupI l).Nodup
  | [] => List.nodup_nil
  | y :: r => by
    unfold dedupI
    by_cases q : y ∈ r
    · rw [if_pos q]; exact dedupI_nodup r
    · rw [if_neg q]
      exact List.nodup_cons.mpr ⟨fun h => q ((dedupI_mem r y).mp h), dedupI_nodup r⟩
theorem setR_count {w : World} {h : Heap} {a : Addr} {ns : List Int} {c : Nat} (R : SetR w h a (fun j => decide (j ∈ ns)) c) : c = (dedupI ns).length := by
  obtain ⟨o, es, ep, t, ho, hex, hd, g, nd, hm, hb, hf, hn, hr, hl⟩ := R
  have p : (es.toList.map keyOf).Perm (dedupI ns) := (List.perm_ext_iff_of_nodup nd (dedupI_nodup ns)).mpr fun k => by
    rw [← hm k, decide_eq_true_eq, dedupI_mem]
  rw [← hn, ← p.length_eq, List.length_map, Array.length_toList]
end Z
end
section
/-! Z6c: sorted(set(..)). -/
namespace Z
open PySem PySem.Spec PyProof.Rows L2
section
variable {X : Cx} {W : WX}
theorem de_sset {e : Expr} {p p2 pos pos2 : Pos} {fa : Ev → Res PyData} (hc : X.calm = true) (hg : Gl X "sorted") (hm : X.mg "sorted" = none) (hg2 : Gl X "set") (hm2 : X.mg "set" = none) (ha : PE X e (tD X.K W fa)) (hs : starEach [e] X.env = (false, eval e X.env) :: starEach [] X.env) :
    PE X (.Call (.Name "sorted" p) [.Call (.Name "set" p2) [e] [] pos2] [] pos) (tD X.K W fun env => fa env >>= fun x => bltD .sset [x]) := by
  refine ⟨fun pins s σ H Q I h => ?_⟩
  obtain ⟨R, env, rel, hw⟩ := h
  have go : tD X.K W fa σ H (fun x H1 => ∃ (l : Addr) (ns : List Int), x = .ref l ∧ Rd H1 l (.lst (ns.map V.int)) ∧ ns.length ≤ 1000 ∧ (dedupI ns).length < 64 ∧ ∀ p, H1 p = none → Q (.ref p) (upd H1 p (.lst ((sortI (dedupI ns)).map V.int)))) := by
    refine ⟨R, env, rel, hw.split fun dx x H1 R1 e1 d1 h1 => ?_⟩
    cases d1 with
    | lst hl hd =>
      rename_i a xs ds
      have h1 : WantG X.K W σ (denV X.K) R1 H1 (match intsOf ds with | some ns => guardR (decide (ns.length ≤ 1000) && decide ((dedupI ns).length < 64)) (.list ((sortI (dedupI ns)).map .int)) | none => .stuck) Q := h1
      cases q : intsOf ds with
      | none => rw [q] at h1; exact False.elim h1
      | some ns =>
        rw [q] at h1
        obtain ⟨g, h1⟩ := WantG.guard h1
        rw [Bool.and_eq_true] at g
        have ex : xs = ns.map V.int := (DnA.ints hd q).1
        subst ex
        exact ⟨a, ns, rfl, Rd.mono e1.sub hl, of_decide_eq_true g.1, of_decide_eq_true g.2, fun p hp => h1.newL e1.sub (DnA.ofInts _) hp⟩
    | _ => exact False.elim h1
  refine Call_ (ld_blt I hg hm boot_sorted ?_)
  refine PyProof.Rows.callWith_builtin1 (PyProof.Rows.args_cons ?_ rfl) rfl rfl
  refine Call_ (ld_blt I hg2 hm2 boot_set ?_)
  refine PyProof.Rows.callWith_type1 (PyProof.Rows.args_cons (thn (ha.run pins s σ H _ I go) fun v s1 ⟨x, H1, I1, r1, q1⟩ => PyProof.Rows.args_nil ?_) hs) hs rfl
  obtain ⟨l, ns, rfl, hq, hl, h64, q⟩ := q1
  cases r1
  obtain ⟨its, r, pl, hz⟩ := I1.list (.inl hq)
  refine zset_list ns (I1.ok.hd hc) pl.isList (by simpa using intsAre_of r) (by unfold scanBound; omega) fun h' tk c SR hk => ?_
  refine PyProof.Rows.args_nil ?_
  have I2 : Inv X pins σ H1 { s1 with heap := h', toks := tk } := I1.kept hk
  have hcn := setR_count SR
  refine sorted_set SR (I1.ok.hd hc) (by omega) fun s' p out cc ms k g o hp hgt hi hsrt hm hlen => ?_
  have em : ms = sortI (dedupI ns) := by
    have nd : ms.Nodup := hsrt.imp fun h => Int.ne_of_lt h
    have p1 : ms.Perm (dedupI ns) := (List.perm_ext_iff_of_nodup nd (dedupI_nodup ns)).mpr fun j => by rw [hm j, decide_eq_true_eq, dedupI_mem]
    exact sorted_eq (p1.trans (sortI_perm _).symm) (hsrt.imp fun h => Int.le_of_lt h) (sortI_sorted _)
  subst em
  have hlen2 : ((sortI (dedupI ns)).map V.int).length ≤ sizeLine := by rw [List.length_map, hlen, sizeLine_eq]; omega
  have hn : H1 p = none := I2.hok.fresh hp
  have J : Inv X pins σ (upd H1 p (.lst ((sortI (dedupI ns)).map V.int))) { ({ s1 with heap := h', toks := tk } : Shared) with heap := s'.heap, gens := s'.gens, drawn := s'.drawn, toks := s'.toks } :=
    I2.call (ch := []) (Un.laid k hp hn) (I2.hok.laid k hp ⟨hlen2, out.toList, cc, vals_of_ints hi, hgt⟩) (by rw [g]; exact I2.bare) (fun _ z => nomatch z)
  have e : s' = { ({ s1 with heap := h', toks := tk } : Shared) with heap := s'.heap, gens := s'.gens, drawn := s'.drawn, toks := s'.toks } := by
    cases s'
    cases s1
    cases o
    rfl
  rw [e]
  exact ⟨.ref p, _, J, rfl, q p hn⟩
end
end Z
end
section
/-! Z6g: sorted(set(list of pairs)). -/
namespace Z
open PySem PySem.Spec PyProof.Rows L2
/-- a pair's rank -/
def rkP : List Int → Int
  | [x, y] => x * 1000 + y
  | _ => 0
def BdP (ns : List Int) : Prop := ∃ x y, ns = [x, y] ∧ -400 ≤ y ∧ y ≤ 400
def PrsOk (h : Heap) (vs : List Value) : Prop := ∀ v, v ∈ vs → ∃ ns, _root_.TS.TupInts h v ns ∧ BdP ns
theorem PrsOk.keeps {h h' : Heap} {vs : List Value} (x : PrsOk h vs) (k : ∀ b o, h.get? b = some o → o.cls = .type "tuple" → h'.get? b = some o) : PrsOk h' vs := fun v hv =>
  let ⟨ns, t, r⟩ := x v hv; ⟨ns, t.keeps k, r⟩
section
variable {prog : Program} {w : World} {A : Around} {E : Value → Shared → Prop} {s : Shared}
theorem lexP {Q : Bool → Shared → Prop} {b : Bool} {us vs : List Value} {ns ms : List Int} (hx : IntsAre us ns) (hy : IntsAre vs ms) (h1 : BdP ns) (h2 : BdP ms) (h : Q (decide (rkP ns < rkP ms)) s) : PySem.W.KatLex prog w A b false Q (us.zip vs) 0 s := by
  obtain ⟨x1, y1, rfl, a1, a2⟩ := h1
  obtain ⟨x2, y2, rfl, b1, b2⟩ := h2
  have h : Q (decide (x1 * 1000 + y1 < x2 * 1000 + y2)) s := h
  cases hx with
  | cons _ t1 hx =>
    cases hx with
    | cons _ t2 hx =>
      cases hx
      cases hy with
      | cons _ t3 hy =>
        cases hy with
        | cons _ t4 hy =>
          cases hy
          refine PySem.W.kat_cons (wpAny_eqBool_int ?_)
          by_cases e : x1 = x2
          · subst e
            rw [beq_self_eq_true]
            refine PySem.W.kat_yes (PySem.W.kat_cons (wpAny_eqBool_int ?_))
            by_cases e2 : y1 = y2
            · subst e2
              rw [beq_self_eq_true]
              have d : decide (x1 * 1000 + y1 < x1 * 1000 + y1) = false := decide_eq_false (Int.lt_irrefl _)
              rw [d] at h
              exact PySem.W.kat_yes (PySem.W.kat_nil h)
            · rw [show (y1 == y2) = false from beq_eq_false_iff_ne.mpr e2]
              have d : decide (x1 * 1000 + y1 < x1 * 1000 + y2) = decide (y1 < y2) := decide_eq_decide.mpr (by omega)
              rw [d] at h
              exact PySem.W.kat_no (_root_.TS.oneLt_ints _ h)
          · rw [show (x1 == x2) = false from beq_eq_false_iff_ne.mpr e]
            have d : decide (x1 * 1000 + y1 < x2 * 1000 + y2) = decide (x1 < x2) := decide_eq_decide.mpr (by omega)
            rw [d] at h
            exact PySem.W.kat_no (_root_.TS.oneLt_ints _ h)
theorem firstsP {h : Heap} : ∀ vs : List Value, PrsOk h vs → ∃ fs, PySem.W.KatTups h vs fs ∧ fs.length = vs.length ∧ ∀ f, f ∈ fs → ∃ n t, f = Value.int n t
  | [], _ => ⟨[], PySem.W.KatTups.nil, rfl, fun f hf => by simp at hf⟩
  | v :: vs, x => by
    obtain ⟨gs, kt, hl, hi⟩ := firstsP vs fun u hu => x u (List.mem_cons_of_mem _ hu)
    obtain ⟨ns, ⟨a, us, rfl, ⟨ob, ho, hc, m, hdt⟩, ia⟩, p1, p2, rfl, _⟩ := x v List.mem_cons_self
    have q0 : ∃ t r, us.toList = Value.int p1 t :: r := by
      generalize us.toList = l at ia
      cases ia with
      | cons _ t ia => exact ⟨t, _, rfl⟩
    obtain ⟨t, r, e⟩ := q0
    refine ⟨Value.int p1 t :: gs, PySem.W.KatTups.cons ho hc hdt ?_ kt, by simp [hl], ?_⟩
    · have z := congrArg (fun l : List Value => l[0]?) e
      simpa using z
    · intro f hf
      rcases List.mem_cons.mp hf with rfl | hf
      · exact ⟨p1, t, rfl⟩
      · exact hi f hf
theorem kindP {vs : List Value} (h2 : 2 ≤ vs.length) (x : PrsOk s.heap vs) (r : Value → Int) (hr : ∀ v, v ∈ vs → ∀ ns, _root_.TS.TupInts s.heap v ns → r v = rkP ns) (Q : SortKind → Shared → Prop)
    (h : ∀ κ, _root_.TS.Cmp prog w A s κ (pairsOf vs) r → Q κ s) : wpAny (model prog w) A (keyKind' vs.toArray) Q E s := by
  obtain ⟨gs, kt, hl, hi⟩ := firstsP vs x
  refine PySem.W.kat_kind (T := Value.type "int") kt (by omega) (fun f hf => ?_) rfl (h _ ?_)
  · obtain ⟨n, t, rfl⟩ := hi f hf
    exact PySem.W.Looks.of_pure rfl
  · intro u v hu hv Qb Eb hQ
    rw [pairsOf_toList] at hu hv
    obtain ⟨ns, tu, bu⟩ := x _ (mem_zip_self hu).2
    obtain ⟨ms, tv, bv⟩ := x _ (mem_zip_self hv).2
    have eu := hr _ (mem_zip_self hu).2 _ tu
    have ev := hr _ (mem_zip_self hv).2 _ tv
    have hQb : Qb (decide (rkP ns < rkP ms)) s := by
      have z : decide (r u.1 < r v.1) = decide (rkP ns < rkP ms) := by rw [eu, ev]
      rw [← z]; exact hQ
    obtain ⟨a, us, e1, ⟨oa, ha, hc, na, da⟩, ia⟩ := tu
    obtain ⟨b, ws, e2, ⟨ob, hb, hc', nb, db⟩, ib⟩ := tv
    rw [e1, e2]
    refine PySem.W.kat_lt ha da hb db ?_
    have l1 : us.size = 2 := by
      obtain ⟨p, q, rfl, _⟩ := bu
      have l := ia.length
      rw [Array.length_toList] at l
      exact l
    have l2 : ws.size = 2 := by
      obtain ⟨p, q, rfl, _⟩ := bv
      have l := ib.length
      rw [Array.length_toList] at l
      exact l
    have sz : decide (us.size < ws.size) = false := decide_eq_false (by omega)
    rw [sz]
    exact lexP ia ib bu bv hQb
theorem sortP {a : Addr} {vs : List Value} {n : Nat} {P : PySem.Fin → Shared → Prop} (ho : s.heap.get? a = some (seqObj "list" vs.toArray n)) (h64 : vs.length < 64) (x : PrsOk s.heap vs) (r : Value → Int) (hr : ∀ v, v ∈ vs → ∀ ns, _root_.TS.TupInts s.heap v ns → r v = rkP ns)
    (h : ∀ out : Array Value, out.toList.Perm vs → out.toList.Pairwise (fun u v => r u ≤ r v) → P (.done (.ret .none)) { s with heap := sortedHeap s.heap a vs out }) :
    wpAny (model prog w) A (Builtin.«list.sort» ⟨[.ref a], []⟩) P E s := by
  have kp : ∀ b o, s.heap.get? b = some o → o.cls = .type "tuple" → (_root_.TS.midHeap s.heap a vs).get? b = some o := fun b o e hc => by
    refine _root_.TS.midHeap_old ?_ e
    rintro rfl
    rw [ho] at e
    have e' : seqObj "list" vs.toArray n = o := Option.some.inj e
    rw [← e'] at hc
    have c' : Value.type "list" = Value.type "tuple" := hc
    injection c' with c''
    exact absurd c'' (by decide)
  refine _root_.SK.plain_sort (r := r) ho h64 (fun g2 Qb hQ => ?_) fun ps out g1 g2 g3 => ?_
  · refine kindP (s := { s with heap := _root_.TS.midHeap s.heap a vs }) g2 (x.keeps kp) r (fun v hv ns t => ?_) Qb hQ
    obtain ⟨ms, t0, _⟩ := x v hv
    have e : ns = ms := t.ints.symm.trans (t0.keeps kp).ints
    rw [e]
    exact hr v hv ms t0
  · obtain ⟨p, o⟩ := _root_.TS.out_rank g1 g2 g3
    exact h out p o
/-- xs.sort() -/
theorem call_sortP {a : Addr} {vs : List Value} {n : Nat} {Q : Value → Shared → Prop} (ho : s.heap.get? a = some (seqObj "list" vs.toArray n)) (h64 : vs.length < 64) (x : PrsOk s.heap vs)
    (h : ∀ out : Array Value, out.toList.Perm vs → out.toList.Pairwise (fun u v => rkP (_root_.TS.intsOf s.heap u) ≤ rkP (_root_.TS.intsOf s.heap v)) → Q .none { s with heap := sortedHeap s.heap a vs out }) :
    wpAny (model prog w) A (call (.builtin "list.sort") [.ref a]) Q E s :=
  wpAny_call_entry slot_list_sort ⟨_, ho, rfl⟩ entry_list_sort (sortP ho h64 x (fun v => rkP (_root_.TS.intsOf s.heap v)) (fun v _ ns t => by
    show rkP (_root_.TS.intsOf s.heap v) = rkP ns
    rw [t.ints]) fun out g1 g2 => ⟨_, rfl, h out g1 g2⟩) (args_list_sort _)
end
section
variable {P : Program} {w : World} {A : Around} {E : Value → Shared → Prop} {s : Shared}
theorem sorted_setP {a : Addr} {L : List (Addr × List Int)} {es : Array (Int × Value)} {ep : Nat} {t : SetTable} {Q : Value → Shared → Prop} (R : SetTR P w s.heap a L es ep t) (hh : A.handled = none) (hB : ∀ p ∈ L, BdP p.2)
    (hQ : ∀ s' p (out : Array Value) (c : Nat) (L' : List (Addr × List Int)), (∀ b o, s.heap.get? b = some o → s'.heap.get? b = some o) → s'.gens = s.gens → s'.os = s.os → s.heap.objs.size ≤ p →
      s'.heap.get? p = some (seqObj "list" out c) → out.toList = L'.map (fun q => Value.ref q.1) → L'.Perm L → L'.Pairwise (fun q r => rkP q.2 ≤ rkP r.2) → Q (.ref p) s') :
    wpAny (model P w) A (call (.builtin "sorted") [.ref a]) Q E s := by
  obtain ⟨ob, ho, hex, hdt⟩ := R.ob
  have hsz := R.size
  have few := R.few
  refine Calls.call_function_entry kind_sorted plain_sorted entry_sorted (args_sorted1 _) ?_
  unfold Builtin.«sorted»
  refine wpAny_bind (m := checkCount "sorted" 1 1 _) (wpAny_pure ?_)
  refine wpAny_bind (collect_set (A := A.in1) hh ⟨ob, ho, hex.1, hdt⟩ R.fits (by unfold scanBound; omega) R.tab.ris R.led fun s1 vs kp hz gg oo pm => ?_)
  have hes : es.toList.map (·.2) = L.map fun q => Value.ref q.1 := by
    rw [R.rows]
    unfold rowsOf
    rw [List.map_map] <;> rfl
  rw [hes] at pm
  have back : ∀ vs : List Value, (∀ v ∈ vs, ∃ q ∈ L, v = Value.ref q.1) → ∃ L1 : List (Addr × List Int), vs = L1.map (fun q => Value.ref q.1) ∧ ∀ q ∈ L1, q ∈ L := by
    intro us
    induction us with
    | nil => intro _; exact ⟨[], rfl, fun q hq => (by cases hq)⟩
    | cons u us ih =>
      intro hv
      obtain ⟨q, hq, e⟩ := hv u List.mem_cons_self
      obtain ⟨M, e1, hs⟩ := ih fun z hz => hv z (List.mem_cons_of_mem _ hz)
      refine ⟨q :: M, by rw [List.map_cons, e, e1], fun z hz => ?_⟩
      rcases List.mem_cons.mp hz with y | y
      · rw [y]; exact hq
      · exact hs z y
  have uniq : ∀ q ∈ L, ∀ z ∈ L, q.1 = z.1 → q = z := fun q hq z hz e => by
    have c1 := R.tup q hq
    have c2 := R.tup z hz
    rw [e] at c1
    exact Prod.ext e (c1.inj c2)
  have permL : ∀ M : List (Addr × List Int), (∀ q ∈ M, q ∈ L) → (M.map (fun q => Value.ref q.1)).Perm (L.map fun q => Value.ref q.1) → M.Perm L := by
    intro M hs pm1
    have nL : L.Nodup := nodup_of_map R.nd
    have nref : (L.map fun q => Value.ref q.1).Nodup := by
      refine List.pairwise_map.mpr (List.Pairwise.imp_of_mem (fun {q z} hq hz hne e => ?_) nL)
      injection e with e
      exact hne (uniq q hq z hz e)
    have nM : M.Nodup := nodup_of_map (pm1.nodup_iff.mpr nref)
    refine (List.perm_ext_iff_of_nodup nM nL).mpr fun q => ⟨hs q, fun hq => ?_⟩
    have hm : Value.ref q.1 ∈ M.map (fun q => Value.ref q.1) := pm1.mem_iff.mpr (List.mem_map.mpr ⟨q, hq, rfl⟩)
    obtain ⟨z, hz, e⟩ := List.mem_map.mp hm
    injection e with e
    rw [← uniq z (hs z hz) q hq e]
    exact hz
  have h64 : vs.length < 64 := by rw [pm.length_eq, List.length_map]; exact few
  refine wpAny_bind (wpAny_newList ?_ (by rw [sizeLine_eq]; omega))
  have hoL : (s1.heap.push (seqObj "list" vs.toArray 0)).get? s1.heap.objs.size = some (seqObj "list" vs.toArray 0) := Heap.get?_push_size _ rfl
  have tk : ∀ q ∈ L, _root_.TS.TupInts (s1.heap.push (seqObj "list" vs.toArray 0)) (.ref q.1) q.2 := fun q hq => tupInts_of (P := P) (w := w) (isT_keep (R.tup q hq) fun b u e => Heap.get?_push_of_some _ (kp b u e))
  have x : PrsOk (s1.heap.push (seqObj "list" vs.toArray 0)) vs := fun v hv => by
    obtain ⟨q, hq, e⟩ := List.mem_map.mp (pm.mem_iff.mp hv)
    rw [← e]
    exact ⟨q.2, tk q hq, hB q hq⟩
  refine wpAny_bind (wpAny_holding (call_sortP (s := { s1 with heap := s1.heap.push (seqObj "list" vs.toArray 0) }) hoL h64 x fun out c1 c2 => ?_))
  obtain ⟨c, hc⟩ := sortedHeap_at (vs := vs) (out := out) hoL
  obtain ⟨L', e', hs'⟩ := back out.toList fun v hv => by
    obtain ⟨q, hq, e⟩ := List.mem_map.mp (pm.mem_iff.mp (c1.mem_iff.mp hv))
    exact ⟨q, hq, e.symm⟩
  have pL : L'.Perm L := permL L' hs' (by rw [← e']; exact c1.trans pm)
  have pw : L'.Pairwise (fun q z => rkP q.2 ≤ rkP z.2) := by
    rw [e'] at c2
    refine List.Pairwise.imp_of_mem (fun {q z} hq hz hle => ?_) (List.pairwise_map.mp c2)
    have f1 : _root_.TS.intsOf (s1.heap.push (seqObj "list" vs.toArray 0)) (.ref q.1) = q.2 := (tk q (hs' q hq)).ints
    have f2 : _root_.TS.intsOf (s1.heap.push (seqObj "list" vs.toArray 0)) (.ref z.1) = z.2 := (tk z (hs' z hz)).ints
    rw [← f1, ← f2]
    exact hle
  refine wpAny_pure ⟨_, rfl, hQ _ s1.heap.objs.size out c L' (fun b u e => ?_) gg oo hz hc e' pL pw⟩
  have q := kp b u e
  have hlt := Heap.lt_size q
  show (sortedHeap (s1.heap.push (seqObj "list" vs.toArray 0)) s1.heap.objs.size vs out).get? b = some u
  rw [sortedHeap_old (Nat.ne_of_lt hlt) (by rw [size_push']; exact Nat.lt_succ_of_lt hlt)]
  exact Heap.get?_push_of_some _ q
end
/-- sorted(set), pairs -/
def rSortP (K : PySem.W.Frag) (P : Program) (w : World) : List V → Hp → VK → Prop := fun vs H Q => ∃ (a : Addr) (L : List (Addr × List Int)), vs = [V.ref a] ∧ H a = some (SetTO P w a L) ∧ (∀ p ∈ L, SqT K H p.1 (p.2.map V.int)) ∧ (∀ p ∈ L, BdP p.2) ∧
  ∀ (L' : List (Addr × List Int)) (p : Addr), L'.Perm L → (L'.map (·.2)).Nodup → L'.length < 64 → L'.Pairwise (fun q r => rkP q.2 ≤ rkP r.2) → H p = none → Q (.ref p) (upd H p (.lst (L'.map fun q => V.ref q.1)))
theorem cr_sortP {X : Cx} (hc : X.calm = true) : CallR X (.builtin "sorted") (rSortP X.K X.prog X.w) := by
  intro pins s σ H vs us Q I r h
  obtain ⟨a, L, rfl, ha, hk, hB, q⟩ := h
  have R0 : SetT0 X.prog X.w s.heap a L := (I.hok a _ ha).1
  obtain ⟨es, ep, t, R⟩ := R0.full fun p hp => I.isT (hk p hp)
  rw [Vals.ref1 r]
  refine sorted_setP R (I.ok.hd hc) hB fun s' p out c L' kp gg oo hp hg hout pm pw => ?_
  have few : L'.length < 64 := by rw [pm.length_eq]; exact R.few
  have hlen : (L'.map fun q => V.ref q.1).length ≤ sizeLine := by rw [List.length_map, sizeLine_eq]; omega
  have hn : H p = none := I.hok.fresh hp
  have hv : Vals (L'.map fun q => V.ref q.1) out.toList := by rw [hout]; exact vals_of_refs L'
  have J : Inv X pins σ (upd H p (.lst (L'.map fun q => V.ref q.1))) { s with heap := s'.heap, gens := s'.gens, drawn := s'.drawn, toks := s'.toks } :=
    I.call (ch := []) (Un.laid kp hp hn) (I.hok.laid kp hp ⟨hlen, out.toList, c, hv, hg⟩) (by rw [gg]; exact I.bare) (fun _ z => nomatch z)
  have e : s' = { s with heap := s'.heap, gens := s'.gens, drawn := s'.drawn, toks := s'.toks } := by
    cases s'
    cases s
    cases oo
    rfl
  rw [e]
  exact ⟨.ref p, _, J, rfl, q L' p pm ((pm.map (·.2)).nodup_iff.mpr R.nd) few pw hn⟩
theorem eq_of_rank {α : Type} (f : α → Int) : ∀ {m l : List α}, l.Perm m → l.Pairwise (fun a b => f a ≤ f b) → m.Pairwise (fun a b => f a < f b) → l = m
  | [], l, h, _, _ => h.eq_nil
  | b :: m, [], h, _, _ => by have := h.length_eq; simp at this
  | b :: m, a :: l, h, h1, h2 => by
    have h1' := List.pairwise_cons.mp h1
    have h2' := List.pairwise_cons.mp h2
    by_cases e : a = b
    · subst e
      rw [eq_of_rank f ((List.perm_cons a).mp h) h1'.2 h2'.2]
    · exfalso
      have hb : b ∈ l := by
        have : b ∈ a :: l := h.mem_iff.mpr List.mem_cons_self
        rcases List.mem_cons.mp this with z | z
        · exact absurd z.symm e
        · exact z
      have ha : a ∈ m := by
        have : a ∈ b :: m := h.mem_iff.mp List.mem_cons_self
        rcases List.mem_cons.mp this with z | z
        · exact absurd z e
        · exact z
      have q1 := h1'.1 b hb
      have q2 := h2'.1 a ha
      omega
/-- where the pairs lie -/
theorem prs_rows {K : PySem.W.Frag} {R : Hp} : ∀ {ds : List PyData} {xs : List V} {ps : List (Int × Int)}, DnA K R xs ds → prsOf ds = some ps → ∃ ks : List (Addr × List Int), xs = ks.map (fun p => V.ref p.1) ∧ ks.map (·.2) = ps.map (fun p => [p.1, p.2]) ∧ ∀ p ∈ ks, SqT K R p.1 (p.2.map V.int)
  | [], _, ps, h, e => by
    cases h
    have e : some [] = some ps := e
    cases e
    exact ⟨[], rfl, rfl, fun p hp => (nomatch hp)⟩
  | d :: ds, _, ps, h, e => by
    cases h with
    | cons h1 h2 =>
      unfold prsOf at e
      split at e
      · rename_i heq
        cases heq
      · rename_i i j r heq
        cases heq
        cases q : prsOf ds with
        | none => rw [q] at e; cases e
        | some qs =>
          rw [q] at e
          have e : some ((i, j) :: qs) = some ps := e
          cases e
          obtain ⟨ks, e1, e2, e3⟩ := prs_rows h2 q
          cases h1 with
          | @tup a xs _ hs ha =>
            cases ha with
            | cons a1 a2 =>
              cases a2 with
              | cons a2 a3 =>
                cases a3
                cases a1
                cases a2
                refine ⟨(a, [i, j]) :: ks, by rw [e1]; rfl, by rw [List.map_cons, e2]; rfl, fun p hp => ?_⟩
                rcases List.mem_cons.mp hp with rfl | z
                · exact hs.sq
                · exact e3 p z
      · cases e
theorem de_ssp {X : Cx} {W : WX} {e : Expr} {p p2 pos pos2 : Pos} {fa : Ev → Res PyData} (hc : X.calm = true) (hu : X.A.units + 65 < cLine) (hg : Gl X "sorted") (hm : X.mg "sorted" = none) (hg2 : Gl X "set") (hm2 : X.mg "set" = none) (ha : PE X e (tD X.K W fa)) (hs : starEach [e] X.env = (false, eval e X.env) :: starEach [] X.env) :
    PE X (.Call (.Name "sorted" p) [.Call (.Name "set" p2) [e] [] pos2] [] pos) (tD X.K W fun env => fa env >>= fun x => recv .ssp x >>= fun _ => mtD .ssp x []) := by
  have hset : PE X (.Call (.Name "set" p2) [e] [] pos2) _ := pe_callTy (cr_setOfT hc (by omega)) hg2 hm2 boot_set (pa_cons ha pa_nil hs) (by decide) (by decide) hs rfl
  refine peImp (pe_callB (cr_sortP hc) hg hm boot_sorted (pa_cons hset pa_nil rfl) (by decide) (by decide) rfl rfl) fun σ H Q ⟨R, env, rel, hw⟩ => ?_
  refine ⟨R, env, rel, hw.split fun dx x H1 R1 e1 d1 h1 => ?_⟩
  have h1 : WantG X.K W σ (denV X.K) R1 H1 (mtD .ssp dx []) Q := h1
  cases d1 with
  | @lst a xs ds hl hd =>
    have h1 : WantG X.K W σ (denV X.K) R1 H1 (match prsOf ds with | some ps => guardR (rsP ps) (.list ds) | none => .stuck) Q := h1
    cases q : prsOf ds with
    | none => rw [q] at h1; exact False.elim h1
    | some ps =>
      rw [q] at h1
      obtain ⟨g, h1⟩ := WantG.guard h1
      unfold rsP at g
      simp only [Bool.and_eq_true, decide_eq_true_eq, List.all_eq_true] at g
      obtain ⟨⟨g1, g2⟩, g3⟩ := g
      obtain ⟨ks, rfl, ek, hk⟩ := prs_rows hd q
      have lk : ks.length = ps.length := by
        have := congrArg List.length ek
        simpa using this
      have bd : ∀ p ∈ ks, BdP p.2 := fun p hp => by
        have : p.2 ∈ ps.map (fun p => [p.1, p.2]) := by rw [← ek]; exact List.mem_map.mpr ⟨p, hp, rfl⟩
        obtain ⟨z, hz, e⟩ := List.mem_map.mp this
        exact ⟨z.1, z.2, e.symm, g2 z hz⟩
      have rk : ks.Pairwise (fun p q => rkP p.2 < rkP q.2) := by
        have : (ks.map fun q => rkP q.2).Pairwise (· < ·) := by
          have e : (ks.map fun q => rkP q.2) = ps.map (fun p => p.1 * 1000 + p.2) := by
            rw [show (fun q : Addr × List Int => rkP q.2) = rkP ∘ (·.2) from rfl, ← List.map_map, ek, List.map_map]; rfl
          rw [e, List.pairwise_map]
          refine List.Pairwise.imp_of_mem (fun {p q} hp hq h => ?_) g3
          have b1 := g2 p hp
          have b2 := g2 q hq
          omega
        exact List.pairwise_map.mp this
      have inj : ∀ p ∈ ks, ∀ z ∈ ks, p.2 = z.2 → p = z := by
        have key : ∀ l : List (Addr × List Int), l.Pairwise (fun p q => rkP p.2 < rkP q.2) → ∀ p ∈ l, ∀ z ∈ l, p.2 = z.2 → p = z := by
          intro l
          induction l with
          | nil => intro _ p hp; exact nomatch hp
          | cons a l ih =>
            intro hl p hp z hz e
            have hl' := List.pairwise_cons.mp hl
            rcases List.mem_cons.mp hp with y1 | y1 <;> rcases List.mem_cons.mp hz with y2 | y2
            · rw [y1, y2]
            · have := hl'.1 z y2; rw [← y1, e] at this; omega
            · have := hl'.1 p y1; rw [← y2, e] at this; omega
            · exact ih hl'.2 p y1 z y2 e
        exact key ks rk
      refine ⟨a, ks, rfl, .inl (Rd.mono e1.sub hl), fun p hp => SqT.mono e1.sub (hk p hp), by omega, fun S L hS hsub hall => ?_⟩
      have s2 : Same H1 (upd H1 S (SetTO X.prog X.w S L)) := same_upd hS
      refine ⟨S, L, rfl, upd_same, fun p hp => SqT.mono (e1.sub.trans s2) (hk p (hsub p hp)), fun p hp => bd p (hsub p hp), fun L' z pm nd few pw hz => ?_⟩
      have nks : ks.Nodup := rk.imp fun {p q} h e => by rw [e] at h; omega
      have eL : L' = ks := by
        have nL' : L'.Nodup := nodup_of_map nd
        refine eq_of_rank (fun p => rkP p.2) ((List.perm_ext_iff_of_nodup nL' nks).mpr fun p => ⟨fun hp => hsub p (pm.mem_iff.mp hp), fun hp => ?_⟩) pw rk
        obtain ⟨y, hy, e⟩ := List.mem_map.mp (hall p hp)
        rw [← inj y (hsub y hy) p hp e]
        exact pm.mem_iff.mpr hy
      subst eL
      exact (WantG.ext h1 (Ext.beside e1.sub s2)).newL (e1.sub.trans s2) hd hz
  | _ => exact False.elim h1
end Z
end
section
/-! Z6d: count and index of lists. -/
namespace Z
open PySem PySem.Spec PyProof.Rows L2
section
variable {X : Cx} {W : WX}
def rCntD (K : PySem.W.Frag) : V → List V → Hp → VK → Prop := fun x xs H Q => ∃ (y : V) (d : PyData) (ds : List PyData), xs = [y] ∧ Dp K H x (.list ds) ∧ Dp K H y d ∧ inOk ds d = true ∧ Q (.int (ds.countP fun z => PyData.eqv z d : Nat)) H
theorem mt_countD (hu : X.A.units + 65 < cLine) : MtR X "list.count" (rCntD X.K) := by
  intro pins s σ H x xs v us Q I rx rxs h
  obtain ⟨y, d, ds, rfl, hx, hy, ok, q⟩ := h
  obtain ⟨u, rfl, ry⟩ := rxs.one
  obtain ⟨o1, o2, o3⟩ := inOk_ ok
  obtain ⟨as, r1⟩ := Dp.reads I d y u hy ry
  obtain ⟨bs, r2⟩ := Dp.reads I (.list ds) x v hx rx
  have room : X.A.units + 1 + min (PyData.depthAll ds) d.depth < cLine := by have := Nat.min_le_right (PyData.depthAll ds) d.depth; omega
  cases r2 with
  | list h1 h2 h3 h4 =>
    exact SeqAt.count_list_data ⟨_, h1, h2, _, h3⟩ h4 r1 (PyData.plainAll_of_canLay0 ds o1) (PyData.plain_of_canLay0 d o2) room ⟨.int _, H, I.tok _, ⟨_, rfl⟩, q⟩
def rIdxD (K : PySem.W.Frag) : V → List V → Hp → VK → Prop := fun x xs H Q => ∃ (y : V) (d : PyData) (ds : List PyData) (j : Nat), xs = [y] ∧ Dp K H x (.list ds) ∧ Dp K H y d ∧ inOk ds d = true ∧ SeqAt.dataPlace ds d = some j ∧ Q (.int (j : Nat)) H
theorem DpAll_len {K : PySem.W.Frag} {H : Hp} : ∀ {ds : List PyData} {vs : List V}, DpAll K H vs ds → vs.length = ds.length
  | [], _, h => by cases h; rfl
  | _ :: ds, _, h => by
    cases h with
    | cons _ h2 => simp [DpAll_len h2]
theorem mt_indexD (hu : X.A.units + 65 < cLine) : MtR X "list.index" (rIdxD X.K) := by
  intro pins s σ H x xs v us Q I rx rxs h
  obtain ⟨y, d, ds, j, rfl, hx, hy, ok, hj, q⟩ := h
  obtain ⟨u, rfl, ry⟩ := rxs.one
  obtain ⟨o1, o2, o3⟩ := inOk_ ok
  obtain ⟨as, r1⟩ := Dp.reads I d y u hy ry
  have hxs := hx
  obtain ⟨bs, r2⟩ := Dp.reads I (.list ds) x v hx rx
  have room : X.A.units + 1 + min (PyData.depthAll ds) d.depth < cLine := by have := Nat.min_le_right (PyData.depthAll ds) d.depth; omega
  have hz : ds.length ≤ sizeLine := by
    cases hxs with
    | lst hs ha =>
      obtain ⟨its, r, pl, hz⟩ := I.list hs
      have := DpAll_len ha
      omega
  cases r2 with
  | @list l o its n _ _ h1 h2 h3 h4 =>
    obtain ⟨cls, dd, data, sl⟩ := o
    have h2 : cls = .type "list" := h2
    have h3 : data = .seq its n := h3
    subst h2 h3
    have pa := PyData.plainAll_of_canLay0 ds o1
    obtain ⟨hjl, hit, hno⟩ := SeqAt.hit_at h4 pa hj
    have hl := SeqAt.len_at h4
    refine call_meets F.slot_list_index ⟨_, h1, rfl⟩ F.entry_list_index (F.args_list_index_2 _ _) (SeqAt.list_indexAt _ its n dd sl u _ j hjl (by rw [sizeLine_eq] at hz; omega) hit hno) ⟨h1, SeqAt.items_plain h4 r1 pa (PyData.plain_of_canLay0 d o2) room, ?_⟩
    exact ⟨.int _, H, I.tok _, ⟨_, rfl⟩, q⟩
theorem idx_place (d : PyData) : ∀ ds : List PyData, idxOf d ds = SeqAt.dataPlace ds d
  | [] => rfl
  | x :: r => by
    unfold idxOf SeqAt.dataPlace
    rw [List.findIdx?_cons, idx_place d r]
    rfl
theorem plainB_ {o : Expr} (h : plainB o = true) (name : Str) (env : PySem.Env) : attributeBase o name env (eval o env) = eval o env := by
  unfold attributeBase
  split
  · cases h
  · rfl
/-! ### a method of a list or of a tuple -/
def IsSqV (K : PySem.W.Frag) (b : Bool) (x : V) (H : Hp) : Prop := match b with
  | true => ∃ p xs, x = .ref p ∧ Rd H p (.lst xs)
  | false => ∃ p xs, x = .ref p ∧ TpN K H p xs
theorem isSq_ty {pins : List (Addr × Obj)} {σ : L2.St} {H : Hp} {st : Shared} {b : Bool} {x : V} {v : Value} (inv : Inv X pins σ H st) (rv : RelV x v) (h : IsSqV X.K b x H) : st.TypeIs v (if b then "list" else "tuple") ∧ ∀ a, v = .ref a → ∃ ob, st.heap.get? a = some ob ∧ ob.dict = none := by
  cases b with
  | true =>
    obtain ⟨p, xs, rfl, hp⟩ := h
    exact tyV_is (T := "list") inv rv (.inl ⟨rfl, xs, .inl hp⟩)
  | false =>
    obtain ⟨p, xs, rfl, hp⟩ := h
    cases rv
    obtain ⟨_, _, tp, _⟩ := inv.tuple hp.sq
    refine ⟨tp.typeIs, fun a e => ?_⟩
    cases e
    rcases hp with ⟨o, ho, hp⟩ | ⟨o, _, _, ⟨hk, ho⟩, _⟩
    · exact ⟨o, (inv.hok p _ hp).1, ho⟩
    · exact ⟨o, inv.kIn p o hk, ho⟩
theorem pe_sqm {idl idt : String} {name : Str} {rl rt : V → List V → Hp → VK → Prop} {o e : Expr} {apos cpos : Pos} {to te : TE} (sl : Slot "list" name idl) (stt : Slot "tuple" name idt) (tl : typeOf (.builtin idl) = pure (.type "method_descriptor")) (tt : typeOf (.builtin idt) = pure (.type "method_descriptor")) (ml : MtR X idl rl) (mt : MtR X idt rt) (hb : plainB o = true) (hl : (apos.endLine == cpos.line) = true) (ho : PE X o to) (he : PE X e te) (hs : starEach [e] X.env = (false, eval e X.env) :: starEach [] X.env) :
    PE X (.Call (.Attribute o name apos) [e] [] cpos) (fun σ H Q => to σ H fun x H1 => (IsSqV X.K true x H1 ∧ tCons te tNil σ H1 fun ys H2 => rl x ys H2 Q) ∨ (IsSqV X.K false x H1 ∧ tCons te tNil σ H1 fun ys H2 => rt x ys H2 Q)) := by
  have few : ((backTo cpos (starEach [e] X.env)).all (fun x => !x.1) && (backToKw cpos (keywordEach [] X.env)).all (fun x => x.1.isSome) && decide ([e].length + ([] : List Keyword).length + (if ([] : List Keyword).isEmpty then 0 else 1) < 30)) = true := by rw [hs]; rfl
  refine ⟨fun pins st σ H Q inv want => ?_⟩
  refine wpAny_Call_method_late (plainB_ hb _ _) few hl rfl (thn (ho.run pins st σ H _ inv want) fun v s1 ⟨x, H1, I1, r1, q1⟩ => ?_)
  have pa : PA X [e] (tCons te tNil) := pa_cons he pa_nil hs
  rcases q1 with ⟨ty, q1⟩ | ⟨ty, q1⟩
  · obtain ⟨k1, k2⟩ := isSq_ty I1 r1 ty
    refine ⟨"list", idl, PySem.F.plainAttrs_list, sl, tl, k1, k2, ?_⟩
    have run := pa.run cpos pins s1 σ H1 _ I1 q1
    rw [hs] at run ⊢
    refine Calls.callWith_builtin rfl (Calls.evalArgs_plain ?_)
    exact thn run fun us s2 ⟨vs, H2, I2, r2, q2⟩ => ml pins s2 σ H2 x vs v us Q I2 r1 r2 q2
  · obtain ⟨k1, k2⟩ := isSq_ty I1 r1 ty
    refine ⟨"tuple", idt, PySem.F.plainAttrs_tuple, stt, tt, k1, k2, ?_⟩
    have run := pa.run cpos pins s1 σ H1 _ I1 q1
    rw [hs] at run ⊢
    refine Calls.callWith_builtin rfl (Calls.evalArgs_plain ?_)
    exact thn run fun us s2 ⟨vs, H2, I2, r2, q2⟩ => mt pins s2 σ H2 x vs v us Q I2 r1 r2 q2
def rCntT (K : PySem.W.Frag) : V → List V → Hp → VK → Prop := fun x xs H Q => ∃ (y : V) (d : PyData) (ds : List PyData), xs = [y] ∧ Dp K H x (.tuple ds) ∧ Dp K H y d ∧ inOk ds d = true ∧ Q (.int (ds.countP fun z => PyData.eqv z d : Nat)) H
theorem mt_countT (hu : X.A.units + 65 < cLine) : MtR X "tuple.count" (rCntT X.K) := by
  intro pins st σ H x xs v us Q inv rx rxs want
  obtain ⟨y, d, ds, rfl, hx, hy, ok, q⟩ := want
  obtain ⟨u, rfl, ry⟩ := rxs.one
  obtain ⟨o1, o2, o3⟩ := inOk_ ok
  obtain ⟨as, r1⟩ := Dp.reads inv d y u hy ry
  obtain ⟨bs, r2⟩ := Dp.reads inv (.tuple ds) x v hx rx
  have room : X.A.units + 1 + min (PyData.depthAll ds) d.depth < cLine := by have := Nat.min_le_right (PyData.depthAll ds) d.depth; omega
  cases r2 with
  | tuple h1 h2 h3 h4 =>
    exact SeqAt.count_tuple_data ⟨_, h1, h2, _, h3⟩ h4 r1 (PyData.plainAll_of_canLay0 ds o1) (PyData.plain_of_canLay0 d o2) room ⟨.int _, H, inv.tok _, ⟨_, rfl⟩, q⟩
def rIdxT (K : PySem.W.Frag) : V → List V → Hp → VK → Prop := fun x xs H Q => ∃ (y : V) (d : PyData) (ds : List PyData) (j : Nat), xs = [y] ∧ Dp K H x (.tuple ds) ∧ Dp K H y d ∧ inOk ds d = true ∧ SeqAt.dataPlace ds d = some j ∧ Q (.int (j : Nat)) H
theorem mt_indexT (hu : X.A.units + 65 < cLine) : MtR X "tuple.index" (rIdxT X.K) := by
  intro pins st σ H x xs v us Q inv rx rxs want
  obtain ⟨y, d, ds, j, rfl, hx, hy, ok, hj, q⟩ := want
  obtain ⟨u, rfl, ry⟩ := rxs.one
  obtain ⟨o1, o2, o3⟩ := inOk_ ok
  obtain ⟨as, r1⟩ := Dp.reads inv d y u hy ry
  obtain ⟨bs, r2⟩ := Dp.reads inv (.tuple ds) x v hx rx
  have room : X.A.units + 1 + min (PyData.depthAll ds) d.depth < cLine := by have := Nat.min_le_right (PyData.depthAll ds) d.depth; omega
  cases r2 with
  | @tuple l o its n _ _ h1 h2 h3 h4 =>
    obtain ⟨cls, dd, data, slt⟩ := o
    have h2 : cls = .type "tuple" := h2
    have h3 : data = .seq its n := h3
    subst h2 h3
    have pa := PyData.plainAll_of_canLay0 ds o1
    obtain ⟨hjl, hit, hno⟩ := SeqAt.hit_at h4 pa hj
    refine call_meets F.slot_tuple_index ⟨_, h1, rfl⟩ F.entry_tuple_index (F.args_tuple_index_2 _ _) (TI.tuple_indexAt _ its n dd slt u _ j hjl hit hno) ⟨h1, SeqAt.items_plain h4 r1 pa (PyData.plain_of_canLay0 d o2) room, ?_⟩
    exact ⟨.int _, H, inv.tok _, ⟨_, rfl⟩, q⟩
/-- o.m(e), m told of lists and of tuples alike -/
theorem de_mt {m : Mth} {idl idt : String} {name : Str} {rl rt : V → List V → Hp → VK → Prop} {o e : Expr} {apos cpos : Pos} {fo fe : Ev → Res PyData} (sl : Slot "list" name idl) (stt : Slot "tuple" name idt) (tl : typeOf (.builtin idl) = pure (.type "method_descriptor")) (tt : typeOf (.builtin idt) = pure (.type "method_descriptor")) (ml : MtR X idl rl) (mt : MtR X idt rt) (hb : plainB o = true) (hl : (apos.endLine == cpos.line) = true)
    (hr : ∀ d, (∃ ds, (d = .list ds ∨ d = .tuple ds) ∧ recv m d = .ok ()) ∨ recv m d = .stuck)
    (hL : ∀ (σ : L2.St) (R H : Hp) (x y : V) (ds : List PyData) (dy : PyData) (Q : VK), Same R H → Dn X.K R x (.list ds) → Dn X.K R y dy → WantG X.K W σ (denV X.K) R H (mtD m (.list ds) [dy]) Q → rl x [y] H Q)
    (hT : ∀ (σ : L2.St) (R H : Hp) (x y : V) (ds : List PyData) (dy : PyData) (Q : VK), Same R H → Dn X.K R x (.tuple ds) → Dn X.K R y dy → WantG X.K W σ (denV X.K) R H (mtD m (.tuple ds) [dy]) Q → rt x [y] H Q)
    (ho : PE X o (tD X.K W fo)) (he : PE X e (tD X.K W fe)) (hs : starEach [e] X.env = (false, eval e X.env) :: starEach [] X.env) :
    PE X (.Call (.Attribute o name apos) [e] [] cpos) (tD X.K W fun env => fo env >>= fun x => recv m x >>= fun _ => fe env >>= fun y => mtD m x [y]) := by
  refine peImp (pe_sqm sl stt tl tt ml mt hb hl ho he hs) fun σ H Q ⟨R, env, rel, hw⟩ => ?_
  refine ⟨R, env, rel, hw.split fun dx x H1 R1 e1 d1 h1 => ?_⟩
  rcases hr dx with ⟨ds, hd, e⟩ | e
  · rw [e] at h1
    have h1 : WantG X.K W σ (denV X.K) R1 H1 (fe env >>= fun y => mtD m dx [y]) Q := h1
    rcases hd with rfl | rfl
    · refine .inl ⟨?_, R1, env, rel.ext e1, h1.split fun dy y H2 R2 e2 d2 h2 => hL σ R2 H2 _ y ds dy Q e2.sub (Dn.mono e2.r _ _ d1) d2 h2⟩
      cases d1 with
      | lst hls ha => exact ⟨_, _, rfl, Rd.mono e1.sub hls⟩
    · refine .inr ⟨?_, R1, env, rel.ext e1, h1.split fun dy y H2 R2 e2 d2 h2 => hT σ R2 H2 _ y ds dy Q e2.sub (Dn.mono e2.r _ _ d1) d2 h2⟩
      cases d1 with
      | tup hls ha => exact ⟨_, _, rfl, hls.mono e1.sub⟩
  · rw [e] at h1
    exact False.elim h1
theorem de_index {o e : Expr} {apos cpos : Pos} {fo fe : Ev → Res PyData} (hu : X.A.units + 65 < cLine) (hb : plainB o = true) (hl : (apos.endLine == cpos.line) = true) (ho : PE X o (tD X.K W fo)) (he : PE X e (tD X.K W fe)) (hs : starEach [e] X.env = (false, eval e X.env) :: starEach [] X.env)
    : PE X (.Call (.Attribute o "index" apos) [e] [] cpos) (tD X.K W fun env => fo env >>= fun x => recv .index x >>= fun _ => fe env >>= fun y => mtD .index x [y]) := by
  have go : ∀ (σ : L2.St) (R H : Hp) (ds : List PyData) (dy : PyData) (Q : VK), Same R H → WantG X.K W σ (denV X.K) R H (if inOk ds dy then (match idxOf dy ds with | some j => .ok (.int j) | none => .stuck) else .stuck) Q → ∃ j, inOk ds dy = true ∧ SeqAt.dataPlace ds dy = some j ∧ Q (.int (j : Nat)) H := by
    intro σ R H ds dy Q s hw
    cases g : inOk ds dy with
    | false => rw [g] at hw; exact False.elim hw
    | true =>
      rw [g, if_pos rfl] at hw
      cases q : idxOf dy ds with
      | none => rw [q] at hw; exact False.elim hw
      | some j =>
        rw [q] at hw
        exact ⟨j, rfl, by rw [← idx_place]; exact q, WantG.val hw s (.int _)⟩
  refine de_mt PySem.F.slot_list_index PySem.F.slot_tuple_index PySem.F.type_list_index PySem.F.type_tuple_index (mt_indexD hu) (mt_indexT hu) hb hl (fun d => ?_) (fun σ R H x y ds dy Q s hx hy hw => ?_) (fun σ R H x y ds dy Q s hx hy hw => ?_) ho he hs
  · cases d with
    | list ds => exact .inl ⟨ds, .inl rfl, rfl⟩
    | tuple ds => exact .inl ⟨ds, .inr rfl, rfl⟩
    | _ => exact .inr rfl
  · obtain ⟨j, g, p, q⟩ := go σ R H ds dy Q s hw
    exact ⟨y, dy, ds, j, rfl, Dn.dpH s hx (layLd (inOk_l g).1), Dn.dpH s hy (inOk_l g).2, g, p, q⟩
  · obtain ⟨j, g, p, q⟩ := go σ R H ds dy Q s hw
    exact ⟨y, dy, ds, j, rfl, Dn.dpH s hx (layTd (inOk_l g).1), Dn.dpH s hy (inOk_l g).2, g, p, q⟩
theorem de_count {o e : Expr} {apos cpos : Pos} {fo fe : Ev → Res PyData} (hu : X.A.units + 65 < cLine) (hb : plainB o = true) (hl : (apos.endLine == cpos.line) = true) (ho : PE X o (tD X.K W fo)) (he : PE X e (tD X.K W fe)) (hs : starEach [e] X.env = (false, eval e X.env) :: starEach [] X.env)
    : PE X (.Call (.Attribute o "count" apos) [e] [] cpos) (tD X.K W fun env => fo env >>= fun x => recv .count x >>= fun _ => fe env >>= fun y => mtD .count x [y]) := by
  refine de_mt PySem.F.slot_list_count PySem.F.slot_tuple_count PySem.F.type_list_count PySem.F.type_tuple_count (mt_countD hu) (mt_countT hu) hb hl (fun d => ?_) (fun σ R H x y ds dy Q s hx hy hw => ?_) (fun σ R H x y ds dy Q s hx hy hw => ?_) ho he hs
  · cases d with
    | list ds => exact .inl ⟨ds, .inl rfl, rfl⟩
    | tuple ds => exact .inl ⟨ds, .inr rfl, rfl⟩
    | _ => exact .inr rfl
  · have hw : WantG X.K W σ (denV X.K) R H (guardR (inOk ds dy) (.int (ds.countP fun z => PyData.eqv z dy : Nat))) Q := hw
    obtain ⟨g, hw⟩ := hw.guard
    exact ⟨y, dy, ds, rfl, Dn.dpH s hx (layLd (inOk_l g).1), Dn.dpH s hy (inOk_l g).2, g, hw.val s (.int _)⟩
  · have hw : WantG X.K W σ (denV X.K) R H (guardR (inOk ds dy) (.int (ds.countP fun z => PyData.eqv z dy : Nat))) Q := hw
    obtain ⟨g, hw⟩ := hw.guard
    exact ⟨y, dy, ds, rfl, Dn.dpH s hx (layTd (inOk_l g).1), Dn.dpH s hy (inOk_l g).2, g, hw.val s (.int _)⟩
end
end Z
end
section
/-! Z7b: written dicts asked at once, chains of three, a def out of a row of defs. -/
namespace Z
open PySem PySem.Spec PyProof.Rows L2
variable {C : Nat → List PyData → Res PyData}
/-! ### {..}[k] -/
theorem chkKs_len : ∀ {ks : List Str} {es : List (Option Expr)}, chkKs ks es = true → es.length = ks.length
  | [], [], _ => rfl
  | [], _ :: _, h => by simp [chkKs] at h
  | _ :: _, [], h => by simp [chkKs] at h
  | k :: ks, none :: es, h => by simp [chkKs] at h
  | k :: ks, some e :: es, h => by
    cases e with
    | Constant c j p =>
      cases c with
      | str x =>
        rw [chkKs, Bool.and_eq_true] at h
        simp [chkKs_len h.2]
      | _ => simp [chkKs] at h
    | _ => simp [chkKs] at h
/-- the pairs of a written dict -/
def PD (X : Cx) (W : WX) (C : Nat → List PyData → Res PyData) (xs : Es) (es : List Expr) : Prop := ∀ (pos : Pos) (ks : List Str) (keys : List (Option Expr)), chkKs ks keys = true → keys.length = es.length →
  ∃ trs, PPs X pos keys es trs ∧ ∀ (σ : L2.St) (H : Hp) (Q : List (V × V) → Hp → Prop) (R : Hp) (env : Ev), Rel X.K R H σ env → WantG X.K W σ (denL X.K) R H (evs C env xs) (fun vs H' => Q ((ks.map V.str).zip vs) H') → tPairs trs σ H Q
section
variable {X : Cx} {W : WX}
theorem pd_nil : PD X W C .nil [] := by
  intro pos ks keys hk hl
  have : keys = [] := by cases keys with | nil => rfl | cons a r => simp at hl
  subst this
  refine ⟨[], pps_nil, fun σ H Q R env rel hw => ?_⟩
  have := hw [] H R (Ext.refl rel.sub) .nil
  cases ks with
  | nil => exact this
  | cons k r => simp [chkKs] at hk
theorem pd_cons {a : E} {r : Es} {e : Expr} {es : List Expr} (h1 : PE X e (tD X.K W fun env => ev C env a)) (h2 : PD X W C r es) : PD X W C (.cons a r) (e :: es) := by
  intro pos ks keys hk hl
  match ks, keys, hk, hl with
  | [], [], _, hl => simp at hl
  | [], _ :: _, hk, _ => simp [chkKs] at hk
  | _ :: _, [], hk, _ => simp [chkKs] at hk
  | k :: ks, none :: keys, hk, hl => simp [chkKs] at hk
  | k :: ks, some ke :: keys, hk, hl =>
    cases ke with
    | Constant c j p =>
      cases c with
      | str x =>
        rw [chkKs, Bool.and_eq_true, decide_eq_true_eq] at hk
        obtain ⟨rfl, hk⟩ := hk
        obtain ⟨trs, hp, hw0⟩ := h2 pos ks keys hk (by simpa using hl)
        refine ⟨_, pps_cons pe_str h1 hp, fun σ H Q R env rel hw => ?_⟩
        have hw : WantG X.K W σ (denL X.K) R H (ev C env a >>= fun x => evs C env r >>= fun xs => .ok (x :: xs)) (fun vs H' => Q (((x :: ks).map V.str).zip vs) H') := hw
        refine ⟨R, env, rel, hw.split fun d v H1 R1 e1 n1 h1 => hw0 σ H1 _ R1 env (rel.ext e1) (h1.split fun ds vs H2 R2 e2 n2 h2 => ?_)⟩
        exact h2 (v :: vs) H2 R2 (Ext.refl e2.sub) (.cons (Dn.mono e2.r _ _ n1) n2)
      | _ => simp [chkKs] at hk
    | _ => simp [chkKs] at hk
theorem merge_val : ∀ (kvs acc : List (Key × V)) (k : Key), (kvs.map (·.1)).Nodup → (∀ p ∈ kvs, valV acc p.1 = none) → valV (mergeK acc kvs) k = (valV kvs k).or (valV acc k)
  | [], acc, k, _, _ => by simp [mergeK, valV_nil]
  | p :: r, acc, k, hn, ha => by
    obtain ⟨h1, h2⟩ := List.nodup_cons.mp hn
    have e : mergeK acc (p :: r) = mergeK (putK acc p.1 p.2) r := rfl
    rw [e, merge_val r (putK acc p.1 p.2) k h2 fun q hq => ?_]
    · rw [valV_put]
      by_cases c : k = p.1
      · subst c
        rw [if_pos rfl, valV_pos rfl]
        have : valV r p.1 = none := by
          unfold valV
          rw [List.find?_eq_none.mpr]
          · rfl
          · intro q hq
            have : q.1 ≠ p.1 := fun z => h1 (List.mem_map.mpr ⟨q, hq, z⟩)
            simpa using this
        rw [this]; rfl
      · rw [if_neg c, valV_neg (fun z => c z.symm)]
    · rw [valV_put, if_neg]
      · exact ha q (List.mem_cons_of_mem _ hq)
      · intro z
        exact h1 (List.mem_map.mpr ⟨q, hq, z⟩)
theorem look_val {K : PySem.W.Frag} {R : Hp} : ∀ {ks : List Str} {vs : List V} {ds : List PyData} {z : Str} {d : PyData}, DnA K R vs ds → lookS z ks ds = .ok d → ∃ v, valV (((ks.map Sum.inr : List Key)).zip vs) (Sum.inr z) = some v ∧ Dn K R v d
  | [], _, _, _, _, _, h => by simp [lookS] at h
  | k :: ks, _, [], _, _, hd, h => by simp [lookS] at h
  | k :: ks, _, d0 :: ds, z, d, hd, h => by
    cases hd with
    | cons h1 h2 =>
      rename_i v vs
      have h : (if z = k then Res.ok d0 else lookS z ks ds) = .ok d := h
      by_cases c : z = k
      · rw [if_pos c] at h
        cases h
        subst c
        exact ⟨v, valV_pos rfl, h1⟩
      · rw [if_neg c] at h
        obtain ⟨w, e, n⟩ := look_val h2 h
        refine ⟨w, ?_, n⟩
        show valV ((Sum.inr k, v) :: ((ks.map Sum.inr : List Key)).zip vs) (Sum.inr z) = some w
        rw [valV_neg (fun q => c (by cases q; rfl))]
        exact e
theorem lookS_noexc : ∀ {ks : List Str} {ds : List PyData} {z : Str} {c : Nat}, lookS z ks ds ≠ .exc c
  | [], _, _, _ => by intro h; simp [lookS] at h
  | k :: ks, [], _, _ => by intro h; simp [lookS] at h
  | k :: ks, d :: ds, z, c => by
    intro h
    have h : (if z = k then Res.ok d else lookS z ks ds) = .exc c := h
    split at h
    · cases h
    · exact lookS_noexc h
theorem zip_kV : ∀ (ks : List Str) (vs : List V), (ks.map V.str).zip vs = (((ks.map Sum.inr : List Key)).zip vs).map fun kv => (kV kv.1, kv.2)
  | [], _ => rfl
  | _ :: _, [] => rfl
  | k :: ks, v :: vs => by
    simp only [List.map_cons, List.zip_cons_cons]
    rw [zip_kV ks vs]
    rfl
theorem fst_sub {α β : Type} : ∀ (l : List α) (m : List β), ((l.zip m).map (·.1)).Sublist l
  | [], _ => List.Sublist.refl _
  | a :: l, [] => List.nil_sublist _
  | a :: l, b :: m => List.Sublist.cons₂ _ (fst_sub l m)
theorem de_dg {ks : List Str} {vs : Es} {k : E} {keys : List (Option Expr)} {vals : List Expr} {ke : Expr} {p1 pos : Pos} (hu : X.A.units + 65 < cLine) (hn : ks.Nodup) (h0 : ks ≠ []) (h15 : ks.length ≤ 15) (hk : chkKs ks keys = true) (hl : keys.length = vals.length) (hs : isSlice ke = false) (hv : PD X W C vs vals) (he : PE X ke (tD X.K W fun env => ev C env k)) :
    PE X (.Subscript (.Dict keys vals p1) ke pos) (tD X.K W fun env => ev C env (.dg ks vs k)) := by
  obtain ⟨trs, hp, hw0⟩ := hv p1 ks keys hk hl
  have kl := chkKs_len hk
  have hall : keys.all (·.isSome) = true := by
    clear hw0 hp he hv hl kl h0 h15 hn
    induction keys generalizing ks with
    | nil => rfl
    | cons a r ih =>
      cases ks with
      | nil => simp [chkKs] at hk
      | cons x q =>
        cases a with
        | none => simp [chkKs] at hk
        | some e =>
          cases e with
          | Constant c j p =>
            cases c with
            | str y =>
              rw [chkKs, Bool.and_eq_true] at hk
              simp only [List.all_cons, Option.isSome_some, Bool.true_and]
              exact ih hk.2
            | _ => simp [chkKs] at hk
          | _ => simp [chkKs] at hk
  refine peImp (pe_dget (by omega) (pe_disp hp hall hl (fun z => h0 (by rw [z] at kl; exact List.length_eq_zero_iff.mp kl.symm)) (by omega)) he (plainIx hs)) fun σ H Q ⟨R, env, rel, hw⟩ => ?_
  have hw : WantG X.K W σ (denV X.K) R H (evs C env vs >>= fun ds => ev C env k >>= fun x => (match x with | .str z => lookS z ks ds | _ => .stuck)) Q := hw
  intro p hpn
  have ex0 : Ext R H R (upd H p (.dK [])) := Ext.beside rel.sub (same_upd hpn)
  refine hw0 σ _ _ R env (rel.ext ex0) ?_
  revert hw
  cases evs C env vs with
  | stuck => exact fun hw => hw
  | exc c => exact fun hw H' R' e => hw H' R' (ex0.trans e)
  | ok ds =>
    intro hw ws H2 R2 e2 dn
    have hw : WantG X.K W σ (denV X.K) R H (ev C env k >>= fun x => (match x with | .str z => lookS z ks ds | _ => .stuck)) Q := hw
    have hp2 : H2 p = some (.dK []) := e2.h p _ (upd_same ..)
    have r2p : R2 p = none := by
      cases q : R2 p with
      | none => rfl
      | some o =>
        rcases e2.new p o q with z | z
        · rw [rel.sub.free hpn] at z; cases z
        · rw [upd_same] at z; cases z
    refine ⟨hp2, ((ks.map Sum.inr : List Key)).zip ws, zip_kV ks ws, ?_, ?_⟩
    · rw [List.length_zip, List.length_map]; omega
    · generalize hD : HO.dK (mergeK [] (((ks.map Sum.inr : List Key)).zip ws)) = D0
      have ex : Ext R H R2 (upd H2 p D0) := by
        refine ⟨e2.r, fun a o e => ?_, fun a o e => ?_, fun a o e => ?_⟩
        · have : a ≠ p := fun z => by rw [z, r2p] at e; cases e
          rw [upd_ne this]; exact e2.sub a o e
        · have : a ≠ p := fun z => by rw [z, hpn] at e; cases e
          rw [upd_ne this]; exact e2.h a o (by rw [upd_ne this]; exact e)
        · rcases e2.new a o e with z | z
          · exact .inl z
          · have : a ≠ p := fun q => by rw [q, upd_same] at z; cases z
            rw [upd_ne this] at z
            exact .inr z
      refine ⟨R2, env, rel.ext ex, (hw.ext ex).split fun dx x H3 R3 e3 d3 h3 => ?_⟩
      cases d3 with
      | str z =>
        have h3 : WantG X.K W σ (denV X.K) R3 H3 (lookS z ks ds) Q := h3
        cases q : lookS z ks ds with
        | stuck => rw [q] at h3; exact h3.elim
        | exc c => exact absurd q lookS_noexc
        | ok d =>
          rw [q] at h3
          obtain ⟨v, ev0, nv⟩ := look_val dn q
          have hp3 : H3 p = some D0 := e3.h p _ (upd_same ..)
          refine ⟨p, v, rfl, ?_, h3 v H3 R3 (Ext.refl e3.sub) (Dn.mono e3.r _ _ nv)⟩
          have hm := merge_val (((ks.map Sum.inr : List Key)).zip ws) [] (Sum.inr z) (by
            have : ((((ks.map Sum.inr : List Key)).zip ws).map (·.1)).Sublist (ks.map Sum.inr : List Key) := by
              exact fst_sub _ _
            refine List.Nodup.sublist this ?_
            exact List.Pairwise.map _ (fun a b (h : a ≠ b) hab => h (by cases hab; rfl)) hn) (fun _ _ => rfl)
          rw [ev0] at hm
          have := DGet.k (H := H3) (a := p) (k := (Sum.inr z : Key)) (kvs := mergeK [] (((ks.map Sum.inr : List Key)).zip ws)) (by rw [hp3, ← hD])
          rw [hm] at this
          exact this
      | _ => exact h3.elim
/-! ### a op b op c op d -/
def tCh3 (r r' r'' : R2) (ta tb tc td : TE) : TE := fun σ H Q => ta σ H fun x H1 => tb σ H1 fun y H2 => r x y H2 fun z H3 => ∃ k, z = .bl k ∧
  (if k = true then tc σ H3 fun u H4 => r' y u H4 fun z H5 => ∃ k, z = .bl k ∧ (if k = true then td σ H5 fun w H6 => r'' u w H6 Q else Q (.bl false) H5) else Q (.bl false) H3)
theorem pe_ch3 {a b c d : Expr} {ta tb tc td : TE} {o1 o2 o3 : CmpOp} {r r' r'' : R2} {pos : Pos} (h1 : OpR X (compareOp o1) r) (h2 : OpR X (compareOp o2) r') (h3 : OpR X (compareOp o3) r'') (ha : PE X a ta) (hb : PE X b tb) (hc : PE X c tc) (hd : PE X d td)
    (hm : lastMarks [o1, o2, o3] [b, c, d] = false) : PE X (.Compare a [o1, o2, o3] [b, c, d] pos) (tCh3 r r' r'' ta tb tc td) := by
  refine ⟨fun pins st σ H Q I hw => Compare_chain (thn (ha.run pins st σ H _ I hw) fun va s1 ⟨xa, G1, J1, ra, w1⟩ => chain_link (thn (hb.run pins s1 σ G1 _ J1 w1) fun vb s2 ⟨xb, G2, J2, rb, w2⟩ => thn (h1 pins s2 σ G2 xa xb va vb _ J2 ra rb w2) fun t1 s3 ⟨y1, G3, J3, r1, k1, e1, w3⟩ => ?_)) hm⟩
  subst e1
  cases r1
  refine wpAny_truthy_bool ?_
  cases k1 with
  | false => exact ite_ff ⟨.bl false, G3, J3, rfl, w3⟩
  | true =>
    refine ite_tt (chain_link (thn (hc.run pins s3 σ G3 _ J3 w3) fun vc s4 ⟨xc, G4, J4, rc, w4⟩ => thn (h2 pins s4 σ G4 xb xc vb vc _ J4 rb rc w4) fun t2 s5 ⟨y2, G5, J5, r2, k2, e2, w5⟩ => ?_))
    subst e2
    cases r2
    refine wpAny_truthy_bool ?_
    cases k2 with
    | false => exact ite_ff ⟨.bl false, G5, J5, rfl, w5⟩
    | true => exact ite_tt (chain_last (thn (hd.run pins s5 σ G5 _ J5 w5) fun vd s6 ⟨xd, G6, J6, rd, w6⟩ => h3 pins s6 σ G6 xc xd vc vd Q J6 rc rd w6))
theorem pt_ch3 {a b c d : Expr} {ta tb tc td : TE} {o1 o2 o3 : CmpOp} {r r' r'' : R2} {pos : Pos} (h1 : OpR X (compareOp o1) r) (h2 : OpR X (compareOp o2) r') (h3 : OpR X (compareOp o3) r'') (ha : PE X a ta) (hb : PE X b tb) (hc : PE X c tc) (hd : PE X d td)
    (hm : lastMarks [o1, o2, o3] [b, c, d] = false) : PT X (.Compare a [o1, o2, o3] [b, c, d] pos) (tTest (tCh3 r r' r'' ta tb tc td)) := by
  refine ⟨fun pins st σ H Q I hw => isTrue_chain (thn (ha.run pins st σ H _ I hw) fun va s1 ⟨xa, G1, J1, ra, w1⟩ => test_link (thn (hb.run pins s1 σ G1 _ J1 w1) fun vb s2 ⟨xb, G2, J2, rb, w2⟩ => thn (h1 pins s2 σ G2 xa xb va vb _ J2 ra rb w2) fun t1 s3 ⟨y1, G3, J3, r1, k1, e1, w3⟩ => ?_)) hm⟩
  subst e1
  cases r1
  refine wpAny_truthy_bool ?_
  cases k1 with
  | false =>
    obtain ⟨kk, ek, qk⟩ := w3
    cases ek
    exact ite_ff ⟨G3, J3, qk⟩
  | true =>
    refine ite_tt (test_link (thn (hc.run pins s3 σ G3 _ J3 w3) fun vc s4 ⟨xc, G4, J4, rc, w4⟩ => thn (h2 pins s4 σ G4 xb xc vb vc _ J4 rb rc w4) fun t2 s5 ⟨y2, G5, J5, r2, k2, e2, w5⟩ => ?_))
    subst e2
    cases r2
    refine wpAny_truthy_bool ?_
    cases k2 with
    | false =>
      obtain ⟨kk, ek, qk⟩ := w5
      cases ek
      exact ite_ff ⟨G5, J5, qk⟩
    | true =>
      refine ite_tt (test_last (thn (hd.run pins s5 σ G5 _ J5 w5) fun vd s6 ⟨xd, G6, J6, rd, w6⟩ => thn (h3 pins s6 σ G6 xc xd vc vd _ J6 rc rd w6) fun t3 s7 ⟨y3, G7, J7, r3, k3, e3, w7⟩ => ?_))
      subst e3
      cases r3
      exact wpAny_truthy_bool ⟨G7, J7, w7⟩
theorem de_ch3 {a b c d : Expr} {o p q : Cop} {o1 o2 o3 : CmpOp} {pos : Pos} {ea eb ec ed : E} (hu : X.A.units + 65 < cLine) (h1 : chkCo o o1 = true) (h2 : chkCo p o2 = true) (h3 : chkCo q o3 = true) (ha : PE X a (tD X.K W fun env => ev C env ea)) (hb : PE X b (tD X.K W fun env => ev C env eb)) (hc : PE X c (tD X.K W fun env => ev C env ec)) (hd : PE X d (tD X.K W fun env => ev C env ed)) (hm : lastMarks [o1, o2, o3] [b, c, d] = false) :
    SE X W C (.ch3 o p q ea eb ec ed) (.Compare a [o1, o2, o3] [b, c, d] pos) := by
  obtain ⟨r, x1, d1⟩ := cop_ok hu h1
  obtain ⟨r', x2, d2⟩ := cop_ok hu h2
  obtain ⟨r'', x3, d3⟩ := cop_ok hu h3
  have core : ∀ {σ : L2.St} {H : Hp} {Q : VK}, tD X.K W (fun env => ev C env (.ch3 o p q ea eb ec ed)) σ H Q → tCh3 r r' r'' (tD X.K W fun env => ev C env ea) (tD X.K W fun env => ev C env eb) (tD X.K W fun env => ev C env ec) (tD X.K W fun env => ev C env ed) σ H Q := by
    intro σ H Q ⟨R, env, rel, hw⟩
    have hw : WantG X.K W σ (denV X.K) R H (ev C env ea >>= fun x => ev C env eb >>= fun y => cmpD o x y >>= fun r => boolD r >>= fun k =>
      if k then ev C env ec >>= fun z => cmpD p y z >>= fun r => boolD r >>= fun k => if k then ev C env ed >>= fun w => cmpD q z w else .ok (.bool false) else .ok (.bool false)) Q := hw
    refine ⟨R, env, rel, hw.split fun dx x H1 R1 e1 n1 w1 => ⟨R1, env, rel.ext e1, w1.split fun dy y H2 R2 e2 n2 w2 => ?_⟩⟩
    refine d1 W σ R2 H2 x y dx dy _ e2.sub (Dn.mono e2.r _ _ n1) n2 ?_
    rcases cmp_bool o dx dy with z | ⟨k, z⟩
    · rw [z] at w2; exact False.elim w2
    · rw [z] at w2 ⊢
      intro v H3 R3 e3 n3
      cases n3
      refine ⟨k, rfl, ?_⟩
      cases k with
      | false => exact ((show WantG X.K W σ (denV X.K) R2 H2 (.ok (.bool false)) Q from w2).ext e3).val e3.sub (.bl false)
      | true =>
        have w2 : WantG X.K W σ (denV X.K) R2 H2 (ev C env ec >>= fun z => cmpD p dy z >>= fun r => boolD r >>= fun k => if k then ev C env ed >>= fun w => cmpD q z w else .ok (.bool false)) Q := w2
        refine ⟨R3, env, ((rel.ext e1).ext e2).ext e3, (w2.ext e3).split fun dz u H4 R4 e4 n4 w4 => ?_⟩
        refine d2 W σ R4 H4 y u dy dz _ e4.sub (Dn.mono (e3.r.trans e4.r) _ _ n2) n4 ?_
        rcases cmp_bool p dy dz with z | ⟨k, z⟩
        · rw [z] at w4; exact False.elim w4
        · rw [z] at w4 ⊢
          intro v H5 R5 e5 n5
          cases n5
          refine ⟨k, rfl, ?_⟩
          cases k with
          | false => exact ((show WantG X.K W σ (denV X.K) R4 H4 (.ok (.bool false)) Q from w4).ext e5).val e5.sub (.bl false)
          | true =>
            have w4 : WantG X.K W σ (denV X.K) R4 H4 (ev C env ed >>= fun w => cmpD q dz w) Q := w4
            refine ⟨R5, env, ((((rel.ext e1).ext e2).ext e3).ext e4).ext e5, (w4.ext e5).split fun dw t H6 R6 e6 n6 w6 => ?_⟩
            exact d3 W σ R6 H6 u t dz dw Q e6.sub (Dn.mono (e5.r.trans e6.r) _ _ n4) n6 w6
  refine ⟨peImp (pe_ch3 x1 x2 x3 ha hb hc hd hm) fun σ H Q hw => core hw, ptImp (pt_ch3 x1 x2 x3 ha hb hc hd hm) fun σ H Q ⟨R, env, rel, hw⟩ => ?_⟩
  refine core ⟨R, env, rel, hw.split fun d v H1 R1 e1 n1 h1 => ?_⟩
  cases n1 with
  | bl k => exact ⟨k, rfl, h1 k H1 R1 (Ext.refl e1.sub) rfl⟩
  | _ => exact False.elim h1
end
/-! ### [f, g, ..][i](..) -/
section
variable {X : Cx} {S : Sx} {W : WX}
/-- a row of defs -/
theorem pa_fs (F : Fits X S C) (hh : S.hot = none) : ∀ {fs : List Nat} {es : List Expr}, chkFs S fs es = true → ∃ as : List Addr, as.length = fs.length ∧ (∀ (j : Nat) (f : Nat) (a : Addr), fs[j]? = some f → as[j]? = some a → ∃ x, S.G.fns[f]? = some x ∧ x ≠ ("" : Str) ∧ X.mg x = some (.ref a)) ∧ PA X es (fun _ H Q => Q (as.map V.ref) H)
  | [], [], _ => ⟨[], rfl, fun j f a h => by simp at h, paImp pa_nil fun σ H Q hw => hw⟩
  | [], _ :: _, h => by simp [chkFs] at h
  | _ :: _, [], h => by simp [chkFs] at h
  | f :: fs, e :: es, h => by
    rw [chkFs, Bool.and_eq_true] at h
    obtain ⟨h1, h2⟩ := h
    split at h1
    · rename_i x q
      obtain ⟨p, rfl⟩ := asName_ q
      simp only [Bool.and_eq_true, decide_eq_true_eq] at h1
      obtain ⟨⟨g1, g2⟩, g3⟩ := h1
      obtain ⟨as, hl, hat, pa⟩ := pa_fs F hh h2
      obtain ⟨a, fd, ps, k, sp, hm, hk, hb, G, hr, ok⟩ := (F.fns hh f x g1 (okName_ne g3)).ex
      refine ⟨a :: as, by simp [hl], fun j f' a' e1 e2 => ?_, paImp (pa_cons (pe_glob (v := .ref a) (F.glb g2) hm rfl (okName_ g3).1) pa rfl) fun σ H Q hw => hw⟩
      cases j with
      | zero => cases e1; cases e2; exact ⟨x, g1, okName_ne g3, hm⟩
      | succ j => exact hat j f' a' e1 e2
    · cases h1
theorem de_sel (F : Fits X S C) (tk : Takes X W) (hh : S.hot = none) {fs : List Nat} {i a : E} {r : Es} {es : List Expr} {ie e : Expr} {args : List Expr} {lp sp pos : Pos} (hf : chkFs S fs es = true) (hfl : fs.length ≤ 100) (hs : isSlice ie = false) (hi : PE X ie (tD X.K W fun env => ev C env i)) (hst : starEach (e :: args) X.env = (false, eval e X.env) :: starEach args X.env) (hpl : (backTo pos (starEach args X.env)).any (·.1) = false)
    (ha : PA X (e :: args) (tDA X.K W fun env => evs C env (.cons a r))) : PE X (.Call (.Subscript (.List es lp) ie sp) (e :: args) [] pos) (tD X.K W fun env => ev C env (.sel fs i (.cons a r))) := by
  obtain ⟨as, hl, hat, pa⟩ := pa_fs F hh hf
  have sub := pe_ix (pos := sp) ix_list (pe_lst (pos := lp) pa) hi (plainIx hs)
  refine ⟨fun pins st σ H Q I ⟨R, env, rel, hw⟩ => ?_⟩
  have hw : WantG X.K W σ (denV X.K) R H (ev C env i >>= fun k => (match k with | .int j => someR (Z.atI fs j) | _ => .stuck) >>= fun f => evs C env (.cons a r) >>= fun ds => C f ds) Q := hw
  refine Call_ ?_
  refine thn (sub.run pins st σ H (fun v H1 => ∃ f ad R1, v = .ref ad ∧ (∃ j : Nat, fs[j]? = some f ∧ as[j]? = some ad) ∧ Ext R H R1 H1 ∧ WantG X.K W σ (denV X.K) R1 H1 (evs C env (.cons a r) >>= fun ds => C f ds) Q) I ?_) fun v s1 ⟨x, H1, I1, r1, f, ad, R1, e1, ⟨j, j1, j2⟩, ext, w1⟩ => ?_
  · refine ⟨by rw [List.length_map, hl, sizeLine_eq]; omega, fun p hp => ?_⟩
    have ex0 : Ext R H R (upd H p (.lst (as.map V.ref))) := Ext.beside rel.sub (same_upd hp)
    refine ⟨R, env, rel.ext ex0, (hw.ext ex0).split fun dx y H2 R2 e2 n2 w2 => ?_⟩
    cases n2 with
    | int z =>
      have w2 : WantG X.K W σ (denV X.K) R2 H2 (someR (Z.atI fs z) >>= fun f => evs C env (.cons a r) >>= fun ds => C f ds) Q := w2
      cases q : Z.atI fs z with
      | none => rw [q] at w2; exact w2.elim
      | some f =>
        rw [q] at w2
        unfold Z.atI at q
        cases q1 : Z.ixN fs.length z with
        | none => rw [q1] at q; cases q
        | some j =>
          rw [q1] at q
          have q : fs[j]? = some f := q
          have jl : j < as.length := by rw [hl]; exact (List.getElem?_eq_some_iff.mp q).1
          refine ⟨p, _, z, .ref as[j], rfl, rfl, .inl (.inl (e2.h p _ (upd_same ..))), ?_, f, as[j], R2, rfl, ⟨j, q, List.getElem?_eq_getElem jl⟩, ex0.trans e2, w2⟩
          show (L2.ixN (as.map V.ref).length z).bind (fun j => (as.map V.ref)[j]?) = _
          rw [List.length_map, hl, ← ixN_eq, q1]
          show (as.map V.ref)[j]? = _
          rw [List.getElem?_map, List.getElem?_eq_getElem jl]; rfl
    | _ => exact w2.elim
  · subst e1
    cases r1
    obtain ⟨x, hx, hne, hmx⟩ := hat j f ad j1 j2
    obtain ⟨a', fd, ps, k, sp', hm, hk, hb, G, hr, ok⟩ := (F.fns hh f x hx hne).ex
    rw [hmx] at hm
    cases hm
    refine PySem.W.callWith_K (h₀ := X.base) I1.ok.mod.kin hk (thn (ha.run pos pins s1 σ H1 (fun vs H2 => sp' vs H2 Q (WE W σ)) I1 ⟨R1, env, rel.ext ext, w1.split fun ds vs H2 R2 e2 n2 w2 => ok W σ R2 H2 vs ds Q e2.sub n2 w2.r⟩) fun us s2 ⟨vs, H2, I2, rr, q⟩ => ⟨I2.kIn, ?_⟩) hst hpl
    exact run_fnS G hr hb (passAt tk σ) I2 rr q
end
end Z
end
section
/-! Z6e: a in range(b); o[k::2]. -/
namespace Z
open PySem PySem.Spec PyProof.Rows L2
section
variable {X : Cx} {W : WX}
theorem cr_range1 : CallR X (.type "range") (fun vs H Q => ∃ j, vs = [V.int j] ∧ ∀ p, H p = none → Q (.ref p) (upd H p (.rng 0 j))) := by
  intro pins s σ H vs us Q I r h
  obtain ⟨j, rfl, q⟩ := h
  obtain ⟨u, rfl, ru⟩ := r.one
  obtain ⟨t, rfl⟩ := ru
  refine call_range_1 ⟨.ref s.heap.objs.size, upd H s.heap.objs.size (.rng 0 j), I.laid (t' := s.toks + 1 + 1) (fun b o e => Heap.get?_push_of_some _ e) (Nat.le_refl _) ?_, rfl, q _ (I.hok.fresh (Nat.le_refl _))⟩
  exact ⟨s.toks, t, s.toks + 1, Heap.get?_push_size _ rfl⟩
theorem de_inr {l b : Expr} {p cp pos : Pos} {fa fb : Ev → Res PyData} (hg : Gl X "range") (hm : X.mg "range" = none) (ha : PE X l (tD X.K W fa)) (hb : PE X b (tD X.K W fb)) (hs : starEach [b] X.env = (false, eval b X.env) :: starEach [] X.env) :
    PE X (.Compare l [.In] [.Call (.Name "range" p) [b] [] cp] pos) (tD X.K W fun env => fa env >>= fun x => recv .inr x >>= fun _ => fb env >>= fun y => mtD .inr x [y]) := by
  refine peImp (pe_cmpR op_in_rng ha (pe_callTy cr_range1 hg hm boot_range (pa_cons hb pa_nil hs) (by decide) (by decide) hs rfl) rfl) fun σ H Q ⟨R, env, rel, hw⟩ => ?_
  refine ⟨R, env, rel, hw.split fun dx x H1 R1 e1 d1 h1 => ?_⟩
  cases d1 with
  | int i =>
    have h1 : WantG X.K W σ (denV X.K) R1 H1 (fb env >>= fun y => mtD .inr (.int i) [y]) Q := h1
    refine ⟨R1, env, rel.ext e1, h1.split fun dy y H2 R2 e2 d2 h2 => ?_⟩
    cases d2 with
    | int n =>
      refine ⟨n, rfl, fun q nq => ⟨i, q, 0, n, rfl, rfl, upd_same, ?_⟩⟩
      exact h2 (.bl (decide (0 ≤ i ∧ i < n))) (upd H2 q (.rng 0 n)) R2 (Ext.beside e2.sub (same_upd nq)) (.bl _)
    | _ => exact False.elim h2
  | _ => exact False.elim h1
theorem bindA {α β γ : Type} (r : Res α) (f : α → Res β) (g : β → Res γ) : ((r >>= f) >>= g) = (r >>= fun x => f x >>= g) := by
  cases r <;> rfl
theorem de_inrT {l b : Expr} {p cp pos : Pos} {fa fb : Ev → Res PyData} (hg : Gl X "range") (hm : X.mg "range" = none) (ha : PE X l (tD X.K W fa)) (hb : PE X b (tD X.K W fb)) (hs : starEach [b] X.env = (false, eval b X.env) :: starEach [] X.env) :
    PT X (.Compare l [.In] [.Call (.Name "range" p) [b] [] cp] pos) (tDT X.K W fun env => (fa env >>= fun x => recv .inr x >>= fun _ => fb env >>= fun y => mtD .inr x [y]) >>= boolD) := by
  refine ptImp (pt_cmpR op_in_rng ha (pe_callTy cr_range1 hg hm boot_range (pa_cons hb pa_nil hs) (by decide) (by decide) hs rfl) rfl) fun σ H Q ⟨R, env, rel, hw⟩ => ?_
  dsimp only at hw
  simp only [bindA] at hw
  refine ⟨R, env, rel, hw.split fun dx x H1 R1 e1 d1 h1 => ?_⟩
  cases d1 with
  | int i =>
    have h1 : WantG X.K W σ denB R1 H1 (fb env >>= fun y => mtD .inr (.int i) [y] >>= boolD) Q := h1
    refine ⟨R1, env, rel.ext e1, h1.split fun dy y H2 R2 e2 d2 h2 => ?_⟩
    cases d2 with
    | int n =>
      refine ⟨n, rfl, fun q nq => ⟨i, q, 0, n, rfl, rfl, upd_same, ?_⟩⟩
      exact ⟨decide (0 ≤ i ∧ i < n), rfl, h2 (decide (0 ≤ i ∧ i < n)) (upd H2 q (.rng 0 n)) R2 (Ext.beside e2.sub (same_upd nq)) rfl⟩
    | _ => exact False.elim h2
  | _ => exact False.elim h1
/-! ### every other -/
theorem pick8 (a b c d e f g h : Value) : slicePick #[a, b, c, d, e, f, g, h] (some 0) none (some 2) = #[a, c, e, g] ∧ slicePick #[a, b, c, d, e, f, g, h] (some 1) none (some 2) = #[b, d, f, h] := by
  have b0 : sliceBounds (some 0) none (some 2) 8 = (0, 8, 2) := by decide +kernel
  have b1 : sliceBounds (some 1) none (some 2) 8 = (1, 8, 2) := by decide +kernel
  have r0 : sliceRange 0 8 2 = [0, 2, 4, 6] := by decide +kernel
  have r1 : sliceRange 1 8 2 = [1, 3, 5, 7] := by decide +kernel
  constructor
  · unfold slicePick
    rw [show #[a, b, c, d, e, f, g, h].size = 8 from rfl, b0, r0]
    rfl
  · unfold slicePick
    rw [show #[a, b, c, d, e, f, g, h].size = 8 from rfl, b1, r1]
    rfl
def tStp (K : PySem.W.Frag) (te tl : TE) : TE := fun σ H Q => te σ H fun x H1 => tPart tl σ H1 fun o H2 => ∃ (l : Addr) (a b c d e f g h : V) (k : Int), x = .ref l ∧ o = some k ∧ Rd H2 l (.lst [a, b, c, d, e, f, g, h]) ∧ (k = 0 ∨ k = 1) ∧ ∀ p, H2 p = none → Q (.ref p) (upd H2 p (.lst (if k = 0 then [a, c, e, g] else [b, d, f, h])))
theorem pe_stp {e lo : Expr} {te tl : TE} {k : Nat} {p1 p3 pos : Pos} (he : PE X e te) (hl : PE X lo tl) : PE X (.Subscript e (.Slice (some lo) none (some (.Constant (.int 2) k p1)) p3) pos) (tStp X.K te tl) := by
  refine ⟨fun pins s σ H Q I h => ?_⟩
  refine Subscript_ (thn (he.run pins s σ H _ I h) fun v s1 ⟨x, H1, I1, r1, q1⟩ => ?_)
  have hlo : PO X (some lo) (tPart tl) := po_some hl
  have hst : PO X (some (.Constant (.int 2) k p1)) (tPart (tC (.int 2))) := po_some pe_int
  refine wpAny_Slice (thn (hlo.run pins s1 σ H1 _ I1 q1) fun vl s2 ⟨o, H2, I2, pl, q2⟩ => ?_)
  obtain ⟨l, a, b, c, d, e', f, g, h', kk, rfl, rfl, hx, hk, q⟩ := q2
  cases r1
  refine thn (po_none.run pins s2 σ H2 (fun o H3 => o = none ∧ H3 = H2) I2 ⟨rfl, rfl⟩) fun vu s3 ⟨u, H3, I3, pu, eu, e3⟩ => ?_
  subst eu e3
  refine thn (hst.run pins s3 σ H3 (fun o H4 => o = some 2 ∧ H4 = H3) I3 ⟨2, rfl, rfl, rfl⟩) fun vs s4 ⟨o, H4, I4, ps, eo, e4⟩ => ?_
  subst eo e4
  have I5 : Inv X pins σ H4 { s4 with heap := s4.heap.push { cls := .type "slice", data := .fields #[vl, vu, vs] } } := I4.kept (t' := s4.toks) fun b ob q => Heap.get?_push_of_some _ q
  show wpAny (model X.prog X.w) X.A (subscriptTail e (.Slice (some lo) none (some (.Constant (.int 2) k p1)) p3) (.ref l) (.ref s4.heap.objs.size)) (EP X pins σ Q) X.xe { s4 with heap := s4.heap.push { cls := .type "slice", data := .fields #[vl, vu, vs] } }
  obtain ⟨its, r, ht, hz⟩ := I5.list (.inl hx)
  have hlen := r.length
  refine tail_any (ops := [.ref l, .ref s4.heap.objs.size]) ht.isList.typeIs (PySem.slot_list_getitem.lookup) ?_ (by with_unfolding_all rfl)
  refine wpAny_getItem_list_slice ht.isList (Heap.IsSliceOf.new _ vl vu vs) pl pu ps (by decide) ?_ (by rw [List.size_toArray]; omega)
  obtain ⟨ua, ub, uc, ud, ue, uf, ug, uh, rfl, ra, rb, rc, rd, re, rf, rg, rh⟩ : ∃ ua ub uc ud ue uf ug uh, its = [ua, ub, uc, ud, ue, uf, ug, uh] ∧ RelV a ua ∧ RelV b ub ∧ RelV c uc ∧ RelV d ud ∧ RelV e' ue ∧ RelV f uf ∧ RelV g ug ∧ RelV h' uh := by
    cases r with | cons r1 r => cases r with | cons r2 r => cases r with | cons r3 r => cases r with | cons r4 r => cases r with | cons r5 r => cases r with | cons r6 r => cases r with | cons r7 r => cases r with | cons r8 r => cases r; exact ⟨_, _, _, _, _, _, _, _, rfl, r1, r2, r3, r4, r5, r6, r7, r8⟩
  rcases hk with rfl | rfl
  · rw [show [ua, ub, uc, ud, ue, uf, ug, uh].toArray = #[ua, ub, uc, ud, ue, uf, ug, uh] from rfl, (pick8 ua ub uc ud ue uf ug uh).1]
    refine ⟨.ref _, _, I5.laid (t' := s4.toks) (o := .lst [a, c, e', g]) (fun b ob q => Heap.get?_push_of_some _ q) (Nat.le_refl _) ?_, rfl, q _ (I5.hok.fresh (Nat.le_refl _))⟩
    exact ⟨by show 4 ≤ sizeLine; decide, [ua, uc, ue, ug], 0, .cons ra (.cons rc (.cons re (.cons rg .nil))), Heap.get?_push_size _ rfl⟩
  · rw [show [ua, ub, uc, ud, ue, uf, ug, uh].toArray = #[ua, ub, uc, ud, ue, uf, ug, uh] from rfl, (pick8 ua ub uc ud ue uf ug uh).2]
    refine ⟨.ref _, _, I5.laid (t' := s4.toks) (o := .lst [b, d, f, h']) (fun b ob q => Heap.get?_push_of_some _ q) (Nat.le_refl _) ?_, rfl, q _ (I5.hok.fresh (Nat.le_refl _))⟩
    exact ⟨by show 4 ≤ sizeLine; decide, [ub, ud, uf, uh], 0, .cons rb (.cons rd (.cons rf (.cons rh .nil))), Heap.get?_push_size _ rfl⟩
theorem DnA.eight {K : PySem.W.Frag} {R : Hp} {xs : List V} {a b c d e f g h : PyData} (n : DnA K R xs [a, b, c, d, e, f, g, h]) : ∃ xa xb xc xd xe xf xg xh, xs = [xa, xb, xc, xd, xe, xf, xg, xh] ∧ Dn K R xa a ∧ Dn K R xb b ∧ Dn K R xc c ∧ Dn K R xd d ∧ Dn K R xe e ∧ Dn K R xf f ∧ Dn K R xg g ∧ Dn K R xh h := by
  cases n with | cons r1 r => cases r with | cons r2 r => cases r with | cons r3 r => cases r with | cons r4 r => cases r with | cons r5 r => cases r with | cons r6 r => cases r with | cons r7 r => cases r with | cons r8 r => cases r; exact ⟨_, _, _, _, _, _, _, _, rfl, r1, r2, r3, r4, r5, r6, r7, r8⟩
theorem de_stp {e lo : Expr} {k : Nat} {p1 p3 pos : Pos} {fa fb : Ev → Res PyData} (ha : PE X e (tD X.K W fa)) (hb : PE X lo (tD X.K W fb)) :
    PE X (.Subscript e (.Slice (some lo) none (some (.Constant (.int 2) k p1)) p3) pos) (tD X.K W fun env => fa env >>= fun x => recv .stp2 x >>= fun _ => fb env >>= fun y => mtD .stp2 x [y]) := by
  refine peImp (pe_stp ha hb) fun σ H Q ⟨R, env, rel, hw⟩ => ?_
  refine ⟨R, env, rel, hw.split fun dx x H1 R1 e1 d1 h1 => ?_⟩
  cases d1 with
  | lst hl hd =>
    rename_i l xs ds
    have h1 : WantG X.K W σ (denV X.K) R1 H1 (fb env >>= fun y => mtD .stp2 (.list ds) [y]) Q := h1
    refine ⟨R1, env, rel.ext e1, h1.split fun dy y H2 R2 e2 d2 h2 => ?_⟩
    cases d2 with
    | int i =>
      refine ⟨i, rfl, ?_⟩
      have h2 : WantG X.K W σ (denV X.K) R2 H2 (alt8 i ds) Q := h2
      unfold alt8 at h2
      split at h2
      · rename_i a b c d e f g h
        obtain ⟨xa, xb, xc, xd, xe, xf, xg, xh, rfl, na, nb, nc, nd, ne, nf, ng, nh⟩ := (DnA.mono e2.r _ _ hd).eight
        have rd : Rd H2 l (.lst [xa, xb, xc, xd, xe, xf, xg, xh]) := Rd.mono (e1.sub.trans e2.h) hl
        split at h2
        · rename_i k0
          refine ⟨l, xa, xb, xc, xd, xe, xf, xg, xh, i, rfl, rfl, rd, .inl k0, fun p n => ?_⟩
          rw [if_pos k0]
          exact WantG.newL h2 e2.sub (.cons na (.cons nc (.cons ne (.cons ng .nil)))) n
        · rename_i k0
          split at h2
          · rename_i k1
            refine ⟨l, xa, xb, xc, xd, xe, xf, xg, xh, i, rfl, rfl, rd, .inr k1, fun p n => ?_⟩
            rw [if_neg k0]
            exact WantG.newL h2 e2.sub (.cons nb (.cons nd (.cons nf (.cons nh .nil)))) n
          · exact False.elim h2
      · exact False.elim h2
    | _ => exact False.elim h2
  | _ => exact False.elim h1
end
end Z
end
section
/-! Z6f: join and split. -/
namespace Z
open PySem PySem.Spec PyProof.Rows L2
section
variable {X : Cx} {W : WX}
theorem strs_vs {K : PySem.W.Frag} {R : Hp} : ∀ {ds : List PyData} {vs : List V} {ys : List Str}, DnA K R vs ds → strsOf ds = some ys → vs = ys.map V.str
  | [], _, ys, h, e => by cases h; cases e; rfl
  | d :: ds, _, ys, h, e => by
    cases h with
    | cons h1 h2 =>
      cases d with
      | str x =>
        cases q : strsOf ds with
        | none => simp [strsOf, q] at e
        | some ms =>
          simp [strsOf, q] at e
          subst e
          cases h1
          rw [strs_vs h2 q]
          rfl
      | _ => simp [strsOf] at e
theorem de_split {o e : Expr} {apos cpos : Pos} {fo fe : Ev → Res PyData} (hb : plainB o = true) (hl : (apos.endLine == cpos.line) = true) (ho : PE X o (tD X.K W fo)) (he : PE X e (tD X.K W fe)) (hs : starEach [e] X.env = (false, eval e X.env) :: starEach [] X.env) :
    PE X (.Call (.Attribute o "split" apos) [e] [] cpos) (tD X.K W fun env => fo env >>= fun x => recv .split x >>= fun _ => fe env >>= fun y => mtD .split x [y]) := by
  refine peImp (pe_split ho he hs (plainB_ hb _ _) hl) fun σ H Q ⟨R, env, rel, hw⟩ => ?_
  refine ⟨R, env, rel, hw.split fun dx x H1 R1 e1 d1 h1 => ?_⟩
  cases d1 with
  | str a =>
    refine ⟨⟨a, rfl⟩, ?_⟩
    have h1 : WantG X.K W σ (denV X.K) R1 H1 (fe env >>= fun y => mtD .split (.str a) [y]) Q := h1
    refine ⟨R1, env, rel.ext e1, h1.split fun dy y H2 R2 e2 d2 h2 => ?_⟩
    cases d2 with
    | str b =>
      have h2 : WantG X.K W σ (denV X.K) R2 H2 (guardR (!(b.length == 0) && decide (a.length + 2 ≤ sizeLine)) (.list ((Txt.split a b).map .str))) Q := h2
      obtain ⟨g, h2⟩ := h2.guard
      obtain ⟨g1, g2⟩ := (Bool.and_eq_true _ _).mp g
      exact ⟨a, b, rfl, rfl, by simpa using g1, of_decide_eq_true g2, fun p n => h2.newL e2.sub (DnA.ofStrs _) n⟩
    | _ => exact False.elim h2
  | _ => exact False.elim h1
theorem de_cnt {o e : Expr} {apos cpos : Pos} {fo fe : Ev → Res PyData} (hb : plainB o = true) (hl : (apos.endLine == cpos.line) = true) (ho : PE X o (tD X.K W fo)) (he : PE X e (tD X.K W fe)) (hs : starEach [e] X.env = (false, eval e X.env) :: starEach [] X.env) :
    PE X (.Call (.Attribute o "count" apos) [e] [] cpos) (tD X.K W fun env => fo env >>= fun x => recv .cntS x >>= fun _ => fe env >>= fun y => mtD .cntS x [y]) := by
  refine peImp (pe_m1 PySem.F.slot_str_count PySem.F.type_str_count mt_count ho he hs (plainB_ hb _ _) hl) fun σ H Q ⟨R, env, rel, hw⟩ => ?_
  refine ⟨R, env, rel, hw.split fun dx x H1 R1 e1 d1 h1 => ?_⟩
  cases d1 with
  | str a =>
    refine ⟨⟨a, rfl⟩, ?_⟩
    have h1 : WantG X.K W σ (denV X.K) R1 H1 (fe env >>= fun y => mtD .cntS (.str a) [y]) Q := h1
    refine ⟨R1, env, rel.ext e1, h1.split fun dy y H2 R2 e2 d2 h2 => ?_⟩
    cases d2 with
    | str b => exact ⟨a, b, rfl, rfl, WantG.val (d := .int (Txt.count a b)) h2 e2.sub (.int _)⟩
    | _ => exact False.elim h2
  | _ => exact False.elim h1
theorem de_join {o e : Expr} {apos cpos : Pos} {fo fe : Ev → Res PyData} (hb : plainB o = true) (hl : (apos.endLine == cpos.line) = true) (ho : PE X o (tD X.K W fo)) (he : PE X e (tD X.K W fe)) (hs : starEach [e] X.env = (false, eval e X.env) :: starEach [] X.env) :
    PE X (.Call (.Attribute o "join" apos) [e] [] cpos) (tD X.K W fun env => fo env >>= fun x => recv .join x >>= fun _ => fe env >>= fun y => mtD .join x [y]) := by
  refine peImp (pe_join ho he hs (plainB_ hb _ _) hl) fun σ H Q ⟨R, env, rel, hw⟩ => ?_
  refine ⟨R, env, rel, hw.split fun dx x H1 R1 e1 d1 h1 => ?_⟩
  cases d1 with
  | str a =>
    refine ⟨⟨a, rfl⟩, ?_⟩
    have h1 : WantG X.K W σ (denV X.K) R1 H1 (fe env >>= fun y => mtD .join (.str a) [y]) Q := h1
    refine ⟨R1, env, rel.ext e1, h1.split fun dy y H2 R2 e2 d2 h2 => ?_⟩
    cases d2 with
    | @lst p xs ds hl2 ha =>
      have h2 : WantG X.K W σ (denV X.K) R2 H2 (match strsOf ds with | some ys => guardR (decide ((ys.map (·.length)).sum + ys.length * a.length ≤ 16777216)) (.str (Txt.join a ys)) | none => .stuck) Q := h2
      cases q : strsOf ds with
      | none => rw [q] at h2; exact False.elim h2
      | some ys =>
        rw [q] at h2
        obtain ⟨g, h2⟩ := WantG.guard h2
        have ex := strs_vs ha q
        subst ex
        exact ⟨a, p, ys, rfl, rfl, .inl (.inl (Rd.mono e2.sub hl2)), of_decide_eq_true g, h2.val e2.sub (.str _)⟩
    | _ => exact False.elim h2
  | _ => exact False.elim h1
end
end Z
end
section
/-! Z7x: an exception leaves a comprehension. -/
namespace Z
open PySem PySem.Spec PyProof.Rows L2
theorem note_eq (u : Value) {c d : PySem.Env} (h : c.frame = d.frame) : noteFrame u c = noteFrame u d := by
  unfold noteFrame PySem.frameOf
  rw [h]
section
variable {M : Model} {A : Around} {E : Value → Shared → Prop} {s : Shared} {fr : PySem.Env} {out : List PySem.Env} {B : Heap} {a L C : Addr} {Zp : Obj → Prop}
/-- noted anew, where another place was noted -/
theorem note_held {Q : Unit → Shared → Prop} (st : HandSPX.Steady Zp) (hfr : A.frames = some (fr :: out)) (hf : fr.frame = some L) (x : HandSPX.HeldZ B (fr :: out) a Zp C s.heap)
    (q : ∀ h', HandSPX.HeldZ B (fr :: out) a Zp L h' → s.heap.UpToSlots h' → Q () { s with heap := h' }) : wpAny M A (noteFrame (.ref a) fr) Q E s := by
  by_cases hc : C = L
  · subst hc
    exact HandSPX.againZ hf x.2.2.2 (q s.heap x (Heap.UpToSlots.refl _))
  · obtain ⟨k1, k2, k3, oe, vs, T, oT, ts, g1, g2, g3, g4, g5, g6, g7, g8, g9⟩ := x
    unfold noteFrame
    simp only [hf]
    refine wpAny_bind (wpAny_field g1 g3 g4 ?_)
    rw [if_pos (show (Value.ref T != Value.none) = true from by simp)]
    refine wpAny_bind (wpAny_field g7 g8 g9 ?_)
    rw [if_neg (show ¬ ((rawInt (C : Nat) == rawInt (L : Nat)) = true) from by
      intro z
      simp [rawInt] at z
      exact hc (Int.ofNat_inj.mp z))]
    refine wpAny_bind (wpAny_setField g7 g8 (Array.getElem?_eq_some_iff.mp g9).1 ?_)
    have oth : ∀ b, b ≠ T → (s.heap.update T (Obj.mapFields (·.setIfInBounds 3 Value.none))).get? b = s.heap.get? b := fun b hb => Heap.get?_update_other _ _ (Ne.symm hb)
    have rec0 : ∀ b o, s.heap.get? b = some o → (∀ vs, o.data ≠ .fields vs) → b ≠ T := fun b o hb hn z => by
      rw [z, g7] at hb; injection hb with hb; subst hb; exact hn ts g8
    refine HandSPX.wpAny_entryZ st hfr (k3.of_keeps fun b o hb hn => ⟨o, (oth b (rec0 b o hb hn)).trans hb, rfl⟩) hf ((oth a (Ne.symm g6)).trans g1)
      (fun b o hb => (oth b fun z => by rw [z, g5] at hb; cases hb).trans (k1 b o hb)) k2 g3 (Array.getElem?_eq_some_iff.mp g4).1 g2 fun h' hN => ?_
    obtain ⟨x1, x2, x3, x4⟩ := hN
    exact q h' ⟨x1, k2, x2, x3⟩ fun b o hb hn => x4 b o ((oth b (rec0 b o hb hn)).trans hb) hn
/-- noted, from whatever air -/
theorem note_sky {Q : Unit → Shared → Prop} (st : HandSPX.Steady Zp) (hfr : A.frames = some (fr :: out)) (hf : fr.frame = some L) (x : Sky B (fr :: out) a Zp C s.heap)
    (q : ∀ h', HandSPX.HeldZ B (fr :: out) a Zp L h' → s.heap.UpToSlots h' → Q () { s with heap := h' }) : wpAny M A (noteFrame (.ref a) fr) Q E s := by
  rcases x with ⟨k1, k2, k3, oe, vs, g1, g2, g3, g4⟩ | x | x
  · exact HandSPX.look_newZ st hfr k3 hf g1 k1 k2 g3 g4 g2 q
  · exact HandSPX.looks_onZ st hfr hf x q
  · exact note_held st hfr hf x q
/-- a cell of the ground is another one -/
theorem ground_put {g : Heap} (b : Addr) (o o2 : Obj) (h : B.get? b = some o) (h2 : g.get? b = some o2) : ∃ B2 : Heap, B2.get? b = some o2 ∧ (∀ c, c ≠ b → B2.get? c = B.get? c) := by
  refine ⟨B.update b fun _ => o2, Heap.get?_update_self (fun _ => o2) h ?_, fun c hc => Heap.get?_update_other _ _ (Ne.symm hc)⟩
  exact (Heap.get?_some_iff.mp h2).2
/-- one cell that is neither the exception's nor a frame's is another one -/
theorem held_put {h h' B2 : Heap} {l : List PySem.Env} {b : Addr} {o o2 : Obj} (x : HandSPX.HeldZ B l a Zp L h) (e : B.get? b = some o) (e2 : h'.get? b = some o2) (sb : Heap.SameBut b h h') (p1 : B2.get? b = some o2) (p2 : ∀ c, c ≠ b → B2.get? c = B.get? c) : HandSPX.HeldZ B2 l a Zp L h' := by
  obtain ⟨k1, k2, k3, oe, vs, T, oT, ts, g1, g2, g3, g4, g5, g6, g7, g8, g9⟩ := x
  have na : a ≠ b := fun z => by rw [z, e] at k2; cases k2
  have nT : T ≠ b := fun z => by rw [z, e] at g5; cases g5
  refine ⟨fun c u hc => ?_, by rw [p2 a na]; exact k2, ?_, oe, vs, T, oT, ts, (sb.2 a na).trans g1, g2, g3, g4, by rw [p2 T nT]; exact g5, g6, (sb.2 T nT).trans g7, g8, g9⟩
  · by_cases z : c = b
    · subst z; rw [p1] at hc; cases hc; exact e2
    · rw [p2 c z] at hc; exact (sb.2 c z).trans (k1 c u hc)
  · clear g1 g2 g3 g4 g5 g6 g7 g8 g9
    induction l with
    | nil => trivial
    | cons v l ih =>
      obtain ⟨q1, ⟨F, u, f1, f2, f3, f4⟩, q2⟩ := k3
      have nF : F ≠ b := fun z => by rw [z, e] at f2; cases f2
      exact ⟨q1, ⟨F, u, f1, by rw [p2 F nF]; exact f2, (sb.2 F nF).trans f3, f4⟩, ih q2⟩
end
section
variable {X : Cx} {W : WX} {pins : List (Addr × Obj)} {σ : L2.St} {H : Hp} {s : Shared}
theorem inv_xe {xe : Value → Shared → Prop} (I : Inv X pins σ H s) : Inv { X with xe := xe } pins σ H s :=
  ⟨⟨I.ok.mod, I.ok.kind, I.ok.glob, I.ok.blt, I.ok.above, I.ok.inj, I.ok.has, I.ok.cab, I.ok.hd, I.ok.frames, I.ok.stk, I.ok.exf, I.ok.bs, I.ok.bsz, I.ok.noex, I.ok.exfs, I.ok.funs, I.ok.frf⟩, I.os, I.bare, I.base, I.loc, I.cell, I.free, I.freeC, I.pin, I.hok, I.len⟩
/-- the block, from which an exception goes on by xe -/
abbrev blkX (X : Cx) (s : Shared) (H : Hp) (scope : Scope) (ce : PySem.Env) (fp : List Addr) (xe : Value → Shared → Prop) : Cx := { X.blk s H scope ce fp with xe := xe }
theorem blk_takes (tk : Takes X W) (hs : X.stack = X.env :: X.outer) (hf : X.env.frame = some X.env.locals) (I : Inv X pins σ H s) {scope : Scope} {ce : PySem.Env} {fp : List Addr} (f3 : ∀ b ∈ fp, FpOk X pins H b) (cL : ce.locals = s.heap.objs.size) (cF : ce.frame = X.env.frame)
    {F xe : Value → Shared → Prop} (hF : ∀ u s', CompFails (model X.prog X.w) X.A X.xe ce u s' → F u s') (hx : ∀ u s', notedBy (model X.prog X.w) X.A ce F u s' → xe u s') : Takes (blkX X s H scope ce fp xe) (fun cls d _ H' => W cls d σ H') := by
  rintro u s' ⟨a, B, sI, pins', σ', H', cls, d, rfl, J, nb, up, sky, na, os, ag, w⟩
  refine hx _ _ ?_
  have I7 : Inv X pins σ H' sI := I.call' (ch := fp) J.os J.base J.hok J.bare fun b hb => ⟨(f3 b hb).2.2.2.1, (f3 b hb).2.1, (f3 b hb).2.2.2.2.1, (f3 b hb).2.2.2.2.2⟩
  have nC : H' s.heap.objs.size = none := by
    have z : H' ce.locals = none := J.free
    rw [cL] at z
    exact z
  obtain ⟨f0, f1, f2, f3', f4, f5⟩ := I.fpOk (H' := H') (Nat.le_refl _) nC
  have hfr : X.A.frames = some (X.env :: X.outer) := by rw [I7.ok.frames, hs]
  have sky : Sky B X.stack a (Zc cls d) ce.locals s'.heap := sky
  have nb : ∀ b o, sI.heap.get? b = some o → b ∉ frs X.stack → B.get? b = some o := nb
  rw [hs] at sky
  obtain ⟨m, hn, _⟩ := J.loc
  have hn : sI.heap.Ns ce.locals m := hn
  rw [cL] at hn
  obtain ⟨o, es, ep, e1, e2, e3, e4⟩ := hn
  have nfr : s.heap.objs.size ∉ frs X.stack := fun hm => by
    rcases List.mem_cons.mp (I.stkSub _ hm) with z | z
    · exact f1 z
    · exact f2 z
  have eB := nb _ _ e1 nfr
  show wpAny _ X.A (noteFrame (.ref a) ce) (fun _ s'' => F (.ref a) s'') F s'
  rw [note_eq (.ref a) cF]
  refine note_sky Zc.steady hfr hf sky fun h1 held up1 => hF _ _ ?_
  refine ⟨m, ?_, fun h' m' hn' sb => ?_⟩
  · rw [cL]
    exact ⟨o, es, ep, held.1 _ _ eB, e2, e3, e4⟩
  rw [cL] at hn' sb
  obtain ⟨o2, es2, ep2, q1, q2, q3, q4⟩ := hn'
  obtain ⟨B2, p1, p2⟩ := ground_put s.heap.objs.size o o2 eB q1
  have held2 := held_put held eB q1 sb p1 p2
  obtain ⟨k1, k2, k3, oe, vs, T, oT, ts, g1, g2, g3, g4, g5, g6, g7, g8, g9⟩ := held2
  unfold PySem.passOn
  refine wpAny_bind (wpAny_field g1 g3 g4 ?_)
  rw [if_neg (by simp)]
  rw [cF, hf]
  refine wpAny_bind (HandSPX.setFlight_anyZ (fr := some X.env.locals) k1 k3 ⟨oe, vs, T, oT, ts, g1, g2, g3, g4, g5, g6, g7, g8, g9⟩ fun h'' j1 j2 j3 j4 => ?_)
  refine wpAny_throw (tk _ _ ?_)
  obtain ⟨G, r1, r2⟩ := ground_put (B := sI.heap) s.heap.objs.size o o2 e1 q1
  have IG : Inv X pins σ H' { sI with heap := G } := I7.turned (t' := sI.toks) (fun b u hb e => (r2 b hb).trans e) f0 f1 f3' f4 f5
  have upG : G.UpToSlots h'' := fun b u hb hd => by
    by_cases z : b = s.heap.objs.size
    · subst z
      rw [r1] at hb
      cases hb
      exact j4 _ _ q1 hd
    · rw [r2 b z] at hb
      obtain ⟨sl, y1⟩ := up b u hb hd
      obtain ⟨sl2, y2⟩ := up1 b _ y1 hd
      obtain ⟨sl3, y3⟩ := j4 b { u with slots := sl2 } ((sb.2 b z).trans y2) hd
      exact ⟨sl3, y3⟩
  refine ⟨a, B2, { sI with heap := G }, pins, σ, H', cls, d, rfl, IG, fun b u hb hm => ?_, upG, .inr (.inr ?_), na, os, ag, w⟩
  · by_cases z : b = s.heap.objs.size
    · subst z
      have hb : G.get? s.heap.objs.size = some u := hb
      rw [r1] at hb
      cases hb
      exact p1
    · have hb : G.get? b = some u := hb
      rw [r2 b z] at hb
      rw [p2 b z]
      exact nb b u hb hm
  · rw [hs]
    exact ⟨j1, k2, j2, j3⟩
end
end Z
end
section
/-! Z7y: a comprehension from which exceptions go on. -/
namespace Z
open PySem PySem.Spec PyProof.Rows L2
section
variable {X : Cx} {W : WX}
/-- W, by the slots around -/
abbrev atW (W : WX) (σ : L2.St) : WX := fun cls d _ H => W cls d σ H
theorem ends_fail {M : Model} {A : Around} {E : Value → Shared → Prop} {use : Option (Value → Sem Unit)} {Qf : Value → Shared → Prop} {acc : Value} {ce : PySem.Env} {u : Value} {s' : Shared} (h : CompFails M A E ce u s') : compEnds M A E use Qf acc ce (.error u) s' := by
  cases use <;> exact h
theorem lcX_core {pins : List (Addr × Obj)} {sh : Shared} {σ : L2.St} {Hh : Hp} {Q : VK} {x1 tgt src : Expr} {cs : List Expr} {sc : Scope} {mine : List (Str × Nat)} {p1 p2 : Pos} {wi : TI} {gt : TG} {tt : WX → TT} {te : WX → TE} {use : Option (Value → Sem Unit)} {Qf : Value → Shared → Prop}
    (cm : X.calm = true) (nd : X.N.Nodup) (tk : Takes X W) (top : X.stack = X.env :: X.outer) (fr : X.env.frame = some X.env.locals) (inv : Inv X pins σ Hh sh) (pi : PI X tgt src wi) (bo : BlkOk X.N X.env.scope sc mine)
    (pg : ∀ (s : Shared) (H : Hp) (c : Addr) (cl : List (Str × Addr)) (fp : List Addr) (xe : Value → Shared → Prop), PG (blkX X s H sc (compEnvC sc cl c X.env) fp xe) tgt gt)
    (pt : ∀ (s : Shared) (H : Hp) (c : Addr) (cl : List (Str × Addr)) (fp : List Addr) (xe : Value → Shared → Prop) (W' : WX), Takes (blkX X s H sc (compEnvC sc cl c X.env) fp xe) W' → PTs (blkX X s H sc (compEnvC sc cl c X.env) fp xe) cs (tt W'))
    (pe : ∀ (s : Shared) (H : Hp) (c : Addr) (cl : List (Str × Addr)) (fp : List Addr) (xe : Value → Shared → Prop) (W' : WX), Takes (blkX X s H sc (compEnvC sc cl c X.env) fp xe) W' → PE (blkX X s H sc (compEnvC sc cl c X.env) fp xe) x1 (te W'))
    (fold : ∀ x, foldedSetIterable src X.env x = pure x) (want : tLc wi gt (tt (atW W σ)) (te (atW W σ)) (mine.map (·.2)) σ Hh Q)
    (fin : ∀ (D : Addr) (ce : PySem.Env) (s' : Shared) (m : Str → Option Value) (H' : Hp), Inv X pins σ H' s' → Q (.ref D) H' → s'.heap.Ns ce.locals m → FpOk X pins H' ce.locals → compEnds (model X.prog X.w) X.A X.xe use Qf (.ref D) ce (.ok .next) s') :
    wpAny (model X.prog X.w) X.A (comprehension (.ListComp x1 [⟨tgt, src, cs, 0⟩] sc p1) sc X.env p2 (newList []) false (eval src X.env) use) Qf X.xe sh := by
  have cells : ∀ y ∈ sc.names, y.2 = .free → ∃ c, X.env.cells.lookup y.1 = some c := fun y hy e => (bo.free y hy e).elim (fun k => inv.ok.has _ (.inl k)) fun k => inv.ok.has _ (.inr k)
  refine comprehension_at (use := use) rfl fold (closure_ok cells) bo.kind (fun y hy e => by rw [bo.uniq y hy, e])
    (thn (pi.run pins sh σ Hh _ inv want) fun itb sa ha => thn ha fun ita sb hb => ?_)
  obtain ⟨it, fp, tn, J, Hb, e0, Ib, Tn, stb, fb, qb⟩ := hb
  subst e0
  refine wpAny_newObj_type (newEnv_comp ?_) (by show 0 ≤ sizeLine; decide)
  generalize dd : sb.heap.objs.size = D
  have Dn0 : Hb D = none := Ib.hok.fresh (Nat.le_of_eq dd)
  obtain ⟨Wv, ⟨m0, w0⟩, turn⟩ := qb D Dn0
  generalize ec : ({ sb with heap := sb.heap.push { cls := .type "list", data := .seq ([] : List Value).toArray } } : Shared) = sc3
  have Ic : Inv X pins σ (upd Hb D (.lst [])) sc3 := by
    rw [← ec]
    refine Ib.laid (t' := sb.toks) (fun b o e => Heap.get?_push_of_some _ e) (Nat.le_of_eq dd) ⟨Nat.zero_le _, [], 0, .nil, ?_⟩
    rw [← dd]
    exact Heap.get?_push_size _ rfl
  have hc3 : sc3.heap = sb.heap.push { cls := .type "list", data := .seq ([] : List Value).toArray } := by rw [← ec]
  have small : ∀ b ∈ fp, b < sb.heap.objs.size := fun b hb => let ⟨_, e, _⟩ := Tn.obj _ _ stb b hb; Heap.lt_size e
  have fc : ∀ b ∈ fp, FpOk X pins (upd Hb D (.lst [])) b ∧ b < sc3.heap.objs.size := fun b hb => by
    have lt := small b hb
    refine ⟨⟨?_, (fb b hb).2⟩, by rw [hc3, Heap.size_push]; exact Nat.lt_succ_of_lt lt⟩
    rw [upd_ne (by rw [← dd]; exact Nat.ne_of_lt lt)]
    exact (fb b hb).1
  have stc : tn 0 sc3.heap := Tn.keep _ _ _ stb fun b _ o e => by rw [hc3]; exact Heap.get?_push_of_some _ e
  have Id := block_start Ic bo nd fc
  show codeAny _ _ (.compStart (.ListComp x1 [⟨tgt, src, cs, 0⟩] sc p1) 0 (.ref it) (.ref D) (compEnvC sc (cellsFrom (sc3.heap.objs.size + 1) sc.names (cloFrom X.env.cells sc.names [])) sc3.heap.objs.size X.env)) (compEnds (model X.prog X.w) X.A X.xe use Qf (.ref D) (compEnvC sc (cellsFrom (sc3.heap.objs.size + 1) sc.names (cloFrom X.env.cells sc.names [])) sc3.heap.objs.size X.env)) { sc3 with heap := pushCells (sc3.heap.push { cls := .type "dict", data := .dict #[] }) sc.names }
  generalize cellsFrom (sc3.heap.objs.size + 1) sc.names (cloFrom X.env.cells sc.names []) = cl at Id ⊢
  have none3 : ∀ b ∈ fp, (upd Hb D (.lst [])) b = none := fun b hb => (fc b hb).1.1
  have pg1 := pg sc3 (upd Hb D (.lst [])) sc3.heap.objs.size cl fp
  have pt1 := pt sc3 (upd Hb D (.lst [])) sc3.heap.objs.size cl fp
  have pe1 := pe sc3 (upd Hb D (.lst [])) sc3.heap.objs.size cl fp
  have cF : (compEnvC sc cl sc3.heap.objs.size X.env).frame = X.env.frame := rfl
  have cL : (compEnvC sc cl sc3.heap.objs.size X.env).locals = sc3.heap.objs.size := rfl
  generalize compEnvC sc cl sc3.heap.objs.size X.env = ce at Id pg1 pt1 pe1 cF cL ⊢
  generalize eH : upd Hb D (.lst []) = Hc at Ic Id pg1 pt1 pe1 w0 none3 fc
  generalize es : ({ sc3 with heap := pushCells (sc3.heap.push { cls := .type "dict", data := .dict #[] }) sc.names } : Shared) = sd at Id ⊢
  have std : tn 0 sd.heap := Tn.keep _ _ _ stc fun b _ o e => by rw [← es]; exact pushCells_keeps _ _ _ _ (Heap.get?_push_of_some _ e)
  generalize ex : notedBy (model X.prog X.w) X.A ce (fun e s' => compEnds (model X.prog X.w) X.A X.xe use Qf (.ref D) ce (.error e) s') = xe
  have tkB : Takes (blkX X sc3 Hc sc ce fp xe) (atW W σ) := blk_takes tk top fr Ic (fun b hb => (fc b hb).1) cL cF (F := fun e s' => compEnds (model X.prog X.w) X.A X.xe use Qf (.ref D) ce (.error e) s') (fun u s' h => ends_fail h) (fun u s' h => by rw [← ex]; exact h)
  have pg2 := pg1 xe
  have pt2 := pt1 xe _ tkB
  have pe2 := pe1 xe _ tkB
  have Ie : Inv (blkX X sc3 Hc sc ce fp xe) [] (wipe σ (mine.map (·.2))) Hc sd := inv_xe Id
  have stat : ∀ {σ' : L2.St} {H' : Hp} {s' : Shared}, Inv (blkX X sc3 Hc sc ce fp xe) [] σ' H' s' → (∀ b ∈ fp, H' b = none) → ∀ b ∈ fp, FpOk (blkX X sc3 Hc sc ce fp xe) [] H' b := fun {σ' H' s'} I' hn b hb =>
    ⟨hn b hb, (I'.ok.exf b hb).1, I'.ok.exfs b hb, .inl hb, fun x c e => (I'.ok.exf b hb).2 x c e, fun p hp => absurd (show p ∈ ([] : List (Addr × Obj)) ++ [] from hp) (by simp)⟩
  have loop : codeAny (model X.prog X.w) X.A (.compLoop (.ListComp x1 [⟨tgt, src, cs, 0⟩] sc p1) 0 (.ref it) (.ref D) ce) (compEnds (model X.prog X.w) X.A X.xe use Qf (.ref D) ce) sd := by
    refine compLoop_any (fun n s' => ∃ i H', Inv (blkX X sc3 Hc sc ce fp xe) [] (wipe σ (mine.map (·.2))) H' s' ∧ tn i s'.heap ∧ (∀ b ∈ fp, H' b = none) ∧ Wv i n H') ?_ m0 ⟨0, Hc, Ie, std, none3, w0⟩
    rw [ex]
    rintro n se ⟨i, He, Ie, ste, ne, we⟩
    rcases turn i n He we with ⟨stop, qq⟩ | ⟨go, Nx, hNx, step⟩
    · have td := Tn.done (blkX X sc3 Hc sc ce fp xe) rfl rfl rfl cm i [] se _ He (fun _ _ => False) Ie (stat Ie ne) ste stop
      refine thnF td fun r sf ⟨hr, If⟩ => ?_
      subst hr
      have Ig : Inv X pins σ He sf := Ic.call' (ch := fp) If.os If.base If.hok If.bare fun b hb => ⟨(fc b hb).1.2.2.2.1, (fc b hb).1.2.1, (fc b hb).1.2.2.2.2.1, (fc b hb).1.2.2.2.2.2⟩
      have nC : He ce.locals = none := If.free
      obtain ⟨m, hn, _⟩ := If.loc
      exact fin D ce sf m He Ig qq hn (by rw [cL] at nC ⊢; exact Ic.fpOk (Nat.le_refl _) nC)
    · have ti := Tn.item (blkX X sc3 Hc sc ce fp xe) rfl rfl rfl cm i [] se _ He (fun _ _ => False) Ie (stat Ie ne) ste go
      refine thnF ti fun r sf ⟨u, hr, hf6⟩ => ?_
      subst hr
      refine thnF hf6 fun _ sg ⟨x, Hg, Ig, rg, yg, stg, ng⟩ => ?_
      have Ig' := Ig.pinned (stat Ig ng) (Tn.obj _ _ stg)
      refine thn (pg2.run _ sg _ Hg x u _ Ig' rg (step x Hg yg)) fun _ sk ⟨σk, Hk, Ik, hwk, qk⟩ => ?_
      refine thn (pt2.run _ sk σk Hk _ Ik qk) fun b sl ⟨Hl, Il, ql⟩ => ?_
      have back : ∀ {s' : Shared} {H' : Hp}, Inv (blkX X sc3 Hc sc ce fp xe) ([] ++ pinsAt fp sg.heap) σk H' s' → Nx H' → ∃ m, m < n ∧ ∃ i H', Inv (blkX X sc3 Hc sc ce fp xe) [] (wipe σ (mine.map (·.2))) H' s' ∧ tn i s'.heap ∧ (∀ b ∈ fp, H' b = none) ∧ Wv i m H' := fun {s' H'} I' nx => by
        obtain ⟨m', hm, w'⟩ := hNx H' nx
        have held : ∀ b ∈ fp, ∀ o, sg.heap.get? b = some o → s'.heap.get? b = some o ∧ H' b = none := fun b hb o e =>
          let z := I'.pin (b, o) (List.mem_append_right _ (List.mem_append_right _ (mem_pinsAt hb e)))
          ⟨z.1, z.2.1⟩
        have hl : (wipe σ (mine.map (·.2))).length = σk.length := by rw [← hwk, wipe_length]
        refine ⟨m', hm, i + 1, H', (I'.unpinned (pins := [])).weak hl (fun j v e => ?_), Tn.keep _ _ _ stg fun b hb o e => (held b hb o e).1, fun b hb => ?_, w'⟩
        · rw [← hwk] at e
          exact (wipe_some e).1
        · obtain ⟨o, e, _⟩ := Tn.obj _ _ stg b hb
          exact (held b hb o e).2
      cases b with
      | false =>
        simp only [Bool.false_eq_true, if_false] at ql ⊢
        exact back Il ql
      | true =>
        simp only [if_true] at ql ⊢
        refine thn (pe2.run _ sl σk Hl _ Il ql) fun z sm ⟨yv, Hm, Im, rm, acc, hDm, hzm, nx⟩ => ?_
        exact app_ok (X := blkX X sc3 Hc sc ce fp xe) Im hDm hzm rm fun sn In => back In nx
  exact codeAny_compStart_list loop (Tn.self X.A 0 _ _ _ std loop)
end
end Z
end
section
/-! Z7z: a comprehension that may raise, in the small language. -/
namespace Z
open PySem PySem.Spec PyProof.Rows L2
section
variable {C : Nat → List PyData → Res PyData}
abbrev lxF (C : Nat → List PyData → Res PyData) (env : Ev) (t : Tg) (c : Eo) (e : E) : PyData → Res (Option PyData) := fun d => bindT env t d >>= fun env' => evc C env' c >>= fun k => if k then ev C env' e >>= fun x => .ok (some x) else .ok none
theorem bindT_calm {env : Ev} {t : Tg} {d : PyData} {k : Nat} : bindT env t d ≠ .exc k := by
  intro z
  unfold bindT at z
  split at z
  · cases z
  · unfold someR at z; split at z <;> cases z
  · cases z
/-- what is left, what is done, all -/
def Sofar (r tail : Res (List PyData)) (da : List PyData) : Prop := match tail with
  | .ok xs => r = .ok (da ++ xs)
  | .exc c => r = .exc c
  | .stuck => r = .stuck
theorem lcX_ext {w : Bool} {K : PySem.W.Frag} {W' : WX} {t : Tg} {c : Eo} {e : E} {σ : L2.St} {env : Ev} {R1 H1 : Hp} {J : L2.It} {ds : List PyData} {r : Res (List PyData)} {Q : VK} {D : Addr} (rel : Rel K R1 H1 σ env) (hwt : w = true → ∃ is, t = .tp is) (hw : WalkD w K R1 J ds) (hlc : lcR (lxF C env t c e) ds = r) (hns : r ≠ .stuck)
    (hz : ds.length ≤ sizeLine) (hD : H1 D = none) (hE : ∀ k, r = .exc k → ∀ (σ' : L2.St) (H' R' : Hp), Ext R1 H1 R' H' → W' (xcls K k) none σ' H') (hQ : ∀ xs H' R2 acc, r = .ok xs → Ext R1 H1 R2 H' → R2 D = none → H' D = some (.lst acc) → DnA K R2 acc xs → Q (.ref D) H') :
    ∃ Wv : Nat → Nat → Hp → Prop, (∃ m, Wv 0 m (upd H1 D (.lst []))) ∧ ∀ i m H, Wv i m H → (J.stop i H ∧ Q (.ref D) H) ∨ (J.go i H ∧ ∃ Nx : Hp → Prop, (∀ H', Nx H' → ∃ m', m' < m ∧ Wv (i + 1) m' H') ∧ ∀ x H', J.yld i H x H' → tgD K t x (wipe σ (slots t)) H' fun σ2 H2 => wipe σ2 (slots t) = wipe σ (slots t) ∧ tDT K W' (fun env => evc C env c) σ2 H2 fun b H3 =>
        if b = true then tD K W' (fun env => ev C env e) σ2 H3 fun y H4 => ∃ acc, H4 D = some (.lst acc) ∧ acc.length < sizeLine ∧ Nx (upd H4 D (.lst (acc ++ [y]))) else Nx H3) := by
  obtain ⟨G, Y, wk, hG, hY⟩ := hw
  have R1D : R1 D = none := rel.sub.free hD
  refine lc_it wk (Qd := fun H => Q (.ref D) H) (fun i H => ∃ R2 acc da, Ext R1 H1 R2 H ∧ R2 D = none ∧ H D = some (.lst acc) ∧ DnA K R2 acc da ∧ Sofar r (lcR (lxF C env t c e) (ds.drop i)) da ∧ acc.length ≤ i) ?_ ?_ ?_ ?_
  · refine ⟨R1, [], [], Ext.beside rel.sub (same_upd hD), R1D, upd_same, .nil, ?_, Nat.le_refl _⟩
    rw [List.drop_zero, hlc]
    cases r <;> rfl
  · rintro i H hi ⟨R2, acc, da, e2, _⟩
    exact hG H (e2.r.trans e2.sub)
  · rintro i x H H' hi ⟨R2, acc, da, e2, r2, hDl, dn, hs, hle⟩ y
    obtain ⟨R3, d, e3, hd, dx⟩ := hY i H x H' R2 hi e2.r e2.sub y
    have hdrop : ds.drop i = d :: ds.drop (i + 1) := by
      obtain ⟨h1, h2⟩ := List.getElem?_eq_some_iff.mp hd
      rw [List.drop_eq_getElem_cons h1, h2]
    rw [hdrop] at hs
    have hs : Sofar r (lxF C env t c e d >>= fun o => lcR (lxF C env t c e) (ds.drop (i + 1)) >>= fun ds => .ok (consO o ds)) da := hs
    have relX : RelX K R3 H' (wipe σ (slots t)) env (slots t) := (rel.ext (e2.trans e3)).wiped _
    have H'D : H' D = some (.lst acc) := e3.h _ _ hDl
    have keepD : ∀ {Ra Ha Rb Hb : Hp}, Ext Ra Ha Rb Hb → Ha D = some (.lst acc) → Ra D = none → Hb D = some (.lst acc) ∧ Rb D = none := fun {Ra Ha Rb Hb} ex h1 h2 => ⟨ex.h _ _ h1, by
      cases q : Rb D with
      | none => rfl
      | some o =>
        rcases ex.new D o q with z | z
        · rw [h2] at z; cases z
        · rw [h1] at z; cases z⟩
    obtain ⟨_, R3D⟩ := keepD e3 hDl r2
    cases qb : bindT env t d with
    | stuck =>
      have : lxF C env t c e d = .stuck := by show (bindT env t d >>= _) = _; rw [qb]; rfl
      rw [this] at hs
      exact absurd hs hns
    | exc k => exact absurd qb bindT_calm
    | ok env' =>
      have hf : lxF C env t c e d = (evc C env' c >>= fun k => if k then ev C env' e >>= fun x => .ok (some x) else .ok none) := by show (bindT env t d >>= _) = _; rw [qb]; rfl
      rw [hf] at hs
      refine tgD_ok (vs0 := slots t) relX (fun _ h => h) hwt dx qb fun σ2 rel2 hw2 => ⟨hw2.trans wipe_wipe, R3, env', rel2, ?_⟩
      dsimp only
      cases qc : evc C env' c with
      | stuck => rw [qc] at hs; exact absurd hs hns
      | exc k =>
        rw [qc] at hs
        exact fun H9 R9 ex => hE k hs _ _ _ ((e2.trans e3).trans ex)
      | ok k =>
        rw [qc] at hs
        intro b H3 R4 e4 eb
        subst eb
        obtain ⟨H3D, R4D⟩ := keepD e4 H'D R3D
        have dn4 : DnA K R4 acc da := DnA.mono (e3.r.trans e4.r) _ _ dn
        cases b with
        | false =>
          rw [if_neg Bool.false_ne_true]
          refine ⟨R4, acc, da, (e2.trans e3).trans e4, R4D, H3D, dn4, ?_, Nat.le_succ_of_le hle⟩
          have hs : Sofar r (lcR (lxF C env t c e) (ds.drop (i + 1)) >>= fun ds => .ok (consO none ds)) da := hs
          cases q : lcR (lxF C env t c e) (ds.drop (i + 1)) <;> rw [q] at hs <;> exact hs
        | true =>
          rw [if_pos rfl]
          refine ⟨R4, env', rel2.ext e4, ?_⟩
          dsimp only
          have hs : Sofar r ((ev C env' e >>= fun x => .ok (some x)) >>= fun o => lcR (lxF C env t c e) (ds.drop (i + 1)) >>= fun ds => .ok (consO o ds)) da := hs
          cases qe : ev C env' e with
          | stuck => rw [qe] at hs; exact absurd hs hns
          | exc k =>
            rw [qe] at hs
            exact fun H9 R9 ex => hE k hs _ _ _ (((e2.trans e3).trans e4).trans ex)
          | ok z =>
            rw [qe] at hs
            intro v H4 R5 e5 dz
            obtain ⟨H4D, R5D⟩ := keepD e5 H3D R4D
            have dn5 : DnA K R5 acc da := DnA.mono e5.r _ _ dn4
            have hs : Sofar r (lcR (lxF C env t c e) (ds.drop (i + 1)) >>= fun ds => .ok (consO (some z) ds)) da := hs
            refine ⟨acc, H4D, by omega, R5, acc ++ [v], da ++ [z], ?_, R5D, upd_same, dn5.append (.cons dz .nil), ?_, by simp; omega⟩
            · have ex := ((e2.trans e3).trans e4).trans e5
              refine ⟨ex.r, fun a u q => ?_, fun a u q => ?_, ex.new⟩
              · have ne : a ≠ D := fun h => by rw [h, R5D] at q; cases q
                rw [upd_ne ne]
                exact ex.sub a u q
              · have ne : a ≠ D := fun h => by rw [h, hD] at q; cases q
                rw [upd_ne ne]
                exact ex.h a u q
            · cases q : lcR (lxF C env t c e) (ds.drop (i + 1)) with
              | ok ys =>
                rw [q] at hs
                have hs : r = .ok (da ++ z :: ys) := hs
                show r = .ok ((da ++ [z]) ++ ys)
                rw [hs, List.append_assoc]
                rfl
              | exc k => rw [q] at hs; exact hs
              | stuck => rw [q] at hs; exact hs
  · rintro H ⟨R2, acc, da, e2, r2, hDl, dn, hs, hle⟩
    rw [List.drop_length] at hs
    have hs : r = .ok (da ++ []) := hs
    rw [List.append_nil] at hs
    exact hQ da H R2 acc hs e2 r2 hDl dn
/-- what it asks, from what is wanted of it -/
theorem lxImp {w : Bool} {K : PySem.W.Frag} {W : WX} {t : Tg} {it : It} {c : Eo} {e : E} {σ : L2.St} {H : Hp} {Q : VK} (hwt : w = true → ∃ is, t = .tp is) (h : tF K W (fun env => ev C env (.lx t it c e)) σ H Q) :
    tLc (iD w K W fun env => evi C env it) (tgD K t) (tDT K (atW W σ) fun env => evc C env c) (tD K (atW W σ) fun env => ev C env e) (slots t) σ H Q := by
  obtain ⟨R, env, rel, hw⟩ := h
  have e0 : ev C env (.lx t it c e) = (evi C env it >>= fun ds => if fitsL ds.length then lcR (lxF C env t c e) ds >>= fun xs => .ok (.list xs) else .stuck) := rfl
  dsimp only at hw
  rw [e0] at hw
  refine ⟨R, env, rel, ?_⟩
  dsimp only
  cases qi : evi C env it with
  | stuck => rw [qi] at hw; exact False.elim hw
  | exc k => rw [qi] at hw; exact hw
  | ok ds =>
    rw [qi] at hw
    intro J H1 R1 e1 wd D hD
    have hw : (match (if fitsL ds.length then lcR (lxF C env t c e) ds >>= fun xs => Res.ok (PyData.list xs) else .stuck : Res PyData) with | .ok (.list ds) => FreshK K R H ds Q | .ok _ => False | .exc c => ∀ (H' R' : Hp), Ext R H R' H' → W (xcls K c) none σ H' | .stuck => False) := hw
    cases g : fitsL ds.length with
    | false => rw [g] at hw; exact False.elim hw
    | true =>
      rw [g, if_pos rfl] at hw
      refine lcX_ext (rel.ext e1) hwt wd rfl (fun z => ?_) (of_decide_eq_true g) hD (fun k z σ' H' R' ex => ?_) fun xs H' R2 acc z ex r2 hl dn => ?_
      · rw [z] at hw; exact hw
      · rw [z] at hw
        exact hw H' R' (e1.trans ex)
      · rw [z] at hw
        have hw : FreshK K R H xs Q := hw
        exact hw D acc H' R2 (e1.trans ex) (e1.h.free hD) r2 hl dn
theorem lx_list_ {t : Tg} {it : It} {c : Eo} {e : E} (env : Ev) (d : PyData) (h : ev C env (.lx t it c e) = .ok d) : ∃ ds, d = .list ds := by
  have e0 : ev C env (.lx t it c e) = (evi C env it >>= fun ds => if fitsL ds.length then lcR (lxF C env t c e) ds >>= fun xs => .ok (.list xs) else .stuck) := rfl
  rw [e0] at h
  obtain ⟨ds, _, h⟩ := bind_ok h
  split at h
  · obtain ⟨xs, _, h⟩ := bind_ok h
    cases h
    exact ⟨xs, rfl⟩
  · cases h
/-- its parts -/
structure LxOk (X : Cx) (W : WX) (C : Nat → List PyData → Res PyData) (t : Tg) (it : It) (c : Eo) (e : E) (elt tg iter : Expr) (ifs : List Expr) (scope : Scope) : Prop where
  calm : X.calm = true
  nd : X.N.Nodup
  tk : Takes X W
  top : X.stack = X.env :: X.outer
  frm : X.env.frame = some X.env.locals
  tp : isTup tg = true → ∃ is, t = .tp is
  hi : PI X tg iter (iD (isTup tg) X.K W fun env => evi C env it)
  own : ∃ own, BlkOk X.N X.env.scope scope own ∧ own.map (·.2) = slots t
  hg : ∀ (s : Shared) (H : Hp) (Ca : Addr) (cl : List (Str × Addr)) (fp : List Addr) (xe : Value → Shared → Prop), PG (blkX X s H scope (compEnvC scope cl Ca X.env) fp xe) tg (tgD X.K t)
  ht : ∀ (s : Shared) (H : Hp) (Ca : Addr) (cl : List (Str × Addr)) (fp : List Addr) (xe : Value → Shared → Prop) (W' : WX), Takes (blkX X s H scope (compEnvC scope cl Ca X.env) fp xe) W' → PTs (blkX X s H scope (compEnvC scope cl Ca X.env) fp xe) ifs (tDT X.K W' fun env => evc C env c)
  he : ∀ (s : Shared) (H : Hp) (Ca : Addr) (cl : List (Str × Addr)) (fp : List Addr) (xe : Value → Shared → Prop) (W' : WX), Takes (blkX X s H scope (compEnvC scope cl Ca X.env) fp xe) W' → PE (blkX X s H scope (compEnvC scope cl Ca X.env) fp xe) elt (tD X.K W' fun env => ev C env e)
  hs : ∀ x, foldedSetIterable iter X.env x = pure x
theorem LxOk.pe {X : Cx} {W : WX} {t : Tg} {it : It} {c : Eo} {e : E} {elt tg iter : Expr} {ifs : List Expr} {scope : Scope} {pos : Pos} (L : LxOk X W C t it c e elt tg iter ifs scope) : PE X (.ListComp elt [⟨tg, iter, ifs, 0⟩] scope pos) (tF X.K W fun env => ev C env (.lx t it c e)) := by
  obtain ⟨own, ok, eo⟩ := L.own
  refine ⟨fun pins s σ H Q I h => ?_⟩
  have want := lxImp L.tp h
  rw [← eo] at want
  rw [eval_ListComp]
  refine lcX_core (tt := fun W' => tDT X.K W' fun env => evc C env c) (te := fun W' => tD X.K W' fun env => ev C env e) L.calm L.nd L.tk L.top L.frm I L.hi ok L.hg L.ht L.he L.hs want fun D ce s' m H' I' q hn f => ⟨m, hn, fun h'' sb => ?_⟩
  obtain ⟨f0, f1, f2, f3, f4, f5⟩ := f
  exact ⟨.ref D, H', I'.turned (t' := s'.toks) (fun b o hb e => (sb.2 b hb).trans e) f0 f1 f3 f4 f5, rfl, q⟩
theorem sLx {X : Cx} {W : WX} {t : Tg} {it : It} {c : Eo} {e : E} {elt tg iter : Expr} {ifs : List Expr} {scope : Scope} {pos : Pos} (L : LxOk X W C t it c e elt tg iter ifs scope) : PE X (.ListComp elt [⟨tg, iter, ifs, 0⟩] scope pos) (tD X.K W fun env => ev C env (.lx t it c e)) :=
  peImp L.pe fun σ H Q h => tD_tF (fun env d h => lx_list_ env d h) h
theorem LxOk.set {X : Cx} {W : WX} {t : Tg} {it : It} {c : Eo} {e : E} {elt tg iter : Expr} {ifs : List Expr} {scope : Scope} {pos spos py : Pos} {i : Nat} {y : Str} (L : LxOk X W C t it c e elt tg iter ifs scope) (hk : X.env.scope.kind = .function) (hy : X.N[i]? = some y) (hl : Loc X.env.scope y) (hf : X.fn y = true ∨ X.env.scope.names.lookup y = some .local) :
    PS X (.Assign [.Name y py] (.ListComp elt [⟨tg, iter, ifs, 0⟩] scope pos) spos) (tAsg (tF X.K W fun env => ev C env (.lx t it c e)) (gName i)) := by
  obtain ⟨own, ok, eo⟩ := L.own
  have hb : X.env.blockKind = .function := by unfold PySem.Env.blockKind; rw [hk]; rfl
  have sw : swapsWith (.ListComp elt [⟨tg, iter, ifs, 0⟩] scope pos) (some (.Name y py)) spos.line X.env = pure (decide (X.env.kindOf y = some .local) && (py.line == pos.line) && !(scope.names.any fun (n, k) => n == y && (k == .local || k == .cell))) := by
    unfold swapsWith
    simp only [hb, Expr.pos]
    have : (X.env.kindOf y == some NameKind.local) = decide (X.env.kindOf y = some .local) := by
      by_cases h : X.env.kindOf y = some .local
      · rw [h]; rfl
      · rw [decide_eq_false h]; exact beq_eq_false_iff_ne.mpr h
    rw [this]
    rfl
  cases q : (decide (X.env.kindOf y = some .local) && (py.line == pos.line) && !(scope.names.any fun (n, k) => n == y && (k == .local || k == .cell))) with
  | true =>
    rw [q] at sw
    simp only [Bool.and_eq_true, decide_eq_true_eq] at q
    have yl : X.env.scope.names.lookup y = some .local := q.1.1
    refine ⟨fun pins s σ H D I h => ?_⟩
    have h : tF X.K W (fun env => ev C env (.lx t it c e)) σ H (fun x H1 => gName i x σ H1 D.nx) := h
    have want := lxImp L.tp h
    rw [← eo] at want
    rw [exec_Assign_Name_used _ _ _ _ sw]
    refine wpAny_bind (wpAny_standAt (wpAny_bind ?_))
    show wpAny _ X.A (do let _ ← comprehension (.ListComp elt [⟨tg, iter, ifs, 0⟩] scope pos) scope X.env (firstIterPos [⟨tg, iter, ifs, 0⟩] pos) (newList []) false (eval iter X.env) (some (assign (.Name y py) X.env))) _ _ s
    refine wpAny_bind (thn (lcX_core (tt := fun W' => tDT X.K W' fun env => evc C env c) (te := fun W' => tD X.K W' fun env => ev C env e) (Qf := fun _ s' => SP X pins D .next s') L.calm L.nd L.tk L.top L.frm I L.hi ok L.hg L.ht L.he L.hs want fun D0 ce s' m H' I' qq hn f => ?_) fun _ s' hq => wpAny_pure (wpAny_pure hq))
    show wpAny _ _ (assign (.Name y py) X.env (.ref D0)) _ _ _
    refine wpAny_assign_Name (store_ok2 (v := V.ref D0) I' L.nd hy (.inl yl) rfl (fun s2 I2 ⟨a, sb, ha⟩ => ?_) (.inr yl))
    obtain ⟨f0, f1, f2, f3, f4, f5⟩ := f
    have away : ce.locals ≠ a := ha.elim (fun z => by rw [z]; exact f1) fun z e => f4 y a z e.symm
    exact ⟨m, hn.sameBut sb away, fun h3 sb3 => ⟨_, H', I2.turned (t' := s2.toks) (fun b o hb e => (sb3.2 b hb).trans e) f0 f1 f3 f4 f5, qq⟩⟩
  | false =>
    rw [q] at sw
    exact ps_set L.nd hy hl L.pe sw hf
end
end Z
end
section
/-! Z7m: fields and methods of objects. -/
namespace Z
open PySem PySem.Spec PyProof.Rows L2
theorem lookup_idx {fs : List (Str × V)} : ∀ {ns : List Str} {i : Nat} {f : Str} {v : V}, ns.Nodup → fs.map (·.1) = ns → ns[i]? = some f → (fs.map (·.2))[i]? = some v → fs.lookup f = some v := by
  induction fs with
  | nil => intro ns i f v _ h1 h2 h3; simp at h3
  | cons p r ih =>
    intro ns i f v nd h1 h2 h3
    obtain ⟨g, x⟩ := p
    subst h1
    cases i with
    | zero =>
      simp at h2 h3
      subst h2 h3
      simp [List.lookup]
    | succ i =>
      have nd' := List.nodup_cons.mp nd
      have h2' : (r.map (·.1))[i]? = some f := by simpa using h2
      have ne : f ≠ g := fun e => nd'.1 (e ▸ List.mem_of_getElem? h2')
      have hb : (f == g) = false := beq_eq_false_iff_ne.mpr ne
      simp only [List.lookup, hb]
      exact ih nd'.2 rfl h2' (by simpa using h3)
theorem lookup_no {fs : List (Str × V)} {f : Str} (h : f ∉ fs.map (·.1)) : fs.lookup f = none := by
  induction fs with
  | nil => rfl
  | cons p r ih =>
    obtain ⟨g, x⟩ := p
    have h1 : f ≠ g := fun e => h (by simp [e])
    have hb : (f == g) = false := beq_eq_false_iff_ne.mpr h1
    simp only [List.lookup, hb]
    exact ih fun z => h (by simp [z])
theorem cfs_nd (c : Nat) : (cfs c).Nodup := by
  unfold cfs
  split <;> decide +kernel
theorem FsOk.at_ {c n : Nat} {fs : List (Str × V)} (h : FsOk c fs n) {i : Nat} {f : Str} {v : V} (hf : (cfs c)[i]? = some f) (hv : (fs.map (·.2))[i]? = some v) : fs.lookup f = some v := by
  have hl : i < n := by
    have h1 := (List.getElem?_eq_some_iff.mp hv).1
    have h2 := congrArg List.length h.nm
    simp at h1 h2
    omega
  refine lookup_idx (i := i) ((cfs_nd c).sublist (List.take_sublist n _)) h.nm ?_ hv
  rw [List.getElem?_take, if_pos hl]
  exact hf
theorem FsOk.no {c n : Nat} {fs : List (Str × V)} (h : FsOk c fs n) {m : Str} (hm : m ∉ cfs c) : fs.lookup m = none := lookup_no fun z => hm (List.mem_of_mem_take (h.nm ▸ z))
/-- an object by its data -/
theorem ob_of {K : PySem.W.Frag} {R : Hp} {x : V} {d : PyData} {c : Nat} {ds : List PyData} (h : Dn K R x d) (e : obF c d = .ok ds) : ∃ a dx fs, x = .ref a ∧ d = obD c ds ∧ R a = some (.ins (He.ga K (cname c)) dx fs) ∧ ClsOk K c ∧ FsOk c fs ds.length ∧ DnA K R (fs.map (·.2)) ds := by
  cases h with
  | obj h1 h2 h3 h4 h5 =>
    rename_i a dx fs c' ds' vs
    subst h2
    by_cases hc : c' = c
    · subst hc
      rw [obF_ob] at e
      cases e
      exact ⟨a, dx, fs, rfl, rfl, h1, h3, h4, h5⟩
    · have e : (if (c' : Int) = (c : Int) then Res.ok ds' else .stuck) = .ok ds := e
      rw [if_neg (fun z => hc (by omega))] at e
      cases e
  | _ => cases e
theorem obF_noexc {c : Nat} {d : PyData} (k : Nat) : obF c d ≠ .exc k := by
  unfold obF
  split
  · split <;> exact fun z => nomatch z
  · exact fun z => nomatch z
section
variable {C : Nat → List PyData → Res PyData}
theorem sFldE {X : Cx} {W : WX} {c i : Nat} {a : E} {e : Expr} {f : Str} {pos : Pos} (hf : (cfs c)[i]? = some f) (hb : plainB e = true) (ha : SE X W C a e) : SE X W C (.fld c i a) (.Attribute e f pos) := by
  refine .of (peImp (pe_fld ha.1 (plainB_ hb f X.env)) fun σ H Q ⟨R, env, rel, hw⟩ => ?_) fun _ => rfl
  have hw : WantG X.K W σ (denV X.K) R H (ev C env a >>= fun d => obF c d >>= fun ds => someR ds[i]?) Q := hw
  refine ⟨R, env, rel, hw.split fun d x H1 R1 e1 d1 h1 => ?_⟩
  have h1 : WantG X.K W σ (denV X.K) R1 H1 (obF c d >>= fun ds => someR ds[i]?) Q := h1
  obtain ⟨ds, eo, h9⟩ := h1.pure obF_noexc
  have h2 : WantG X.K W σ (denV X.K) R1 H1 (someR ds[i]?) Q := h9
  clear h9 h1
  obtain ⟨b, dx, fs, rfl, rfl, hR, cl, ok, dn⟩ := ob_of d1 eo
  cases q : ds[i]? with
  | none => rw [q] at h2; exact False.elim h2
  | some y =>
    rw [q] at h2
    obtain ⟨v, hv, dv⟩ := dn.get q
    exact ⟨b, _, dx, fs, v, rfl, e1.sub _ _ hR, cl.cls, cl.noat f (List.mem_of_getElem? hf), ok.at_ hf hv, WantG.val h2 e1.sub dv⟩
/-- the tree of a method call -/
theorem mtree {X : Cx} {o : Expr} {m : Str} {ap cp : Pos} {es : List Expr} (hb : plainB o = true) (hl : (ap.endLine == cp.line) = true) (hs : (backTo cp (starEach es X.env)).any (·.1) = false) (hn : es.length < 20) : eval (.Call (.Attribute o m ap) es [] cp) X.env = (do
      let ov ← eval o X.env
      standAt ap.atName
      let (f, first) ← holding [ov] (getMethod ov m (do return (← importBound o X.env).getD true))
      callWith cp f first (backTo cp (starEach es X.env)) (backToKw cp (keywordEach [] X.env))) := by
  refine L2.mcall_of (plainB_ hb m X.env) fun ov => ?_
  have h1 : (backTo cp (starEach es X.env)).all (fun x => !x.1) = true := by
    rw [List.all_eq_true]
    intro z hz
    have := List.any_eq_false.mp hs z hz
    simpa using this
  have hform : methodCallForm (es.length + ([] : List Keyword).length) (backTo cp (starEach es X.env)) (backToKw cp (keywordEach [] X.env)) = true := by
    unfold methodCallForm
    rw [h1]
    simp [keywordEach, backToKw]
    omega
  have hpos : methodCallPos true o X.env ap cp = pure cp := by unfold methodCallPos; simp [hl]
  unfold methodCall
  rw [hform, hpos]
  unfold calleeOf
  simp
section
variable {X : Cx} {CX : CXT} {k : Nat} {f Cc : Addr} {fd : FuncData} {ps : List Str} {sp : Sp} {E : L2.St → XK} {m : Str} {pos apos : Pos} {e o : Expr} {es : List Expr} {ta : TE} {t : TA}
def tMethS (Cc : Addr) (m : Str) (sp : Sp) (E : L2.St → XK) (ta : TE) (t : TA) : TE := fun σ H Q => ta σ H fun x H1 => ∃ a dx fs, x = .ref a ∧ H1 a = some (.ins Cc dx fs) ∧ fs.lookup m = none ∧ t σ H1 fun vs H2 => sp (x :: vs) H2 Q (E σ)
theorem pe_methS (hb0 : plainB o = true) (hl : (apos.endLine == pos.line) = true) (hn : es.length < 20) (he : PE X o ta) (c : Cls X.K Cc) (hm : Meth X.K Cc m f) (F : FnOk X.prog X.w X.K X.mg X.base CX k f fd ps sp) (hr : Room k X.A) (hb : Binds X.K fd ps []) (hx : ∀ σ, PassesAt CX X σ (E σ)) (ha : PA X es t) (h0 : es = [] → ∀ σ H Q, t σ H Q → Q [] H)
    (hst : ∀ e r, es = e :: r → starEach (e :: r) X.env = (false, eval e X.env) :: starEach r X.env) (hpl : ∀ p, (backTo p (starEach es X.env)).any (·.1) = false) (hpl2 : ∀ p e r, es = e :: r → (backTo p (starEach r X.env)).any (·.1) = false) :
    PE X (.Call (.Attribute o m apos) es [] pos) (tMethS Cc m sp E ta t) := by
  refine ⟨fun pins s σ H Q I h => ?_⟩
  refine PySem.W.methodCall_KW (thn (he.run pins s σ H _ I h) fun u s1 ⟨x, H1, I1, rx, a, dx, fs, ex, ea, l, q⟩ => ?_) (mtree hb0 hl (hpl pos) hn)
  subst ex
  obtain rfl : u = Value.ref a := rx
  refine getmeth_ok I1 ea c hm l ?_
  cases es with
  | nil =>
    refine PySem.W.callWith_K0 (first := [.ref a]) I1.kIn hm.kp ?_
    exact run_fnS (us := [.ref a]) (vs := [.ref a]) F hr hb (hx σ) I1 (.cons rfl .nil) (h0 rfl _ _ _ q)
  | cons e r =>
    refine PySem.W.callWith_K (first := [.ref a]) (h₀ := X.base) I.ok.mod.kin hm.kp (thn (ha.run pos pins s1 σ H1 _ I1 q) fun us s2 ⟨vs, H2, I2, r2, q2⟩ => ⟨I2.kIn, ?_⟩) (hst e r rfl) (hpl2 pos e r rfl)
    exact run_fnS (us := .ref a :: us) (vs := .ref a :: vs) F hr hb (hx σ) I2 (.cons rfl r2) q2
end
theorem sMc {X : Cx} {S : Sx} {W : WX} (F : Fits X S C) (tk : Takes X W) {c f : Nat} {o : E} {xs : Es} {oe : Expr} {m : Str} {ap cp : Pos} {es : List Expr} (hb : plainB oe = true) (hl : (ap.endLine == cp.line) = true) (hh : S.hot = none) (hf : (f, c, m) ∈ S.G.mts) (hc : c ∈ S.G.cls) (hm : m ∉ cfs c) (hn : es.length < 20)
    (hs : ∀ e r, es = e :: r → starEach (e :: r) X.env = (false, eval e X.env) :: starEach r X.env) (hpl : ∀ p, (backTo p (starEach es X.env)).any (·.1) = false) (hpl2 : ∀ p e r, es = e :: r → (backTo p (starEach r X.env)).any (·.1) = false) (ho : SE X W C o oe) (h : PA X es (tDA X.K W fun env => evs C env xs)) (h0 : es = [] → xs = .nil) : SE X W C (.mc c f o xs) (.Call (.Attribute oe m ap) es [] cp) := by
  obtain ⟨ad, fd, ps, k, sp, hmt, hbi, G, hr, ok⟩ := (F.mts hh f c m hf).ex
  refine .of (peImp (pe_methS hb hl hn ho.1 (F.gl.cls c hc).cls hmt G hr hbi (fun σ => passAt tk σ) h (fun e σ H Q ⟨R, env, rel, hw⟩ => by rw [h0 e] at hw; exact hw [] H R (Ext.refl rel.sub) .nil) hs hpl hpl2) fun σ H Q ⟨R, env, rel, hw⟩ => ?_) fun _ => rfl
  have hw : WantG X.K W σ (denV X.K) R H (ev C env o >>= fun d => obF c d >>= fun _ => evs C env xs >>= fun ds => C f (d :: ds)) Q := hw
  refine ⟨R, env, rel, hw.split fun d x H1 R1 e1 d1 h1 => ?_⟩
  have h1 : WantG X.K W σ (denV X.K) R1 H1 (obF c d >>= fun _ => evs C env xs >>= fun ds => C f (d :: ds)) Q := h1
  obtain ⟨fl, eo, h1⟩ := h1.pure obF_noexc
  have h1 : WantG X.K W σ (denV X.K) R1 H1 (evs C env xs >>= fun ds => C f (d :: ds)) Q := h1
  obtain ⟨b, dx, fs, rfl, rfl, hR, cl, fo, dn⟩ := ob_of d1 eo
  refine ⟨b, dx, fs, rfl, e1.sub _ _ hR, fo.no hm, R1, env, rel.ext e1, h1.split fun ds vs H2 R2 e2 d2 h2 => ?_⟩
  exact ok W σ R2 H2 (.ref b :: vs) _ Q e2.sub (.cons (Dn.mono e2.r _ _ d1) d2) h2.r
end
end Z
end
section
/-! Z8: every expression of the small language. -/
namespace Z
open PySem PySem.Spec PyProof.Rows L2
variable {C : Nat → List PyData → Res PyData}
theorem sPa {X : Cx} {W : WX} {a : E} {r : Es} {e : Expr} {es : List Expr} (h : SE X W C a e) (h2 : PA X es (tDA X.K W fun env => evs C env r)) (hs : starEach (e :: es) X.env = (false, eval e X.env) :: starEach es X.env) : PA X (e :: es) (tDA X.K W fun env => evs C env (.cons a r)) := by
  refine paImp (pa_cons h.1 h2 hs) fun σ H Q ⟨R, env, rel, hw⟩ => ?_
  have hw : WantG X.K W σ (denL X.K) R H (ev C env a >>= fun x => evs C env r >>= fun xs => .ok (x :: xs)) Q := hw
  refine ⟨R, env, rel, hw.split fun d v H1 R1 e1 n1 h1 => ⟨R1, env, rel.ext e1, h1.split fun ds vs H2 R2 e2 n2 h2 => ?_⟩⟩
  exact h2 (v :: vs) H2 R2 (Ext.refl e2.sub) (.cons (Dn.mono e2.r _ _ n1) n2)
theorem sPaNil {X : Cx} {W : WX} : PA X [] (tDA X.K W fun env => evs C env .nil) := paImp pa_nil fun σ H Q ⟨R, env, rel, hw⟩ => hw [] H R (Ext.refl rel.sub) .nil
theorem isTup_ {e : Expr} (h : isTup e = true) : ∃ es k p, e = .Tuple es k p := by
  cases e with
  | Tuple es k p => exact ⟨es, k, p, rfl⟩
  | _ => cases h
theorem rg_dn {K : PySem.W.Frag} {R : Hp} (a b : Int) (n : Nat) (h : (b - a).toNat = n) : DnA K R (rgV a b) (rangeL a n) := by
  unfold rgV rangeL
  rw [h]
  generalize List.range n = l
  induction l with
  | nil => exact .nil
  | cons i r ih => exact .cons (.int _) ih
theorem rgOk_ {a b : Int} (ha : -16777216 ≤ a ∧ a ≤ 16777216) (hb : -16777216 ≤ b ∧ b ≤ 16777216) (hl : (b - a).toNat ≤ 16777216) : RgOk a b := ⟨by omega, by omega, by omega, by omega, by omega⟩
theorem de_listRg1 {X : Cx} {W : WX} {e : Expr} {p p2 pos pos2 : Pos} {a : E} (hc : X.calm = true) (hgl : Gl X "list") (hml : X.mg "list" = none) (hg : Gl X "range") (hm : X.mg "range" = none) (ha : PE X e (tD X.K W fun env => ev C env a)) (hs : starEach [e] X.env = (false, eval e X.env) :: starEach [] X.env) :
    PE X (.Call (.Name "list" p) [.Call (.Name "range" p2) [e] [] pos2] [] pos) (tD X.K W fun env => ev C env (.lit (.rg (.cons a .nil)))) := by
  refine peImp (pe_listRg hc hgl hml (prg_1 hg hm ha hs) rfl) fun σ H Q ⟨R, env, rel, hw⟩ => ?_
  have e0 : ev C env (.lit (.rg (.cons a .nil))) = (ev C env a >>= fun x => rgD [x] >>= fun ds => guardR (fitsL ds.length) (.list ds)) := by
    show (((ev C env a >>= fun x => .ok [x]) >>= rgD) >>= _) = _
    simp only [bindAssoc]; rfl
  dsimp only at hw
  rw [e0] at hw
  refine ⟨R, env, rel, hw.split fun dx x H1 R1 e1 d1 h1 => ?_⟩
  cases d1 with
  | int n =>
    have h1 : WantG X.K W σ (denV X.K) R1 H1 ((if okI n then .ok (rangeL 0 n.toNat) else .stuck) >>= fun ds => guardR (fitsL ds.length) (.list ds)) Q := h1
    cases q : okI n with
    | false => rw [q] at h1; exact False.elim h1
    | true =>
      rw [q] at h1
      have h1 : WantG X.K W σ (denV X.K) R1 H1 (guardR (fitsL (rangeL 0 n.toNat).length) (.list (rangeL 0 n.toNat))) Q := h1
      obtain ⟨g, h1⟩ := h1.guard
      have g : (rangeL 0 n.toNat).length ≤ sizeLine := of_decide_eq_true g
      have lr : (rangeL 0 n.toNat).length = n.toNat := by simp [rangeL]
      rw [lr, sizeLine_eq] at g
      exact ⟨n, rfl, rgOk_ (by omega) (okI_ q) (by omega), fun p hp => h1.newL e1.sub (rg_dn 0 n n.toNat (by omega)) hp⟩
  | _ => exact False.elim h1
theorem de_listRg2 {X : Cx} {W : WX} {e e2 : Expr} {p p2 pos pos2 : Pos} {a b : E} (hc : X.calm = true) (hgl : Gl X "list") (hml : X.mg "list" = none) (hg : Gl X "range") (hm : X.mg "range" = none) (ha : PE X e (tD X.K W fun env => ev C env a)) (hb : PE X e2 (tD X.K W fun env => ev C env b)) (hs : starEach [e, e2] X.env = (false, eval e X.env) :: starEach [e2] X.env) (hs2 : starEach [e2] X.env = (false, eval e2 X.env) :: starEach [] X.env) :
    PE X (.Call (.Name "list" p) [.Call (.Name "range" p2) [e, e2] [] pos2] [] pos) (tD X.K W fun env => ev C env (.lit (.rg (.cons a (.cons b .nil))))) := by
  refine peImp (pe_listRg hc hgl hml (prg_2 hg hm ha hb hs hs2 (by rw [hs2]; rfl)) rfl) fun σ H Q ⟨R, env, rel, hw⟩ => ?_
  have e0 : ev C env (.lit (.rg (.cons a (.cons b .nil)))) = (ev C env a >>= fun x => ev C env b >>= fun y => rgD [x, y] >>= fun ds => guardR (fitsL ds.length) (.list ds)) := by
    show (((ev C env a >>= fun x => (ev C env b >>= fun y => .ok [y]) >>= fun xs => .ok (x :: xs)) >>= rgD) >>= _) = _
    simp only [bindAssoc]; rfl
  dsimp only at hw
  rw [e0] at hw
  refine ⟨R, env, rel, hw.split fun dx x H1 R1 e1 d1 h1 => ⟨R1, env, rel.ext e1, h1.split fun dy y H2 R2 e2 d2 h2 => ?_⟩⟩
  cases d1 with
  | int i =>
    cases d2 with
    | int j =>
      have h2 : WantG X.K W σ (denV X.K) R2 H2 ((if okI i && okI j then .ok (rangeL i (j - i).toNat) else .stuck) >>= fun ds => guardR (fitsL ds.length) (.list ds)) Q := h2
      cases q : okI i && okI j with
      | false => rw [q] at h2; exact False.elim h2
      | true =>
        rw [q] at h2
        have h2 : WantG X.K W σ (denV X.K) R2 H2 (guardR (fitsL (rangeL i (j - i).toNat).length) (.list (rangeL i (j - i).toNat))) Q := h2
        obtain ⟨g, h2⟩ := h2.guard
        have g : (rangeL i (j - i).toNat).length ≤ sizeLine := of_decide_eq_true g
        have lr : (rangeL i (j - i).toNat).length = (j - i).toNat := by simp [rangeL]
        rw [lr, sizeLine_eq] at g
        rw [Bool.and_eq_true] at q
        exact ⟨i, j, rfl, rfl, rgOk_ (okI_ q.1) (okI_ q.2) g, fun p hp => h2.newL e2.sub (rg_dn i j _ rfl) hp⟩
    | _ => exact False.elim h2
  | _ => cases d2 <;> exact False.elim h2
theorem star3 {xs : Es} {S : Sx} {e : Expr} {es : List Expr} {env : PySem.Env} (h : chkEs xs S (e :: es) = true) : starEach (e :: es) env = (false, eval e env) :: starEach es env := by
  cases xs with
  | nil => simp [chkEs] at h
  | cons a r => rw [chkEs, Bool.and_eq_true] at h; exact star1 (noStar h.1) es env
theorem star4 {xs : Es} {S : Sx} {e : Expr} {es : List Expr} {env : PySem.Env} {pos : Pos} (h : chkEs xs S (e :: es) = true) : (backTo pos (starEach es env)).any (·.1) = false := by
  cases xs with
  | nil => simp [chkEs] at h
  | cons a r => rw [chkEs, Bool.and_eq_true] at h; exact star2 h.2
mutual
theorem sE : ∀ (c : E) {X : Cx} {S : Sx} {W : WX} {e : Expr}, Fits X S C → Takes X W → chkE c S e = true → SE X W C c e
  | .var i, X, S, W, e, F, tk, h => by
    cases e with
    | Name x pos => exact sVar F (by rw [chkE] at h; exact h)
    | _ => exact absurd h (by simp [chkE])
  | .cn c, X, S, W, e, F, tk, h => by
    cases e with
    | Constant k j pos => exact sCn (by rw [chkE] at h; exact h)
    | _ => exact absurd h (by simp [chkE])
  | .gl x c, X, S, W, e, F, tk, h => by
    cases e with
    | Name y pos =>
      rw [chkE] at h
      simp only [Bool.and_eq_true, decide_eq_true_eq] at h
      obtain ⟨⟨⟨h1, h2⟩, h3⟩, h4⟩ := h
      subst h1
      obtain ⟨u, v, hm, r, dn⟩ := F.gl.con x c h4
      refine .of (peImp (pe_glob (F.glb h2) hm r (okName_ h3).1) fun σ H Q ⟨R, env, rel, hw⟩ => ?_) fun _ => rfl
      exact WantG.val (d := c.d) hw rel.sub (dn R)
    | _ => exact absurd h (by simp [chkE])
  | .bin o a b, X, S, W, e, F, tk, h => by
    cases e with
    | BinOp l op r pos =>
      rw [chkE] at h
      simp only [Bool.and_eq_true] at h
      obtain ⟨r, ho, hd⟩ := bop_ok (X := X) h.1.1
      exact .of (de_bin ho hd (sE a F tk h.1.2).1 (sE b F tk h.2).1) fun _ => rfl
    | _ => exact absurd h (by simp [chkE])
  | .neg a, X, S, W, e, F, tk, h => by
    cases e with
    | UnaryOp op x pos =>
      cases op with
      | USub =>
        rw [chkE] at h
        refine .of (de_un un_neg (g := negD) ?_ (sE a F tk h).1) fun _ => rfl
        intro W σ R H x dx Q s hx hw
        cases hx with
        | int i => exact ⟨i, rfl, WantG.val hw s (.int _)⟩
        | _ => exact False.elim hw
      | _ => exact absurd h (by simp [chkE])
    | _ => exact absurd h (by simp [chkE])
  | .inv a, X, S, W, e, F, tk, h => by
    cases e with
    | UnaryOp op x pos =>
      cases op with
      | Not => rw [chkE] at h; exact sNot (sE a F tk h)
      | _ => exact absurd h (by simp [chkE])
    | _ => exact absurd h (by simp [chkE])
  | .an xs, X, S, W, e, F, tk, h => by
    cases e with
    | BoolOp op es pos =>
      cases op with
      | And =>
        rw [chkE] at h
        by_cases hn : es = []
        · subst hn
          cases xs with
          | nil =>
            refine ⟨⟨fun pins s σ H Q I ⟨R, env, rel, hw⟩ => ?_⟩, ⟨fun pins s σ H Q I ⟨R, env, rel, hw⟩ => ?_⟩⟩ <;> exact False.elim hw
          | cons a r => exact absurd h (by simp [chkEs])
        · have q := ((sEs xs F tk h).2 hn) pos
          exact ⟨q.1.1, q.1.2.pt⟩
      | _ => exact absurd h (by simp [chkE])
    | _ => exact absurd h (by simp [chkE])
  | .or xs, X, S, W, e, F, tk, h => by
    cases e with
    | BoolOp op es pos =>
      cases op with
      | Or =>
        rw [chkE] at h
        by_cases hn : es = []
        · subst hn
          cases xs with
          | nil =>
            refine ⟨⟨fun pins s σ H Q I ⟨R, env, rel, hw⟩ => ?_⟩, ⟨fun pins s σ H Q I ⟨R, env, rel, hw⟩ => ?_⟩⟩ <;> exact False.elim hw
          | cons a r => exact absurd h (by simp [chkEs])
        · have q := ((sEs xs F tk h).2 hn) pos
          exact ⟨q.2.1, q.2.2.pt⟩
      | _ => exact absurd h (by simp [chkE])
    | _ => exact absurd h (by simp [chkE])
  | .cmp o a b, X, S, W, e, F, tk, h => by
    cases e with
    | Compare l ops rs pos =>
      match ops, rs, h with
      | [op], [r], h =>
        rw [chkE] at h
        simp only [Bool.and_eq_true, Bool.not_eq_true'] at h
        obtain ⟨⟨⟨h1, h2⟩, h3⟩, h4⟩ := h
        obtain ⟨rr, ho, hd⟩ := cop_ok F.hu h1
        have ha := sE a F tk h2
        have hb := sE b F tk h3
        refine ⟨de_cmp ho hd ha.1 hb.1 h4, ptImp (pt_cmpR ho ha.1 hb.1 h4) fun σ H Q ⟨R, env, rel, hw⟩ => ?_⟩
        have hw : WantG X.K W σ denB R H ((ev C env a >>= fun x => ev C env b >>= fun y => cmpD o x y) >>= boolD) Q := hw
        simp only [bindAssoc] at hw
        refine ⟨R, env, rel, hw.split fun dx x H1 R1 e1 d1 h1 => ⟨R1, env, rel.ext e1, h1.split fun dy y H2 R2 e2 d2 h2 => ?_⟩⟩
        refine hd W σ R2 H2 x y dx dy _ e2.sub (Dn.mono e2.r _ _ d1) d2 ?_
        refine h2.split fun d v H3 R3 e3 n3 h3 => ?_
        cases n3 with
        | bl k => exact ⟨k, rfl, h3 k H3 R3 (Ext.refl e3.sub) rfl⟩
        | _ => exact False.elim h3
      | [], _, h => exact absurd h (by simp [chkE])
      | [_], [], h => exact absurd h (by simp [chkE])
      | [_], _ :: _ :: _, h => exact absurd h (by simp [chkE])
      | _ :: _ :: _, _, h => exact absurd h (by simp [chkE])
    | _ => exact absurd h (by simp [chkE])
  | .chn o p a b c, X, S, W, e, F, tk, h => by
    cases e with
    | Compare l ops rs pos =>
      match ops, rs, h with
      | [op, op'], [r, r'], h =>
        rw [chkE] at h
        simp only [Bool.and_eq_true, Bool.not_eq_true'] at h
        obtain ⟨⟨⟨⟨⟨h1, h2⟩, h3⟩, h4⟩, h5⟩, h6⟩ := h
        exact de_chn F.hu h1 h2 (sE a F tk h3).1 (sE b F tk h4).1 (sE c F tk h5).1 h6
      | [], _, h => exact absurd h (by simp [chkE])
      | [_], _, h => exact absurd h (by simp [chkE])
      | [_, _], [], h => exact absurd h (by simp [chkE])
      | [_, _], [_], h => exact absurd h (by simp [chkE])
      | [_, _], _ :: _ :: _ :: _, h => exact absurd h (by simp [chkE])
      | _ :: _ :: _ :: _, _, h => exact absurd h (by simp [chkE])
    | _ => exact absurd h (by simp [chkE])
  | .ch3 o p q a b c d, X, S, W, e, F, tk, h => by
    cases e with
    | Compare l ops rs pos =>
      match ops, rs, h with
      | [x, y, z], [r1, r2, r3], h =>
        rw [chkE] at h
        simp only [Bool.and_eq_true, Bool.not_eq_true'] at h
        obtain ⟨⟨⟨⟨⟨⟨⟨g1, g2⟩, g3⟩, g4⟩, g5⟩, g6⟩, g7⟩, g8⟩ := h
        exact de_ch3 F.hu g1 g2 g3 (sE a F tk g4).1 (sE b F tk g5).1 (sE c F tk g6).1 (sE d F tk g7).1 g8
      | [], _, h => exact absurd h (by simp [chkE])
      | [_], _, h => exact absurd h (by simp [chkE])
      | [_, _], _, h => exact absurd h (by simp [chkE])
      | [_, _, _], [], h => exact absurd h (by simp [chkE])
      | [_, _, _], [_], h => exact absurd h (by simp [chkE])
      | [_, _, _], [_, _], h => exact absurd h (by simp [chkE])
      | [_, _, _], _ :: _ :: _ :: _ :: _, h => exact absurd h (by simp [chkE])
      | _ :: _ :: _ :: _ :: _, _, h => exact absurd h (by simp [chkE])
    | _ => exact absurd h (by simp [chkE])
  | .ite c a b, X, S, W, e, F, tk, h => by
    cases e with
    | IfExp t x y pos =>
      rw [chkE] at h
      simp only [Bool.and_eq_true] at h
      exact sIte (sE c F tk h.1.1) (sE a F tk h.1.2) (sE b F tk h.2)
    | _ => exact absurd h (by simp [chkE])
  | .tup xs, X, S, W, e, F, tk, h => by
    cases e with
    | Tuple es k pos => rw [chkE] at h; exact sTup (sEs xs F tk h).1
    | _ => exact absurd h (by simp [chkE])
  | .lst xs, X, S, W, e, F, tk, h => by
    cases e with
    | List es pos => rw [chkE] at h; exact sLst (sEs xs F tk h).1
    | _ => exact absurd h (by simp [chkE])
  | .ix a i, X, S, W, e, F, tk, h => by
    cases e with
    | Subscript x s pos =>
      rw [chkE] at h
      simp only [Bool.and_eq_true, Bool.not_eq_true'] at h
      exact seIx (sE a F tk h.1.1) (sE i F tk h.1.2) h.2
    | _ => exact absurd h (by simp [chkE])
  | .sl a lo hi, X, S, W, e, F, tk, h => by
    cases e with
    | Subscript x s pos =>
      cases s with
      | Slice l u st p2 =>
        cases st with
        | none =>
          rw [chkE] at h
          simp only [Bool.and_eq_true] at h
          exact sSl (sE a F tk h.1.1) (sEo lo F tk h.1.2) (sEo hi F tk h.2)
        | some _ => exact absurd h (by simp [chkE])
      | _ => exact absurd h (by simp [chkE])
    | _ => exact absurd h (by simp [chkE])
  | .rv a, X, S, W, e, F, tk, h => by
    rw [chkE] at h
    split at h
    · rename_i x q
      obtain ⟨k, p1, p2, p3, pos, rfl⟩ := asBack_ q
      exact .of (de_back (sE a F tk h).1) fun _ => rfl
    · cases h
  | .call f .nil, X, S, W, e, F, tk, h => by exact absurd h (by cases e <;> simp [chkE])
  | .call f (.cons a r), X, S, W, e, F, tk, h => by
    rw [chkE] at h
    split at h
    · rename_i x e es q
      obtain ⟨p, pos, rfl⟩ := asCall_ q
      simp only [Bool.and_eq_true, decide_eq_true_eq] at h
      obtain ⟨⟨⟨⟨⟨h1, h2⟩, h3⟩, h4⟩, h5⟩, h6⟩ := h
      have hs := star1 (noStar h5) es X.env
      exact sCall F tk (by simpa using h1) h2 (okName_ne h4) (F.glb h3) (okName_ h4).1 hs (star2 h6) (sPa (sE a F tk h5) (sEs r F tk h6).1 hs)
    · cases h
  | .sel fs i .nil, X, S, W, e, F, tk, h => by exact absurd h (by simp [chkE])
  | .sel fs i (.cons a r), X, S, W, e, F, tk, h => by
    rw [chkE] at h
    split at h
    · rename_i es ie e1 args q
      obtain ⟨p1, p2, p3, rfl⟩ := asSel_ q
      simp only [Bool.and_eq_true, Bool.not_eq_true', decide_eq_true_eq] at h
      obtain ⟨⟨⟨⟨⟨⟨g1, g2⟩, g3⟩, g4⟩, g5⟩, g6⟩, g7⟩ := h
      have hs := star1 (noStar g6) args X.env
      exact .of (de_sel F tk (by simpa using g1) g2 g3 g5 (sE i F tk g4).1 hs (star2 g7) (sPa (sE a F tk g6) (sEs r F tk g7).1 hs)) fun _ => rfl
    · cases h
  | .bl b .nil, X, S, W, e, F, tk, h => by exact absurd h (by cases e <;> simp [chkE])
  | .bl b (.cons a r), X, S, W, e, F, tk, h => by
    rw [chkE] at h
    split at h
    · rename_i x e es q
      obtain ⟨p, pos, rfl⟩ := asCall_ q
      simp only [Bool.and_eq_true, decide_eq_true_eq] at h
      obtain ⟨⟨⟨⟨⟨h1, h2⟩, h3⟩, h4⟩, h5⟩, h6⟩ := h
      have hs := star1 (noStar h5) es X.env
      exact sBl F (by simpa using h1) h2 h3 (F.bltn h4) hs (star2 h6) (sPa (sE a F tk h5) (sEs r F tk h6).1 hs)
    · cases h
  | .isi a t, X, S, W, e, F, tk, h => by
    rw [chkE] at h
    split at h
    · rename_i x e ey q
      obtain ⟨p, pos, rfl⟩ := asCall_ q
      split at h
      · rename_i y q2
        obtain ⟨p2, rfl⟩ := asName_ q2
        simp only [Bool.and_eq_true, decide_eq_true_eq] at h
        obtain ⟨⟨⟨⟨h1, h2⟩, h3⟩, h4⟩, h5⟩ := h
        exact sIsi h1 (F.bltn h2) h3 (F.bltn h4) (sE a F tk h5) fun es => star1 (noStar h5) es X.env
      · cases h
    · cases h
  | .mt .sset a .nil, X, S, W, e, F, tk, h => by
    rw [chkE] at h
    split at h
    · rename_i x ez q
      split at h
      · rename_i y e1 q2
        obtain ⟨p, pos, rfl⟩ := asCall_ q
        obtain ⟨p2, pos2, rfl⟩ := asCall_ q2
        simp only [Bool.and_eq_true, decide_eq_true_eq] at h
        obtain ⟨⟨⟨⟨⟨h1, h2⟩, h3⟩, h4⟩, h5⟩, h6⟩ := h
        subst h2 h4
        exact .of (de_sset (F.calm (by simpa using h1)) (F.bltn h3).1 (F.bltn h3).2.1 (F.bltn h5).1 (F.bltn h5).2.1 (sE a F tk h6).1 (star1 (noStar h6) _ _)) fun _ => rfl
      · cases h
    · cases h
  | .mt .sset a (.cons b r), X, S, W, e, F, tk, h => by exact absurd h (by simp [chkE])
  | .mt .ssp a .nil, X, S, W, e, F, tk, h => by
    rw [chkE] at h
    split at h
    · rename_i x ez q
      split at h
      · rename_i y e1 q2
        obtain ⟨p, pos, rfl⟩ := asCall_ q
        obtain ⟨p2, pos2, rfl⟩ := asCall_ q2
        simp only [Bool.and_eq_true, decide_eq_true_eq] at h
        obtain ⟨⟨⟨⟨⟨h1, h2⟩, h3⟩, h4⟩, h5⟩, h6⟩ := h
        subst h2 h4
        exact .of (de_ssp (F.calm (by simpa using h1)) F.hu (F.bltn h3).1 (F.bltn h3).2.1 (F.bltn h5).1 (F.bltn h5).2.1 (sE a F tk h6).1 (star1 (noStar h6) _ _)) fun _ => rfl
      · cases h
    · cases h
  | .mt .ssp a (.cons b r), X, S, W, e, F, tk, h => by exact absurd h (by simp [chkE])
  | .mt .count a .nil, X, S, W, e, F, tk, h => by exact absurd h (by simp [chkE])
  | .mt .count a (.cons b (.cons c r)), X, S, W, e, F, tk, h => by exact absurd h (by simp [chkE])
  | .mt .count a (.cons b .nil), X, S, W, e, F, tk, h => by
    rw [chkE] at h
    split at h
    · rename_i o m e1 q
      obtain ⟨ap, cp, rfl, hl, hb⟩ := asMt_ q
      simp only [Bool.and_eq_true, decide_eq_true_eq] at h
      obtain ⟨⟨h1, h2⟩, h3⟩ := h
      subst h1
      refine .of (peImp (de_count F.hu hb hl (sE a F tk h2).1 (sE b F tk h3).1 (star1 (noStar h3) _ _)) fun σ H Q hw => ?_) fun _ => rfl
      obtain ⟨R, env, rel, hw⟩ := hw
      refine ⟨R, env, rel, ?_⟩
      have e0 : ev C env (.mt .count a (.cons b .nil)) = (ev C env a >>= fun x => recv .count x >>= fun _ => ev C env b >>= fun y => mtD .count x [y]) := by
        show (ev C env a >>= fun x => recv .count x >>= fun _ => (ev C env b >>= fun y => .ok [y]) >>= fun ds => mtD .count x ds) = _
        simp only [bindAssoc]; rfl
      dsimp only at hw
      rw [e0] at hw
      exact hw
    · cases h
  | .mt .index a .nil, X, S, W, e, F, tk, h => by exact absurd h (by simp [chkE])
  | .mt .index a (.cons b (.cons c r)), X, S, W, e, F, tk, h => by exact absurd h (by simp [chkE])
  | .mt .index a (.cons b .nil), X, S, W, e, F, tk, h => by
    rw [chkE] at h
    split at h
    · rename_i o m e1 q
      obtain ⟨ap, cp, rfl, hl, hb⟩ := asMt_ q
      simp only [Bool.and_eq_true, decide_eq_true_eq] at h
      obtain ⟨⟨h1, h2⟩, h3⟩ := h
      subst h1
      refine .of (peImp (de_index F.hu hb hl (sE a F tk h2).1 (sE b F tk h3).1 (star1 (noStar h3) _ _)) fun σ H Q hw => ?_) fun _ => rfl
      obtain ⟨R, env, rel, hw⟩ := hw
      refine ⟨R, env, rel, ?_⟩
      have e0 : ev C env (.mt .index a (.cons b .nil)) = (ev C env a >>= fun x => recv .index x >>= fun _ => ev C env b >>= fun y => mtD .index x [y]) := by
        show (ev C env a >>= fun x => recv .index x >>= fun _ => (ev C env b >>= fun y => .ok [y]) >>= fun ds => mtD .index x ds) = _
        simp only [bindAssoc]; rfl
      dsimp only at hw
      rw [e0] at hw
      exact hw
    · cases h
  | .mt .inr a .nil, X, S, W, e, F, tk, h => by exact absurd h (by simp [chkE])
  | .mt .inr a (.cons b (.cons c r)), X, S, W, e, F, tk, h => by exact absurd h (by simp [chkE])
  | .mt .inr a (.cons b .nil), X, S, W, e, F, tk, h => by
    rw [chkE] at h
    split at h
    · rename_i l y e1 q
      obtain ⟨p, cp, pos, rfl⟩ := asInr_ q
      simp only [Bool.and_eq_true, decide_eq_true_eq] at h
      obtain ⟨⟨⟨h1, h2⟩, h3⟩, h4⟩ := h
      subst h1
      have e0 : ∀ env : Ev, ev C env (.mt .inr a (.cons b .nil)) = (ev C env a >>= fun x => recv .inr x >>= fun _ => ev C env b >>= fun y => mtD .inr x [y]) := fun env => by
        show (ev C env a >>= fun x => recv .inr x >>= fun _ => (ev C env b >>= fun y => .ok [y]) >>= fun ds => mtD .inr x ds) = _
        simp only [bindAssoc]; rfl
      refine ⟨peImp (de_inr (F.bltn h2).1 (F.bltn h2).2.1 (sE a F tk h3).1 (sE b F tk h4).1 (star1 (noStar h4) _ _)) fun σ H Q hw => ?_, ptImp (de_inrT (F.bltn h2).1 (F.bltn h2).2.1 (sE a F tk h3).1 (sE b F tk h4).1 (star1 (noStar h4) _ _)) fun σ H Q hw => ?_⟩
      · obtain ⟨R, env, rel, hw⟩ := hw
        dsimp only at hw
        rw [e0] at hw
        exact ⟨R, env, rel, hw⟩
      · obtain ⟨R, env, rel, hw⟩ := hw
        dsimp only at hw
        rw [e0] at hw
        exact ⟨R, env, rel, hw⟩
    · cases h
  | .mt .stp2 a .nil, X, S, W, e, F, tk, h => by exact absurd h (by simp [chkE])
  | .mt .stp2 a (.cons b (.cons c r)), X, S, W, e, F, tk, h => by exact absurd h (by simp [chkE])
  | .mt .stp2 a (.cons b .nil), X, S, W, e, F, tk, h => by
    rw [chkE] at h
    split at h
    · rename_i o lo q
      obtain ⟨k, p1, p2, p3, rfl⟩ := asStp_ q
      simp only [Bool.and_eq_true] at h
      obtain ⟨h1, h2⟩ := h
      refine .of (peImp (de_stp (sE a F tk h1).1 (sE b F tk h2).1) fun σ H Q hw => ?_) fun _ => rfl
      obtain ⟨R, env, rel, hw⟩ := hw
      refine ⟨R, env, rel, ?_⟩
      have e0 : ev C env (.mt .stp2 a (.cons b .nil)) = (ev C env a >>= fun x => recv .stp2 x >>= fun _ => ev C env b >>= fun y => mtD .stp2 x [y]) := by
        show (ev C env a >>= fun x => recv .stp2 x >>= fun _ => (ev C env b >>= fun y => .ok [y]) >>= fun ds => mtD .stp2 x ds) = _
        simp only [bindAssoc]; rfl
      dsimp only at hw
      rw [e0] at hw
      exact hw
    · cases h
  | .mt .join a .nil, X, S, W, e, F, tk, h => by exact absurd h (by simp [chkE])
  | .mt .join a (.cons b (.cons c r)), X, S, W, e, F, tk, h => by exact absurd h (by simp [chkE])
  | .mt .join a (.cons b .nil), X, S, W, e, F, tk, h => by
    rw [chkE] at h
    split at h
    · rename_i o m e1 q
      obtain ⟨ap, cp, rfl, hl, hb⟩ := asMt_ q
      simp only [Bool.and_eq_true, decide_eq_true_eq] at h
      obtain ⟨⟨h1, h2⟩, h3⟩ := h
      subst h1
      refine .of (peImp (de_join hb hl (sE a F tk h2).1 (sE b F tk h3).1 (star1 (noStar h3) _ _)) fun σ H Q hw => ?_) fun _ => rfl
      obtain ⟨R, env, rel, hw⟩ := hw
      refine ⟨R, env, rel, ?_⟩
      have e0 : ev C env (.mt .join a (.cons b .nil)) = (ev C env a >>= fun x => recv .join x >>= fun _ => ev C env b >>= fun y => mtD .join x [y]) := by
        show (ev C env a >>= fun x => recv .join x >>= fun _ => (ev C env b >>= fun y => .ok [y]) >>= fun ds => mtD .join x ds) = _
        simp only [bindAssoc]; rfl
      dsimp only at hw
      rw [e0] at hw
      exact hw
    · cases h
  | .mt .cntS a .nil, X, S, W, e, F, tk, h => by exact absurd h (by simp [chkE])
  | .mt .cntS a (.cons b (.cons c r)), X, S, W, e, F, tk, h => by exact absurd h (by simp [chkE])
  | .mt .cntS a (.cons b .nil), X, S, W, e, F, tk, h => by
    rw [chkE] at h
    split at h
    · rename_i o m e1 q
      obtain ⟨ap, cp, rfl, hl, hb⟩ := asMt_ q
      simp only [Bool.and_eq_true, decide_eq_true_eq] at h
      obtain ⟨⟨h1, h2⟩, h3⟩ := h
      subst h1
      refine .of (peImp (de_cnt hb hl (sE a F tk h2).1 (sE b F tk h3).1 (star1 (noStar h3) _ _)) fun σ H Q hw => ?_) fun _ => rfl
      obtain ⟨R, env, rel, hw⟩ := hw
      refine ⟨R, env, rel, ?_⟩
      have e0 : ev C env (.mt .cntS a (.cons b .nil)) = (ev C env a >>= fun x => recv .cntS x >>= fun _ => ev C env b >>= fun y => mtD .cntS x [y]) := by
        show (ev C env a >>= fun x => recv .cntS x >>= fun _ => (ev C env b >>= fun y => .ok [y]) >>= fun ds => mtD .cntS x ds) = _
        simp only [bindAssoc]; rfl
      dsimp only at hw
      rw [e0] at hw
      exact hw
    · cases h
  | .kin x kvs a, X, S, W, e, F, tk, h => by
    rw [chkE] at h
    split at h
    · rename_i l y q
      obtain ⟨p, pos, rfl⟩ := asKin_ q
      simp only [Bool.and_eq_true, decide_eq_true_eq] at h
      obtain ⟨⟨⟨⟨h1, h2⟩, h3⟩, h4⟩, h5⟩ := h
      subst h1
      exact sKin F (F.glb h2) (okName_ h3).1 h4 (sE a F tk h5)
    · cases h
  | .kget x kvs a, X, S, W, e, F, tk, h => by
    cases e with
    | Subscript v s pos =>
      cases v with
      | Name y p =>
        rw [chkE] at h
        simp only [Bool.and_eq_true, decide_eq_true_eq, Bool.not_eq_true'] at h
        obtain ⟨⟨⟨⟨⟨h1, h2⟩, h3⟩, h4⟩, h5⟩, h6⟩ := h
        subst h1
        exact sKget F (F.glb h2) (okName_ h3).1 h4 (sE a F tk h5) h6
      | _ => exact absurd h (by simp [chkE])
    | _ => exact absurd h (by simp [chkE])
  | .fld c i a, X, S, W, e, F, tk, h => by
    cases e with
    | Attribute e f pos =>
      rw [chkE] at h
      simp only [Bool.and_eq_true, decide_eq_true_eq] at h
      obtain ⟨⟨h1, h2⟩, h3⟩ := h
      exact sFldE h1 h2 (sE a F tk h3)
    | _ => exact absurd h (by simp [chkE])
  | .mc c f o xs, X, S, W, e, F, tk, h => by
    rw [chkE] at h
    split at h
    · rename_i oe m es q
      obtain ⟨ap, cp, rfl, hl, hb⟩ := asMt_ q
      simp only [Bool.and_eq_true, decide_eq_true_eq] at h
      obtain ⟨⟨⟨⟨⟨⟨h1, h2⟩, h3⟩, h4⟩, h5⟩, h6⟩, h7⟩ := h
      exact sMc F tk hb hl (by simpa using h1) h2 h3 h4 h5 (fun e r z => by subst z; exact star3 h7) (fun p => star2 h7) (fun p e r z => by subst z; exact star4 h7) (sE o F tk h6) (sEs xs F tk h7).1 (fun z => by subst z; cases xs with | nil => rfl | cons _ _ => simp [chkEs] at h7)
    · cases h
  | .mt .split a .nil, X, S, W, e, F, tk, h => by exact absurd h (by simp [chkE])
  | .mt .split a (.cons b (.cons c r)), X, S, W, e, F, tk, h => by exact absurd h (by simp [chkE])
  | .mt .split a (.cons b .nil), X, S, W, e, F, tk, h => by
    rw [chkE] at h
    split at h
    · rename_i o m e1 q
      obtain ⟨ap, cp, rfl, hl, hb⟩ := asMt_ q
      simp only [Bool.and_eq_true, decide_eq_true_eq] at h
      obtain ⟨⟨h1, h2⟩, h3⟩ := h
      subst h1
      refine .of (peImp (de_split hb hl (sE a F tk h2).1 (sE b F tk h3).1 (star1 (noStar h3) _ _)) fun σ H Q hw => ?_) fun _ => rfl
      obtain ⟨R, env, rel, hw⟩ := hw
      refine ⟨R, env, rel, ?_⟩
      have e0 : ev C env (.mt .split a (.cons b .nil)) = (ev C env a >>= fun x => recv .split x >>= fun _ => ev C env b >>= fun y => mtD .split x [y]) := by
        show (ev C env a >>= fun x => recv .split x >>= fun _ => (ev C env b >>= fun y => .ok [y]) >>= fun ds => mtD .split x ds) = _
        simp only [bindAssoc]; rfl
      dsimp only at hw
      rw [e0] at hw
      exact hw
    · cases h
  | .lc t it c e0, X, S, W, e, F, tk, h => by
    rw [chkE] at h
    split at h
    · rename_i elt tg iter ifs scope q
      obtain ⟨pos, rfl⟩ := asLc_ q
      simp only [Bool.and_eq_true, Bool.not_eq_true'] at h
      obtain ⟨⟨⟨⟨⟨⟨h1, h2⟩, h3⟩, h4⟩, h5⟩, h6⟩, h7⟩ := h
      exact .of (sLc (lcOk F (by simpa using h1) h2 h3 (sI it F tk h4) h7 (fun s H Ca cl fp => sEf c (F.blk s H scope cl Ca fp) h5) (fun s H Ca cl fp => sE e0 (F.blk s H scope cl Ca fp) takes0 h6))) fun _ => rfl
    · cases h
  | .lx t it c e0, X, S, W, e, F, tk, h => by
    rw [chkE] at h
    split at h
    · rename_i elt tg iter ifs scope q
      obtain ⟨pos, rfl⟩ := asLc_ q
      simp only [Bool.and_eq_true, Bool.not_eq_true'] at h
      obtain ⟨⟨⟨⟨⟨⟨⟨h1, h0⟩, h2⟩, h3⟩, h4⟩, h5⟩, h6⟩, h7⟩ := h
      have hh : S.hot = none := by simpa using h1
      have tp := F.stk h0
      exact .of (sLx ⟨F.calm hh, F.nd, tk, tp.1, tp.2, tp_of h3, sI it F tk h4, ⟨ownOf S.N t, by rw [F.hN, F.sc]; exact blkOk_by h2, by simp [ownOf, Function.comp_def]⟩, fun s H Ca cl fp xe => pg_of ((F.blk s H scope cl Ca fp).xe xe) (F.calm hh) h3, fun s H Ca cl fp xe W' tk' => sEx c ((F.blk s H scope cl Ca fp).xe xe) tk' h5, fun s H Ca cl fp xe W' tk' => (sE e0 ((F.blk s H scope cl Ca fp).xe xe) tk' h6).1, fun x => noFold h7 X.env x⟩) fun _ => rfl
    · cases h
  | .lit (.os a), X, S, W, e, F, tk, h => by exact absurd h (by simp [chkE])
  | .lit (.zp a b), X, S, W, e, F, tk, h => by
    rw [chkE] at h
    split at h
    · rename_i x ez q
      split at h
      · rename_i y e1 e2 q2
        obtain ⟨p, pos, rfl⟩ := asCall_ q
        obtain ⟨p2, pos2, rfl⟩ := asCall_ q2
        simp only [Bool.and_eq_true, decide_eq_true_eq] at h
        obtain ⟨⟨⟨⟨⟨⟨h1, h2⟩, h3⟩, h4⟩, h5⟩, h6⟩, h7⟩ := h
        subst h2 h4
        exact .of (de_listZip (F.calm (by simpa using h1)) (F.bltn h3).1 (F.bltn h3).2.1 (F.bltn h5).1 (F.bltn h5).2.1 (sE a F tk h6).1 (sE b F tk h7).1 (star1 (noStar h6) _ _) (star1 (noStar h7) _ _)) fun _ => rfl
      · cases h
    · cases h
  | .lit (.rg (.cons a .nil)), X, S, W, e, F, tk, h => by
    rw [chkE] at h
    split at h
    · rename_i x ez q
      split at h
      · rename_i y e1 q2
        obtain ⟨p, pos, rfl⟩ := asCall_ q
        obtain ⟨p2, pos2, rfl⟩ := asCall_ q2
        simp only [Bool.and_eq_true, decide_eq_true_eq] at h
        obtain ⟨⟨⟨⟨⟨h1, h2⟩, h3⟩, h4⟩, h5⟩, h6⟩ := h
        subst h2 h4
        exact .of (de_listRg1 (F.calm (by simpa using h1)) (F.bltn h3).1 (F.bltn h3).2.1 (F.bltn h5).1 (F.bltn h5).2.1 (sE a F tk h6).1 (star1 (noStar h6) _ _)) fun _ => rfl
      · cases h
    · cases h
  | .lit (.rg (.cons a (.cons b .nil))), X, S, W, e, F, tk, h => by
    rw [chkE] at h
    split at h
    · rename_i x ez q
      split at h
      · rename_i y e1 e2 q2
        obtain ⟨p, pos, rfl⟩ := asCall_ q
        obtain ⟨p2, pos2, rfl⟩ := asCall_ q2
        simp only [Bool.and_eq_true, decide_eq_true_eq] at h
        obtain ⟨⟨⟨⟨⟨⟨h1, h2⟩, h3⟩, h4⟩, h5⟩, h6⟩, h7⟩ := h
        subst h2 h4
        exact .of (de_listRg2 (F.calm (by simpa using h1)) (F.bltn h3).1 (F.bltn h3).2.1 (F.bltn h5).1 (F.bltn h5).2.1 (sE a F tk h6).1 (sE b F tk h7).1 (star1 (noStar h6) _ _) (star1 (noStar h7) _ _)) fun _ => rfl
      · cases h
    · cases h
  | .lit (.rg .nil), X, S, W, e, F, tk, h => by exact absurd h (by simp [chkE])
  | .lit (.rg (.cons a (.cons b (.cons c r)))), X, S, W, e, F, tk, h => by exact absurd h (by simp [chkE])
  | .lit (.ov a), X, S, W, e, F, tk, h => by exact absurd h (by simp [chkE])
  | .lit (.en a), X, S, W, e, F, tk, h => by
    rw [chkE] at h
    split at h
    · rename_i x ez q
      split at h
      · rename_i y e1 q2
        obtain ⟨p, pos, rfl⟩ := asCall_ q
        obtain ⟨p2, pos2, rfl⟩ := asCall_ q2
        simp only [Bool.and_eq_true, decide_eq_true_eq] at h
        obtain ⟨⟨⟨⟨⟨h1, h2⟩, h3⟩, h4⟩, h5⟩, h6⟩ := h
        subst h2 h4
        exact .of (de_listEn (F.calm (by simpa using h1)) (F.bltn h3).1 (F.bltn h3).2.1 (F.bltn h5).1 (F.bltn h5).2.1 (sE a F tk h6).1 (star1 (noStar h6) _ _)) fun _ => rfl
      · cases h
    · cases h
  | .dg ks vs k, X, S, W, e, F, tk, h => by
    rw [chkE] at h
    split at h
    · rename_i keys vals ke q
      obtain ⟨p1, p2, rfl⟩ := asDg_ q
      simp only [Bool.and_eq_true, Bool.not_eq_true', decide_eq_true_eq] at h
      obtain ⟨⟨⟨⟨⟨⟨⟨g1, g2⟩, g3⟩, g4⟩, g5⟩, g6⟩, g7⟩, g8⟩ := h
      exact .of (de_dg F.hu g1 g2 g3 g4 g5 g8 (sPs vs F tk g6) (sE k F tk g7).1) fun _ => rfl
    · cases h
theorem sPs : ∀ (xs : Es) {X : Cx} {S : Sx} {W : WX} {es : List Expr}, Fits X S C → Takes X W → chkEs xs S es = true → PD X W C xs es
  | .nil, X, S, W, es, F, tk, h => by
    cases es with
    | nil => exact pd_nil
    | cons e es => exact absurd h (by simp [chkEs])
  | .cons a r, X, S, W, es, F, tk, h => by
    cases es with
    | nil => exact absurd h (by simp [chkEs])
    | cons e es =>
      rw [chkEs, Bool.and_eq_true] at h
      exact pd_cons (sE a F tk h.1).1 (sPs r F tk h.2)
theorem sEs : ∀ (xs : Es) {X : Cx} {S : Sx} {W : WX} {es : List Expr}, Fits X S C → Takes X W → chkEs xs S es = true → PA X es (tDA X.K W fun env => evs C env xs) ∧ (es ≠ [] → SAn X W C xs es)
  | .nil, X, S, W, es, F, tk, h => by
    cases es with
    | nil => exact ⟨sPaNil, fun z => absurd rfl z⟩
    | cons e es => exact absurd h (by simp [chkEs])
  | .cons a .nil, X, S, W, es, F, tk, h => by
    cases es with
    | nil => exact absurd h (by simp [chkEs])
    | cons e es =>
      rw [chkEs, Bool.and_eq_true] at h
      cases es with
      | nil => exact ⟨sPa (sE a F tk h.1) sPaNil (star1 (noStar h.1) _ _), fun _ => sAn1 (sE a F tk h.1)⟩
      | cons e2 es => exact absurd h.2 (by simp [chkEs])
  | .cons a (.cons b r), X, S, W, es, F, tk, h => by
    cases es with
    | nil => exact absurd h (by simp [chkEs])
    | cons e es =>
      rw [chkEs, Bool.and_eq_true] at h
      cases es with
      | nil => exact absurd h.2 (by simp [chkEs])
      | cons e2 es =>
        have q := sEs (.cons b r) F tk h.2
        exact ⟨sPa (sE a F tk h.1) q.1 (star1 (noStar h.1) _ _), fun _ => sAn2 (sE a F tk h.1) (q.2 (by simp))⟩
theorem sEo : ∀ (o : Eo) {X : Cx} {S : Sx} {W : WX} {e : Option Expr}, Fits X S C → Takes X W → chkEo o S e = true → PO X e (tDO X.K W fun env => evo C env o >>= partD)
  | .non, X, S, W, e, F, tk, h => by
    cases e with
    | none => exact po_no
    | some e => exact absurd h (by simp [chkEo])
  | .som a, X, S, W, e, F, tk, h => by
    cases e with
    | none => exact absurd h (by simp [chkEo])
    | some e => rw [chkEo] at h; exact po_of (sE a F tk h)
theorem sEx : ∀ (o : Eo) {X : Cx} {S : Sx} {W : WX} {es : List Expr}, Fits X S C → Takes X W → chkEf o S es = true → PTs X es (tDT X.K W fun env => evc C env o)
  | .non, X, S, W, es, F, tk, h => by
    cases es with
    | nil =>
      refine ⟨fun pins s σ H Q I ⟨R, env, rel, hw⟩ => pts_nil.run pins s σ H Q I ?_⟩
      exact hw true H R (Ext.refl rel.sub) rfl
    | cons e es => exact absurd h (by simp [chkEf])
  | .som a, X, S, W, es, F, tk, h => by
    match es, h with
    | [], h => exact absurd h (by simp [chkEf])
    | [e], h => rw [chkEf] at h; exact pts_one (sE a F tk h).2
    | _ :: _ :: _, h => exact absurd h (by simp [chkEf])
theorem sEf : ∀ (o : Eo) {X : Cx} {S : Sx} {es : List Expr}, Fits X S C → chkEf o S es = true → SF X C o es
  | .non, X, S, es, F, h => by
    cases es with
    | nil =>
      refine ⟨fun pins s σ H Q I ⟨R, env, rel, hw⟩ => pts_nil.run pins s σ H Q I ?_⟩
      exact hw true H R (Ext.refl rel.sub) rfl
    | cons e es => exact absurd h (by simp [chkEf])
  | .som a, X, S, es, F, h => by
    match es, h with
    | [], h => exact absurd h (by simp [chkEf])
    | [e], h => rw [chkEf] at h; exact pts_one (sE a F takes0 h).2
    | _ :: _ :: _, h => exact absurd h (by simp [chkEf])
theorem sIr : ∀ (xs : Es) {X : Cx} {S : Sx} {W : WX} {tg e : Expr}, Fits X S C → Takes X W → chkI (.rg xs) S (isTup tg) e = true → PI X tg e (iR (isTup tg) X.K W fun env => evi C env (.rg xs))
  | .nil, X, S, W, tg, e, F, tk, h => by exact absurd h (by simp [chkI])
  | .cons a .nil, X, S, W, tg, e, F, tk, h => by
    rw [chkI] at h
    split at h
    · rename_i x e q
      obtain ⟨p, pos, rfl⟩ := asCall_ q
      simp only [Bool.and_eq_true, decide_eq_true_eq] at h
      obtain ⟨⟨h1, h2⟩, h3⟩ := h
      subst h1
      obtain ⟨n1, n2, _⟩ := F.bltn h2
      refine piImp (pi_rg1 (w := isTup tg) n1 n2 (sE a F tk h3).1 (star1 (noStar h3) [] X.env)) fun σ H Q ⟨R, env, rel, hw⟩ => ⟨R, env, rel, ?_⟩
      have e0 : evi C env (.rg (.cons a .nil)) = (ev C env a >>= fun x => rgD [x]) := by
        show ((ev C env a >>= fun x => .ok [x]) >>= rgD) = _
        rw [bindAssoc]; rfl
      dsimp only; rw [← e0]; exact hw
    · cases h
  | .cons a (.cons b .nil), X, S, W, tg, e, F, tk, h => by
    rw [chkI] at h
    split at h
    · rename_i x e1 e2 q
      obtain ⟨p, pos, rfl⟩ := asCall_ q
      simp only [Bool.and_eq_true, decide_eq_true_eq] at h
      obtain ⟨⟨⟨h1, h2⟩, h3⟩, h4⟩ := h
      subst h1
      obtain ⟨n1, n2, _⟩ := F.bltn h2
      have s2 := star1 (noStar h4) [] X.env
      refine piImp (pi_rg2 (w := isTup tg) n1 n2 (sE a F tk h3).1 (sE b F tk h4).1 (by rw [star1 (noStar h3) [e2] X.env, s2]; rfl) (by rw [s2]; rfl)) fun σ H Q ⟨R, env, rel, hw⟩ => ⟨R, env, rel, ?_⟩
      have e0 : evi C env (.rg (.cons a (.cons b .nil))) = (ev C env a >>= fun x => ev C env b >>= fun y => rgD [x, y]) := by
        show ((ev C env a >>= fun x => (ev C env b >>= fun y => .ok [y]) >>= fun xs => .ok (x :: xs)) >>= rgD) = _
        simp only [bindAssoc]; rfl
      dsimp only; rw [← e0]; exact hw
    · cases h
  | .cons a (.cons b (.cons c .nil)), X, S, W, tg, e, F, tk, h => by
    rw [chkI] at h
    split at h
    · rename_i x e1 e2 e3 q
      obtain ⟨p, pos, rfl⟩ := asCall_ q
      simp only [Bool.and_eq_true, decide_eq_true_eq] at h
      obtain ⟨⟨⟨⟨h1, h2⟩, h3⟩, h4⟩, h5⟩ := h
      subst h1
      obtain ⟨n1, n2, _⟩ := F.bltn h2
      refine piImp (pi_rg3 (w := isTup tg) n1 n2 (sE a F tk h3).1 (sE b F tk h4).1 (sE c F tk h5).1 (star1 (noStar h3) _ X.env) (star1 (noStar h4) _ X.env) (star1 (noStar h5) _ X.env)) fun σ H Q ⟨R, env, rel, hw⟩ => ⟨R, env, rel, ?_⟩
      have e0 : evi C env (.rg (.cons a (.cons b (.cons c .nil)))) = (ev C env a >>= fun x => ev C env b >>= fun y => ev C env c >>= fun z => rgD [x, y, z]) := by
        show ((ev C env a >>= fun x => (ev C env b >>= fun y => (ev C env c >>= fun z => .ok [z]) >>= fun xs => .ok (y :: xs)) >>= fun xs => .ok (x :: xs)) >>= rgD) = _
        simp only [bindAssoc]; rfl
      dsimp only; rw [← e0]; exact hw
    · cases h
  | .cons a (.cons b (.cons c (.cons d r))), X, S, W, tg, e, F, tk, h => by exact absurd h (by simp [chkI])
theorem sI : ∀ (it : It) {X : Cx} {S : Sx} {W : WX} {tg e : Expr}, Fits X S C → Takes X W → chkI it S (isTup tg) e = true → PI X tg e (iD (isTup tg) X.K W fun env => evi C env it)
  | .ov a, X, S, W, tg, e, F, tk, h => by rw [chkI] at h; exact pi_seq (sE a F tk h).1
  | .os a, X, S, W, tg, e, F, tk, h => by rw [chkI] at h; exact pi_os (sE a F tk h).1
  | .rg xs, X, S, W, tg, e, F, tk, h => piImp (sIr xs F tk h) fun _ _ _ q => iR_iD q
  | .en a, X, S, W, tg, e, F, tk, h => by
    rw [chkI] at h
    split at h
    · rename_i x e q
      obtain ⟨p, pos, rfl⟩ := asCall_ q
      simp only [Bool.and_eq_true, decide_eq_true_eq] at h
      obtain ⟨⟨⟨h0, h1⟩, h2⟩, h3⟩ := h
      subst h1
      obtain ⟨n1, n2, _⟩ := F.bltn h2
      obtain ⟨es, k, p', rfl⟩ := isTup_ h0
      exact pi_en n1 n2 (sE a F tk h3).1 (star1 (noStar h3) [] X.env)
    · cases h
  | .zp a b, X, S, W, tg, e, F, tk, h => by
    rw [chkI] at h
    split at h
    · rename_i x e1 e2 q
      obtain ⟨p, pos, rfl⟩ := asCall_ q
      simp only [Bool.and_eq_true, decide_eq_true_eq] at h
      obtain ⟨⟨⟨⟨h0, h1⟩, h2⟩, h3⟩, h4⟩ := h
      subst h1
      obtain ⟨n1, n2, _⟩ := F.bltn h2
      obtain ⟨es, k, p', rfl⟩ := isTup_ h0
      exact pi_zp n1 n2 (sE a F tk h3).1 (sE b F tk h4).1 (star1 (noStar h3) _ X.env) (star1 (noStar h4) _ X.env)
    · cases h
end
end Z
end
section
/-! Z9: slots that are a def's own lists; statements. -/
namespace Z
open PySem PySem.Spec PyProof.Rows L2
/-! ### which slots a term reads -/
mutual
def mnE (mu : List Nat) : E → Bool
  | .var i => decide (i ∈ mu)
  | .cn _ => false
  | .gl _ _ => false
  | .bin _ a b => mnE mu a || mnE mu b
  | .neg a => mnE mu a
  | .inv a => mnE mu a
  | .an xs => mnEs mu xs
  | .or xs => mnEs mu xs
  | .cmp _ a b => mnE mu a || mnE mu b
  | .chn _ _ a b c => mnE mu a || mnE mu b || mnE mu c
  | .ch3 _ _ _ a b c d => mnE mu a || mnE mu b || mnE mu c || mnE mu d
  | .ite c a b => mnE mu c || mnE mu a || mnE mu b
  | .tup xs => mnEs mu xs
  | .lst xs => mnEs mu xs
  | .ix a i => mnE mu a || mnE mu i
  | .sl a lo hi => mnE mu a || mnEo mu lo || mnEo mu hi
  | .rv a => mnE mu a
  | .call _ xs => mnEs mu xs
  | .sel _ i xs => mnE mu i || mnEs mu xs
  | .bl _ xs => mnEs mu xs
  | .isi a _ => mnE mu a
  | .mt _ o xs => mnE mu o || mnEs mu xs
  | .lc _ it c e => mnI mu it || mnEo mu c || mnE mu e
  | .lx _ it c e => mnI mu it || mnEo mu c || mnE mu e
  | .lit it => mnI mu it
  | .dg _ vs k => mnEs mu vs || mnE mu k
  | .kin _ _ a => mnE mu a
  | .kget _ _ a => mnE mu a
  | .fld _ _ a => mnE mu a
  | .mc _ _ o xs => mnE mu o || mnEs mu xs
def mnEs (mu : List Nat) : Es → Bool
  | .nil => false
  | .cons a r => mnE mu a || mnEs mu r
def mnEo (mu : List Nat) : Eo → Bool
  | .non => false
  | .som a => mnE mu a
def mnI (mu : List Nat) : It → Bool
  | .ov a => mnE mu a
  | .os a => mnE mu a
  | .rg xs => mnEs mu xs
  | .en a => mnE mu a
  | .zp a b => mnE mu a || mnE mu b
end
/-- two rows of slots that agree but there -/
structure Agree (mu : List Nat) (env env' : Ev) : Prop where
  len : env.length = env'.length
  at_ : ∀ i, i ∉ mu → env[i]? = env'[i]?
theorem Agree.set {mu : List Nat} {env env' : Ev} (a : Agree mu env env') (i : Nat) (d : PyData) : Agree mu (setV env i d) (setV env' i d) := by
  refine ⟨by simp [setV, a.len], fun j hj => ?_⟩
  unfold setV
  by_cases e : i = j
  · subst e
    rw [List.getElem?_set_self', List.getElem?_set_self', a.at_ i hj]
  · rw [List.getElem?_set_ne e, List.getElem?_set_ne e, a.at_ j hj]
theorem Agree.setAll {mu : List Nat} : ∀ {is : List Nat} {ds : List PyData} {env env' : Ev}, Agree mu env env' → (∃ x y, setAll env is ds = some x ∧ setAll env' is ds = some y ∧ Agree mu x y) ∨ (setAll env is ds = none ∧ setAll env' is ds = none)
  | [], [], _, _, a => .inl ⟨_, _, rfl, rfl, a⟩
  | [], _ :: _, _, _, _ => .inr ⟨rfl, rfl⟩
  | _ :: _, [], _, _, _ => .inr ⟨rfl, rfl⟩
  | i :: is, d :: ds, _, _, a => Agree.setAll (is := is) (ds := ds) (a.set i d)
theorem Agree.bindT {mu : List Nat} {env env' : Ev} (a : Agree mu env env') (t : Tg) (d : PyData) : (∃ x y, bindT env t d = .ok x ∧ bindT env' t d = .ok y ∧ Agree mu x y) ∨ (bindT env t d = .stuck ∧ bindT env' t d = .stuck) := by
  cases t with
  | nm i => exact .inl ⟨_, _, rfl, rfl, a.set i d⟩
  | tp is =>
    cases d with
    | tuple ds =>
      rcases a.setAll (is := is) (ds := ds) with ⟨x, y, h1, h2, h3⟩ | ⟨h1, h2⟩
      · refine .inl ⟨x, y, ?_, ?_, h3⟩
        · show someR (Z.setAll env is ds) = _; rw [h1]; rfl
        · show someR (Z.setAll env' is ds) = _; rw [h2]; rfl
      · refine .inr ⟨?_, ?_⟩
        · show someR (Z.setAll env is ds) = _; rw [h1]; rfl
        · show someR (Z.setAll env' is ds) = _; rw [h2]; rfl
    | _ => exact .inr ⟨rfl, rfl⟩
theorem lcR_congr {f g : PyData → Res (Option PyData)} (h : ∀ d, f d = g d) (ds : List PyData) : lcR f ds = lcR g ds := by
  have : f = g := funext h
  rw [this]
section
variable {C : Nat → List PyData → Res PyData} {mu : List Nat}
mutual
theorem evA : ∀ (c : E) {env env' : Ev}, Agree mu env env' → mnE mu c = false → ev C env c = ev C env' c
  | .var i, env, env', a, h => by
    have hi : i ∉ mu := by simpa [mnE] using h
    show getV env i = getV env' i
    unfold getV
    rw [a.at_ i hi]
  | .cn _, _, _, _, _ => rfl
  | .gl _ _, _, _, _, _ => rfl
  | .bin o x y, env, env', a, h => by
    simp only [mnE, Bool.or_eq_false_iff] at h
    simp only [ev, evA x a h.1, evA y a h.2]
  | .neg x, env, env', a, h => by
    simp only [mnE] at h
    simp only [ev, evA x a h]
  | .inv x, env, env', a, h => by
    simp only [mnE] at h
    simp only [ev, evA x a h]
  | .an xs, env, env', a, h => by
    simp only [mnE] at h
    simp only [ev, (evsA xs a h).2.1]
  | .or xs, env, env', a, h => by
    simp only [mnE] at h
    simp only [ev, (evsA xs a h).2.2]
  | .cmp o x y, env, env', a, h => by
    simp only [mnE, Bool.or_eq_false_iff] at h
    simp only [ev, evA x a h.1, evA y a h.2]
  | .chn o p x y z, env, env', a, h => by
    simp only [mnE, Bool.or_eq_false_iff] at h
    simp only [ev, evA x a h.1.1, evA y a h.1.2, evA z a h.2]
  | .ch3 o p q x y z w, env, env', a, h => by
    simp only [mnE, Bool.or_eq_false_iff] at h
    simp only [ev, evA x a h.1.1.1, evA y a h.1.1.2, evA z a h.1.2, evA w a h.2]
  | .ite x y z, env, env', a, h => by
    simp only [mnE, Bool.or_eq_false_iff] at h
    simp only [ev, evA x a h.1.1, evA y a h.1.2, evA z a h.2]
  | .tup xs, env, env', a, h => by
    simp only [mnE] at h
    simp only [ev, (evsA xs a h).1]
  | .lst xs, env, env', a, h => by
    simp only [mnE] at h
    simp only [ev, (evsA xs a h).1]
  | .ix x y, env, env', a, h => by
    simp only [mnE, Bool.or_eq_false_iff] at h
    simp only [ev, evA x a h.1, evA y a h.2]
  | .sl x lo hi, env, env', a, h => by
    simp only [mnE, Bool.or_eq_false_iff] at h
    simp only [ev, evA x a h.1.1, (evoA lo a h.1.2).1, (evoA hi a h.2).1]
  | .rv x, env, env', a, h => by
    simp only [mnE] at h
    simp only [ev, evA x a h]
  | .call f xs, env, env', a, h => by
    simp only [mnE] at h
    simp only [ev, (evsA xs a h).1]
  | .sel fs i xs, env, env', a, h => by
    simp only [mnE, Bool.or_eq_false_iff] at h
    simp only [ev, evA i a h.1, (evsA xs a h.2).1]
  | .bl b xs, env, env', a, h => by
    simp only [mnE] at h
    simp only [ev, (evsA xs a h).1]
  | .isi x t, env, env', a, h => by
    simp only [mnE] at h
    simp only [ev, evA x a h]
  | .mt m o xs, env, env', a, h => by
    simp only [mnE, Bool.or_eq_false_iff] at h
    simp only [ev, evA o a h.1, (evsA xs a h.2).1]
  | .lc t it c e, env, env', a, h => by
    simp only [mnE, Bool.or_eq_false_iff] at h
    have q : ∀ d, calm (bindT env t d >>= fun env' => evc C env' c >>= fun k => if k then ev C env' e >>= fun x => .ok (some x) else .ok none) = calm (bindT env' t d >>= fun env' => evc C env' c >>= fun k => if k then ev C env' e >>= fun x => .ok (some x) else .ok none) := fun d => by
      rcases a.bindT t d with ⟨x, y, h1, h2, h3⟩ | ⟨h1, h2⟩
      · rw [h1, h2]
        show calm (evc C x c >>= fun k => if k then ev C x e >>= fun x => .ok (some x) else .ok none) = calm (evc C y c >>= fun k => if k then ev C y e >>= fun x => .ok (some x) else .ok none)
        rw [(evoA c h3 h.1.2).2, evA e h3 h.2]
      · rw [h1, h2]
    simp only [ev, eviA it a h.1.1, lcR_congr q]
  | .lx t it c e, env, env', a, h => by
    simp only [mnE, Bool.or_eq_false_iff] at h
    have q : ∀ d, (bindT env t d >>= fun env' => evc C env' c >>= fun k => if k then ev C env' e >>= fun x => .ok (some x) else .ok none) = (bindT env' t d >>= fun env' => evc C env' c >>= fun k => if k then ev C env' e >>= fun x => .ok (some x) else .ok none) := fun d => by
      rcases a.bindT t d with ⟨x, y, h1, h2, h3⟩ | ⟨h1, h2⟩
      · rw [h1, h2]
        show (evc C x c >>= fun k => if k then ev C x e >>= fun x => .ok (some x) else .ok none) = (evc C y c >>= fun k => if k then ev C y e >>= fun x => .ok (some x) else .ok none)
        rw [(evoA c h3 h.1.2).2, evA e h3 h.2]
      · rw [h1, h2]
    simp only [ev, eviA it a h.1.1, lcR_congr q]
  | .lit it, env, env', a, h => by
    simp only [mnE] at h
    simp only [ev, eviA it a h]
  | .dg ks vs k, env, env', a, h => by
    simp only [mnE, Bool.or_eq_false_iff] at h
    simp only [ev, (evsA vs a h.1).1, evA k a h.2]
  | .kin x kvs y, env, env', a, h => by
    simp only [mnE] at h
    simp only [ev, evA y a h]
  | .kget x kvs y, env, env', a, h => by
    simp only [mnE] at h
    simp only [ev, evA y a h]
  | .fld c i x, env, env', a, h => by
    simp only [mnE] at h
    simp only [ev, evA x a h]
  | .mc c f o xs, env, env', a, h => by
    simp only [mnE, Bool.or_eq_false_iff] at h
    simp only [ev, evA o a h.1, (evsA xs a h.2).1]
theorem evsA : ∀ (xs : Es) {env env' : Ev}, Agree mu env env' → mnEs mu xs = false → evs C env xs = evs C env' xs ∧ evan C env xs = evan C env' xs ∧ evor C env xs = evor C env' xs
  | .nil, _, _, _, _ => ⟨rfl, rfl, rfl⟩
  | .cons x .nil, env, env', a, h => by
    simp only [mnEs, Bool.or_eq_false_iff] at h
    refine ⟨?_, ?_, ?_⟩ <;> simp only [evs, evan, evor, evA x a h.1]
  | .cons x (.cons y r), env, env', a, h => by
    have h1 : mnE mu x = false ∧ mnEs mu (.cons y r) = false := by rw [mnEs, Bool.or_eq_false_iff] at h; exact h
    obtain ⟨q1, q2, q3⟩ := evsA (.cons y r) a h1.2
    refine ⟨?_, ?_, ?_⟩
    · show (ev C env x >>= fun x => evs C env (.cons y r) >>= fun xs => .ok (x :: xs)) = (ev C env' x >>= fun x => evs C env' (.cons y r) >>= fun xs => .ok (x :: xs))
      rw [q1, evA x a h1.1]
    · show (ev C env x >>= fun x => boolD x >>= fun k => if k then evan C env (.cons y r) else .ok (.bool false)) = (ev C env' x >>= fun x => boolD x >>= fun k => if k then evan C env' (.cons y r) else .ok (.bool false))
      rw [q2, evA x a h1.1]
    · show (ev C env x >>= fun x => boolD x >>= fun k => if k then .ok (.bool true) else evor C env (.cons y r)) = (ev C env' x >>= fun x => boolD x >>= fun k => if k then .ok (.bool true) else evor C env' (.cons y r))
      rw [q3, evA x a h1.1]
theorem evoA : ∀ (o : Eo) {env env' : Ev}, Agree mu env env' → mnEo mu o = false → evo C env o = evo C env' o ∧ evc C env o = evc C env' o
  | .non, _, _, _, _ => ⟨rfl, rfl⟩
  | .som x, env, env', a, h => by
    simp only [mnEo] at h
    refine ⟨?_, ?_⟩ <;> simp only [evo, evc, evA x a h]
theorem eviA : ∀ (it : It) {env env' : Ev}, Agree mu env env' → mnI mu it = false → evi C env it = evi C env' it
  | .ov x, env, env', a, h => by
    simp only [mnI] at h
    simp only [evi, evA x a h]
  | .os x, env, env', a, h => by
    simp only [mnI] at h
    simp only [evi, evA x a h]
  | .rg xs, env, env', a, h => by
    simp only [mnI] at h
    simp only [evi, (evsA xs a h).1]
  | .en x, env, env', a, h => by
    simp only [mnI] at h
    simp only [evi, evA x a h]
  | .zp x y, env, env', a, h => by
    simp only [mnI, Bool.or_eq_false_iff] at h
    simp only [evi, evA x a h.1, evA y a h.2]
end
end
/-! ### the slots of a def -/
structure RelS (K : PySem.W.Frag) (mu : List Nat) (R0 H0 R H : Hp) (σ : L2.St) (env : Ev) : Prop where
  ext : Ext R0 H0 R H
  len : env.length = σ.length
  at_ : ∀ (i : Nat) (d : PyData), i ∉ mu → env[i]? = some (some d) → ∃ v, σ[i]? = some (some v) ∧ Dn K R v d
  own : ∀ (i : Nat) (d : PyData), i ∈ mu → env[i]? = some (some d) → ∃ a vs ds, d = .list ds ∧ σ[i]? = some (some (.ref a)) ∧ H a = some (.lst vs) ∧ DnA K R vs ds ∧ R a = none ∧ H0 a = none
  sep : ∀ (i j : Nat) (a : Addr), i ∈ mu → j ∈ mu → i ≠ j → (∃ d, env[i]? = some (some d)) → (∃ d, env[j]? = some (some d)) → σ[i]? = some (some (.ref a)) → σ[j]? = some (some (.ref a)) → False
section
variable {K : PySem.W.Frag} {mu : List Nat} {R0 H0 R H R1 H1 : Hp} {σ : L2.St} {env : Ev}
/-- it lies at a -/
def OwnAt (mu : List Nat) (σ : L2.St) (env : Ev) (a : Addr) : Prop := ∃ i d, i ∈ mu ∧ env[i]? = some (some d) ∧ σ[i]? = some (some (.ref a))
/-- what is read: own lists too -/
noncomputable def view (mu : List Nat) (σ : L2.St) (env : Ev) (R H : Hp) : Hp := fun a => by
  classical
  exact if OwnAt mu σ env a then H a else R a
/-- without own lists -/
noncomputable def less (mu : List Nat) (σ : L2.St) (env : Ev) (R : Hp) : Hp := fun a => by
  classical
  exact if OwnAt mu σ env a then none else R a
theorem view_own {a : Addr} (h : OwnAt mu σ env a) : view mu σ env R H a = H a := if_pos h
theorem view_not {a : Addr} (h : ¬ OwnAt mu σ env a) : view mu σ env R H a = R a := if_neg h
theorem less_own {a : Addr} (h : OwnAt mu σ env a) : less mu σ env R a = none := if_pos h
theorem less_not {a : Addr} (h : ¬ OwnAt mu σ env a) : less mu σ env R a = R a := if_neg h
theorem RelS.ownAt (r : RelS K mu R0 H0 R H σ env) {a : Addr} (h : OwnAt mu σ env a) : ∃ vs, H a = some (.lst vs) ∧ R a = none ∧ H0 a = none := by
  obtain ⟨i, d, hi, he, hs⟩ := h
  obtain ⟨a', vs, ds, _, hs', hH, _, hR, h0⟩ := r.own i d hi he
  rw [hs] at hs'
  cases hs'
  exact ⟨vs, hH, hR, h0⟩
theorem RelS.viewR (r : RelS K mu R0 H0 R H σ env) : Same R (view mu σ env R H) := fun a o e => by
  have n : ¬ OwnAt mu σ env a := fun h => by
    obtain ⟨_, _, hR, _⟩ := r.ownAt h
    rw [hR] at e; cases e
  rw [view_not n]; exact e
theorem RelS.viewH (r : RelS K mu R0 H0 R H σ env) : Same (view mu σ env R H) H := fun a o e => by
  by_cases h : OwnAt mu σ env a
  · rw [view_own h] at e; exact e
  · rw [view_not h] at e; exact r.ext.sub a o e
theorem RelS.rel (r : RelS K mu R0 H0 R H σ env) : Rel K (view mu σ env R H) H σ env := by
  refine ⟨r.viewH, r.len, fun i d e => ?_⟩
  by_cases hi : i ∈ mu
  · obtain ⟨a, vs, ds, rfl, hs, hH, dn, _, _⟩ := r.own i d hi e
    refine ⟨_, hs, .lst (.inl ?_) (DnA.mono r.viewR _ _ dn)⟩
    rw [view_own ⟨i, _, hi, e, hs⟩]
    exact hH
  · obtain ⟨v, hs, dn⟩ := r.at_ i d hi e
    exact ⟨v, hs, Dn.mono r.viewR _ _ dn⟩
/-- the slots with own ones left out -/
def mask (mu : List Nat) (env : Ev) : Ev := env.mapIdx fun i o => if i ∈ mu then none else o
theorem mask_agree : Agree mu env (mask mu env) := by
  refine ⟨by simp [mask], fun i hi => ?_⟩
  simp [mask, hi]
theorem RelS.relM (r : RelS K mu R0 H0 R H σ env) : Rel K R H σ (mask mu env) := by
  refine ⟨r.ext.sub, by simp [mask, r.len], fun i d e => ?_⟩
  have e : (env[i]?).map (fun o => if i ∈ mu then none else o) = some (some d) := by simpa [mask] using e
  cases q : env[i]? with
  | none => rw [q] at e; cases e
  | some o =>
    rw [q] at e
    have e : (if i ∈ mu then none else o) = some d := by simpa using e
    by_cases hi : i ∈ mu
    · rw [if_pos hi] at e; cases e
    · rw [if_neg hi] at e
      subst e
      exact r.at_ i d hi q
/-- the heap has grown beside -/
theorem RelS.grow (r : RelS K mu R0 H0 R H σ env) (e : Ext R H R1 H1) : RelS K mu R0 H0 R1 H1 σ env := by
  refine ⟨r.ext.trans e, r.len, fun i d hi he => ?_, fun i d hi he => ?_, r.sep⟩
  · obtain ⟨v, a, b⟩ := r.at_ i d hi he
    exact ⟨v, a, Dn.mono e.r _ _ b⟩
  · obtain ⟨a, vs, ds, h1, h2, h3, h4, h5, h6⟩ := r.own i d hi he
    refine ⟨a, vs, ds, h1, h2, e.h _ _ h3, DnA.mono e.r _ _ h4, ?_, h6⟩
    cases q : R1 a with
    | none => rfl
    | some o =>
      rcases e.new a o q with z | z
      · rw [h5] at z; cases z
      · rw [h3] at z; cases z
/-- behind a look at everything -/
theorem RelS.back (r : RelS K mu R0 H0 R H σ env) (e : Ext (view mu σ env R H) H R1 H1) : Ext R H (less mu σ env R1) H1 := by
  refine ⟨fun a o h => ?_, fun a o h => ?_, e.h, fun a o h => ?_⟩
  · have n : ¬ OwnAt mu σ env a := fun z => by
      obtain ⟨_, _, hR, _⟩ := r.ownAt z
      rw [hR] at h; cases h
    rw [less_not n]
    exact e.r a o (r.viewR a o h)
  · by_cases n : OwnAt mu σ env a
    · rw [less_own n] at h; cases h
    · rw [less_not n] at h; exact e.sub a o h
  · by_cases n : OwnAt mu σ env a
    · rw [less_own n] at h; cases h
    · rw [less_not n] at h
      rcases e.new a o h with z | z
      · rw [view_not n] at z; exact .inl z
      · exact .inr z
theorem RelS.whole (r : RelS K mu R0 H0 R H σ env) (e : Ext (view mu σ env R H) H R1 H1) : Ext R0 H0 R1 H1 := by
  refine ⟨(r.ext.r.trans r.viewR).trans e.r, e.sub, r.ext.h.trans e.h, fun a o h => ?_⟩
  rcases e.new a o h with z | z
  · by_cases n : OwnAt mu σ env a
    · obtain ⟨_, _, _, h0⟩ := r.ownAt n
      exact .inr h0
    · rw [view_not n] at z; exact r.ext.new a o z
  · exact .inr (r.ext.h.free z)
mutual
theorem flat_less (r : RelS K mu R0 H0 R H σ env) (e : Ext (view mu σ env R H) H R1 H1) : ∀ (d : PyData) (v : V), flat d = true → Dn K R1 v d → Dn K (less mu σ env R1) v d
  | .none, _, _, h => by cases h; exact .non
  | .bool b, _, _, h => by cases h; exact .bl b
  | .int i, _, _, h => by cases h; exact .int i
  | .str x, _, _, h => by cases h; exact .str x
  | .list ds, _, f, h => by simp [flat] at f
  | .tuple ds, _, f, h => by
    cases h with
    | tup hs ha =>
      rename_i a xs
      refine .tup ?_ (flats_less r e ds _ (by simpa [flat] using f) ha)
      have key : ∀ o, R1 a = some o → (∀ ys, o ≠ .lst ys) → less mu σ env R1 a = some o := fun o q n => by
        have no : ¬ OwnAt mu σ env a := fun z => by
          obtain ⟨vs, hH, _, _⟩ := r.ownAt z
          have := e.sub a o q
          rw [e.h _ _ hH] at this
          cases this
          exact n _ rfl
        rw [less_not no]; exact q
      rcases hs with ⟨o, ho, hs⟩ | hs
      · exact .inl ⟨o, ho, key _ hs fun _ z => nomatch z⟩
      · exact .inr hs
  | .dict _, _, f, h => by simp [flat] at f
theorem flats_less (r : RelS K mu R0 H0 R H σ env) (e : Ext (view mu σ env R H) H R1 H1) : ∀ (ds : List PyData) (vs : List V), flats ds = true → DnA K R1 vs ds → DnA K (less mu σ env R1) vs ds
  | [], _, _, h => by cases h; exact .nil
  | d :: ds, _, f, h => by
    have f : flat d = true ∧ flats ds = true := by simpa [flats] using f
    cases h with
    | cons h1 h2 => exact .cons (flat_less r e d _ f.1 h1) (flats_less r e ds _ f.2 h2)
end
/-- a slot is stored -/
theorem RelS.set (r : RelS K mu R0 H0 R H σ env) {i : Nat} (hi : i ∉ mu) {v : V} {d : PyData} (h : Dn K R v d) : RelS K mu R0 H0 R H (σ.set i (some v)) (setV env i d) := by
  have ne : ∀ j, j ∈ mu → i ≠ j := fun j hj e => hi (e ▸ hj)
  refine ⟨r.ext, by simp [setV, r.len], fun j d' hj e => ?_, fun j d' hj e => ?_, fun j k a hj hk hne h1 h2 h3 h4 => ?_⟩
  · unfold setV at e
    by_cases hij : i = j
    · subst hij
      by_cases hl : i < env.length
      · rw [List.getElem?_set_self hl] at e
        cases e
        exact ⟨v, by rw [List.getElem?_set_self (by rw [← r.len]; exact hl)], h⟩
      · rw [List.getElem?_eq_none (by simpa using hl)] at e
        cases e
    · rw [List.getElem?_set_ne hij] at e ⊢
      exact r.at_ j d' hj e
  · unfold setV at e
    rw [List.getElem?_set_ne (ne j hj)] at e ⊢
    exact r.own j d' hj e
  · unfold setV at h1 h2
    rw [List.getElem?_set_ne (ne j hj)] at h1 h3
    rw [List.getElem?_set_ne (ne k hk)] at h2 h4
    exact r.sep j k a hj hk hne h1 h2 h3 h4
/-- an own list is stored: new, or changed in its place -/
theorem RelS.setOwn (r : RelS K mu R0 H0 R H σ env) {i : Nat} (hi : i ∈ mu) {a : Addr} {vs : List V} {ds : List PyData} (hH : H a = some (.lst vs)) (dn : DnA K R vs ds) (hR : R a = none) (h0 : H0 a = none)
    (hsep : ∀ j, j ∈ mu → j ≠ i → (∃ d, env[j]? = some (some d)) → σ[j]? ≠ some (some (.ref a))) : RelS K mu R0 H0 R H (σ.set i (some (.ref a))) (setV env i (.list ds)) := by
  have ne : ∀ j, j ∉ mu → i ≠ j := fun j hj e => hj (e ▸ hi)
  refine ⟨r.ext, by simp [setV, r.len], fun j d' hj e => ?_, fun j d' hj e => ?_, fun j k b hj hk hne h1 h2 h3 h4 => ?_⟩
  · unfold setV at e
    rw [List.getElem?_set_ne (ne j hj)] at e ⊢
    exact r.at_ j d' hj e
  · unfold setV at e
    by_cases hij : i = j
    · subst hij
      by_cases hl : i < env.length
      · rw [List.getElem?_set_self hl] at e
        cases e
        exact ⟨a, vs, ds, rfl, by rw [List.getElem?_set_self (by rw [← r.len]; exact hl)], hH, dn, hR, h0⟩
      · rw [List.getElem?_eq_none (by simpa using hl)] at e
        cases e
    · rw [List.getElem?_set_ne hij] at e ⊢
      exact r.own j d' hj e
  · unfold setV at h1 h2
    have get : ∀ j, (∃ d, (env.set i (some (.list ds)))[j]? = some (some d)) → (σ.set i (some (.ref a)))[j]? = some (some (.ref b)) → (j = i ∧ b = a) ∨ (j ≠ i ∧ (∃ d, env[j]? = some (some d)) ∧ σ[j]? = some (some (.ref b))) := fun j ⟨d, hd⟩ hs => by
      by_cases hij : i = j
      · subst hij
        by_cases hl : i < σ.length
        · rw [List.getElem?_set_self hl] at hs
          cases hs
          exact .inl ⟨rfl, rfl⟩
        · rw [List.getElem?_eq_none (by simpa using hl)] at hs
          cases hs
      · rw [List.getElem?_set_ne hij] at hd hs
        exact .inr ⟨fun e => hij e.symm, ⟨d, hd⟩, hs⟩
    rcases get j h1 h3 with ⟨e1, e2⟩ | ⟨n1, q1, s1⟩ <;> rcases get k h2 h4 with ⟨e3, e4⟩ | ⟨n2, q2, s2⟩
    · exact hne (e1.trans e3.symm)
    · rw [e2] at s2; exact hsep k hk n2 q2 s2
    · rw [e4] at s1; exact hsep j hj n1 q1 s1
    · exact r.sep j k b hj hk hne q1 q2 s1 s2
/-- an own list has changed in the heap -/
theorem RelS.upd (r : RelS K mu R0 H0 R H σ env) {i : Nat} {d : PyData} (hi : i ∈ mu) (he : env[i]? = some (some d)) {a : Addr} (hs : σ[i]? = some (some (.ref a))) {vs : List V} {ds : List PyData} (dn : DnA K R vs ds) : RelS K mu R0 H0 R (L2.upd H a (.lst vs)) σ (setV env i (.list ds)) := by
  obtain ⟨vs0, hH, hR, h0⟩ := r.ownAt ⟨i, d, hi, he, hs⟩
  have hl : i < env.length := by
    obtain ⟨h, _⟩ := List.getElem?_eq_some_iff.mp he
    exact h
  have ext : Ext R0 H0 R (L2.upd H a (.lst vs)) := by
    refine ⟨r.ext.r, fun b o e => ?_, fun b o e => ?_, r.ext.new⟩
    · have : b ≠ a := fun z => by rw [z, hR] at e; cases e
      rw [upd_ne this]; exact r.ext.sub b o e
    · have : b ≠ a := fun z => by rw [z, h0] at e; cases e
      rw [upd_ne this]; exact r.ext.h b o e
  have keep : ∀ j, j ≠ i → (setV env i (.list ds))[j]? = env[j]? := fun j hj => by unfold setV; rw [List.getElem?_set_ne (Ne.symm hj)]
  refine ⟨ext, by simp [setV, r.len], fun j d' hj e => ?_, fun j d' hj e => ?_, fun j k b hj hk hne h1 h2 h3 h4 => ?_⟩
  · rw [keep j (fun z => hj (z ▸ hi))] at e
    exact r.at_ j d' hj e
  · by_cases hij : j = i
    · subst hij
      unfold setV at e
      rw [List.getElem?_set_self hl] at e
      cases e
      exact ⟨a, vs, ds, rfl, hs, upd_same, dn, hR, h0⟩
    · rw [keep j hij] at e
      obtain ⟨b, ws, es, h1, h2, h3, h4, h5, h6⟩ := r.own j d' hj e
      have : b ≠ a := fun z => r.sep j i a hj hi hij ⟨_, e⟩ ⟨_, he⟩ (z ▸ h2) hs
      exact ⟨b, ws, es, h1, h2, by rw [upd_ne this]; exact h3, h4, h5, h6⟩
  · have some_ : ∀ j : Nat, (∃ d' : PyData, (setV env i (.list ds))[j]? = some (some d')) → ∃ d' : PyData, env[j]? = some (some d') := fun j hh => by
      obtain ⟨d', h⟩ := hh
      by_cases hij : j = i
      · subst hij; exact ⟨d, he⟩
      · rw [keep j hij] at h; exact ⟨d', h⟩
    exact r.sep j k b hj hk hne (some_ j h1) (some_ k h2) h3 h4
end
end Z
end
section
/-! Z10: statements. -/
namespace Z
open PySem PySem.Spec PyProof.Rows L2
/-- what is wished of what a def tells -/
def RtW (fr : Bool) (K : PySem.W.Frag) (R0 H0 : Hp) (d : PyData) (Q : VK) : Prop := (fr = false ∨ (∀ ds, d ≠ .list ds) → ∀ (v : V) (H' R' : Hp), Ext R0 H0 R' H' → Dn K R' v d → Q v H') ∧ (fr = true → ∀ ds, d = .list ds → FreshK K R0 H0 ds Q)
def WantS (fr : Bool) (K : PySem.W.Frag) (W : WX) (mu : List Nat) (R0 H0 R : Hp) (D : Ends) : Fl → Prop
  | .nx env' => ∀ (σ' : L2.St) (H' R' : Hp), Same R R' → RelS K mu R0 H0 R' H' σ' env' → D.nx σ' H'
  | .rt d => RtW fr K R0 H0 d D.rt
  | .xc c env' => ∀ (σ' : L2.St) (H' R' : Hp), RelS K mu R0 H0 R' H' σ' env' → W (xcls K c) none σ' H'
  | .stuck => False
def tS (fr : Bool) (K : PySem.W.Frag) (W : WX) (mu : List Nat) (R0 H0 : Hp) (f : Ev → Fl) : TS := fun D σ H => ∃ R env, RelS K mu R0 H0 R H σ env ∧ WantS fr K W mu R0 H0 R D (f env)
section
variable {fr : Bool} {K : PySem.W.Frag} {W : WX} {mu : List Nat} {R0 H0 R H R1 H1 : Hp} {σ : L2.St} {env : Ev} {D : Ends}
theorem RelS.after (r : RelS K mu R0 H0 R H σ env) (e : Same H H1) : RelS K mu R0 H0 R H1 σ env := r.grow (Ext.beside r.ext.sub e)
theorem WantS.up {f : Fl} (h : WantS fr K W mu R0 H0 R D f) (s : Same R R1) : WantS fr K W mu R0 H0 R1 D f := by
  cases f with
  | nx env' => exact fun σ' H' R' s' r => h σ' H' R' (s.trans s') r
  | rt d => exact h
  | xc c env' => exact h
  | stuck => exact h
/-- from a statement's wish to its expression's -/
theorem WantS.ofG {α β : Type} {den : Hp → β → α → Prop} {Rv : Hp} {r : Res α} {k : α → Fl} {Q : β → Hp → Prop} (rel : RelS K mu R0 H0 R H σ env) (h : WantS fr K W mu R0 H0 R D (r.fl env k))
    (q : ∀ (a : α) (b : β) (H1 R1 : Hp), Ext Rv H R1 H1 → den R1 b a → WantS fr K W mu R0 H0 R D (k a) → Q b H1) : WantG K W σ den Rv H r Q := by
  cases r with
  | ok a => exact fun b H1 R1 e d => q a b H1 R1 e d h
  | exc c => exact fun H' R' e => h σ H' R (rel.after e.h)
  | stuck => exact h
/-- what is reckoned from slots alone -/
theorem WantS.pure {α : Type} {r : Res α} {k : α → Fl} (h : WantS fr K W mu R0 H0 R D (r.fl env k)) (n : ∀ c, r ≠ .exc c) : ∃ a, r = .ok a ∧ WantS fr K W mu R0 H0 R D (k a) := by
  cases r with
  | ok a => exact ⟨a, rfl, h⟩
  | exc c => exact absurd rfl (n c)
  | stuck => exact False.elim h
theorem listV_ {i : Nat} {xs : List PyData} (h : listV env i = .ok xs) : env[i]? = some (some (.list xs)) := by
  unfold listV getV at h
  obtain ⟨d, h1, h2⟩ := bind_ok h
  split at h1
  · rename_i d' e
    cases h1
    cases d <;> first | (cases h2; exact e) | cases h2
  · cases h1
theorem listV_noexc {i : Nat} (c : Nat) : listV env i ≠ .exc c := by
  unfold listV getV
  split
  · rename_i d e
    cases d <;> (intro z; cases z)
  · intro z; cases z
end
def isComp : Expr → Bool
  | .ListComp _ _ _ _ => true
  | .SetComp _ _ _ _ => true
  | .DictComp _ _ _ _ _ => true
  | _ => false
section
variable {fr : Bool} {C : Nat → List PyData → Res PyData} {X : Cx} {W : WX} {mu : List Nat} {R0 H0 : Hp}
theorem asgI {x : Str} {py pos : Pos} {v : Expr} {i : Nat} {te te' : TE} (h : PS X (.Assign [.Name x py] v pos) (tAsg te (gName i))) (m : ∀ σ H Q, te' σ H Q → te σ H Q) : PS X (.Assign [.Name x py] v pos) (tAsg te' (gName i)) := psImp h fun D σ H q => m _ _ _ q
/-- x = e -/
theorem stSet {Hd : Nat → Nat → Res PyData} {i : Nat} {m : Bool} {e : E} {st : Stmt} (h : PS X st (tAsg (tD X.K W fun env => ev C env e) (gName i))) (hi : i ∉ mu) (hm : m = true ∨ mnE mu e = false) : PS X st (tS fr X.K W mu R0 H0 fun env => rn1 C Hd (.set i m e) env) := by
  refine psImp h fun D σ H ⟨R, env, rel, hw⟩ => ?_
  have hw : WantS fr X.K W mu R0 H0 R D ((ev C env e).fl env fun d => if m && !flat d then .stuck else .nx (setV env i d)) := hw
  rcases hm with hm | hm
  · subst hm
    refine ⟨_, env, rel.rel, hw.ofG rel fun d v H1 R1 ex dn hk => ?_⟩
    cases f : flat d with
    | false => rw [f] at hk; exact False.elim hk
    | true =>
      rw [f] at hk
      have hk : WantS fr X.K W mu R0 H0 R D (.nx (setV env i d)) := hk
      have eb := rel.back ex
      exact hk _ H1 _ eb.r ((rel.grow eb).set hi (flat_less rel ex d v f dn))
  · refine ⟨R, mask mu env, rel.relM, ?_⟩
    rw [evA e mask_agree hm] at hw
    refine hw.ofG rel fun d v H1 R1 ex dn hk => ?_
    cases q : m && !flat d with
    | true => rw [q] at hk; exact False.elim hk
    | false =>
      rw [q] at hk
      have hk : WantS fr X.K W mu R0 H0 R D (.nx (setV env i d)) := hk
      exact hk _ H1 _ ex.r ((rel.grow ex).set hi dn)
/-- x = a new list -/
theorem stOwn {Hd : Nat → Nat → Res PyData} {i : Nat} {e : E} {st : Stmt} (h : PS X st (tAsg (tF X.K W fun env => ev C env e) (gName i))) (hi : i ∈ mu) (hm : mnE mu e = false) : PS X st (tS fr X.K W mu R0 H0 fun env => rn1 C Hd (.own i e) env) := by
  refine psImp h fun D σ H ⟨R, env, rel, hw⟩ => ?_
  have hw : WantS fr X.K W mu R0 H0 R D ((ev C env e).fl env fun d => match d with | .list xs => .nx (setV env i (.list xs)) | _ => .stuck) := hw
  rw [evA e mask_agree hm] at hw
  refine ⟨R, mask mu env, rel.relM, ?_⟩
  dsimp only
  cases q : ev C (mask mu env) e with
  | stuck => rw [q] at hw; exact hw
  | exc c => rw [q] at hw; exact fun H' R' ex => hw σ H' R (rel.after ex.h)
  | ok d =>
    rw [q] at hw
    cases d with
    | list xs =>
      have hw : WantS fr X.K W mu R0 H0 R D (.nx (setV env i (.list xs))) := hw
      intro p vs H' R' ex np rp hp dn
      refine hw _ H' R' ex.r ((rel.grow ex).setOwn hi hp dn rp (rel.ext.h.free np) fun j hj hne ⟨d, hd⟩ hs => ?_)
      obtain ⟨a, vs', ds', _, h2, h3, _⟩ := rel.own j d hj hd
      rw [h2] at hs
      cases hs
      rw [np] at h3
      cases h3
    | _ => exact False.elim hw
/-- x = [.. for ..], plain things of own lists -/
theorem stFls {Hd : Nat → Nat → Res PyData} {i : Nat} {e : E} {st : Stmt} (h : PS X st (tAsg (tF X.K W fun env => ev C env e) (gName i))) (hi : i ∉ mu) : PS X st (tS fr X.K W mu R0 H0 fun env => rn1 C Hd (.fls i e) env) := by
  refine psImp h fun D σ H ⟨R, env, rel, hw⟩ => ?_
  have hw : WantS fr X.K W mu R0 H0 R D ((ev C env e).fl env fun d => match d with | .list xs => if flats xs then .nx (setV env i (.list xs)) else .stuck | _ => .stuck) := hw
  refine ⟨_, env, rel.rel, ?_⟩
  dsimp only
  cases q : ev C env e with
  | stuck => rw [q] at hw; exact hw
  | exc c => rw [q] at hw; exact fun H' R' ex => hw σ H' R (rel.after ex.h)
  | ok d =>
    rw [q] at hw
    cases d with
    | list xs =>
      have hw : WantS fr X.K W mu R0 H0 R D (if flats xs then .nx (setV env i (.list xs)) else .stuck) := hw
      cases f : flats xs with
      | false => rw [f] at hw; exact False.elim hw
      | true =>
        rw [f] at hw
        have hw : WantS fr X.K W mu R0 H0 R D (.nx (setV env i (.list xs))) := hw
        intro p vs H' R' ex np rp hp dn
        have eb := rel.back ex
        have rp2 : less mu σ env R' p = none := by
          by_cases n : OwnAt mu σ env p
          · exact less_own n
          · rw [less_not n]; exact rp
        have dn2 := flats_less rel ex xs vs f dn
        have ej := Ext.join np eb rp2 hp
        exact hw _ H' _ ej.r ((rel.grow ej).set hi (.lst (.inl upd_same) (DnA.mono (same_upd rp2) _ _ dn2)))
    | _ => exact False.elim hw
/-- x = [.. for ..], plain things of own lists, own itself -/
theorem stOfl {Hd : Nat → Nat → Res PyData} {i : Nat} {e : E} {st : Stmt} (h : PS X st (tAsg (tF X.K W fun env => ev C env e) (gName i))) (hi : i ∈ mu) : PS X st (tS fr X.K W mu R0 H0 fun env => rn1 C Hd (.ofl i e) env) := by
  refine psImp h fun D σ H ⟨R, env, rel, hw⟩ => ?_
  have hw : WantS fr X.K W mu R0 H0 R D ((ev C env e).fl env fun d => match d with | .list xs => if flats xs then .nx (setV env i (.list xs)) else .stuck | _ => .stuck) := hw
  refine ⟨_, env, rel.rel, ?_⟩
  dsimp only
  cases q : ev C env e with
  | stuck => rw [q] at hw; exact hw
  | exc c => rw [q] at hw; exact fun H' R' ex => hw σ H' R (rel.after ex.h)
  | ok d =>
    rw [q] at hw
    cases d with
    | list xs =>
      have hw : WantS fr X.K W mu R0 H0 R D (if flats xs then .nx (setV env i (.list xs)) else .stuck) := hw
      cases f : flats xs with
      | false => rw [f] at hw; exact False.elim hw
      | true =>
        rw [f] at hw
        have hw : WantS fr X.K W mu R0 H0 R D (.nx (setV env i (.list xs))) := hw
        intro p vs H' R' ex np rp hp dn
        have eb := rel.back ex
        have rp2 : less mu σ env R' p = none := by
          by_cases n : OwnAt mu σ env p
          · exact less_own n
          · rw [less_not n]; exact rp
        have dn2 := flats_less rel ex xs vs f dn
        refine hw _ H' _ eb.r ((rel.grow eb).setOwn hi hp dn2 rp2 (rel.ext.h.free np) fun j hj hne ⟨d, hd⟩ hs => ?_)
        obtain ⟨a, vs', ds', _, h2, h3, _⟩ := rel.own j d hj hd
        rw [h2] at hs
        cases hs
        rw [np] at h3
        cases h3
    | _ => exact False.elim hw
/-- x.append(e) -/
theorem stApp {Hd : Nat → Nat → Res PyData} {i : Nat} {m : Bool} {e : E} {x : Str} {v : Expr} {p1 p2 p3 p4 : Pos} (hv : PE X (.Name x p1) (tVar i)) (he : SE X W C e v) (hi : i ∈ mu) (hm : m = true ∨ mnE mu e = false) (hs : starEach [v] X.env = (false, eval v X.env) :: starEach [] X.env) (hl : (p2.endLine == p3.line) = true) :
    PS X (.Expr (.Call (.Attribute (.Name x p1) "append" p2) [v] [] p3) p4) (tS fr X.K W mu R0 H0 fun env => rn1 C Hd (.app i m e) env) := by
  have hfew : ((backTo p3 (starEach [v] X.env)).all (fun x => !x.1) && (backToKw p3 (keywordEach [] X.env)).all (fun x => x.1.isSome) && decide ([v].length + ([] : List Keyword).length + (if ([] : List Keyword).isEmpty then 0 else 1) < 30)) = true := by rw [hs]; rfl
  refine psImp (ps_expr (pe_bm PySem.F.plainAttrs_list PySem.F.slot_list_append PySem.F.type_list_append mt_append hv (pa_cons he.1 pa_nil hs) rfl hfew hl hs rfl)) fun D σ H ⟨R, env, rel, hw⟩ => ?_
  have hw : WantS fr X.K W mu R0 H0 R D ((listV env i).fl env fun _ => (ev C env e).fl env fun d => if m && !flat d then .stuck else (listV env i).fl env fun xs => if xs.length < sizeLine then .nx (setV env i (.list (xs ++ [d]))) else .stuck) := hw
  obtain ⟨xs, hx, hw⟩ := hw.pure listV_noexc
  have he0 := listV_ hx
  obtain ⟨a, vs, ds, ed, hs1, hH, dn, hR, h0⟩ := rel.own i _ hi he0
  cases ed
  refine ⟨_, hs1, .inl ⟨rfl, vs, .inl (.inl hH)⟩, ?_⟩
  -- the tail: d is there
  have fin : ∀ (d : PyData) (y : V) (H1 R1 : Hp), Ext R H R1 H1 → Dn X.K R1 y d → WantS fr X.K W mu R0 H0 R D (if m && !flat d then .stuck else (listV env i).fl env fun xs => if xs.length < sizeLine then .nx (setV env i (.list (xs ++ [d]))) else .stuck) →
      rAppend (.ref a) [y] H1 (fun _ H2 => D.nx σ H2) := by
    intro d y H1 R1 ex dy hk
    cases q : m && !flat d with
    | true => rw [q] at hk; exact False.elim hk
    | false =>
      rw [q, hx] at hk
      have hk : WantS fr X.K W mu R0 H0 R D (if xs.length < sizeLine then .nx (setV env i (.list (xs ++ [d]))) else .stuck) := hk
      by_cases hz : xs.length < sizeLine
      · rw [if_pos hz] at hk
        have g := rel.grow ex
        refine ⟨a, vs, y, rfl, rfl, ex.h _ _ hH, by rw [dn.length]; exact hz, ?_⟩
        exact hk σ _ R1 ex.r (g.upd hi he0 hs1 ((DnA.mono ex.r _ _ dn).append (.cons dy .nil)))
      · rw [if_neg hz] at hk
        exact False.elim hk
  rcases hm with hm | hm
  · refine ⟨_, env, rel.rel, hw.ofG rel fun d y H1 R1 ex dy hk => ?_⟩
    have f : flat d = true := by
      cases f : flat d with
      | true => rfl
      | false => rw [hm, f] at hk; exact False.elim hk
    exact fin d y H1 _ (rel.back ex) (flat_less rel ex d y f dy) hk
  · rw [evA e mask_agree hm] at hw
    exact ⟨R, mask mu env, rel.relM, hw.ofG rel fun d y H1 R1 ex dy hk => fin d y H1 R1 ex dy hk⟩
/-- x[k] = e -/
theorem stPut {Hd : Nat → Nat → Res PyData} {i : Nat} {m : Bool} {k e : E} {x : Str} {v w : Expr} {p1 p2 p3 : Pos} (hv : PE X (.Name x p1) (tVar i)) (he : SE X W C e v) (hk : SE X W C k w) (hi : i ∈ mu) (hm : m = true ∨ mnE mu e = false) (hw : isSlice w = false) (hc : isComp v = false) (ht : isTup v = false) :
    PS X (.Assign [.Subscript (.Name x p1) w p2] v p3) (tS fr X.K W mu R0 H0 fun env => rn1 C Hd (.put i m k e) env) := by
  have ha : ∀ u, assign (.Subscript (.Name x p1) w p2) X.env u = (do
      let ov ← holding [u] (eval (.Name x p1) X.env)
      let iv ← holding [u, ov] (eval w X.env)
      standAt p2
      holding [u, ov, iv] (setItem ov iv u)
      release [u, ov, iv] []) := by
    intro u
    cases w with
    | Slice _ _ _ _ => cases hw
    | _ => rfl
  have hsw : swapsWithSole [.Subscript (.Name x p1) w p2] v p3.line X.env = pure false := by
    cases v with
    | ListComp _ _ _ _ => cases hc
    | SetComp _ _ _ _ => cases hc
    | DictComp _ _ _ _ _ => cases hc
    | _ => rfl
  have hst : swappedStores [.Subscript (.Name x p1) w p2] v X.env = pure none := by
    cases v <;> rfl
  refine psImp (ps_asg he.1 (pg_sub hv hk.1 set_list ha) hsw hst rfl) fun D σ H ⟨R, env, rel, hw⟩ => ?_
  have hw : WantS fr X.K W mu R0 H0 R D ((ev C env e).fl env fun d => if m && !flat d then .stuck else (listV env i).fl env fun xs => (ev C env k).fl env fun kd =>
      match kd with
      | .int z => (match Z.ixN xs.length z with
        | some j => .nx (setV env i (.list (xs.set j d)))
        | none => .stuck)
      | _ => .stuck) := hw
  have fin : ∀ (d : PyData) (y : V) (H1 R1 : Hp), Ext R H R1 H1 → Dn X.K R1 y d → WantS fr X.K W mu R0 H0 R D (if m && !flat d then .stuck else (listV env i).fl env fun xs => (ev C env k).fl env fun kd =>
      match kd with
      | .int z => (match Z.ixN xs.length z with
        | some j => .nx (setV env i (.list (xs.set j d)))
        | none => .stuck)
      | _ => .stuck) → gSub (tVar i) (tD X.K W fun env => ev C env k) rSetL y σ H1 D.nx := by
    intro d y H1 R1 ex dy hk
    cases q : m && !flat d with
    | true => rw [q] at hk; exact False.elim hk
    | false =>
      rw [q] at hk
      have hk : WantS fr X.K W mu R0 H0 R D ((listV env i).fl env fun xs => (ev C env k).fl env fun kd =>
          match kd with
          | .int z => (match Z.ixN xs.length z with
            | some j => .nx (setV env i (.list (xs.set j d)))
            | none => .stuck)
          | _ => .stuck) := hk
      have g := rel.grow ex
      obtain ⟨xs, hx, hk⟩ := hk.pure listV_noexc
      have he0 := listV_ hx
      obtain ⟨a, vs, ds, ed, hs1, hH, dn, hR, h0⟩ := g.own i _ hi he0
      cases ed
      refine ⟨_, hs1, _, env, g.rel, (hk.up ex.r).ofG g fun kd z H2 R2 ex2 dz hk2 => ?_⟩
      have eb := g.back ex2
      cases dz with
      | int n =>
        have hk2 : WantS fr X.K W mu R0 H0 R1 D (match Z.ixN xs.length n with | some j => .nx (setV env i (.list (xs.set j d))) | none => .stuck) := hk2
        cases qj : Z.ixN xs.length n with
        | none => rw [qj] at hk2; exact False.elim hk2
        | some j =>
          rw [qj] at hk2
          refine ⟨a, vs, n, j, rfl, rfl, ex2.h _ _ hH, by rw [dn.length]; exact qj, ?_⟩
          exact hk2 σ _ _ eb.r ((g.grow eb).upd hi he0 hs1 ((DnA.mono eb.r _ _ dn).set (Dn.mono eb.r _ _ dy) j))
      | _ => exact False.elim hk2
  rcases hm with hm | hm
  · refine ⟨_, env, rel.rel, hw.ofG rel fun d y H1 R1 ex dy hk => ?_⟩
    have f : flat d = true := by
      cases f : flat d with
      | true => rfl
      | false => rw [hm, f] at hk; exact False.elim hk
    exact fin d y H1 _ (rel.back ex) (flat_less rel ex d y f dy) hk
  · rw [evA e mask_agree hm] at hw
    exact ⟨R, mask mu env, rel.relM, hw.ofG rel fun d y H1 R1 ex dy hk => fin d y H1 R1 ex dy hk⟩
/-- return -/
theorem stRet {Hd : Nat → Nat → Res PyData} {e : E} {v : Expr} {p : Pos} (hf : fr = false) (he : SE X W C e v) : PS X (.Return (some v) p) (tS fr X.K W mu R0 H0 fun env => rn1 C Hd (.ret e) env) := by
  refine psImp (ps_ret he.1) fun D σ H ⟨R, env, rel, hw⟩ => ?_
  have hw : WantS fr X.K W mu R0 H0 R D ((ev C env e).fl env fun d => .rt d) := hw
  exact ⟨_, env, rel.rel, hw.ofG rel fun d y H1 R1 ex dy hk => hk.1 (.inl hf) y H1 R1 (rel.whole ex) dy⟩
theorem stRetN {Hd : Nat → Nat → Res PyData} {p : Pos} : PS X (.Return none p) (tS fr X.K W mu R0 H0 fun env => rn1 C Hd .retn env) :=
  psImp ps_retN fun D σ H ⟨R, env, rel, hw⟩ => hw.1 (.inr fun ds z => nomatch z) .non H R rel.ext .non
/-- return of what makes new lists -/
theorem stRetR {Hd : Nat → Nat → Res PyData} {e : E} {v : Expr} {p : Pos} (he : PE X v (tR true X.K W fun env => ev C env e)) : PS X (.Return (some v) p) (tS fr X.K W mu R0 H0 fun env => rn1 C Hd (.ret e) env) := by
  refine psImp (ps_ret he) fun D σ H ⟨R, env, rel, hw⟩ => ?_
  have hw : WantS fr X.K W mu R0 H0 R D ((ev C env e).fl env fun d => .rt d) := hw
  refine ⟨_, env, rel.rel, ?_⟩
  dsimp only
  cases q : ev C env e with
  | stuck => rw [q] at hw; exact hw
  | exc c =>
    rw [q] at hw
    show ∀ (H' R' : Hp), Ext _ H R' H' → _
    exact fun H' R' ex => hw σ H' R (rel.after ex.h)
  | ok d =>
    rw [q] at hw
    have hw : RtW fr X.K R0 H0 d D.rt := hw
    cases d with
    | list ds =>
      show if true = true then FreshK X.K (view mu σ env R H) H ds D.rt else WantG X.K W σ (denV X.K) (view mu σ env R H) H (.ok (.list ds)) D.rt
      rw [if_pos rfl]
      intro a vs H' R' ex np rp hp dn
      cases fr with
      | false => exact hw.1 (.inl rfl) _ H' _ (rel.whole (Ext.join np ex rp hp)) (.lst (.inl upd_same) (DnA.mono (same_upd rp) _ _ dn))
      | true => exact hw.2 rfl ds rfl a vs H' R' (rel.whole ex) (rel.ext.h.free np) rp hp dn
    | none => exact (show WantG X.K W σ (denV X.K) _ H (.ok .none) D.rt from fun v H' R' ex dn => hw.1 (.inr fun ds z => nomatch z) v H' R' (rel.whole ex) dn)
    | bool b => exact (show WantG X.K W σ (denV X.K) _ H (.ok (.bool b)) D.rt from fun v H' R' ex dn => hw.1 (.inr fun ds z => nomatch z) v H' R' (rel.whole ex) dn)
    | int b => exact (show WantG X.K W σ (denV X.K) _ H (.ok (.int b)) D.rt from fun v H' R' ex dn => hw.1 (.inr fun ds z => nomatch z) v H' R' (rel.whole ex) dn)
    | str b => exact (show WantG X.K W σ (denV X.K) _ H (.ok (.str b)) D.rt from fun v H' R' ex dn => hw.1 (.inr fun ds z => nomatch z) v H' R' (rel.whole ex) dn)
    | tuple b => exact (show WantG X.K W σ (denV X.K) _ H (.ok (.tuple b)) D.rt from fun v H' R' ex dn => hw.1 (.inr fun ds z => nomatch z) v H' R' (rel.whole ex) dn)
    | dict b => exact (show WantG X.K W σ (denV X.K) _ H (.ok (.dict b)) D.rt from fun v H' R' ex dn => hw.1 (.inr fun ds z => nomatch z) v H' R' (rel.whole ex) dn)
/-- return of an own list -/
theorem stRetO {Hd : Nat → Nat → Res PyData} {i : Nat} {v : Expr} {p : Pos} (he : PE X v (tVar i)) (hi : i ∈ mu) : PS X (.Return (some v) p) (tS fr X.K W mu R0 H0 fun env => rn1 C Hd (.ret (.var i)) env) := by
  refine psImp (ps_ret he) fun D σ H ⟨R, env, rel, hw⟩ => ?_
  have hw : WantS fr X.K W mu R0 H0 R D ((getV env i).fl env fun d => .rt d) := hw
  unfold getV at hw
  split at hw
  · rename_i d e
    have hw : RtW fr X.K R0 H0 d D.rt := hw
    obtain ⟨a, vs, ds, rfl, hs, hH, dn, hR, h0⟩ := rel.own i d hi e
    refine ⟨_, hs, ?_⟩
    cases fr with
    | false => exact hw.1 (.inl rfl) _ H _ (Ext.join h0 rel.ext hR hH) (.lst (.inl upd_same) (DnA.mono (same_upd hR) _ _ dn))
    | true => exact hw.2 rfl ds rfl a vs H R rel.ext h0 hR hH dn
  · exact hw.elim
/-- e -/
theorem stEx {Hd : Nat → Nat → Res PyData} {e : E} {v : Expr} {p : Pos} (he : SE X W C e v) (hc : isComp v = false) : PS X (.Expr v p) (tS fr X.K W mu R0 H0 fun env => rn1 C Hd (.ex e) env) := by
  have hs : swapsWith v none p.line X.env = pure false := by
    cases v with
    | ListComp _ _ _ _ => cases hc
    | SetComp _ _ _ _ => cases hc
    | DictComp _ _ _ _ _ => cases hc
    | _ => rfl
  refine psImp (ps_expr he.1 hs) fun D σ H ⟨R, env, rel, hw⟩ => ?_
  have hw : WantS fr X.K W mu R0 H0 R D ((ev C env e).fl env fun _ => .nx env) := hw
  exact ⟨_, env, rel.rel, hw.ofG rel fun d y H1 R1 ex dy hk => hk σ H1 R (Same.refl R) (rel.after ex.h)⟩
theorem stSkip {Hd : Nat → Nat → Res PyData} {p : Pos} : PS X (.Pass p) (tS fr X.K W mu R0 H0 fun env => rn1 C Hd .skip env) :=
  psImp ps_pass fun D σ H ⟨R, env, rel, hw⟩ => hw σ H R (Same.refl R) rel
/-- one after another -/
theorem stNil {Hd : Nat → Nat → Res PyData} : PSs X [] (tS fr X.K W mu R0 H0 fun env => rn C Hd .nil env) := pssImp pss_nil fun D σ H ⟨R, env, rel, hw⟩ => hw σ H R (Same.refl R) rel
theorem stCons {Hd : Nat → Nat → Res PyData} {a : S} {r : Ss} {st : Stmt} {sts : List Stmt} (h : PS X st (tS fr X.K W mu R0 H0 fun env => rn1 C Hd a env)) (h2 : PSs X sts (tS fr X.K W mu R0 H0 fun env => rn C Hd r env)) : PSs X (st :: sts) (tS fr X.K W mu R0 H0 fun env => rn C Hd (.cons a r) env) := by
  refine pssImp (pss_cons h h2) fun D σ H ⟨R, env, rel, hw⟩ => ?_
  have hw : WantS fr X.K W mu R0 H0 R D ((rn1 C Hd a env).thn fun env2 => rn C Hd r env2) := hw
  refine ⟨R, env, rel, ?_⟩
  dsimp only
  cases q : rn1 C Hd a env with
  | nx env' => rw [q] at hw; exact fun σ' H' R' s' r' => ⟨R', env', r', hw.up s'⟩
  | rt d => rw [q] at hw; exact hw
  | xc c env' => rw [q] at hw; exact hw
  | stuck => rw [q] at hw; exact hw
/-- if -/
theorem stIf {Hd : Nat → Nat → Res PyData} {c : E} {a b : Ss} {t : Expr} {x y : List Stmt} {p : Pos} (hc : SE X W C c t) (ha : PSs X x (tS fr X.K W mu R0 H0 fun env => rn C Hd a env)) (hb : PSs X y (tS fr X.K W mu R0 H0 fun env => rn C Hd b env)) : PS X (.If t x y p) (tS fr X.K W mu R0 H0 fun env => rn1 C Hd (.ifs c a b) env) := by
  refine psImp (ps_if hc.2 ha hb) fun D σ H ⟨R, env, rel, hw⟩ => ?_
  have hw : WantS fr X.K W mu R0 H0 R D ((ev C env c >>= boolD).fl env fun k => if k then rn C Hd a env else rn C Hd b env) := by
    have e0 : rn1 C Hd (.ifs c a b) env = ((ev C env c >>= boolD).fl env fun k => if k then rn C Hd a env else rn C Hd b env) := by
      show ((ev C env c).fl env fun x => (boolD x).fl env fun k => if k then rn C Hd a env else rn C Hd b env) = _
      cases ev C env c <;> rfl
    rw [← e0]; exact hw
  refine ⟨_, env, rel.rel, hw.ofG rel fun k z H1 R1 ex eb hk => ?_⟩
  subst eb
  cases z with
  | true => exact ⟨R, env, rel.after ex.h, hk⟩
  | false => exact ⟨R, env, rel.after ex.h, hk⟩
/-! ### for -/
theorem gnmsS {K : PySem.W.Frag} {R H : Hp} {Q : L2.St → Hp → Prop} : ∀ {is : List Nat} {σ : L2.St} {env env' : Ev} {xs : List V} {ds : List PyData}, RelS K mu R0 H0 R H σ env → (∀ i ∈ is, i ∉ mu) → DnA K R xs ds → setAll env is ds = some env' → (∀ σ2, RelS K mu R0 H0 R H σ2 env' → Q σ2 H) → gNms is xs σ H Q
  | [], σ, env, env', xs, ds, r, hi, hd, e, k => by
    cases hd with
    | nil =>
      have e : some env = some env' := e
      cases e
      exact ⟨rfl, k σ r⟩
    | cons _ _ => simp [setAll] at e
  | i :: is, σ, env, env', xs, ds, r, hi, hd, e, k => by
    cases hd with
    | nil => simp [setAll] at e
    | cons h1 h2 =>
      have e : setAll (setV env i _) is _ = some env' := e
      exact ⟨_, _, rfl, gnmsS (r.set (hi i List.mem_cons_self) h1) (fun j hj => hi j (List.mem_cons_of_mem _ hj)) h2 e k⟩
theorem setAll_len {env' : Ev} : ∀ {is : List Nat} {env : Ev} {ds : List PyData}, setAll env is ds = some env' → ds.length = is.length := by
  intro is
  induction is with
  | nil => intro env ds h; cases ds <;> simp [setAll] at h ⊢
  | cons i is ih =>
    intro env ds h
    cases ds with
    | nil => simp [setAll] at h
    | cons d ds => simp [ih (show setAll (setV env i d) is ds = some env' from h)]
theorem tgS_ok {w : Bool} {K : PySem.W.Frag} {R H : Hp} {Q : L2.St → Hp → Prop} {t : Tg} {σ : L2.St} {env env' : Ev} {x : V} {d : PyData} (r : RelS K mu R0 H0 R H σ env) (hi : ∀ i ∈ slots t, i ∉ mu) (hwt : w = true → ∃ is, t = .tp is) (hd : DnI w K R x d) (e : bindT env t d = .ok env') (k : ∀ σ2, RelS K mu R0 H0 R H σ2 env' → Q σ2 H) : tgD K t x σ H Q := by
  cases t with
  | nm i =>
    cases e
    have hd : Dn K R x d := by
      cases w with
      | true => obtain ⟨is, z⟩ := hwt rfl; cases z
      | false => exact hd.no
    exact k _ (r.set (hi i (by simp [slots])) hd)
  | tp is =>
    cases d with
    | tuple ds =>
      have e := someR_ok (show someR (setAll env is ds) = .ok env' from e)
      obtain ⟨a, xs, rfl, hs, ha⟩ := hd.tp
      exact ⟨_, _, rfl, SqT.mono r.ext.sub hs, by rw [ha.length, setAll_len e], gnmsS r hi ha e k⟩
    | _ => cases e
theorem bindT_noexc {env : Ev} {t : Tg} {d : PyData} (c : Nat) : bindT env t d ≠ .exc c := by
  unfold bindT
  split
  · intro z; cases z
  · rename_i is ds
    intro z
    cases q : setAll env is ds with
    | none => rw [q] at z; cases z
    | some e => rw [q] at z; cases z
  · intro z; cases z
theorem stFor {Hd : Nat → Nat → Res PyData} {t : Tg} {it : It} {b : Ss} {tg iter : Expr} {body : List Stmt} {p : Pos} (hp : PassesOwn (model X.prog X.w) X.A X.env X.xe) (hc : X.calm = true) (htp : isTup tg = true → ∃ is, t = .tp is) (hi : PI X tg iter (iD (isTup tg) X.K W fun env => evi C env it)) (hg : PG X tg (tgD X.K t)) (hb : PSs X body (tS fr X.K W mu R0 H0 fun env => rn C Hd b env)) (hset : isSet iter = false)
    (hm : mnI mu it = false) (ht : ∀ i ∈ slots t, i ∉ mu) : PS X (.For tg iter body [] p) (tS fr X.K W mu R0 H0 fun env => rn1 C Hd (.fr t it b) env) := by
  refine psImp (ps_for hp hc hi hg hb (fun x => noFold hset X.env x)) fun D σ H ⟨R, env, rel, hw⟩ => ?_
  have hw : WantS fr X.K W mu R0 H0 R D ((evi C env it).fl env fun ds => forR t (fun env => rn C Hd b env) ds env) := hw
  rw [eviA it mask_agree hm] at hw
  refine ⟨R, mask mu env, rel.relM, hw.ofG rel fun ds J H1 R1 ex wd hk => ?_⟩
  obtain ⟨G, Y, wk, hG, hY⟩ := wd
  refine for_it wk (fun i σ2 H2 => ∃ R2 env2, RelS X.K mu R0 H0 R2 H2 σ2 env2 ∧ Same R1 R2 ∧ WantS fr X.K W mu R0 H0 R2 D (forR t (fun env => rn C Hd b env) (ds.drop i) env2)) ⟨R1, env, rel.grow ex, Same.refl _, hk.up ex.r⟩ ?_ ?_ ?_
  · rintro i σ2 H2 _ ⟨R2, env2, r2, s2, _⟩
    exact hG H2 (s2.trans r2.ext.sub)
  · rintro i x σ2 H2 H2' hlt ⟨R2, env2, r2, s2, h2⟩ y
    obtain ⟨R3, d, e3, hd, dx⟩ := hY i H2 x H2' R2 hlt s2 r2.ext.sub y
    have hdrop : ds.drop i = d :: ds.drop (i + 1) := by
      obtain ⟨h1, h2⟩ := List.getElem?_eq_some_iff.mp hd
      rw [List.drop_eq_getElem_cons h1, h2]
    rw [hdrop] at h2
    have h2 : WantS fr X.K W mu R0 H0 R2 D ((bindT env2 t d).fl env2 fun env' => (rn C Hd b env').thn fun env3 => forR t (fun env => rn C Hd b env) (ds.drop (i + 1)) env3) := h2
    obtain ⟨env', hb', h2⟩ := h2.pure bindT_noexc
    refine tgS_ok (r2.grow e3) ht htp dx hb' fun σ3 r3 => ⟨R3, env', r3, ?_⟩
    dsimp only
    cases q : rn C Hd b env' with
    | nx env3 => rw [q] at h2; exact fun σ' H' R' s' r' => ⟨R', env3, r', (s2.trans e3.r).trans s', (h2.up e3.r).up s'⟩
    | rt d => rw [q] at h2; exact h2
    | xc c env3 => rw [q] at h2; exact h2
    | stuck => rw [q] at h2; exact h2
  · rintro σ2 H2 ⟨R2, env2, r2, s2, h2⟩
    rw [List.drop_length] at h2
    exact h2 σ2 H2 R2 (Same.refl _) r2
/-! ### while -/
theorem stWh {Hd : Nat → Nat → Res PyData} {c : E} {b : Ss} {t : Expr} {body : List Stmt} {p : Pos} (hp : PassesOwn (model X.prog X.w) X.A X.env X.xe) (hc : SE X W C c t) (hb : PSs X body (tS fr X.K W mu R0 H0 fun env => rn C Hd b env)) : PS X (.While t body [] p) (tS fr X.K W mu R0 H0 fun env => rn1 C Hd (.wh c b) env) := by
  refine psImp (ps_while hp hc.2 hb) fun D σ H ⟨R, env, rel, hw⟩ => ?_
  have hw : WantS fr X.K W mu R0 H0 R D (whR (fun env => ev C env c >>= boolD) (fun env => rn C Hd b env) 100 env) := hw
  refine ⟨fun m σ2 H2 => ∃ R2 env2, RelS X.K mu R0 H0 R2 H2 σ2 env2 ∧ WantS fr X.K W mu R0 H0 R2 D (whR (fun env => ev C env c >>= boolD) (fun env => rn C Hd b env) m env2), ⟨100, R, env, rel, hw⟩, ?_⟩
  rintro m σ2 H2 ⟨R2, env2, r2, h2⟩
  cases m with
  | zero => exact False.elim h2
  | succ m =>
    have h2 : WantS fr X.K W mu R0 H0 R2 D ((ev C env2 c >>= boolD).fl env2 fun k => if k then (rn C Hd b env2).thn fun env3 => whR (fun env => ev C env c >>= boolD) (fun env => rn C Hd b env) m env3 else .nx env2) := h2
    refine ⟨_, env2, r2.rel, h2.ofG r2 fun k z H3 R3 ex eb hk => ?_⟩
    subst eb
    cases z with
    | true =>
      rw [if_pos rfl]
      have hk : WantS fr X.K W mu R0 H0 R2 D ((rn C Hd b env2).thn fun env3 => whR (fun env => ev C env c >>= boolD) (fun env => rn C Hd b env) m env3) := hk
      refine ⟨fun σ' H' => ∃ R2 env2, RelS X.K mu R0 H0 R2 H' σ' env2 ∧ WantS fr X.K W mu R0 H0 R2 D (whR (fun env => ev C env c >>= boolD) (fun env => rn C Hd b env) m env2), fun σ' H' h => ⟨m, Nat.lt_succ_self _, h⟩, R2, env2, r2.after ex.h, ?_⟩
      dsimp only
      cases q : rn C Hd b env2 with
      | nx env3 => rw [q] at hk; exact fun σ' H' R' s' r' => ⟨R', env3, r', hk.up s'⟩
      | rt d => rw [q] at hk; exact hk
      | xc c env3 => rw [q] at hk; exact hk
      | stuck => rw [q] at hk; exact hk
    | false =>
      rw [if_neg Bool.false_ne_true]
      exact hk σ2 H3 R2 (Same.refl _) (r2.after ex.h)
/-- a, b = e -/
theorem stUnp {Hd : Nat → Nat → Res PyData} {is : List Nat} {e : E} {tg v : Expr} {p : Pos} (he : SE X W C e v) (hg : PG X tg (tgD X.K (.tp is))) (hc : isComp v = false) (ht : isTup v = false) (htg : isTup tg = true) (hm : mnE mu e = false) (hi : ∀ i ∈ is, i ∉ mu) : PS X (.Assign [tg] v p) (tS fr X.K W mu R0 H0 fun env => rn1 C Hd (.unp is e) env) := by
  obtain ⟨es, kk, pp, rfl⟩ := isTup_ htg
  have hsw : swapsWithSole [.Tuple es kk pp] v p.line X.env = pure false := by
    cases v with
    | ListComp _ _ _ _ => cases hc
    | SetComp _ _ _ _ => cases hc
    | DictComp _ _ _ _ _ => cases hc
    | _ => rfl
  have hst : swappedStores [.Tuple es kk pp] v X.env = pure none := by
    cases v with
    | Tuple _ _ _ => cases ht
    | _ => rfl
  refine psImp (ps_asg he.1 hg hsw hst rfl) fun D σ H ⟨R, env, rel, hw⟩ => ?_
  have hw : WantS fr X.K W mu R0 H0 R D ((ev C env e).fl env fun d => (bindT env (.tp is) d).fl env fun env' => .nx env') := hw
  rw [evA e mask_agree hm] at hw
  refine ⟨R, mask mu env, rel.relM, hw.ofG rel fun d y H1 R1 ex dy hk => ?_⟩
  obtain ⟨env', hb', hk⟩ := hk.pure bindT_noexc
  exact tgS_ok (w := false) (rel.grow ex) hi (fun z => nomatch z) (.inl dy) hb' fun σ2 r2 => hk σ2 H1 R1 ex.r r2
/-- a, b = [.. for ..] -/
theorem stUnl {Hd : Nat → Nat → Res PyData} {is : List Nat} {e : E} {tg v : Expr} {p : Pos} (he : SE X W C e v) (hg : PG X tg (gLst X.K is.length (gNms is))) (ht : isTup v = false) (htg : isTup tg = true) (hm : mnE mu e = false) (hi : ∀ i ∈ is, i ∉ mu) (hL : ∀ env d, ev C env e = .ok d → ∃ ds, d = .list ds) : PS X (.Assign [tg] v p) (tS fr X.K W mu R0 H0 fun env => rn1 C Hd (.unp is (.bl .tuple (.cons e .nil))) env) := by
  obtain ⟨es, kk, pp, rfl⟩ := isTup_ htg
  have hsw : swapsWithSole [.Tuple es kk pp] v p.line X.env = pure false := by
    cases v <;> rfl
  have hst : swappedStores [.Tuple es kk pp] v X.env = pure none := by
    cases v with
    | Tuple _ _ _ => cases ht
    | _ => rfl
  refine psImp (ps_asg he.1 hg hsw hst rfl) fun D σ H ⟨R, env, rel, hw⟩ => ?_
  have hw : WantS fr X.K W mu R0 H0 R D ((ev C env e).fl env fun d => (bltD .tuple [d]).fl env fun d => (bindT env (.tp is) d).fl env fun env' => .nx env') := by
    have e0 : rn1 C Hd (.unp is (.bl .tuple (.cons e .nil))) env = ((ev C env e).fl env fun d => (bltD .tuple [d]).fl env fun d => (bindT env (.tp is) d).fl env fun env' => .nx env') := by
      show (((ev C env e >>= fun d => (.ok [d] : Res (List PyData))) >>= fun ds => bltD .tuple ds).fl env fun d => (bindT env (.tp is) d).fl env fun env' => .nx env') = _
      cases ev C env e <;> rfl
    rw [← e0]; exact hw
  rw [evA e mask_agree hm] at hw
  cases q : ev C (mask mu env) e with
  | ok d =>
    rw [q] at hw
    obtain ⟨ds, rfl⟩ := hL _ _ q
    refine ⟨R, mask mu env, rel.relM, ?_⟩
    dsimp only
    rw [q]
    intro y H1 R1 ex dy
    cases dy with
    | lst hl ha =>
      have hw : WantS fr X.K W mu R0 H0 R D ((bindT env (.tp is) (.tuple ds)).fl env fun env' => .nx env') := hw
      obtain ⟨env', hb', hk⟩ := hw.pure bindT_noexc
      have e := someR_ok (show someR (setAll env is ds) = .ok env' from hb')
      exact ⟨_, _, rfl, .inl (Rd.mono ex.sub hl), by rw [ha.length, setAll_len e], gnmsS (rel.grow ex) hi ha e fun σ2 r2 => hk σ2 H1 R1 ex.r r2⟩
  | exc c =>
    refine ⟨R, mask mu env, rel.relM, ?_⟩
    rw [q] at hw
    dsimp only
    rw [q]
    exact fun H' R' e => hw σ H' R (rel.after e.h)
  | stuck => rw [q] at hw; exact hw.elim
/-- the plain exchange a, b = .. -/
theorem swap2 {env : PySem.Env} {x y z : Str} {px py pz pt pt2 : Pos} {kt k2} {vb : Expr} (hb : env.scope.kind = .function) (hx : env.kindOf x = some .local) (hy : env.kindOf y = some .local) (hxy : x ≠ y) (hl : (py.line == px.line) = true) (hz : (z == ("__debug__" : Str)) = false) (hs : isStar vb = false) :
    swappedStores [.Tuple [.Name x px, .Name y py] kt pt] (.Tuple [.Name z pz, vb] k2 pt2) env = pure (some [x, y]) := by
  have b1 : env.blockKind = .function := by unfold Env.blockKind; rw [hb]; rfl
  have hlx : (px.line == px.line) = true := by simp
  have st : ([Expr.Name z pz, vb].any fun | .Starred .. => true | _ => false) = false := by
    cases vb with
    | Starred _ _ => cases hs
    | _ => rfl
  have nm : ([Expr.Name x px, Expr.Name y py].filterMap fun
      | .Name id pos => if env.kindOf id == some .local && pos.line == px.line then some id else none
      | _ => none) = [x, y] := by
    have hl := eq_of_beq hl
    simp [hx, hy, hl]
  have ed : ([x, y] : List Str).eraseDups.length = 2 := by
    have : ¬ y = x := fun q => hxy q.symm
    simp [List.eraseDups_cons, this]
  have f1 : ([Expr.Name z pz, vb].all (foldedForSure 8)) = false := rfl
  have f2 : ([Expr.Name z pz, vb].all (constantsAlone 8)) = false := by
    show ((z == ("__debug__" : Str)) && _) = false
    rw [hz]; rfl
  unfold swappedStores
  have e1 : (!(([Expr.Name x px, Expr.Name y py] : List Expr).length == 2 || ([Expr.Name x px, Expr.Name y py] : List Expr).length == 3) || ([Expr.Name z pz, vb] : List Expr).length != ([Expr.Name x px, Expr.Name y py] : List Expr).length || env.blockKind != .function) = false := by rw [b1]; rfl
  have e2 : (([x, y] : List Str).length != ([Expr.Name x px, Expr.Name y py] : List Expr).length || ([x, y] : List Str).eraseDups.length != ([x, y] : List Str).length) = false := by rw [ed]; rfl
  show (if (!(([Expr.Name x px, Expr.Name y py] : List Expr).length == 2 || ([Expr.Name x px, Expr.Name y py] : List Expr).length == 3) || ([Expr.Name z pz, vb] : List Expr).length != ([Expr.Name x px, Expr.Name y py] : List Expr).length || env.blockKind != .function) = true then _ else _) = _
  rw [e1, if_neg (by decide)]
  show (if ([Expr.Name z pz, vb].any fun | .Starred .. => true | _ => false) = true then _ else _) = _
  rw [st, if_neg (by decide)]
  have key : ∀ names : List Str, names = [x, y] → (if (names.length != ([Expr.Name x px, Expr.Name y py] : List Expr).length || names.eraseDups.length != names.length) = true then (pure none : Sem (Option (List Str))) else if [Expr.Name z pz, vb].all (foldedForSure 8) = true then pure none else
      if [Expr.Name z pz, vb].all (constantsAlone 8) = true then (do let _ ← (unsupported "assign.tuple-of-constant-expressions:order-of-the-stores" : Sem Unit); pure (some names)) else pure (some names)) = pure (some [x, y]) := by
    intro names e
    subst e
    rw [e2, f1, f2]
    rfl
  exact key _ nm
/-- x, y = a, b -/
theorem stPar {Hd : Nat → Nat → Res PyData} {i j : Nat} {a b : E} {x y z : Str} {vb : Expr} {px py pz pt pt2 pos : Pos} {kt k2} (hc : X.calm = true) (nd : X.N.Nodup) (hk : X.env.scope.kind = .function) (hi : X.N[i]? = some x) (hj : X.N[j]? = some y) (hij : i ≠ j) (hxy : x ≠ y) (hx : X.env.scope.names.lookup x = some .local) (hy : X.env.scope.names.lookup y = some .local) (hl : (py.line == px.line) = true) (hz : (z == ("__debug__" : Str)) = false) (hs : isStar vb = false)
    (ha : SE X W C a (.Name z pz)) (hb : SE X W C b vb) (hma : mnE mu a = false) (hmb : mnE mu b = false) (hi2 : i ∉ mu) (hj2 : j ∉ mu) : PS X (.Assign [.Tuple [.Name x px, .Name y py] kt pt] (.Tuple [.Name z pz, vb] k2 pt2) pos) (tS fr X.K W mu R0 H0 fun env => rn1 C Hd (.par i j a b) env) := by
  refine psImp (ps_par hc nd hi hj hij hx hy (pa_cons ha.1 (pa_cons hb.1 pa_nil (star1 hs [] X.env)) rfl) (swap2 hk hx hy hxy hl hz hs) rfl) fun D σ H ⟨R, env, rel, hw⟩ => ?_
  have hw : WantS fr X.K W mu R0 H0 R D ((ev C env a).fl env fun x => (ev C env b).fl env fun y => .nx (setV (setV env i x) j y)) := hw
  rw [evA a mask_agree hma] at hw
  refine ⟨R, mask mu env, rel.relM, hw.ofG rel fun d1 v1 H1 R1 ex1 n1 w1 => ?_⟩
  rw [evA b mask_agree hmb] at w1
  have rel1 := rel.grow ex1
  have w1 : WantS fr X.K W mu R0 H0 R1 D ((ev C (mask mu env) b).fl env fun y => .nx (setV (setV env i d1) j y)) := w1.up ex1.r
  refine ⟨R1, mask mu env, rel1.relM, w1.ofG rel1 fun d2 v2 H2 R2 ex2 n2 w2 => ?_⟩
  have rel2 := rel1.grow ex2
  refine ⟨v1, v2, rfl, ?_⟩
  exact w2 _ H2 R2 ex2.r ((rel2.set hi2 (Dn.mono ex2.r _ _ n1)).set hj2 n2)
/-- raise -/
theorem stRs {Hd : Nat → Nat → Res PyData} {c : Nat} {m : Str} {v : Expr} {p : Pos} (hc : X.calm = true) (tk : Takes X W) (h : PMk X v (fun _ H Q => Q (xcls X.K c) none H)) : PS X (.Raise (some v) none p) (tS fr X.K W mu R0 H0 fun env => rn1 C Hd (.rs c m) env) :=
  psImp (ps_raise hc tk h) fun D σ H ⟨R, env, rel, hw⟩ => hw σ H R rel
end
end Z
end
section
/-! Zh: what is told of a refusal. -/
namespace Z
open PySem PySem.Spec PyProof.Rows L2
/-- a class by its number -/
def xval (K : PySem.W.Frag) (k : Nat) : Value := if k = 101 then .type "ValueError" else .ref (He.ga K (xname k))
structure ExcF (K : PySem.W.Frag) (ks : List Nat) (c : Nat) : Prop where
  C : ExcC K (He.ga K (xname c))
  kit : ∀ k ∈ ks, PySem.W.kitOne K (xcls K c) (xval K k) = some (subX c k)
  exm : ∀ k ∈ ks, PySem.W.exmOne K (xcls K c) (xval K k) = some (subX c k)
/-- the refusal is pinned -/
structure HotX (X : Cx) (a : Addr) (oe : Obj) (c : Nat) : Prop where
  pin : (a, oe) ∈ X.pn
  z : Zc (xcls X.K c) none oe
  f : ∃ vs, oe.data = .fields vs
theorem call_isH {X : Cx} {a : Addr} {oe : Obj} {c : Nat} (C : ExcC X.K (He.ga X.K (xname c))) (hx : HotX X a oe c) : CallR X (.builtin "isinstance") (rIsE X.K (He.ga X.K (xname c)) a) := by
  intro pins st σ H args us Q inv rel want
  obtain ⟨kc, kv, b, rfl, hkv, hb, q⟩ := want
  obtain ⟨u1, u2, rfl, r1, r2⟩ := rel.two
  cases r1
  obtain rfl := hkv _ r2
  have hget := (inv.pin (a, oe) (List.mem_append_left _ hx.pin)).1
  obtain ⟨fs, hfs⟩ := hx.f
  have inst : PySem.W.InstAt st.heap a oe (He.ga X.K (xname c)) none := by
    have z := hx.z
    cases oe with
    | mk ocls odict odata oslots =>
      obtain ⟨z1, z2⟩ := z
      simp only at z1 z2 hfs
      subst z1 z2 hfs
      exact ⟨hget, rfl, rfl, trivial⟩
  refine PySem.W.kia_one (PySem.W.handS_kitx_exc C.hg C.hk C.hs C.hd C.ha C.hn C.ht C.hm) inv.kIn inst hb (fun z => nomatch z) fun tk => ?_
  exact ⟨.bl b, H, inv.kept (t' := tk) fun _ _ z => z, rfl, q⟩
/-- isinstance(e, k) -/
def chkIs (S : Sx) (ks : List Nat) (ev : Str) (k : Nat) (e : Expr) : Bool := match asCall e with
  | some (x, [e1, e2]) => (match asName e1, asName e2 with
    | some y, some z => decide (x = ("isinstance" : Str)) && bltn S x && decide (y = ev) && decide (z = xname k) && ks.contains k && okName z && glb S.sc z && (decide (k = 101) && bltn S z || decide (k ≠ 101))
    | _, _ => false)
  | _ => false
def chkIss (S : Sx) (ks : List Nat) (ev : Str) : List Nat → List Expr → Bool
  | [], [] => true
  | k :: cs, e :: es => chkIs S ks ev k e && chkIss S ks ev cs es
  | _, _ => false
/-- the classes' names -/
structure HotG (X : Cx) (ks : List Nat) : Prop where
  mg : ∀ k ∈ ks, k ≠ 101 → X.mg (xname k) = some (.ref (He.ga X.K (xname k)))
section
variable {X : Cx} {S : Sx} {C : Nat → List PyData → Res PyData} {a : Addr} {oe : Obj} {c : Nat} {ks : List Nat} {ev : Str}
theorem pe_is (F : Fits X S C) (G : HotG X ks) (xf : ExcF X.K ks c) (hx : HotX X a oe c) {si : Nat} (h0 : S.N[si]? = some ev) (hv : vis S.sc ev = true) (hn : okName ev = true) {k : Nat} {e : Expr} (h : chkIs S ks ev k e = true) :
    PE X e (fun σ H Q => σ[si]? = some (some (.ref a)) ∧ Q (.bl (subX c k)) H) := by
  unfold chkIs at h
  split at h
  · rename_i x e1 e2 qc
    split at h
    · rename_i y z q1 q2
      obtain ⟨p, pos, rfl⟩ := asCall_ qc
      obtain ⟨p1, rfl⟩ := asName_ q1
      obtain ⟨p2, rfl⟩ := asName_ q2
      simp only [Bool.and_eq_true, decide_eq_true_eq] at h
      obtain ⟨⟨⟨⟨⟨⟨⟨g1, g2⟩, g3⟩, g4⟩, g5⟩, g6⟩, g7⟩, g8⟩ := h
      subst g1 g3 g4
      obtain ⟨n1, n2, n3, n4⟩ := F.bltn g2
      have hk : k ∈ ks := by simpa using g5
      have nn := okName_ hn
      have ne := pe_var (X := X) (i := si) (pos := p1) (by rw [F.hN]; exact h0) (by rw [F.sc]; exact vis_ok hv) nn.1 nn.2.1
      have fin : ∀ (v : V) (t : PE X (.Name (xname k) p2) (tC v)) (hr : ∀ u, RelV v u → u = xval X.K k), PE X (.Call (.Name "isinstance" p) [.Name y p1, .Name (xname k) p2] [] pos) (fun σ H Q => σ[si]? = some (some (.ref a)) ∧ Q (.bl (subX c k)) H) := fun v t hr =>
        peImp (pe_callB (call_isH xf.C hx) n1 n2 PyProof.Rows.boot_isinstance (pa_cons ne (pa_cons t pa_nil rfl) rfl) n3 n4 rfl rfl) fun σ H Q hw => ⟨_, hw.1, v, xval X.K k, _, rfl, hr, xf.kit k hk, hw.2⟩
      by_cases hk1 : k = 101
      · subst hk1
        have g9 : bltn S (xname 101) = true := by
          rw [Bool.or_eq_true] at g8
          rcases g8 with q | q
          · exact ((Bool.and_eq_true _ _).mp q).2
          · simp at q
        obtain ⟨m1, m2, m3, m4⟩ := F.bltn g9
        exact fin (.ty "ValueError") (pe_bltn m1 m2 boot_ValueError rfl m3 m4) fun u r => r
      · have gl : Gl X (xname k) := F.glb g7
        have ev0 : xval X.K k = .ref (He.ga X.K (xname k)) := by unfold xval; rw [if_neg hk1]
        refine fin (.ref (He.ga X.K (xname k))) (pe_glob gl (G.mg k hk hk1) rfl (okName_ g6).1) fun u r => ?_
        rw [ev0]; exact r
    · cases h
  · cases h
theorem pt_is (F : Fits X S C) (G : HotG X ks) (xf : ExcF X.K ks c) (hx : HotX X a oe c) {si : Nat} (h0 : S.N[si]? = some ev) (hv : vis S.sc ev = true) (hn : okName ev = true) {k : Nat} {e : Expr} (h : chkIs S ks ev k e = true) :
    PT X e (tB (fun σ H Q => σ[si]? = some (some (.ref a)) ∧ Q (.bl (subX c k)) H)) := by
  have B := pe_is F G xf hx h0 hv hn h
  unfold chkIs at h
  split at h
  · rename_i x e1 e2 qc
    obtain ⟨p, pos, rfl⟩ := asCall_ qc
    exact pt_val B
  · cases h
theorem pa_is (F : Fits X S C) (G : HotG X ks) (xf : ExcF X.K ks c) (hx : HotX X a oe c) (h0 : S.N[0]? = some ev) (hv : vis S.sc ev = true) (hn : okName ev = true) : ∀ {cs : List Nat} {es : List Expr}, chkIss S ks ev cs es = true →
    PA X es (fun σ H Q => σ[0]? = some (some (.ref a)) ∧ Q (cs.map fun k => V.bl (subX c k)) H)
  | [], [], _ => paImp pa_nil fun σ H Q hw => hw.2
  | [], _ :: _, h => by simp [chkIss] at h
  | _ :: _, [], h => by simp [chkIss] at h
  | k :: cs, e :: es, h => by
    rw [chkIss, Bool.and_eq_true] at h
    have he : isStar e = false := by
      cases e with
      | Starred _ _ => simp [chkIs, asCall] at h
      | _ => rfl
    exact paImp (pa_cons (pe_is F G xf hx h0 hv hn h.1) (pa_is F G xf hx h0 hv hn h.2) (star1 he es X.env)) fun σ H Q hw => ⟨hw.1, hw.1, hw.2⟩
end
/-! ### the def of refusals -/
def tCount : E := .cmp .ne (.mt .count (.var 1) (.cons (.cn (.bl true)) .nil)) (.cn (.int 1))
def tBad : E := .tup (.cons (.cn (.str "refused")) (.cons (.neg (.cn (.int 1))) .nil))
def tGood : E := .tup (.cons (.cn (.str "refused")) (.cons (.mt .index (.var 1) (.cons (.cn (.bl true)) .nil)) .nil))
/-- if .. or not isinstance(e, ValueError): return .. / return .. -/
def chkTail (S : Sx) (ks : List Nat) (ev : Str) : List Stmt → Bool
  | [.If (.BoolOp .Or [c1, .UnaryOp .Not c2 _] _) [.Return (some r1) _] [] _, .Return (some r2) _] => chkE tCount S c1 && chkIs S ks ev 101 c2 && chkE tBad S r1 && chkE tGood S r2
  | _ => false
def asLst : Expr → Option (List Expr)
  | .List es _ => some es
  | _ => none
theorem asLst_ {e : Expr} {es : List Expr} (h : asLst e = some es) : ∃ p, e = .List es p := by
  cases e with
  | List xs p => cases h; exact ⟨p, rfl⟩
  | _ => cases h
def asAdd : Expr → Option (Expr × Expr)
  | .BinOp l .Add r _ => some (l, r)
  | _ => none
theorem asAdd_ {e l r : Expr} (h : asAdd e = some (l, r)) : ∃ p, e = .BinOp l .Add r p := by
  cases e with
  | BinOp x o y p =>
    cases o with
    | Add => cases h; exact ⟨p, rfl⟩
    | _ => cases h
  | _ => cases h
/-- flags = [..] -/
def chkFl1 (S : Sx) (ks : List Nat) (ev fl : Str) (cs : List Nat) : Stmt → Bool
  | .Assign [t] v _ => decide (asName t = some fl) && (match asLst v with | some es => chkIss S ks ev cs es | none => false)
  | _ => false
/-- flags = flags + [..] -/
def chkFl2 (S : Sx) (ks : List Nat) (ev fl : Str) (cs : List Nat) : Stmt → Bool
  | .Assign [t] v _ => decide (asName t = some fl) && (match asAdd v with
    | some (l, r) => decide (asName l = some fl) && (match asLst r with | some es => chkIss S ks ev cs es | none => false)
    | none => false)
  | _ => false
def chkRef (S : Sx) (ks : List Nat) (cs : List Nat) (m : Nat) : List Stmt → Bool
  | st :: rest => (match S.N with
    | [ev, fl] => vis S.sc ev && okName ev && vis S.sc fl && okName fl && sto S fl && decide (cs.length ≤ 1000) && (if m = cs.length then chkFl1 S ks ev fl cs st && chkTail S ks ev rest
        else (match rest with
          | st2 :: rest2 => chkFl1 S ks ev fl (cs.take m) st && chkFl2 S ks ev fl (cs.drop m) st2 && chkTail S ks ev rest2
          | [] => false))
    | _ => false)
  | [] => false
theorem idx_count {d : PyData} : ∀ (ds : List PyData), ds.countP (fun z => PyData.eqv z d) ≠ 0 → ∃ j, idxOf d ds = some j
  | [], h => by simp at h
  | x :: r, h => by
    unfold idxOf
    cases q : PyData.eqv x d with
    | true => exact ⟨0, rfl⟩
    | false =>
      rw [List.countP_cons, q] at h
      obtain ⟨j, hj⟩ := idx_count r (by simpa using h)
      rw [hj]; exact ⟨j + 1, rfl⟩
section
variable {X : Cx} {S : Sx} {C : Nat → List PyData → Res PyData} {a : Addr} {oe : Obj} {c : Nat} {ks : List Nat} {ev fl : Str} {W : WX}
theorem bools_in (cs : List Nat) (c : Nat) : inOk (flagsX cs c) (.bool true) = true := by
  have : PyData.canLayAll0 (flagsX cs c) = true := by
    unfold flagsX
    induction cs with
    | nil => rfl
    | cons k r ih => simp [PyData.canLayAll0, PyData.canLay0, ih]
  unfold inOk
  rw [this]; rfl
theorem dn_flags {K : PySem.W.Frag} {R : Hp} (c : Nat) : ∀ cs : List Nat, DnA K R (cs.map fun k => V.bl (subX c k)) (flagsX cs c)
  | [] => .nil
  | k :: r => .cons (.bl _) (dn_flags c r)
/-- behind the flags -/
theorem ref_tail (F : Fits X S C) (tk : Takes X W) (G : HotG X ks) (xf : ExcF X.K ks c) (hx : HotX X a oe c) (hN : S.N = [ev, fl]) (hv : vis S.sc ev = true) (hn : okName ev = true) {st : List Stmt} (h : chkTail S ks ev st = true) (cs : List Nat) :
    PSs X st (fun D σ H => ∃ l R, σ = [some (.ref a), some (.ref l)] ∧ Same R H ∧ R l = some (.lst (cs.map fun k => V.bl (subX c k))) ∧ ∀ v H' R', Ext R H R' H' → Dn X.K R' v (refD cs c) → D.rt v H') := by
  unfold chkTail at h
  split at h
  · rename_i c1 c2 p1 p2 r1 p3 p4 r2 p5
    simp only [Bool.and_eq_true] at h
    obtain ⟨⟨⟨g1, g2⟩, g3⟩, g4⟩ := h
    have h0 : S.N[0]? = some ev := by rw [hN]; rfl
    have A := (sE (W := W) tCount F tk g1).2
    have B := pe_is F G xf hx h0 hv hn g2
    have isB := pt_is F G xf hx h0 hv hn g2
    have R1 := (sE (W := W) tBad F tk g3).1
    have R2 := (sE (W := W) tGood F tk g4).1
    refine pssImp (pss_cons (ps_if (PW.pt (pw_or A (pw_or1 (pt_not isB)))) (pss_one (ps_ret R1)) pss_nil) (pss_one (ps_ret R2))) fun D σ H hw => ?_
    obtain ⟨l, R, rfl, sub, hl, fin⟩ := hw
    have dl : Dn X.K R (.ref l) (.list (flagsX cs c)) := .lst (.inl hl) (dn_flags c cs)
    have rel : Rel X.K R H [some (.ref a), some (.ref l)] [none, some (.list (flagsX cs c))] := ⟨sub, rfl, fun i d e => by
      match i, e with
      | 0, e => cases e
      | 1, e => cases e; exact ⟨.ref l, rfl, dl⟩
      | n + 2, e => cases e⟩
    have hbi := bools_in cs c
    generalize hfl : flagsX cs c = ds at *
    have e1 : Z.ev C [none, some (.list ds)] tCount >>= boolD = .ok (decide (ds.countP (fun z => PyData.eqv z (.bool true)) ≠ 1)) := by
      show (((Res.ok (PyData.list ds) >>= fun x => recv .count x >>= fun _ => Res.ok [PyData.bool true] >>= fun ds => mtD .count x ds) >>= fun x => Res.ok (PyData.int 1) >>= fun y => cmpD .ne x y) >>= boolD) = _
      simp only [Res.ok_bind]
      show ((guardR (inOk ds (.bool true)) (.int (ds.countP fun z => PyData.eqv z (.bool true) : Nat)) >>= fun x => cmpD .ne x (.int 1)) >>= boolD) = _
      rw [hbi]
      show ((Res.ok (PyData.int (ds.countP fun z => PyData.eqv z (.bool true) : Nat)) >>= fun x => cmpD .ne x (PyData.int 1)) >>= boolD) = _
      rw [Res.ok_bind]
      show Res.ok (!(((ds.countP fun z => PyData.eqv z (.bool true) : Nat) : Int) == 1)) = _
      congr 1
      by_cases q : ds.countP (fun z => PyData.eqv z (.bool true)) = 1
      · rw [q]; rfl
      · rw [decide_eq_true q, Bool.not_eq_true', beq_eq_false_iff_ne]
        omega
    refine ⟨R, _, rel, ?_⟩
    dsimp only
    rw [e1]
    intro b H1 Ra ext hb
    subst hb
    by_cases q : ds.countP (fun z => PyData.eqv z (.bool true)) = 1
    · rw [decide_eq_false (fun z => z q)]
      show _ ∧ _
      refine ⟨rfl, ?_⟩
      refine ⟨subX c 101, rfl, ?_⟩
      have s1 : subX c 101 = true := by unfold subX; simp
      rw [s1]
      show (if (!true) = true then _ else _)
      rw [if_neg (by decide)]
      show tD X.K W (fun env => Z.ev C env tGood) [some (V.ref a), some (V.ref l)] H1 D.rt
      obtain ⟨j, hj⟩ := idx_count (d := .bool true) ds (by omega)
      have e2 : Z.ev C [none, some (.list ds)] tGood = .ok (refD cs c) := by
        show (((Res.ok (PyData.str "refused")) >>= fun x => ((Res.ok (PyData.list ds) >>= fun x => recv .index x >>= fun _ => Res.ok [PyData.bool true] >>= fun ds => mtD .index x ds) >>= fun y => Res.ok [] >>= fun ys => Res.ok (y :: ys)) >>= fun xs => Res.ok (x :: xs)) >>= fun ds => guardR (fitsL ds.length) (.tuple ds)) = _
        simp only [Res.ok_bind]
        have e3 : mtD .index (.list ds) [.bool true] = .ok (.int (j : Nat)) := by
          show (if inOk ds (.bool true) then (match idxOf (.bool true) ds with | some j => Res.ok (PyData.int j) | none => .stuck) else .stuck) = _
          rw [hbi, hj]; rfl
        have e4 : recv .index (.list ds) = .ok () := rfl
        rw [e4, Res.ok_bind, e3, Res.ok_bind]
        have e5 : fitsL 2 = true := by unfold fitsL; rw [PySem.sizeLine_eq]; decide
        show guardR (fitsL 2) _ = _
        rw [e5]
        unfold refD
        rw [hfl, if_pos q, hj]
        rfl
      refine ⟨Ra, _, rel.ext ext, ?_⟩
      dsimp only
      rw [e2]
      exact fun v H2 R2 ext2 dn => fin v H2 R2 (ext.trans ext2) dn
    · rw [decide_eq_true q, if_pos rfl, if_pos rfl]
      show tD _ _ _ _ H1 D.rt
      have e2 : Z.ev C [none, some (.list ds)] tBad = .ok (refD cs c) := by
        have e5 : fitsL 2 = true := by unfold fitsL; rw [PySem.sizeLine_eq]; decide
        show guardR (fitsL 2) _ = _
        rw [e5]
        unfold refD
        rw [hfl, if_neg q]
        rfl
      refine ⟨Ra, _, rel.ext ext, ?_⟩
      dsimp only
      rw [e2]
      exact fun v H2 R2 ext2 dn => fin v H2 R2 (ext.trans ext2) dn
  · cases h
/-- flags = [..] -/
theorem ref_fl1 (F : Fits X S C) (G : HotG X ks) (xf : ExcF X.K ks c) (hx : HotX X a oe c) (hN : S.N = [ev, fl]) (hv : vis S.sc ev = true) (hn : okName ev = true) (hs : sto S fl = true) {cs : List Nat} (hl : cs.length ≤ 1000) {st : Stmt} (h : chkFl1 S ks ev fl cs st = true) :
    PS X st (fun D σ H => ∃ R o, σ = [some (.ref a), o] ∧ Same R H ∧ ∀ l, H l = none → D.nx [some (.ref a), some (.ref l)] (upd H l (.lst (cs.map fun k => V.bl (subX c k))))) := by
  unfold chkFl1 at h
  split at h
  · rename_i t v pos
    rw [Bool.and_eq_true, decide_eq_true_eq] at h
    obtain ⟨h1, h2⟩ := h
    split at h2
    · rename_i es q
      obtain ⟨p, rfl⟩ := asLst_ q
      obtain ⟨pn, rfl⟩ := asName_ h1
      obtain ⟨l, f⟩ := F.sto hs
      have h0 : S.N[0]? = some ev := by rw [hN]; rfl
      have hi : X.N[1]? = some fl := by rw [F.hN, hN]; rfl
      refine psImp (ps_set F.nd hi l (pe_lst (pa_is F G xf hx h0 hv hn h2)) rfl f) fun D σ H ⟨R, o, e, sub, k⟩ => ?_
      subst e
      refine ⟨rfl, ?_, fun l hl => k l hl⟩
      rw [List.length_map, sizeLine_eq]; omega
    · cases h2
  · cases h
theorem ref_fl2 (F : Fits X S C) (G : HotG X ks) (xf : ExcF X.K ks c) (hx : HotX X a oe c) (hN : S.N = [ev, fl]) (hv : vis S.sc ev = true) (hn : okName ev = true) (hs : sto S fl = true) (hv2 : vis S.sc fl = true) (hn2 : okName fl = true) {cs cs1 : List Nat} (hl : cs1.length + cs.length ≤ 1000) {st : Stmt} (h : chkFl2 S ks ev fl cs st = true) :
    PS X st (fun D σ H => ∃ l1, σ = [some (.ref a), some (.ref l1)] ∧ H l1 = some (.lst (cs1.map fun k => V.bl (subX c k))) ∧ ∀ q l, H q = none → (upd H q (.lst (cs.map fun k => V.bl (subX c k)))) l = none → D.nx [some (.ref a), some (.ref l)] (upd (upd H q (.lst (cs.map fun k => V.bl (subX c k)))) l (.lst ((cs1 ++ cs).map fun k => V.bl (subX c k))))) := by
  unfold chkFl2 at h
  split at h
  · rename_i t v pos
    rw [Bool.and_eq_true, decide_eq_true_eq] at h
    obtain ⟨h1, h2⟩ := h
    split at h2
    · rename_i e1 e2 q
      obtain ⟨p, rfl⟩ := asAdd_ q
      obtain ⟨pn, rfl⟩ := asName_ h1
      rw [Bool.and_eq_true, decide_eq_true_eq] at h2
      obtain ⟨h3, h4⟩ := h2
      obtain ⟨pm, rfl⟩ := asName_ h3
      split at h4
      · rename_i es q2
        obtain ⟨p2, rfl⟩ := asLst_ q2
        obtain ⟨l, f⟩ := F.sto hs
        have h0 : S.N[0]? = some ev := by rw [hN]; rfl
        have hi : X.N[1]? = some fl := by rw [F.hN, hN]; rfl
        have nn := okName_ hn2
        refine psImp (ps_set F.nd hi l (pe_op op_catR (pe_var hi (by rw [F.sc]; exact vis_ok hv2) nn.1 nn.2.1) (pe_lst (pa_is F G xf hx h0 hv hn h4))) rfl f) fun D σ H ⟨l1, e, hl1, k⟩ => ?_
        subst e
        refine ⟨.ref l1, rfl, rfl, ?_, fun q hq => ⟨l1, q, cs1.map (fun k => V.bl (subX c k)), _, rfl, rfl, .inl ?_, .inl (upd_same ..), ?_, fun l hlf => ?_⟩⟩
        · rw [List.length_map, sizeLine_eq]; omega
        · rw [upd_ne (ne_of_none hl1 hq)]; exact hl1
        · rw [List.length_map, List.length_map, sizeLine_eq]; omega
        · have := k q l hq hlf
          rw [List.map_append] at this
          exact this
      · cases h4
    · cases h2
  · cases h
theorem ref_body (F : Fits X S C) (tk : Takes X W) (G : HotG X ks) (xf : ExcF X.K ks c) (hx : HotX X a oe c) {cs : List Nat} {m : Nat} {st : List Stmt} (h : chkRef S ks cs m st = true) :
    PSs X st (fun D σ H => ∃ R, σ = [some (.ref a), none] ∧ Same R H ∧ ∀ v H' R', Ext R H R' H' → Dn X.K R' v (refD cs c) → D.rt v H') := by
  unfold chkRef at h
  split at h
  · rename_i s0 rest
    split at h
    · rename_i ev fl hN
      simp only [Bool.and_eq_true, decide_eq_true_eq] at h
      obtain ⟨⟨⟨⟨⟨⟨g1, g2⟩, g3⟩, g4⟩, g5⟩, g6⟩, h⟩ := h
      split at h
      · rw [Bool.and_eq_true] at h
        refine pssImp (pss_cons (ref_fl1 F G xf hx hN g1 g2 g5 g6 h.1) (ref_tail F tk G xf hx hN g1 g2 h.2 cs)) fun D σ H ⟨R, e, sub, k⟩ => ?_
        subst e
        refine ⟨R, none, rfl, sub, fun l hl => ⟨l, upd R l (.lst (cs.map fun k => V.bl (subX c k))), rfl, (Ext.alloc sub hl).sub, upd_same .., fun v H' R' ext dn => k v H' R' ((Ext.alloc sub hl).trans ext) dn⟩⟩
      · split at h
        · rename_i st2 rest2
          simp only [Bool.and_eq_true] at h
          have hlen : (cs.take m).length + (cs.drop m).length ≤ 1000 := by rw [List.length_take, List.length_drop]; omega
          refine pssImp (pss_cons (ref_fl1 F G xf hx hN g1 g2 g5 (by omega) h.1.1) (pss_cons (ref_fl2 (cs1 := cs.take m) F G xf hx hN g1 g2 g5 g3 g4 hlen h.1.2) (ref_tail F tk G xf hx hN g1 g2 h.2 cs))) fun D σ H ⟨R, e, sub, k⟩ => ?_
          subst e
          refine ⟨R, none, rfl, sub, fun l1 hl1 => ⟨l1, rfl, upd_same .., fun q l hq hl => ?_⟩⟩
          rw [List.take_append_drop]
          have x1 : Ext R H R (upd H l1 (.lst ((cs.take m).map fun k => V.bl (subX c k)))) := Ext.beside sub (same_upd hl1)
          have x2 := x1.trans (Ext.beside x1.sub (same_upd hq (o := .lst ((cs.drop m).map fun k => V.bl (subX c k)))))
          have x3 := Ext.alloc x2.sub hl (o := .lst (cs.map fun k => V.bl (subX c k)))
          exact ⟨l, _, rfl, x3.sub, upd_same .., fun v H' R' ext dn => k v H' R' ((x2.trans x3).trans ext) dn⟩
        · cases h
    · cases h
  · cases h
/-! ### told in the handler itself -/
def asIfS : Expr → Option (Expr × Str × Str)
  | .IfExp c (.Constant (.str x) _ _) (.Constant (.str y) _ _) _ => some (c, x, y)
  | _ => none
theorem asIfS_ {e c : Expr} {x y : Str} (h : asIfS e = some (c, x, y)) : ∃ j1 p1 j2 p2 p3, e = .IfExp c (.Constant (.str x) j1 p1) (.Constant (.str y) j2 p2) p3 := by
  unfold asIfS at h
  split at h
  · cases h; exact ⟨_, _, _, _, _, rfl⟩
  · cases h
def chkIn (S : Sx) (ks : List Nat) (n : Str) : Hk → Expr → Bool
  | .isv k, v => chkIs S ks n k v
  | .iss k x y, v => (match asIfS v with
    | some (c, x', y') => decide (x = x') && decide (y = y') && chkIs S ks n k c
    | none => false)
  | _, _ => false
theorem pe_in (F : Fits X S C) (G : HotG X ks) (xf : ExcF X.K ks c) (hx : HotX X a oe c) {si : Nat} (h0 : S.N[si]? = some ev) (hv : vis S.sc ev = true) (hn : okName ev = true) {hk : Hk} {e : Expr} (h : chkIn S ks ev hk e = true) :
    PE X e (fun σ H Q => σ[si]? = some (some (.ref a)) ∧ ∃ R, Same R H ∧ ∀ v H' R', Ext R H R' H' → Dn X.K R' v (hk.d c) → Q v H') := by
  cases hk with
  | ref cs => cases h
  | isv k => exact peImp (pe_is F G xf hx h0 hv hn h) fun σ H Q ⟨h1, R, s, q⟩ => ⟨h1, q _ H R (Ext.refl s) (.bl _)⟩
  | iss k x y =>
    unfold chkIn at h
    simp only at h
    split at h
    · rename_i c0 x' y' q
      obtain ⟨j1, p1, j2, p2, p3, rfl⟩ := asIfS_ q
      simp only [Bool.and_eq_true, decide_eq_true_eq] at h
      obtain ⟨⟨h1, h2⟩, h3⟩ := h
      subst h1 h2
      refine peImp (pe_ifExp (pt_is F G xf hx h0 hv hn h3) pe_str pe_str) fun σ H Q ⟨h1, R, s, q⟩ => ?_
      refine ⟨h1, subX c k, rfl, ?_⟩
      have q : ∀ v, Dn X.K R v (.str (if subX c k then x else y)) → Q v H := fun v d => q v H R (Ext.refl s) d
      cases z : subX c k with
      | true => rw [z] at q; exact q _ (.str _)
      | false => rw [z] at q; exact q _ (.str _)
    · cases h
/-! ### its call -/
structure FnE (P : Program) (w : World) (K : PySem.W.Frag) (mg : Str → Option Value) (base : Heap) (k : Nat) (f : Addr) (fd : FuncData) (x : Str) (xs : List Nat) (hk : Hk) : Prop where
  run : ∀ (A : Around) (outer : List Env) (s : Shared) (H : Hp) (a : Addr) (oe : Obj) (c : Nat) (Q : VK), c ∈ xs → L2H.RoomH k A → L2H.PinOk outer H s (a, oe) → Zc (xcls K c) none oe → (∃ vs, oe.data = .fields vs) → Env0 P w K mg base A outer s H →
    BindsTo s fd ⟨[.ref a], []⟩ [(x, .ref a)] → (∃ R, Same R H ∧ ∀ v H' R', Ext R H R' H' → Dn K R' v (hk.d c) → Q v H') → codeAny (model P w) A (.call (.ref f) ⟨[.ref a], []⟩) (CR CX0 outer P w H s Q E0) s
end
section
variable {P : Program} {w : World} {K : PySem.W.Frag} {mg : Str → Option Value} {base : Heap}
theorem fnE_of {k : Nat} {f : Addr} {name : Str} {params : Arguments} {body : List Stmt} {scope : Scope} {fd : FuncData} {N : List Str} {x : Str} {xs : List Nat} {hk : Hk} (F : FunD K name name params body scope [] [] f fd) (sc : FnScope N [x] scope)
    (hb : ∀ (cdv : Value) (A : Around) (outer : List Env) (s : Shared) (H : Hp) (a : Addr) (oe : Obj) (c : Nat) (Q : VK), c ∈ xs → L2H.RoomH k (A.deeper (envOfC name scope s.heap.objs.size f cdv)) → Zc (xcls K c) none oe → (∃ vs, oe.data = .fields vs) → (∃ R, Same R H ∧ ∀ v H' R', Ext R H R' H' → Dn K R' v (hk.d c) → Q v H') →
      ∃ t, PSs (L2H.cxH CX0 P w K mg base N name scope f cdv A outer s H E0 (a, oe)) body t ∧ t { nx := fun _ H' => Q .non H', rt := Q } (L2.start N [.ref a]) H) : FnE P w K mg base (k + 1) f fd x xs hk := by
  obtain ⟨oc, od, dV, kV, doc, pm, an, cdv, ct, osl, rfl, lk, hcd, _, _⟩ := F.ex
  refine ⟨fun A outer s H a oe c Q hc room pin z fl env bnd want => ?_⟩
  have kin : K.In s.heap := env.mod.kin.keeps fun b o e => (env.bs b o e).1
  have nolim : s.heap.NoLimit := env.mod.nolimit.keeps fun b o e => (env.bs b o e).1
  have kinds : ∀ y ∈ ([x].zip [Value.ref a]), scope.names.lookup y.1 = some .local ∨ (scope.names.lookup y.1 = some .cell ∧ ((cellsFrom (s.heap.objs.size + 1) scope.names []).lookup y.1).isSome = true) := by
    rintro ⟨n, v⟩ hy
    rcases sc.par n (List.of_mem_zip hy).1 with q | q
    · exact .inl q
    · exact .inr ⟨q, PySem.W.cellsFrom_some _ _ _ (.inl q)⟩
  refine codeAny_call_function room.depth (kin _ _ lk) rfl sc.co sc.gen rfl (PySem.W.codeRec_of kin hcd) (bnd _ _ _ _ ?_)
  refine wpAny_newFunctionEnv_cells sc.kind kinds fun env' he s1 inC => ?_
  subst he
  refine ⟨nolim.keeps inC.toInCall.keep, codeAny_func ?_⟩
  obtain ⟨t, ht, hq⟩ := hb cdv A outer s H a oe c Q hc (room.deeper _) z fl want
  have inv : Inv (L2H.cxH CX0 P w K mg base N name scope f cdv A outer s H E0 (a, oe)) [] (L2.start N [.ref a]) H s1 := L2H.inv_startH (ps := [x]) (us := [.ref a]) sc pin env rfl (.cons rfl .nil) inC
  refine wpAny_mono (ht.run [] s1 (L2.start N [.ref a]) H _ inv hq) (fun fl s' hs => ?_) fun e s' hs => hs
  cases fl with
  | ret u =>
    obtain ⟨v, σ', H', J, rv, q⟩ := hs
    exact ⟨v, H', J.os, J.bare, J.base, J.hok, rv, q⟩
  | next =>
    obtain ⟨σ', H', J, q⟩ := hs
    exact ⟨V.non, H', J.os, J.bare, J.base, J.hok, rfl, q⟩
  | brk => exact hs.elim fun _ ⟨_, _, q⟩ => q.elim
  | cont => exact hs.elim fun _ ⟨_, _, q⟩ => q.elim
end
section
variable {X : Cx} {k : Nat} {f : Addr} {fd : FuncData} {x n y : Str} {xs : List Nat} {hk : Hk} {a : Addr} {oe : Obj} {c : Nat}
/-- y(n), n the refusal -/
theorem pe_callE (E : FnE X.prog X.w X.K X.mg X.base k f fd x xs hk) (hr : L2H.RoomH k X.A) (hx : HotX X a oe c) (hc : c ∈ xs) (hg : Gl X y) (hm : X.mg y = some (.ref f)) (hkp : PySem.W.keepIn X.K (.ref f) = true) (hb : Binds X.K fd [x] []) {e : Expr} {i : Nat} (he : PE X e (tVar i)) (hdb : (y == ("__debug__" : Str)) = false) {q pos : Pos}
    (hs : starEach [e] X.env = (false, eval e X.env) :: starEach [] X.env) : PE X (.Call (.Name y q) [e] [] pos) (fun σ H Q => σ[i]? = some (some (.ref a)) ∧ ∃ R, Same R H ∧ ∀ v H' R', Ext R H R' H' → Dn X.K R' v (hk.d c) → Q v H') := by
  refine ⟨fun pins s σ H Q I hw => ?_⟩
  obtain ⟨hi, want⟩ := hw
  have ha : PA X [e] (tCons (tVar i) tNil) := pa_cons he pa_nil hs
  refine wpAny_Call_Name_kw (ld_glob I hg hm ?_ hdb)
  refine PySem.W.callWith_K (h₀ := X.base) I.ok.mod.kin hkp (thn (ha.run pos pins s σ H (fun vs H' => vs = [.ref a] ∧ H' = H) I ⟨_, hi, rfl, rfl⟩) fun us s1 ⟨vs, H1, I1, r, e1, e2⟩ => ⟨I1.kIn, ?_⟩) hs rfl
  subst e1 e2
  obtain ⟨u, rfl, ru⟩ := r.one
  cases ru
  have P1 := I1.pin (a, oe) (List.mem_append_left _ hx.pin)
  have pin : L2H.PinOk X.stack H1 s1 (a, oe) := ⟨P1.1, P1.2.1, fun hm => (List.mem_cons.mp (I1.stkSub a hm)).elim P1.2.2.1 P1.2.2.2.1, P1.2.2.2.2⟩
  have b := hb s1 [.ref a] I1.kIn rfl
  refine wpAny_call (codeAny_mono (E.run X.A X.stack s1 H1 a oe c Q hc hr pin hx.z hx.f I1.env0 b want) fun r s' hq => ?_)
  cases r with
  | error e => exact hq.elim
  | ok fl =>
    cases fl with
    | ret u => exact I1.after hq
    | next => exact hq.elim
    | brk => exact hq.elim
    | cont => exact hq.elim
end
end Z
end
section
/-! Z10b: x.extend(t). -/
namespace Z
open PySem PySem.Spec PyProof.Rows L2
section
theorem ext_meets (p q : Addr) (us ws : Array Value) (m k : Nat) (dd : Option Addr) (sl : Array (Option Value)) (big : ¬(!us.isEmpty && Builtin.List.listTooLong (us.size + ws.size)) = true) (z1 : us.size ≤ sizeLine) (z2 : us.size + ws.size ≤ sizeLine + 1) :
    Meets (Builtin.«list.extend» ⟨[.ref p, .ref q], []⟩) (fun _ R s => s.heap.get? p = some { cls := .type "list", dict := none, data := .seq us m, slots := #[] } ∧ s.heap.get? q = some { cls := .type "tuple", dict := dd, data := .seq ws k, slots := sl } ∧ R (.ok (.ret Value.none)) { s with heap := s.heap.update p (Obj.mapSeq fun x => x ++ ws), toks := s.toks }) :=
  .of_wp fun prog w A R s h => by
    obtain ⟨hp, g, d, tk, os⟩ := s
    obtain ⟨e1, e2, h⟩ := h
    have f1 := AutoSeq1.idx_int
    have f2 := AutoSeq1.sub_tuple_tuple
    have f3 := AutoSeq1.sub_list_list
    have f4 := AutoSeq1.sub_tuple_list
    have f5 := AutoSeq1.sub_list_tuple
    have z3 : (us ++ ws).size ≤ sizeLine + 1 := by rw [Array.size_append]; exact z2
    wp_walk using (wpAny_updateSeq e1 rfl (hz := z1) (_hz' := z3)), AutoSeq1.wpAny_loadPart' e1, AutoSeq1.wpAny_loadPart' e2
    exact ⟨_, rfl, h⟩
theorem ext_meetsL (p r : Addr) (us ws : Array Value) (m k : Nat) (dd : Option Addr) (sl : Array (Option Value)) (big : ¬(!us.isEmpty && Builtin.List.listTooLong (us.size + ws.size)) = true) (z1 : us.size ≤ sizeLine) (z2 : us.size + ws.size ≤ sizeLine + 1) :
    Meets (Builtin.«list.extend» ⟨[.ref p, .ref r], []⟩) (fun _ R s => s.heap.get? p = some { cls := .type "list", dict := none, data := .seq us m, slots := #[] } ∧ s.heap.get? r = some { cls := .type "list", dict := dd, data := .seq ws k, slots := sl } ∧ R (.ok (.ret Value.none)) { s with heap := s.heap.update p (Obj.mapSeq fun x => x ++ ws), toks := s.toks }) :=
  .of_wp fun prog w A R s h => by
    obtain ⟨hp, g, d, tk, os⟩ := s
    obtain ⟨e1, e2, h⟩ := h
    have f1 := AutoSeq1.idx_int
    have f2 := AutoSeq1.sub_tuple_tuple
    have f3 := AutoSeq1.sub_list_list
    have f4 := AutoSeq1.sub_tuple_list
    have f5 := AutoSeq1.sub_list_tuple
    have z3 : (us ++ ws).size ≤ sizeLine + 1 := by rw [Array.size_append]; exact z2
    wp_walk using (wpAny_updateSeq e1 rfl (hz := z1) (_hz' := z3)), AutoSeq1.wpAny_loadPart' e1, AutoSeq1.wpAny_loadPart' e2
    exact ⟨_, rfl, h⟩
variable {fr : Bool} {X : Cx} {W : WX} {C : Nat → List PyData → Res PyData} {mu : List Nat} {R0 H0 : Hp}
def rExtT (K : PySem.W.Frag) : V → List V → Hp → VK → Prop := fun x vs H Q => ∃ p q xs zs, x = .ref p ∧ vs = [.ref q] ∧ H p = some (.lst xs) ∧ (SqT K H q zs ∨ SqL K H q zs) ∧ xs.length + zs.length ≤ sizeLine ∧ Q .non (upd H p (.lst (xs ++ zs)))
theorem mt_extT : MtM X "list.extend" (rExtT X.K) := by
  intro pins s σ H x vs v us Q I rx rv h
  obtain ⟨p, q, xs, zs, rfl, rfl, hp, hq, hz, w⟩ := h
  cases rx
  obtain ⟨u, rfl, ru⟩ := rv.one
  cases ru
  obtain ⟨z, its, n, r, hl, e⟩ := I.lstM hp
  rcases hq with hq | hq
  · obtain ⟨iu, r2, ⟨⟨cls, dd, data, sl⟩, e2, hc, k, hd⟩, z2⟩ := I.tuple hq
    have hc : cls = .type "tuple" := hc
    have hd : data = .seq iu.toArray k := hd
    subst hc hd
    have l2 := r2.length
    have sz : its.toArray.size + iu.toArray.size ≤ sizeLine := by rw [List.size_toArray, List.size_toArray]; omega
    refine call_meets F.slot_list_extend ⟨_, e, rfl⟩ F.entry_list_extend (F.args_list_extend_2 _ _) (ext_meets p q its.toArray iu.toArray n k dd sl (by rw [notLongL sz, Bool.and_false]; exact Bool.false_ne_true) (by rw [List.size_toArray]; omega) (by omega)) ⟨e, e2, ?_⟩
    refine ⟨.non, _, I.lset (its' := its ++ iu) hp e (by simp) (r.append r2) ?_, rfl, w⟩
    rw [List.length_append]
    omega
  · obtain ⟨iu, r2, ⟨⟨cls, dd, data, sl⟩, k, e2, hc, hn, hd⟩, z2⟩ := I.list hq
    have hc : cls = .type "list" := hc
    have hd : data = .seq iu.toArray k := hd
    subst hc hd
    have l2 := r2.length
    have sz : its.toArray.size + iu.toArray.size ≤ sizeLine := by rw [List.size_toArray, List.size_toArray]; omega
    refine call_meets F.slot_list_extend ⟨_, e, rfl⟩ F.entry_list_extend (F.args_list_extend_2 _ _) (ext_meetsL p q its.toArray iu.toArray n k dd sl (by rw [notLongL sz, Bool.and_false]; exact Bool.false_ne_true) (by rw [List.size_toArray]; omega) (by omega)) ⟨e, e2, ?_⟩
    refine ⟨.non, _, I.lset (its' := its ++ iu) hp e (by simp) (r.append r2) ?_, rfl, w⟩
    rw [List.length_append]
    omega
/-- x.extend(t) -/
theorem stExt {Hd : Nat → Nat → Res PyData} {i : Nat} {e : E} {x : Str} {v : Expr} {p1 p2 p3 p4 : Pos} (hv : PE X (.Name x p1) (tVar i)) (he : SE X W C e v) (hi : i ∈ mu) (hm : mnE mu e = false) (hs : starEach [v] X.env = (false, eval v X.env) :: starEach [] X.env) (hl : (p2.endLine == p3.line) = true) :
    PS X (.Expr (.Call (.Attribute (.Name x p1) "extend" p2) [v] [] p3) p4) (tS fr X.K W mu R0 H0 fun env => rn1 C Hd (.ext i e) env) := by
  have hfew : ((backTo p3 (starEach [v] X.env)).all (fun x => !x.1) && (backToKw p3 (keywordEach [] X.env)).all (fun x => x.1.isSome) && decide ([v].length + ([] : List Keyword).length + (if ([] : List Keyword).isEmpty then 0 else 1) < 30)) = true := by rw [hs]; rfl
  refine psImp (ps_expr (pe_bm PySem.F.plainAttrs_list PySem.F.slot_list_extend PySem.F.type_list_extend mt_extT hv (pa_cons he.1 pa_nil hs) rfl hfew hl hs rfl)) fun D σ H ⟨R, env, rel, hw⟩ => ?_
  have hw : WantS fr X.K W mu R0 H0 R D ((listV env i).fl env fun _ => (ev C env e).fl env fun d => (listV env i).fl env fun xs => (someR (seqOf d)).fl env fun ys =>
      if xs.length + ys.length ≤ sizeLine then .nx (setV env i (.list (xs ++ ys))) else .stuck) := hw
  obtain ⟨xs, hx, hw⟩ := hw.pure listV_noexc
  have he0 := listV_ hx
  obtain ⟨a, vs, ds, ed, hs1, hH, dn, hR, h0⟩ := rel.own i _ hi he0
  cases ed
  refine ⟨_, hs1, .inl ⟨rfl, vs, .inl (.inl hH)⟩, ?_⟩
  rw [evA e mask_agree hm] at hw
  refine ⟨R, mask mu env, rel.relM, hw.ofG rel fun d y H1 R1 ex dy hk => ?_⟩
  rw [hx] at hk
  have fin : ∀ (b : Addr) (ws : List V) (es : List PyData), y = .ref b → (SqT X.K R1 b ws ∨ Rd R1 b (.lst ws)) → DnA X.K R1 ws es → WantS fr X.K W mu R0 H0 R D (if xs.length + es.length ≤ sizeLine then .nx (setV env i (.list (xs ++ es))) else .stuck) → rExtT X.K (.ref a) [y] H1 (fun _ H2 => D.nx σ H2) := by
    intro b ws es ey hb hws hk
    by_cases hz : xs.length + es.length ≤ sizeLine
    · rw [if_pos hz] at hk
      have g := rel.grow ex
      refine ⟨a, b, vs, ws, rfl, by rw [ey], ex.h _ _ hH, hb.imp (SqT.mono g.ext.sub) (fun z => .inl (Rd.mono g.ext.sub z)), by rw [dn.length, hws.length]; exact hz, ?_⟩
      exact hk σ _ R1 ex.r (g.upd hi he0 hs1 ((DnA.mono ex.r _ _ dn).append hws))
    · rw [if_neg hz] at hk
      exact False.elim hk
  cases dy with
  | tup hb hws => exact fin _ _ _ rfl (.inl hb.sq) hws hk
  | lst hb hws => exact fin _ _ _ rfl (.inr hb) hws hk
  | _ => exact False.elim hk
end
end Z
end
section
/-! Z10c: new lists of defs; a loop over new lists, each copied, and spoilt. -/
namespace Z
open PySem PySem.Spec PyProof.Rows L2
section
variable {C : Nat → List PyData → Res PyData} {mu : List Nat} {R0 H0 : Hp} {fr : Bool} {Hd : Nat → Nat → Res PyData}
/-- a fresh list is new -/
theorem tF_tR {K : PySem.W.Frag} {W : WX} {f : Ev → Res PyData} {σ : L2.St} {H : Hp} {Q : VK} (h : tF K W f σ H Q) : tR true K W f σ H Q := by
  obtain ⟨R, env, rel, hw⟩ := h
  refine ⟨R, env, rel, ?_⟩
  cases q : f env with
  | ok d =>
    rw [q] at hw
    cases d with
    | list ds => show if true = true then FreshK K R H ds Q else WantG K W σ (denV K) R H (.ok (.list ds)) Q; rw [if_pos rfl]; exact hw
    | _ => exact hw.elim
  | exc c => rw [q] at hw; exact hw
  | stuck => rw [q] at hw; exact hw
theorem tR_tF {K : PySem.W.Frag} {W : WX} {f : Ev → Res PyData} {σ : L2.St} {H : Hp} {Q : VK} (hL : ∀ env d, f env = .ok d → ∃ ds, d = .list ds) (h : tR true K W f σ H Q) : tF K W f σ H Q := by
  obtain ⟨R, env, rel, hw⟩ := h
  refine ⟨R, env, rel, ?_⟩
  cases q : f env with
  | ok d =>
    rw [q] at hw
    obtain ⟨ds, rfl⟩ := hL env d q
    have hw : if true = true then FreshK K R H ds Q else WantG K W σ (denV K) R H (.ok (.list ds)) Q := hw
    rw [if_pos rfl] at hw
    exact hw
  | exc c => rw [q] at hw; exact hw
  | stuck => rw [q] at hw; exact hw
/-- a call of a def that tells new lists -/
theorem rCall {X : Cx} {S : Sx} {W : WX} (F : Fits X S C) (tk : Takes X W) (hh : S.hot = none) {f : Nat} {xs : Es} {v : Expr} (hf : S.G.frs.contains f = true) (h : chkE (.call f xs) S v = true) : PE X v (tR true X.K W fun env => ev C env (.call f xs)) := by
  cases xs with
  | nil => simp [chkE] at h
  | cons a r =>
    rw [chkE] at h
    split at h
    · rename_i x e es q
      obtain ⟨p, pos, rfl⟩ := asCall_ q
      simp only [Bool.and_eq_true, decide_eq_true_eq] at h
      obtain ⟨⟨⟨⟨⟨h1, h2⟩, h3⟩, h4⟩, h5⟩, h6⟩ := h
      have hs := star1 (noStar h5) es X.env
      obtain ⟨ad, fd, ps, k, sp, hm, hk, hb, G, hr, ok⟩ := (F.fns hh f x h2 (okName_ne h4)).ex
      rw [hf] at ok
      refine peImp (pe_callS G hr (F.glb h3) hm hk hb (fun σ => passAt tk σ) (sPa (sE a F tk h5) (sEs r F tk h6).1 hs) (okName_ h4).1 hs (star2 h6)) fun σ H Q ⟨R, env, rel, hw⟩ => ?_
      have hw : WantR true X.K W σ R H (evs C env (.cons a r) >>= fun ds => C f ds) Q := hw
      exact ⟨R, env, rel, hw.split fun ds vs H1 R1 e1 n1 h1 => ok W σ R1 H1 vs ds Q e1.sub n1 h1⟩
    · cases h
theorem WantR.pure {K : PySem.W.Frag} {W : WX} {σ : L2.St} {R H : Hp} {γ : Type} {r : Res γ} {f : γ → Res PyData} {Q : VK} (h : WantR true K W σ R H (r >>= f) Q) (n : ∀ c, r ≠ .exc c) : ∃ a, r = .ok a ∧ WantR true K W σ R H (f a) Q := by
  cases r with
  | ok a => exact ⟨a, rfl, h⟩
  | exc c => exact absurd rfl (n c)
  | stuck => exact False.elim h
theorem rMc {X : Cx} {S : Sx} {W : WX} (F : Fits X S C) (tk : Takes X W) (hh : S.hot = none) {c f : Nat} {o : E} {xs : Es} {v : Expr} (hf : S.G.frs.contains f = true) (h : chkE (.mc c f o xs) S v = true) : PE X v (tR true X.K W fun env => ev C env (.mc c f o xs)) := by
  rw [chkE] at h
  split at h
  · rename_i oe m es q
    obtain ⟨ap, cp, rfl, hl, hb⟩ := asMt_ q
    simp only [Bool.and_eq_true, decide_eq_true_eq] at h
    obtain ⟨⟨⟨⟨⟨⟨h1, h2⟩, h3⟩, h4⟩, h5⟩, h6⟩, h7⟩ := h
    obtain ⟨ad, fd, ps, k, sp, hmt, hbi, G, hr, ok⟩ := (F.mts hh f c m h2).ex
    rw [hf] at ok
    have h0 : es = [] → xs = .nil := fun z => by subst z; cases xs with | nil => rfl | cons _ _ => simp [chkEs] at h7
    refine peImp (pe_methS hb hl h5 (sE o F tk h6).1 (F.gl.cls c h3).cls hmt G hr hbi (fun σ => passAt tk σ) (sEs xs F tk h7).1 (fun e σ H Q ⟨R, env, rel, hw⟩ => by rw [h0 e] at hw; exact hw [] H R (Ext.refl rel.sub) .nil) (fun e r z => by subst z; exact star3 h7) (fun p => star2 h7) (fun p e r z => by subst z; exact star4 h7)) fun σ H Q ⟨R, env, rel, hw⟩ => ?_
    have hw : WantR true X.K W σ R H (ev C env o >>= fun d => obF c d >>= fun _ => evs C env xs >>= fun ds => C f (d :: ds)) Q := hw
    refine ⟨R, env, rel, hw.split fun d x H1 R1 e1 d1 h1 => ?_⟩
    obtain ⟨fl, eo, h1⟩ := h1.pure obF_noexc
    obtain ⟨b, dx, fs, rfl, rfl, hR, cl, fo, dn⟩ := ob_of d1 eo
    refine ⟨b, dx, fs, rfl, e1.sub _ _ hR, fo.no h4, R1, env, rel.ext e1, h1.split fun ds vs H2 R2 e2 d2 h2 => ?_⟩
    exact ok W σ R2 H2 (.ref b :: vs) _ Q e2.sub (.cons (Dn.mono e2.r _ _ d1) d2) h2
  · cases h
theorem rList {X : Cx} {S : Sx} {W : WX} (F : Fits X S C) (tk : Takes X W) {xs : Es} {v : Expr} (h : chkE (.bl .list xs) S v = true) : PE X v (tR true X.K W fun env => ev C env (.bl .list xs)) := by
  cases xs with
  | nil => simp [chkE] at h
  | cons a r =>
    rw [chkE] at h
    split at h
    · rename_i x e es q
      obtain ⟨p, pos, rfl⟩ := asCall_ q
      simp only [Bool.and_eq_true, decide_eq_true_eq] at h
      obtain ⟨⟨⟨⟨⟨h1, h2⟩, h3⟩, h4⟩, h5⟩, h6⟩ := h
      have hs := star1 (noStar h5) es X.env
      obtain ⟨n1, n2, n3, n4⟩ := F.bltn h4
      refine peImp (pe_blt (b := .list) call_list_of h2 n1 n2 (sPa (sE a F tk h5) (sEs r F tk h6).1 hs) n3 n4 hs (star2 h6)) fun σ H Q ⟨R, env, rel, hw⟩ => ?_
      have hw : WantR true X.K W σ R H (evs C env (.cons a r) >>= fun ds => bltD .list ds) Q := hw
      refine ⟨R, env, rel, hw.split fun ds vs H1 R1 e1 n1 h1 => ?_⟩
      cases n1 with
      | nil => exact False.elim h1
      | cons d1 d2 =>
        cases d2 with
        | cons _ _ => exact False.elim (by revert h1; cases d1 <;> exact id)
        | nil =>
          have new : ∀ {ys : List V} {es : List PyData}, DnA X.K R1 ys es → WantR true X.K W σ R1 H1 (.ok (.list es)) Q → ∀ l, H1 l = none → Q (.ref l) (upd H1 l (.lst ys)) := fun {ys es} dn hq l hl => by
            have hq : if true = true then FreshK X.K R1 H1 es Q else WantG X.K W σ (denV X.K) R1 H1 (.ok (.list es)) Q := hq
            rw [if_pos rfl] at hq
            exact hq l ys _ R1 (Ext.beside e1.sub (same_upd hl)) hl (e1.sub.free hl) upd_same dn
          cases d1 with
          | lst hl ha => exact ⟨_, _, rfl, .inl (.inl (Rd.mono e1.sub hl)), new ha h1⟩
          | tup hl ha => exact ⟨_, _, rfl, .inr (hl.sqm e1.sub), new ha h1⟩
          | _ => exact False.elim h1
    · cases h
theorem WantR.fresh {K : PySem.W.Frag} {W : WX} {σ : L2.St} {R H : Hp} {ds : List PyData} {Q : VK} (h : FreshK K R H ds Q) : WantR true K W σ R H (.ok (.list ds)) Q := by
  show if true = true then FreshK K R H ds Q else WantG K W σ (denV K) R H (.ok (.list ds)) Q
  rw [if_pos rfl]
  exact h
/-! ### new lists, one by one -/
inductive PoolA (K : PySem.W.Frag) (R H H0 : Hp) : List V → List PyData → Prop
  | nil : PoolA K R H H0 [] []
  | cons {a : Addr} {ws : List V} {es : List PyData} {vs : List V} {ds : List PyData} : H a = some (.lst ws) → DnA K R ws es → R a = none → H0 a = none → (∀ v ∈ vs, v ≠ .ref a) → PoolA K R H H0 vs ds → PoolA K R H H0 (.ref a :: vs) (.list es :: ds)
section
variable {K : PySem.W.Frag} {R H R1 H1 Hb Hc : Hp} {vs : List V} {ds : List PyData}
theorem PoolA.len (h : PoolA K R H Hb vs ds) : vs.length = ds.length := by
  induction h with
  | nil => rfl
  | cons _ _ _ _ _ _ ih => simp [ih]
/-- what is told of more, where its cells are as they were -/
theorem PoolA.mono (h : PoolA K R H Hb vs ds) (s : Same R R1) (k : ∀ a, .ref a ∈ vs → H1 a = H a ∧ R1 a = none) (hb : ∀ a, Hb a = none → Hc a = none) : PoolA K R1 H1 Hc vs ds := by
  induction h with
  | nil => exact .nil
  | cons h1 h2 h3 h4 h5 _ ih => exact .cons (by rw [(k _ List.mem_cons_self).1]; exact h1) (DnA.mono s _ _ h2) (k _ List.mem_cons_self).2 (hb _ h4) h5 (ih fun a ha => k a (List.mem_cons_of_mem _ ha))
theorem PoolA.at_ (h : PoolA K R H Hb vs ds) {a : Addr} (ha : V.ref a ∈ vs) : (∃ ws, H a = some (.lst ws)) ∧ R a = none ∧ Hb a = none := by
  induction h with
  | nil => cases ha
  | cons h1 h2 h3 h4 h5 _ ih =>
    rcases List.mem_cons.mp ha with e | e
    · cases e; exact ⟨⟨_, h1⟩, h3, h4⟩
    · exact ih e
theorem PoolA.refs (h : PoolA K R H Hb vs ds) : ∀ v ∈ vs, ∃ a, v = .ref a := by
  induction h with
  | nil => exact fun v hv => nomatch hv
  | cons _ _ _ _ _ _ ih =>
    intro v hv
    rcases List.mem_cons.mp hv with e | e
    · exact ⟨_, e⟩
    · exact ih v e
theorem PoolA.ext (h : PoolA K R H Hb vs ds) (e : Ext R H R1 H1) : PoolA K R1 H1 Hb vs ds := h.mono e.r (fun a ha => by
  obtain ⟨⟨ws, q1⟩, q2, q3⟩ := h.at_ ha
  refine ⟨by rw [q1]; exact e.h _ _ q1, ?_⟩
  cases q : R1 a with
  | none => rfl
  | some o =>
    rcases e.new a o q with z | z
    · rw [q2] at z; cases z
    · rw [q1] at z; cases z) fun _ h => h
end
def WantP (K : PySem.W.Frag) (W : WX) (σ : L2.St) (Hb R H : Hp) (r : Res (List PyData)) (Q : List V → Hp → Prop) : Prop := match r with
  | .ok ds => ∀ (vs : List V) (H' R' : Hp), Ext R H R' H' → PoolA K R' H' Hb vs ds → Q vs H'
  | .exc c => ∀ (H' R' : Hp), Ext R H R' H' → W (xcls K c) none σ H'
  | .stuck => False
/-- all lists -/
def lists : List PyData → Bool
  | [] => true
  | .list _ :: r => lists r
  | _ :: _ => false
def tPl (K : PySem.W.Frag) (W : WX) (f : Ev → Res (List PyData)) : TA := fun σ H Q => ∃ Hb R env, Rel K R H σ env ∧ Same Hb H ∧ WantP K W σ Hb R H (f env) Q ∧ ∀ ds, f env = .ok ds → lists ds = true
section
variable {X : Cx} {S : Sx} {W : WX}
theorem pool_nil : PA X [] (tPl X.K W fun env => evs C env .nil) := paImp pa_nil fun σ H Q ⟨Hb, R, env, rel, _, hw, _⟩ => hw [] H R (Ext.refl rel.sub) .nil
theorem pool_cons {a : E} {r : Es} {e : Expr} {es : List Expr} (h : PE X e (tR true X.K W fun env => ev C env a)) (h2 : PA X es (tPl X.K W fun env => evs C env r)) (hs : starEach (e :: es) X.env = (false, eval e X.env) :: starEach es X.env) : PA X (e :: es) (tPl X.K W fun env => evs C env (.cons a r)) := by
  refine paImp (pa_cons h h2 hs) fun σ H Q ⟨Hb, R, env, rel, sb, hw, hl⟩ => ?_
  have hw : WantP X.K W σ Hb R H (ev C env a >>= fun x => evs C env r >>= fun xs => .ok (x :: xs)) Q := hw
  have hl : ∀ ds, (ev C env a >>= fun x => evs C env r >>= fun xs => .ok (x :: xs)) = .ok ds → lists ds = true := hl
  refine ⟨R, env, rel, ?_⟩
  show WantR true X.K W σ R H (ev C env a) (fun x H1 => tPl X.K W (fun env => evs C env r) σ H1 fun xs H2 => Q (x :: xs) H2)
  cases qa : ev C env a with
  | stuck => rw [qa] at hw; exact hw.elim
  | exc c => rw [qa] at hw; exact hw
  | ok d =>
    rw [qa] at hw hl
    have hw : WantP X.K W σ Hb R H (evs C env r >>= fun xs => .ok (d :: xs)) Q := hw
    have hl : ∀ ds, (evs C env r >>= fun xs => Res.ok (d :: xs)) = .ok ds → lists ds = true := hl
    cases qr : evs C env r with
    | stuck => rw [qr] at hw; exact hw.elim
    | exc c =>
      rw [qr] at hw
      have hw : ∀ H' R', Ext R H R' H' → W (xcls X.K c) none σ H' := hw
      have all : ∀ (v : V) (H1 R1 : Hp), Ext R H R1 H1 → tPl X.K W (fun env => evs C env r) σ H1 (fun xs H2 => Q (v :: xs) H2) := fun v H1 R1 e1 => ⟨H1, R1, env, rel.ext e1, Same.refl _, by dsimp only; rw [qr]; exact fun H' R' e => hw H' R' (e1.trans e), fun ds z => by dsimp only at z; rw [qr] at z; cases z⟩
      cases d with
      | list ds => exact fun p vs H1 R1 e1 n r1 hp dn => all _ _ _ e1
      | _ => exact fun v H1 R1 e1 dn => all v H1 R1 e1
    | ok ds =>
      rw [qr] at hw hl
      have hl0 : lists (d :: ds) = true := hl _ rfl
      have hw : ∀ (vs : List V) (H' R' : Hp), Ext R H R' H' → PoolA X.K R' H' Hb vs (d :: ds) → Q vs H' := hw
      cases d with
      | list es' =>
        have hl1 : lists ds = true := hl0
        refine WantR.fresh fun p ws H1 R1 e1 np rp hp dn => ?_
        refine ⟨H1, R1, env, rel.ext e1, Same.refl _, ?_, fun ds' z => by dsimp only at z; rw [qr] at z; cases z; exact hl1⟩
        dsimp only
        rw [qr]
        intro vs H2 R2 e2 pool
        have rp2 : R2 p = none := by
          cases q : R2 p with
          | none => rfl
          | some o =>
            rcases e2.new p o q with z | z
            · rw [rp] at z; cases z
            · rw [hp] at z; cases z
        refine hw (.ref p :: vs) H2 R2 (e1.trans e2) (.cons (e2.h _ _ hp) (DnA.mono e2.r _ _ dn) rp2 (sb.free np) (fun v hv e => ?_) (pool.mono (Same.refl _) (fun a ha => ⟨rfl, (pool.at_ ha).2.1⟩) fun a ha => sb.free (e1.h.free ha)))
        subst e
        have z := (pool.at_ hv).2.2
        rw [hp] at z; cases z
      | _ => exact absurd hl0 (by simp [lists])
end
/-! ### a loop over new lists -/
section
variable {K : PySem.W.Frag} {R H : Hp} {σ : L2.St} {env : Ev}
/-- a slot is let go -/
theorem RelS.drop (r : RelS K mu R0 H0 R H σ env) {i : Nat} (hi : i ∉ mu) {o : Option V} : RelS K mu R0 H0 R H (σ.set i o) (env.set i none) := by
  have ne : ∀ j, j ∈ mu → i ≠ j := fun j hj e => hi (e ▸ hj)
  refine ⟨r.ext, by simp [r.len], fun j d' hj e => ?_, fun j d' hj e => ?_, fun j k a hj hk hne h1 h2 h3 h4 => ?_⟩
  · by_cases hij : i = j
    · subst hij
      by_cases hl : i < env.length
      · rw [List.getElem?_set_self hl] at e
        cases e
      · rw [List.getElem?_eq_none (by simpa using hl)] at e
        cases e
    · rw [List.getElem?_set_ne hij] at e ⊢
      exact r.at_ j d' hj e
  · rw [List.getElem?_set_ne (ne j hj)] at e ⊢
    exact r.own j d' hj e
  · rw [List.getElem?_set_ne (ne j hj)] at h1 h3
    rw [List.getElem?_set_ne (ne k hk)] at h2 h4
    exact r.sep j k a hj hk hne h1 h2 h3 h4
theorem RelS.drop0 (r : RelS K mu R0 H0 R H σ env) {i : Nat} (hi : i ∉ mu) : RelS K mu R0 H0 R H σ (env.set i none) := by
  have ne : ∀ j, j ∈ mu → i ≠ j := fun j hj e => hi (e ▸ hj)
  refine ⟨r.ext, by simp [r.len], fun j d' hj e => ?_, fun j d' hj e => ?_, fun j k a hj hk hne h1 h2 h3 h4 => ?_⟩
  · by_cases hij : i = j
    · subst hij
      by_cases hl : i < env.length
      · rw [List.getElem?_set_self hl] at e
        cases e
      · rw [List.getElem?_eq_none (by simpa using hl)] at e
        cases e
    · rw [List.getElem?_set_ne hij] at e
      exact r.at_ j d' hj e
  · rw [List.getElem?_set_ne (ne j hj)] at e
    exact r.own j d' hj e
  · rw [List.getElem?_set_ne (ne j hj)] at h1
    rw [List.getElem?_set_ne (ne k hk)] at h2
    exact r.sep j k a hj hk hne h1 h2 h3 h4
/-- a cell beside all is changed -/
theorem RelS.poke (r : RelS K mu R0 H0 R H σ env) {a : Addr} {u : HO} (hR : R a = none) (h0 : H0 a = none) (hn : ∀ m d, m ∈ mu → env[m]? = some (some d) → σ[m]? ≠ some (some (.ref a))) : RelS K mu R0 H0 R (L2.upd H a u) σ env := by
  have ne : ∀ {b : Addr} {o : HO} {F : Hp}, F b = some o → F a = none → b ≠ a := fun h1 h2 e => by rw [e, h2] at h1; cases h1
  refine ⟨⟨r.ext.r, fun b o e => ?_, fun b o e => ?_, r.ext.new⟩, r.len, r.at_, fun j d hj e => ?_, r.sep⟩
  · rw [upd_ne (ne e hR)]; exact r.ext.sub b o e
  · rw [upd_ne (ne e h0)]; exact r.ext.h b o e
  · obtain ⟨b, vs, ds, g1, g2, g3, g4, g5, g6⟩ := r.own j d hj e
    have hb : b ≠ a := fun z => hn j d hj e (by rw [g2, z])
    exact ⟨b, vs, ds, g1, g2, by rw [upd_ne hb]; exact g3, g4, g5, g6⟩
end
def eV (env : Ev) (i j : Nat) (xs : List PyData) : Ev := unV (setV env j (.list xs)) i
theorem eV_set {env : Ev} {i j : Nat} (h : i ≠ j) {xs ys : List PyData} : setV (eV env i j xs) j (.list ys) = eV env i j ys := by
  unfold eV unV setV
  rw [List.set_comm _ _ (by exact h), List.set_set]
theorem eV_drop {env : Ev} {i j : Nat} {xs : List PyData} : (eV env i j xs).set i none = eV env i j xs := by
  unfold eV unV
  rw [List.set_set]
theorem eV_self {env : Ev} {i j : Nat} {us : List PyData} (h : env[j]? = some (some (.list us))) : eV env i j us = env.set i none := by
  unfold eV unV setV
  have : env.set j (some (.list us)) = env := by
    apply List.ext_getElem?
    intro m
    by_cases e : j = m
    · subst e
      rw [List.getElem?_set_self (List.getElem?_eq_some_iff.mp h).1, h]
    · rw [List.getElem?_set_ne e]
  rw [this]
theorem eV_at {env : Ev} {i j : Nat} {xs : List PyData} (h : i ≠ j) (hl : j < env.length) : (eV env i j xs)[j]? = some (some (.list xs)) := by
  unfold eV unV setV
  rw [List.getElem?_set_ne h, List.getElem?_set_self hl]
theorem eV_old {env : Ev} {i j m : Nat} {xs : List PyData} {d : PyData} (h : (eV env i j xs)[m]? = some (some d)) : m ≠ i ∧ (m = j ∨ env[m]? = some (some d)) := by
  unfold eV unV setV at h
  by_cases e : i = m
  · subst e
    by_cases hl : i < (env.set j (some (.list xs))).length
    · rw [List.getElem?_set_self hl] at h; cases h
    · rw [List.getElem?_eq_none (by simpa using hl)] at h; cases h
  · rw [List.getElem?_set_ne e] at h
    refine ⟨fun z => e z.symm, ?_⟩
    by_cases e2 : j = m
    · exact .inl e2.symm
    · rw [List.getElem?_set_ne e2] at h; exact .inr h
theorem isEch_ {d : PyData} (h : isEch d = true) : ∃ xs, d = .list xs ∧ flats xs = true ∧ xs.length < sizeLine := by
  cases d with
  | list xs => exact ⟨xs, rfl, by simpa [isEch] using h⟩
  | _ => simp [isEch] at h
theorem lists_ : ∀ {ds : List PyData}, ds.all isEch = true → lists ds = true
  | [], _ => rfl
  | d :: r, h => by
    simp only [List.all_cons, Bool.and_eq_true] at h
    obtain ⟨xs, rfl, _⟩ := isEch_ h.1
    exact lists_ (ds := r) h.2
section
variable {X : Cx} {S : Sx} {W : WX}
theorem stEch {i j : Nat} {xs : Es} {c : Cn} {es : List Expr} {x y : Str} {v : Expr} {kk : Nat} {p1 p2 p3 q1 q2 q3 q4 q5 q6 q7 r1 r2 r3 r4 : Pos} (hp : PassesOwn (model X.prog X.w) X.A X.env X.xe) (hc : X.calm = true) (hg : PG X (.Name x p1) (gName i)) (ha : PA X es (tPl X.K W fun env => evs C env xs))
    (hvj : PE X (.Name y q1) (tVar j)) (hvl : PE X (.Name x q4) (tVar i)) (hvi : PE X (.Name x r1) (tVar i)) (hgl : Gl X "list") (hml : X.mg "list" = none) (he : SE X W C (.cn c) v) (hi : i ∉ mu) (hj : j ∈ mu) (hm : mnEs mu xs = false) (hs : starEach [v] X.env = (false, eval v X.env) :: starEach [] X.env) (l1 : (q2.endLine == q6.line) = true) (l2 : (r2.endLine == r3.line) = true) :
    PS X (.For (.Name x p1) (.Tuple es kk p2) [.Expr (.Call (.Attribute (.Name y q1) "append" q2) [.Call (.Name "list" q3) [.Name x q4] [] q5] [] q6) q7, .Expr (.Call (.Attribute (.Name x r1) "append" r2) [v] [] r3) r4] [] p3)
      (tS fr X.K W mu R0 H0 fun env => rn1 C Hd (.ech i j xs c) env) := by
  have hij : i ≠ j := fun e => hi (e ▸ hj)
  have hf1 : ((backTo q6 (starEach [.Call (.Name "list" q3) [.Name x q4] [] q5] X.env)).all (fun x => !x.1) && (backToKw q6 (keywordEach [] X.env)).all (fun x => x.1.isSome) && decide (([.Call (.Name "list" q3) [.Name x q4] [] q5] : List Expr).length + ([] : List Keyword).length + (if ([] : List Keyword).isEmpty then 0 else 1) < 30)) = true := by rfl
  have hf2 : ((backTo r3 (starEach [v] X.env)).all (fun x => !x.1) && (backToKw r3 (keywordEach [] X.env)).all (fun x => x.1.isSome) && decide ([v].length + ([] : List Keyword).length + (if ([] : List Keyword).isEmpty then 0 else 1) < 30)) = true := by rw [hs]; rfl
  have hlist : PE X (.Call (.Name "list" q3) [.Name x q4] [] q5) _ := pe_blt (b := .list) (x := "list") (call_list_of (X := X)) rfl hgl hml (pa_cons hvl pa_nil rfl) (by decide) (by decide) rfl rfl
  have s1 : PS X (.Expr (.Call (.Attribute (.Name y q1) "append" q2) [.Call (.Name "list" q3) [.Name x q4] [] q5] [] q6) q7) _ := ps_expr (pe_bm PySem.F.plainAttrs_list PySem.F.slot_list_append PySem.F.type_list_append mt_append hvj (pa_cons hlist pa_nil rfl) rfl hf1 l1 rfl rfl)
  have s2 : PS X (.Expr (.Call (.Attribute (.Name x r1) "append" r2) [v] [] r3) r4) _ := ps_expr (pe_bm PySem.F.plainAttrs_list PySem.F.slot_list_append PySem.F.type_list_append mt_append hvi (pa_cons he.1 pa_nil hs) rfl hf2 l2 hs rfl)
  refine psImp (ps_for hp hc (pi_tup (pe_tup ha)) hg (pss_cons s1 (pss_one s2)) (fun z => noFold rfl X.env z)) fun D σ H ⟨R, env, rel, hw⟩ => ?_
  have hw : WantS fr X.K W mu R0 H0 R D ((listV env j).fl env fun us => (evs C env xs).fl env fun ds => if decide (us.length + ds.length < sizeLine) && ds.all isEch && decide (i < env.length) then .nx (unV (setV env j (.list (us ++ ds))) i) else .stuck) := hw
  obtain ⟨us, hx, hw⟩ := hw.pure listV_noexc
  have he0 := listV_ hx
  have hjl : j < env.length := (List.getElem?_eq_some_iff.mp he0).1
  rw [(evsA xs mask_agree hm).1] at hw
  cases q : evs C (mask mu env) xs with
  | stuck => rw [q] at hw; exact hw.elim
  | exc z =>
    rw [q] at hw
    refine ⟨H, R, mask mu env, rel.relM, Same.refl _, ?_, fun ds z => by dsimp only at z; rw [q] at z; cases z⟩
    dsimp only
    rw [q]
    exact fun H' R' e => hw σ H' R (rel.after e.h)
  | ok ds =>
    rw [q] at hw
    have hw : WantS fr X.K W mu R0 H0 R D (if decide (us.length + ds.length < sizeLine) && ds.all isEch && decide (i < env.length) then .nx (eV env i j (us ++ ds)) else .stuck) := hw
    cases g : decide (us.length + ds.length < sizeLine) && ds.all isEch && decide (i < env.length) with
    | false => rw [g] at hw; exact hw.elim
    | true =>
      rw [g, if_pos rfl] at hw
      simp only [Bool.and_eq_true, decide_eq_true_eq] at g
      obtain ⟨⟨g1, g2⟩, g3⟩ := g
      refine ⟨H, R, mask mu env, rel.relM, Same.refl _, ?_, fun ds' z => by dsimp only at z; rw [q] at z; cases z; exact lists_ g2⟩
      dsimp only
      rw [q]
      intro vs H1 R1 ex pool
      have pl := pool.len
      refine ⟨by omega, fun T hT => ⟨T, rfl, ⟨vs, .inl (.inl upd_same)⟩, ?_⟩⟩
      refine for_it (walk_tup (xs := vs)) (fun n σ2 H2 => ∃ R2, Same R R2 ∧ RelS X.K mu R0 H0 R2 H2 σ2 (eV env i j (us ++ ds.take n)) ∧ PoolA X.K R2 H2 H (vs.drop n) (ds.drop n) ∧ H2 T = some (.tup vs) ∧ ∀ m, m ≠ i → σ2[m]? = σ[m]?) ?_ ?_ ?_ ?_
      · have r1 := (rel.grow ex).after (same_upd (o := .tup vs) hT)
        refine ⟨R1, ex.r, ?_, pool.ext (Ext.beside ex.sub (same_upd hT)), upd_same, fun _ _ => rfl⟩
        rw [List.take_zero, List.append_nil, eV_self he0]
        exact r1.drop0 hi
      · rintro n σ2 H2 _ ⟨R2, _, _, _, hT2, _⟩
        exact .inl (.inl hT2)
      · rintro n u σ2 H2 H2' hlt ⟨R2, sR, r2, p2, hT2, hσ⟩ ⟨e1, e2⟩
        subst e1
        have hdv : vs.drop n = u :: vs.drop (n + 1) := by
          obtain ⟨a1, a2⟩ := List.getElem?_eq_some_iff.mp e2
          rw [List.drop_eq_getElem_cons a1, a2]
        have hnd : n < ds.length := by omega
        have hdd : ds.drop n = ds[n] :: ds.drop (n + 1) := List.drop_eq_getElem_cons hnd
        have hem : isEch ds[n] = true := List.all_eq_true.mp g2 _ (List.getElem_mem hnd)
        have htk : ds.take (n + 1) = ds.take n ++ [ds[n]] := by rw [List.take_succ, List.getElem?_eq_getElem hnd]; rfl
        rw [hdv, hdd] at p2
        generalize ds[n] = dn0 at p2 hem htk
        cases p2 with
        | @cons a ws es' vs' ds' b1 b2 b3 b4 b5 b6 =>
          obtain ⟨_, e0, _, hz⟩ := isEch_ hem
          cases e0
          show tSeq _ _ _ (σ2.set i (some (.ref a))) H2'
          have r3 : RelS X.K mu R0 H0 R2 H2' (σ2.set i (some (.ref a))) (eV env i j (us ++ ds.take n)) := by
            have := r2.drop hi (o := some (.ref a))
            rw [eV_drop] at this
            exact this
          have hil : i < σ2.length := by
            have := r2.len
            unfold eV unV setV at this
            simp only [List.length_set] at this
            omega
          have hsi : (σ2.set i (some (.ref a)))[i]? = some (some (.ref a)) := List.getElem?_set_self hil
          have hej := eV_at (xs := us ++ ds.take n) hij hjl
          obtain ⟨aj, ws2, ds2, ed, sj, hHj, dnj, hRj, h0j⟩ := r3.own j _ hj hej
          cases ed
          -- a is no own list
          have nown : ∀ m d, m ∈ mu → (eV env i j (us ++ ds.take n))[m]? = some (some d) → (σ2.set i (some (.ref a)))[m]? ≠ some (some (.ref a)) := by
            intro m d hmm hmd hms
            obtain ⟨hmi, hmo⟩ := eV_old hmd
            rw [List.getElem?_set_ne (Ne.symm hmi), hσ m hmi] at hms
            have : ∃ d, env[m]? = some (some d) := by
              rcases hmo with rfl | z
              · exact ⟨_, he0⟩
              · exact ⟨_, z⟩
            obtain ⟨d', hd'⟩ := this
            obtain ⟨a', _, _, _, f1, f2, _⟩ := rel.own m d' hmm hd'
            rw [hms] at f1
            cases f1
            rw [b4] at f2; cases f2
          have haj : aj ≠ a := fun z => nown j _ hj hej (by rw [sj, z])
          have h0a : H0 a = none := rel.ext.h.free b4
          refine ⟨_, sj, .inl ⟨rfl, ws2, .inl (.inl hHj)⟩, _, hsi, a, ws, rfl, .inl (.inl (.inl b1)), fun l hl => ?_⟩
          have hla : a ≠ l := fun z => by rw [z, hl] at b1; cases b1
          have hlj : aj ≠ l := fun z => by rw [z, hl] at hHj; cases hHj
          have exl : Ext R2 H2' (upd R2 l (.lst ws)) (upd H2' l (.lst ws)) := Ext.alloc r3.ext.sub hl
          have r4 := r3.grow exl
          have dnl : Dn X.K (upd R2 l (.lst ws)) (.ref l) (.list es') := .lst (.inl upd_same) (DnA.mono exl.r _ _ b2)
          refine ⟨aj, ws2, .ref l, rfl, rfl, by rw [upd_ne hlj]; exact hHj, by rw [dnj.length, List.length_append, List.length_take]; omega, ?_⟩
          have r5 := r4.upd hj hej sj ((DnA.mono exl.r _ _ dnj).append (.cons dnl .nil))
          rw [eV_set hij] at r5
          have hH5a : upd (upd H2' l (.lst ws)) aj (.lst (ws2 ++ [V.ref l])) a = some (.lst ws) := by
            rw [upd_ne (Ne.symm haj), upd_ne hla]; exact b1
          have hR5a : upd R2 l (HO.lst ws) a = none := by rw [upd_ne hla]; exact b3
          refine ⟨_, hsi, .inl ⟨rfl, ws, .inl (.inl hH5a)⟩, _, _, r5.relM, ?_⟩
          intro y H6 R6 ex6 _
          refine ⟨a, ws, y, rfl, rfl, ex6.h _ _ hH5a, by rw [DnA.length b2]; exact hz, ?_⟩
          have r6 := r5.grow ex6
          have nR : ∀ (b : Addr), upd R2 l (HO.lst ws) b = none → (∃ o, upd (upd H2' l (.lst ws)) aj (.lst (ws2 ++ [V.ref l])) b = some o) → R6 b = none := fun b z1 ⟨o, z2⟩ => by
            cases qb : R6 b with
            | none => rfl
            | some o' =>
              rcases ex6.new b o' qb with z | z
              · rw [z1] at z; cases z
              · rw [z2] at z; cases z
          have eapp : us ++ ds.take n ++ [PyData.list es'] = us ++ ds.take (n + 1) := by rw [htk, List.append_assoc]
          rw [eapp] at r6
          have nown' : ∀ m d, m ∈ mu → (eV env i j (us ++ ds.take (n + 1)))[m]? = some (some d) → (σ2.set i (some (.ref a)))[m]? ≠ some (some (.ref a)) := by
            intro m d hmm hmd
            by_cases hmj : m = j
            · subst hmj; exact nown m _ hmm hej
            · refine nown m d hmm ?_
              unfold eV unV setV at hmd ⊢
              by_cases e : i = m
              · subst e; exact absurd hmm hi
              · rw [List.getElem?_set_ne e, List.getElem?_set_ne (Ne.symm hmj)] at hmd ⊢
                exact hmd
          refine ⟨R6, (sR.trans exl.r).trans ex6.r, r6.poke (nR a hR5a ⟨_, hH5a⟩) h0a nown', ?_, ?_, fun m hmi => by rw [List.getElem?_set_ne (Ne.symm hmi)]; exact hσ m hmi⟩
          · -- the other new lists
            refine b6.mono (exl.r.trans ex6.r) (fun b hb => ?_) fun _ z => z
            obtain ⟨⟨wb, f1⟩, f2, f3⟩ := b6.at_ hb
            have nba : b ≠ a := fun z => b5 _ hb (by rw [z])
            have nbl : b ≠ l := fun z => by rw [z, hl] at f1; cases f1
            have nbj : b ≠ aj := fun z => by
              obtain ⟨a', _, _, _, k1, k2, _⟩ := rel.own j _ hj he0
              have : σ[j]? = some (some (.ref aj)) := by rw [← hσ j (Ne.symm hij), ← sj, List.getElem?_set_ne hij]
              rw [this] at k1
              cases k1
              rw [← z, f3] at k2; cases k2
            have e5 : upd (upd H2' l (.lst ws)) aj (.lst (ws2 ++ [V.ref l])) b = some (.lst wb) := by rw [upd_ne nbj, upd_ne nbl]; exact f1
            refine ⟨by rw [upd_ne nba, f1]; exact ex6.h _ _ e5, nR b (by rw [upd_ne nbl]; exact f2) ⟨_, e5⟩⟩
          · have nTa : T ≠ a := fun z => by rw [z, b1] at hT2; cases hT2
            have nTl : T ≠ l := fun z => by rw [z, hl] at hT2; cases hT2
            have nTj : T ≠ aj := fun z => by rw [z, hHj] at hT2; cases hT2
            rw [upd_ne nTa]
            exact ex6.h _ _ (by rw [upd_ne nTj, upd_ne nTl]; exact hT2)
      · rintro σ2 H2 ⟨R2, sR, r2, _, _, _⟩
        rw [pl, List.take_length] at r2
        exact hw σ2 H2 R2 sR r2
end
end
end Z
end
section
/-! Z11: every statement of the small language. -/
namespace Z
open PySem PySem.Spec PyProof.Rows L2
/-! ### new lists -/
section
variable {C : Nat → List PyData → Res PyData} {X : Cx} {S : Sx} {W : WX}
/-- a wish at a new list -/
def WantF (K : PySem.W.Frag) (W : WX) (σ : L2.St) (R H : Hp) (r : Res PyData) (Q : VK) : Prop := match r with
  | .ok (.list ds) => FreshK K R H ds Q
  | .ok _ => False
  | .exc c => ∀ (H' R' : Hp), Ext R H R' H' → W (xcls K c) none σ H'
  | .stuck => False
theorem WantF.ext {K : PySem.W.Frag} {σ : L2.St} {R H R1 H1 : Hp} {r : Res PyData} {Q : VK} (h : WantF K W σ R H r Q) (e : Ext R H R1 H1) : WantF K W σ R1 H1 r Q := by
  cases r with
  | ok d =>
    cases d with
    | list ds => exact FreshK.ext h e
    | _ => exact h
  | exc c => exact fun H' R' e' => h H' R' (e.trans e')
  | stuck => exact h
theorem WantF.split {K : PySem.W.Frag} {σ : L2.St} {R H : Hp} {γ δ : Type} {den2 : Hp → δ → γ → Prop} {r : Res γ} {f : γ → Res PyData} {Q : VK} {Q1 : δ → Hp → Prop} (h : WantF K W σ R H (r >>= f) Q)
    (k : ∀ (a : γ) (b : δ) (H' R' : Hp), Ext R H R' H' → den2 R' b a → WantF K W σ R' H' (f a) Q → Q1 b H') : WantG K W σ den2 R H r Q1 := by
  cases r with
  | ok a => exact fun b H' R' e d => k a b H' R' e d (WantF.ext h e)
  | exc c => exact h
  | stuck => exact h
theorem FreshK.new {K : PySem.W.Frag} {R H : Hp} {ds : List PyData} {xs : List V} {Q : VK} (h : FreshK K R H ds Q) (s : Same R H) (dn : DnA K R xs ds) {p : Addr} (n : H p = none) : Q (.ref p) (upd H p (.lst xs)) :=
  h p xs _ R (Ext.beside s (same_upd n)) n (s.free n) upd_same dn
theorem tF_ {K : PySem.W.Frag} {f : Ev → Res PyData} {σ : L2.St} {H : Hp} {Q : VK} (h : tF K W f σ H Q) : ∃ R env, Rel K R H σ env ∧ WantF K W σ R H (f env) Q := h
theorem guardF {K : PySem.W.Frag} {σ : L2.St} {R H : Hp} {b : Bool} {ds : List PyData} {Q : VK} (h : WantF K W σ R H (guardR b (.list ds)) Q) : b = true ∧ FreshK K R H ds Q := by
  unfold guardR at h
  cases b with
  | true => exact ⟨rfl, h⟩
  | false => exact False.elim h
theorem fLst {xs : Es} {es : List Expr} {pos : Pos} (h : PA X es (tDA X.K W fun env => evs C env xs)) : PE X (.List es pos) (tF X.K W fun env => ev C env (.lst xs)) := by
  refine peImp (pe_lst h) fun σ H Q q => ?_
  obtain ⟨R, env, rel, hw⟩ := tF_ q
  have hw : WantF X.K W σ R H (evs C env xs >>= fun ds => guardR (fitsL ds.length) (.list ds)) Q := hw
  refine ⟨R, env, rel, hw.split fun ds vs H1 R1 e1 d1 h1 => ?_⟩
  obtain ⟨g, h1⟩ := guardF h1
  exact ⟨by rw [DnA.length d1]; exact of_decide_eq_true g, fun p n => h1.new e1.sub d1 n⟩
theorem fAdd {a b : E} {x y : Expr} {pos : Pos} (ha : SE X W C a x) (hb : SE X W C b y) : PE X (.BinOp x .Add y pos) (tF X.K W fun env => ev C env (.bin .add a b)) := by
  refine peImp (pe_op op_catR ha.1 hb.1) fun σ H Q q => ?_
  obtain ⟨R, env, rel, hw⟩ := tF_ q
  have hw : WantF X.K W σ R H (ev C env a >>= fun x => ev C env b >>= fun y => binD .add x y) Q := hw
  refine ⟨R, env, rel, hw.split fun dx x H1 R1 e1 d1 h1 => ⟨R1, env, rel.ext e1, h1.split fun dy y H2 R2 e2 d2 h2 => ?_⟩⟩
  have d1' := Dn.mono e2.r _ _ d1
  cases d1' with
  | lst r1 n1 =>
    cases d2 with
    | lst r2 n2 =>
      obtain ⟨g, h2⟩ := guardF h2
      have g := of_decide_eq_true g
      exact ⟨_, _, _, _, rfl, rfl, Rd.mono e2.sub r1, Rd.mono e2.sub r2, by rw [DnA.length n1, DnA.length n2]; exact g, fun p n => h2.new e2.sub (n1.append n2) n⟩
    | _ => exact False.elim h2
  | int i => cases d2 with
    | int j => exact False.elim h2
    | _ => exact False.elim h2
  | str i => cases d2 with
    | str j =>
      have h2 : WantF X.K W σ R2 H2 (guardR _ _) Q := h2
      unfold guardR at h2
      split at h2 <;> exact False.elim h2
    | _ => exact False.elim h2
  | tup i => cases d2 with
    | tup j =>
      have h2 : WantF X.K W σ R2 H2 (guardR _ _) Q := h2
      unfold guardR at h2
      split at h2 <;> exact False.elim h2
    | _ => exact False.elim h2
  | _ => exact False.elim h2
end
/-! ### which text -/
/-- what makes a new list -/
def isNew : E → Bool
  | .lst _ => true
  | .lc _ _ _ _ => true
  | .bin .add _ _ => true
  | _ => false
def asRs : Expr → Option (Str × Str)
  | .Call (.Name x _) [.Constant (.str m) _ _] [] _ => some (x, m)
  | _ => none
theorem asRs_ {e : Expr} {x m : Str} (h : asRs e = some (x, m)) : ∃ p j p2 pos, e = .Call (.Name x p) [.Constant (.str m) j p2] [] pos := by
  unfold asRs at h
  split at h
  · cases h; exact ⟨_, _, _, _, rfl⟩
  · cases h
def asApp : Expr → Option (Str × Expr)
  | .Call (.Attribute (.Name x _) a p2) [v] [] p3 => if a = ("append" : Str) ∧ (p2.endLine == p3.line) = true then some (x, v) else none
  | _ => none
theorem asApp_ {e v : Expr} {x : Str} (h : asApp e = some (x, v)) : ∃ p1 p2 p3, e = .Call (.Attribute (.Name x p1) "append" p2) [v] [] p3 ∧ (p2.endLine == p3.line) = true := by
  unfold asApp at h
  split at h
  · split at h
    · rename_i q; cases h; obtain ⟨q1, q2⟩ := q; subst q1; exact ⟨_, _, _, rfl, q2⟩
    · cases h
  · cases h
def asExt : Expr → Option (Str × Expr)
  | .Call (.Attribute (.Name x _) a p2) [v] [] p3 => if a = ("extend" : Str) ∧ (p2.endLine == p3.line) = true then some (x, v) else none
  | _ => none
theorem asExt_ {e v : Expr} {x : Str} (h : asExt e = some (x, v)) : ∃ p1 p2 p3, e = .Call (.Attribute (.Name x p1) "extend" p2) [v] [] p3 ∧ (p2.endLine == p3.line) = true := by
  unfold asExt at h
  split at h
  · split at h
    · rename_i q; cases h; obtain ⟨q1, q2⟩ := q; subst q1; exact ⟨_, _, _, rfl, q2⟩
    · cases h
  · cases h
def asSub : Expr → Option (Str × Expr)
  | .Subscript (.Name x _) w _ => some (x, w)
  | _ => none
theorem asSub_ {e w : Expr} {x : Str} (h : asSub e = some (x, w)) : ∃ p1 p2, e = .Subscript (.Name x p1) w p2 := by
  unfold asSub at h
  split at h
  · cases h; exact ⟨_, _, rfl⟩
  · cases h
def isRs : Stmt → Bool
  | _ => true
def isLoc (sc : Scope) (x : Str) : Bool := match sc.names.lookup x with
  | some .local => true
  | _ => false
theorem isLoc_ {sc : Scope} {x : Str} (h : isLoc sc x = true) : sc.names.lookup x = some .local := by
  unfold isLoc at h
  split at h
  · assumption
  · cases h
/-- x, y = z, b -/
def asPar : Stmt → Option (Str × Str × Str × Expr)
  | .Assign [.Tuple [.Name x px, .Name y py] _ _] (.Tuple [.Name z _, vb] _ _) _ => if (py.line == px.line) = true then some (x, y, z, vb) else none
  | _ => none
theorem asPar_ {st : Stmt} {x y z : Str} {vb : Expr} (h : asPar st = some (x, y, z, vb)) : ∃ px py kt pt pz k2 pt2 pos, st = .Assign [.Tuple [.Name x px, .Name y py] kt pt] (.Tuple [.Name z pz, vb] k2 pt2) pos ∧ (py.line == px.line) = true := by
  unfold asPar at h
  split at h
  · split at h
    · rename_i q; cases h; exact ⟨_, _, _, _, _, _, _, _, rfl, q⟩
    · cases h
  · cases h
def asTry : Stmt → Option (List Stmt × Expr × Str × Expr)
  | .Try body [.ExceptHandler (some te) (some n) [.Return (some v) _] _] [] [] _ => some (body, te, n, v)
  | _ => none
theorem asTry_ {st : Stmt} {body : List Stmt} {te v : Expr} {n : Str} (h : asTry st = some (body, te, n, v)) : ∃ p1 p2 p3, st = .Try body [.ExceptHandler (some te) (some n) [.Return (some v) p1] p2] [] [] p3 := by
  unfold asTry at h
  split at h
  · cases h; exact ⟨_, _, _, rfl⟩
  · cases h
/-- what a handler returns: y(n), n the refusal -/
def chkHv (S : Sx) (n y : Str) (hk : Hk) (v : Expr) : Bool := if y = ("" : Str) then chkIn { S with hot := some n } S.G.ks n hk v else match asCall v with
  | some (x, [e]) => decide (x = y) && decide (asName e = some n) && glb S.sc y && okName y && decide (y ≠ ("" : Str))
  | _ => false
/-- a slot's name -/
def chkV : E → Sx → Str → Bool
  | .var i, S, z => decide (S.N[i]? = some z) && vis S.sc z
  | _, _, _ => false
/-- a, b = [.. for ..]: the items of tuple(..) -/
def chkUl : E → Sx → Expr → Bool
  | .bl .tuple (.cons (.lc t it c x) .nil), S, v => chkE (.lc t it c x) S v
  | _, _, _ => false
theorem chkUl_ {e : E} {S : Sx} {v : Expr} (h : chkUl e S v = true) : ∃ t it c x, e = .bl .tuple (.cons (.lc t it c x) .nil) ∧ chkE (.lc t it c x) S v = true := by
  unfold chkUl at h
  split at h
  · exact ⟨_, _, _, _, rfl, h⟩
  · cases h
/-- what may be told where lists are to be new -/
def frE (S : Sx) (mu : List Nat) : E → Bool
  | .lc _ _ _ _ => true
  | .var i => mu.contains i
  | .call f _ => S.G.frs.contains f
  | .mc _ f _ _ => S.G.frs.contains f
  | .bl .list _ => true
  | _ => false
def isNewS (S : Sx) : E → Bool
  | .call f _ => S.G.frs.contains f
  | .mc _ f _ _ => S.G.frs.contains f
  | e => isNew e
/-- for x in (..): y.append(list(x)); x.append(v) -/
def asEch : Stmt → Option (Str × List Expr × Str × Expr)
  | .For (.Name x _) (.Tuple es _ _) [.Expr (.Call (.Attribute (.Name y _) m1 q2) [.Call (.Name f _) [.Name x2 _] [] _] [] q6) _, .Expr (.Call (.Attribute (.Name x3 _) m2 r2) [v] [] r3) _] [] _ =>
    if (m1 = ("append" : Str) ∧ m2 = ("append" : Str) ∧ f = ("list" : Str) ∧ x2 = x ∧ x3 = x) ∧ (q2.endLine == q6.line) = true ∧ (r2.endLine == r3.line) = true then some (x, es, y, v) else none
  | _ => none
theorem asEch_ {st : Stmt} {x y : Str} {es : List Expr} {v : Expr} (h : asEch st = some (x, es, y, v)) : ∃ (kk : Nat) (p1 p2 p3 q1 q2 q3 q4 q5 q6 q7 r1 r2 r3 r4 : Pos), st = .For (.Name x p1) (.Tuple es kk p2) [.Expr (.Call (.Attribute (.Name y q1) "append" q2) [.Call (.Name "list" q3) [.Name x q4] [] q5] [] q6) q7, .Expr (.Call (.Attribute (.Name x r1) "append" r2) [v] [] r3) r4] [] p3 ∧ (q2.endLine == q6.line) = true ∧ (r2.endLine == r3.line) = true := by
  unfold asEch at h
  split at h
  · split at h
    · rename_i q; cases h; obtain ⟨⟨e1, e2, e3, e4, e5⟩, q1, q2⟩ := q; subst e1 e2 e3 e4 e5; exact ⟨_, _, _, _, _, _, _, _, _, _, _, _, _, _, _, rfl, q1, q2⟩
    · cases h
  · cases h
/-- new lists -/
def chkPl : Es → Sx → List Expr → Bool
  | .nil, _, [] => true
  | .cons a r, S, e :: es => frE S [] a && chkE a S e && chkPl r S es
  | _, _, _ => false
mutual
def chkS : S → Sx → List Nat → List Nat → Stmt → Bool
  | .set i m e, S, mu, _, .Assign [tg] v _ => (match asName tg with
    | some x => decide (S.N[i]? = some x) && sto S x && !mu.contains i && (m || !mnE mu e) && chkE e S v
    | none => false)
  | .own i e, S, mu, _, .Assign [tg] v _ => (match asName tg with
    | some x => decide (S.N[i]? = some x) && sto S x && mu.contains i && !mnE mu e && isNewS S e && chkE e S v
    | none => false)
  | .fls i e, S, mu, _, .Assign [tg] v _ => (match asName tg with
    | some x => decide (S.N[i]? = some x) && sto S x && !mu.contains i && isNew e && chkE e S v
    | none => false)
  | .ofl i e, S, mu, _, .Assign [tg] v _ => (match asName tg with
    | some x => decide (S.N[i]? = some x) && sto S x && mu.contains i && isNew e && chkE e S v
    | none => false)
  | .unp is e, S, mu, _, .Assign [tg] v _ => isTup tg && chkT S (.tp is) tg && !isTup v && !mnE mu e && is.all (fun i => !mu.contains i) && (if isComp v then chkUl e S v else chkE e S v)
  | .put i m k e, S, mu, _, .Assign [tg] v _ => (match asSub tg with
    | some (x, w) => decide (S.N[i]? = some x) && vis S.sc x && okName x && mu.contains i && (m || !mnE mu e) && !isSlice w && !isComp v && !isTup v && chkE k S w && chkE e S v
    | none => false)
  | .app i m e, S, mu, _, .Expr v _ => (match asApp v with
    | some (x, w) => decide (S.N[i]? = some x) && vis S.sc x && okName x && mu.contains i && (m || !mnE mu e) && chkE e S w
    | none => false)
  | .ext i e, S, mu, _, .Expr v _ => (match asExt v with
    | some (x, w) => decide (S.N[i]? = some x) && vis S.sc x && okName x && mu.contains i && !mnE mu e && chkE e S w
    | none => false)
  | .ech i j xs c, S, mu, _, st => (match asEch st with
    | some (x, es, y, v) => decide (S.N[i]? = some x) && sto S x && vis S.sc x && okName x && decide (S.N[j]? = some y) && vis S.sc y && okName y && !mu.contains i && mu.contains j && !mnEs mu xs && bltn S ("list" : Str) && chkE (.cn c) S v && chkPl xs S es
    | none => false)
  | .ret e, S, mu, _, .Return (some v) _ => chkE e S v && (!S.fr || frE S mu e)
  | .retn, _, _, _, .Return none _ => true
  | .ifs c a b, S, mu, cs, .If t x y _ => chkE c S t && chkSs a S mu cs x && chkSs b S mu cs y
  | .fr t it b, S, mu, cs, .For tg iter body [] _ => chkT S t tg && chkI it S (isTup tg) iter && !isSet iter && !mnI mu it && (slots t).all (fun i => !mu.contains i) && chkSs b S mu cs body
  | .wh c b, S, mu, cs, .While t body [] _ => chkE c S t && chkSs b S mu cs body
  | .rs c m, S, _, cs, .Raise (some v) none _ => (match asRs v with
    | some (x, m') => decide (x = xname c) && cs.contains c && glb S.sc x && okName x
    | none => false)
  | .ex e, S, _, _, .Expr v _ => chkE e S v && !isComp v
  | .skip, _, _, _, .Pass _ => true
  | .par i j a b, S, mu, _, st => (match asPar st with
    | some (x, y, z, vb) => decide (S.N[i]? = some x) && decide (S.N[j]? = some y) && decide (i ≠ j) && decide (x ≠ y) && isLoc S.sc x && isLoc S.sc y && okName z && chkV a S z && chkE b S vb && !mnE mu a && !mnE mu b && !mu.contains i && !mu.contains j
    | none => false)
  | .tr i k b f, S, mu, cs, st => (match asTry st with
    | some (body, te, n, v) => (match asName te, S.G.hots[f]? with
      | some x, some (y, hk) => decide (x = xname k) && decide (k ≠ 101) && S.G.ks.contains k && glb S.sc x && okName x && decide (S.N[i]? = some n) && isLoc S.sc n && okName n && chkHv S n y hk v && chkSs b S mu cs body
      | _, _ => false)
    | none => false)
  | _, _, _, _, _ => false
def chkSs : Ss → Sx → List Nat → List Nat → List Stmt → Bool
  | .nil, _, _, _, [] => true
  | .cons a r, S, mu, cs, s :: ss => chkS a S mu cs s && chkSs r S mu cs ss
  | _, _, _, _, _ => false
end
/-- the refusals that are made here -/
def Exs (X : Cx) (cs : List Nat) : Prop := ∀ c ∈ cs, ∀ (m : Str) (j : Nat) (p p2 pos : Pos), Gl X (xname c) → (xname c == ("__debug__" : Str)) = false → PMk X (.Call (.Name (xname c) p) [.Constant (.str m) j p2] [] pos) (fun _ H Q => Q (xcls X.K c) none H)
structure HotOk (X : Cx) (y : Str) (h : Hk) (xs : List Nat) : Prop where
  ex : ∃ (f : Addr) (fd : FuncData) (k : Nat) (x : Str), X.mg y = some (.ref f) ∧ PySem.W.keepIn X.K (.ref f) = true ∧ Binds X.K fd [x] [] ∧ FnE X.prog X.w X.K X.mg X.base k f fd x xs h ∧ L2H.RoomH k X.A
structure FitS (X : Cx) (S : Sx) (C : Nat → List PyData → Res PyData) (Hd : Nat → Nat → Res PyData) (W : WX) (cs : List Nat) : Prop where
  F : Fits X S C
  tk : Takes X W
  hp : PassesOwn (model X.prog X.w) X.A X.env X.xe
  hot : S.hot = none
  kind : X.env.scope.kind = .function
  ex : ∀ pn xe, Exs (X.tr pn xe) cs
  stk : X.stack = X.env :: X.outer
  frm : X.env.frame = some X.env.locals
  hg : HotG X S.G.ks
  xf : ∀ c ∈ S.G.xs, ExcF X.K S.G.ks c
  hots : ∀ (f : Nat) (y : Str) (h : Hk), S.G.hots[f]? = some (y, h) → y ≠ ("" : Str) → HotOk X y h S.G.xs
  hd : ∀ (f c : Nat) (d : PyData), Hd f c = .ok d → ∃ (y : Str) (h : Hk), S.G.hots[f]? = some (y, h) ∧ c ∈ S.G.xs ∧ d = h.d c
theorem noComp {c : E} {S : Sx} {e : Expr} (h : chkE c S e = true) (hc : ∀ t it o a, c ≠ .lc t it o a) (hx : ∀ t it o a, c ≠ .lx t it o a) : isComp e = false := by
  cases e with
  | ListComp a b s p =>
    cases c with
    | lc t it o a => exact absurd rfl (hc t it o a)
    | lx t it o a => exact absurd rfl (hx t it o a)
    | call f xs => cases xs <;> simp [chkE, asCall] at h
    | bl f xs => cases xs <;> simp [chkE, asCall] at h
    | sel f i xs => cases xs <;> simp [chkE, asSel] at h
    | mt m o xs =>
      cases m <;> cases xs with
      | nil => simp [chkE, asCall, asMt] at h
      | cons b r => cases r <;> simp [chkE, asCall, asMt, asInr, asStp] at h
    | lit it =>
      cases it with
      | rg xs =>
        cases xs with
        | nil => simp [chkE] at h
        | cons a r =>
          cases r with
          | nil => simp [chkE, asCall] at h
          | cons b q => cases q <;> simp [chkE, asCall] at h
      | _ => simp [chkE, asCall] at h
    | _ => simp [chkE, asCall, asBack, asDg, asKin, asMt] at h
  | SetComp a b s p =>
    cases c with
    | call f xs => cases xs <;> simp [chkE, asCall] at h
    | bl f xs => cases xs <;> simp [chkE, asCall] at h
    | sel f i xs => cases xs <;> simp [chkE, asSel] at h
    | mt m o xs =>
      cases m <;> cases xs with
      | nil => simp [chkE, asCall, asMt] at h
      | cons b r => cases r <;> simp [chkE, asCall, asMt, asInr, asStp] at h
    | lit it =>
      cases it with
      | rg xs =>
        cases xs with
        | nil => simp [chkE] at h
        | cons a r =>
          cases r with
          | nil => simp [chkE, asCall] at h
          | cons b q => cases q <;> simp [chkE, asCall] at h
      | _ => simp [chkE, asCall] at h
    | _ => simp [chkE, asCall, asLc, asBack, asDg, asKin, asMt] at h
  | DictComp a b s p q =>
    cases c with
    | call f xs => cases xs <;> simp [chkE, asCall] at h
    | bl f xs => cases xs <;> simp [chkE, asCall] at h
    | sel f i xs => cases xs <;> simp [chkE, asSel] at h
    | mt m o xs =>
      cases m <;> cases xs with
      | nil => simp [chkE, asCall, asMt] at h
      | cons b r => cases r <;> simp [chkE, asCall, asMt, asInr, asStp] at h
    | lit it =>
      cases it with
      | rg xs =>
        cases xs with
        | nil => simp [chkE] at h
        | cons a r =>
          cases r with
          | nil => simp [chkE, asCall] at h
          | cons b q => cases q <;> simp [chkE, asCall] at h
      | _ => simp [chkE, asCall] at h
    | _ => simp [chkE, asCall, asLc, asBack, asDg, asKin, asMt] at h
  | _ => rfl
theorem noSwap {v : Expr} (h : isComp v = false) (o : Option Expr) (l : Nat) (env : PySem.Env) : swapsWith v o l env = pure false := by
  cases v with
  | ListComp _ _ _ _ => cases h
  | SetComp _ _ _ _ => cases h
  | DictComp _ _ _ _ _ => cases h
  | _ => rfl
section
variable {fr : Bool} {C : Nat → List PyData → Res PyData} {Hd : Nat → Nat → Res PyData} {mu cs : List Nat} {R0 H0 : Hp}
theorem lcOk_of {X : Cx} {S : Sx} {W : WX} (F : Fits X S C) (tk : Takes X W) {t : Tg} {it : It} {c : Eo} {e0 : E} {e : Expr} (h : chkE (.lc t it c e0) S e = true) :
    ∃ elt tg iter ifs scope pos, e = .ListComp elt [⟨tg, iter, ifs, 0⟩] scope pos ∧ LcOk X W C t it c e0 elt tg iter ifs scope := by
  rw [chkE] at h
  split at h
  · rename_i elt tg iter ifs scope q
    obtain ⟨pos, rfl⟩ := asLc_ q
    simp only [Bool.and_eq_true, Bool.not_eq_true'] at h
    obtain ⟨⟨⟨⟨⟨⟨h1, h2⟩, h3⟩, h4⟩, h5⟩, h6⟩, h7⟩ := h
    exact ⟨_, _, _, _, _, _, rfl, lcOk F (by simpa using h1) h2 h3 (sI it F tk h4) h7 (fun s H Ca cl fp => sEf c (F.blk s H scope cl Ca fp) h5) (fun s H Ca cl fp => sE e0 (F.blk s H scope cl Ca fp) takes0 h6)⟩
  · cases h
theorem lxOk_of {X : Cx} {S : Sx} {W : WX} (F : Fits X S C) (tk : Takes X W) {t : Tg} {it : It} {c : Eo} {e0 : E} {e : Expr} (h : chkE (.lx t it c e0) S e = true) :
    ∃ elt tg iter ifs scope pos, e = .ListComp elt [⟨tg, iter, ifs, 0⟩] scope pos ∧ LxOk X W C t it c e0 elt tg iter ifs scope := by
  rw [chkE] at h
  split at h
  · rename_i elt tg iter ifs scope q
    obtain ⟨pos, rfl⟩ := asLc_ q
    simp only [Bool.and_eq_true, Bool.not_eq_true'] at h
    obtain ⟨⟨⟨⟨⟨⟨⟨h1, h0⟩, h2⟩, h3⟩, h4⟩, h5⟩, h6⟩, h7⟩ := h
    have hh : S.hot = none := by simpa using h1
    have tp := F.stk h0
    exact ⟨_, _, _, _, _, _, rfl, ⟨F.calm hh, F.nd, tk, tp.1, tp.2, tp_of h3, sI it F tk h4, ⟨ownOf S.N t, by rw [F.hN, F.sc]; exact blkOk_by h2, by simp [ownOf, Function.comp_def]⟩, fun s H Ca cl fp xe => pg_of ((F.blk s H scope cl Ca fp).xe xe) (F.calm hh) h3, fun s H Ca cl fp xe W' tk' => sEx c ((F.blk s H scope cl Ca fp).xe xe) tk' h5, fun s H Ca cl fp xe W' tk' => (sE e0 ((F.blk s H scope cl Ca fp).xe xe) tk' h6).1, fun x => noFold h7 X.env x⟩⟩
  · cases h
/-- x = e -/
theorem asg_of {X : Cx} {S : Sx} {W : WX} (Y : FitS X S C Hd W cs) {i : Nat} {x : Str} {e : E} {v : Expr} {py pos : Pos} (hi : decide (S.N[i]? = some x) = true) (hs : sto S x = true) (h : chkE e S v = true) :
    PS X (.Assign [.Name x py] v pos) (tAsg (tD X.K W fun env => ev C env e) (gName i)) := by
  obtain ⟨l, f⟩ := Y.F.sto hs
  by_cases hc : ∃ t it o a, e = .lc t it o a
  · obtain ⟨t, it, o, a, rfl⟩ := hc
    obtain ⟨elt, tg, iter, ifs, scope, pos, rfl, L⟩ := lcOk_of Y.F Y.tk h
    exact asgI (L.set Y.kind (Y.F.name hi) l f) fun σ H Q q => tD_tF (fun env d h => lc_list_ env d h) q
  · by_cases hx : ∃ t it o a, e = .lx t it o a
    · obtain ⟨t, it, o, a, rfl⟩ := hx
      obtain ⟨elt, tg, iter, ifs, scope, pos, rfl, L⟩ := lxOk_of Y.F Y.tk h
      exact asgI (L.set Y.kind (Y.F.name hi) l f) fun σ H Q q => tD_tF (fun env d h => lx_list_ env d h) q
    · exact ps_set Y.F.nd (Y.F.name hi) l (sE e Y.F Y.tk h).1 (noSwap (noComp h (fun t it o a z => hc ⟨t, it, o, a, z⟩) fun t it o a z => hx ⟨t, it, o, a, z⟩) _ _ _) f
theorem own_of0 {X : Cx} {S : Sx} {W : WX} (Y : FitS X S C Hd W cs) {i : Nat} {x : Str} {e : E} {v : Expr} {py pos : Pos} (hi : decide (S.N[i]? = some x) = true) (hs : sto S x = true) (hn : isNew e = true) (h : chkE e S v = true) :
    PS X (.Assign [.Name x py] v pos) (tAsg (tF X.K W fun env => ev C env e) (gName i)) := by
  obtain ⟨l, f⟩ := Y.F.sto hs
  cases e with
  | lc t it o a =>
    obtain ⟨elt, tg, iter, ifs, scope, pos, rfl, L⟩ := lcOk_of Y.F Y.tk h
    exact L.set Y.kind (Y.F.name hi) l f
  | lst xs =>
    cases v with
    | List es p =>
      rw [chkE] at h
      exact ps_set Y.F.nd (Y.F.name hi) l (fLst (sEs xs Y.F Y.tk h).1) rfl f
    | _ => exact absurd h (by simp [chkE])
  | bin o a b =>
    cases o with
    | add =>
      cases v with
      | BinOp p op q pos =>
        rw [chkE] at h
        simp only [Bool.and_eq_true] at h
        have ho : op = .Add := by
          cases op <;> first | rfl | exact absurd h.1.1 (by simp [chkO])
        subst ho
        exact ps_set Y.F.nd (Y.F.name hi) l (fAdd (sE a Y.F Y.tk h.1.2) (sE b Y.F Y.tk h.2)) rfl f
      | _ => exact absurd h (by simp [chkE])
    | _ => cases hn
  | _ => cases hn
theorem retF {X : Cx} {S : Sx} {W : WX} (F : Fits X S C) (tk : Takes X W) (hh : S.hot = none) {e : E} {v : Expr} {p : Pos} (hf : frE S mu e = true) (h : chkE e S v = true) : PS X (.Return (some v) p) (tS fr X.K W mu R0 H0 fun env => rn1 C Hd (.ret e) env) := by
  cases e with
  | lc t it o a =>
    obtain ⟨elt, tg, iter, ifs, scope, pos, rfl, L⟩ := lcOk_of F tk h
    exact stRetR (peImp L.pe fun σ H Q q => tR_tF (fun env d q => lc_list_ env d q) q)
  | var i =>
    cases v with
    | Name x pos =>
      rw [chkE] at h
      simp only [Bool.and_eq_true] at h
      obtain ⟨⟨h1, h2⟩, h3⟩ := h
      obtain ⟨n1, n2, _⟩ := okName_ h3
      exact stRetO (pe_var (F.name h1) (by rw [F.sc]; exact vis_ok h2) n1 n2) (by simpa [frE] using hf)
    | _ => exact absurd h (by simp [chkE])
  | call f xs => exact stRetR (rCall F tk hh hf h)
  | mc c f o xs => exact stRetR (rMc F tk hh hf h)
  | bl b xs =>
    cases b with
    | list => exact stRetR (rList F tk h)
    | _ => cases hf
  | _ => cases hf
/-- a new list of a plain term -/
theorem frR {X : Cx} {S : Sx} {W : WX} (F : Fits X S C) (tk : Takes X W) (hh : S.hot = none) {e : E} {v : Expr} (hf : frE S [] e = true) (h : chkE e S v = true) : PE X v (tR true X.K W fun env => ev C env e) := by
  cases e with
  | lc t it o a =>
    obtain ⟨elt, tg, iter, ifs, scope, pos, rfl, L⟩ := lcOk_of F tk h
    exact peImp L.pe fun σ H Q q => tR_tF (fun env d q => lc_list_ env d q) q
  | call f xs => exact rCall F tk hh hf h
  | mc c f o xs => exact rMc F tk hh hf h
  | bl b xs =>
    cases b with
    | list => exact rList F tk h
    | _ => cases hf
  | var i => simp [frE] at hf
  | _ => cases hf
theorem plPa {X : Cx} {S : Sx} {W : WX} (F : Fits X S C) (tk : Takes X W) (hh : S.hot = none) : ∀ {xs : Es} {es : List Expr}, chkPl xs S es = true → PA X es (tPl X.K W fun env => evs C env xs)
  | .nil, [], _ => pool_nil
  | .nil, _ :: _, h => by simp [chkPl] at h
  | .cons _ _, [], h => by simp [chkPl] at h
  | .cons a r, e :: es, h => by
    rw [chkPl] at h
    simp only [Bool.and_eq_true] at h
    exact pool_cons (frR F tk hh h.1.1 h.1.2) (plPa F tk hh h.2) (star1 (noStar h.1.2) es X.env)
theorem own_of {X : Cx} {S : Sx} {W : WX} (Y : FitS X S C Hd W cs) {i : Nat} {x : Str} {e : E} {v : Expr} {py pos : Pos} (hi : decide (S.N[i]? = some x) = true) (hs : sto S x = true) (hn : isNewS S e = true) (h : chkE e S v = true) :
    PS X (.Assign [.Name x py] v pos) (tAsg (tF X.K W fun env => ev C env e) (gName i)) := by
  obtain ⟨l, f⟩ := Y.F.sto hs
  cases e with
  | call g xs => exact ps_set Y.F.nd (Y.F.name hi) l (peImp (rCall Y.F Y.tk Y.hot hn h) fun _ _ _ q => tF_tR q) (noSwap (noComp h (fun t it o a z => nomatch z) fun t it o a z => nomatch z) _ _ _) f
  | mc c g o xs => exact ps_set Y.F.nd (Y.F.name hi) l (peImp (rMc Y.F Y.tk Y.hot hn h) fun _ _ _ q => tF_tR q) (noSwap (noComp h (fun t it o a z => nomatch z) fun t it o a z => nomatch z) _ _ _) f
  | _ => exact own_of0 Y hi hs hn h
theorem isNewS_ {S : Sx} {e : E} (h : isNew e = true) : isNewS S e = true := by
  cases e <;> first | exact h | cases h
theorem orB {a b : Bool} (h : (a || !b) = true) : a = true ∨ b = false := by cases a <;> cases b <;> simp at h ⊢
theorem notMem {mu : List Nat} {i : Nat} (h : (!mu.contains i) = true) : i ∉ mu := by simpa using h
theorem isMem {mu : List Nat} {i : Nat} (h : mu.contains i = true) : i ∈ mu := by simpa using h
theorem FitS.tr {X : Cx} {S : Sx} {W W' : WX} (Y : FitS X S C Hd W cs) (pn : List (Addr × Obj)) (xe : Value → Shared → Prop) (tk : Takes (X.tr pn xe) W') (hp : PassesOwn (model X.prog X.w) X.A X.env xe) : FitS (X.tr pn xe) S C Hd W' cs :=
  ⟨⟨Y.F.hN, Y.F.nd, Y.F.sc, Y.F.fn, Y.F.gl, Y.F.hu, Y.F.calm, fun h f x e n => (let ⟨z⟩ := Y.F.fns h f x e n; ⟨z⟩), Y.F.stk, fun h f c m e => (let ⟨z⟩ := Y.F.mts h f c m e; ⟨z⟩)⟩, tk, hp, Y.hot, Y.kind, Y.ex, Y.stk, Y.frm, ⟨Y.hg.mg⟩, Y.xf, fun f y h e n => let ⟨z⟩ := Y.hots f y h e n; ⟨z⟩, Y.hd⟩
theorem FitS.suite {X : Cx} {S : Sx} {W : WX} (Y : FitS X S C Hd W cs) (a : Addr) (pn : List (Addr × Obj)) (n : Str) : Fits (X.suite a pn) { S with hot := some n } C :=
  ⟨Y.F.hN, Y.F.nd, Y.F.sc, Y.F.fn, Y.F.gl, Y.F.hu, fun z => (by cases z), fun z => (by cases z), Y.F.stk, fun z => (by cases z)⟩
theorem hk_list (hk : Hk) (c : Nat) : ∀ ds, hk.d c ≠ .list ds := fun ds => by
  cases hk with
  | ref cs =>
    show refD cs c ≠ _
    unfold refD
    split <;> exact fun z => nomatch z
  | isv k => exact fun z => nomatch z
  | iss k a b => exact fun z => nomatch z
/-- try: .. except x as n: return y(n) -/
theorem stTr {X : Cx} {S : Sx} {W : WX} (Y : FitS X S C Hd W cs) {i k f : Nat} {b : Ss} {n y : Str} {hk : Hk} {v : Expr} {body : List Stmt} {np rp hp pos : Pos} (g2 : k ≠ 101) (g3 : S.G.ks.contains k = true) (g4 : glb S.sc (xname k) = true) (g5 : okName (xname k) = true) (g6 : S.N[i]? = some n) (g7 : isLoc S.sc n = true) (g8 : okName n = true) (hf : S.G.hots[f]? = some (y, hk)) (g9 : chkHv S n y hk v = true)
    (hb : ∀ (W' : WX) (pn : List (Addr × Obj)) (xe : Value → Shared → Prop), Takes (X.tr pn xe) W' → PassesOwn (model X.prog X.w) X.A X.env xe → PSs (X.tr pn xe) body (tS S.fr X.K W' mu R0 H0 fun env => rn C Hd b env)) :
    PS X (.Try body [.ExceptHandler (some (.Name (xname k) np)) (some n) [.Return (some v) rp] hp] [] [] pos) (tS S.fr X.K W mu R0 H0 fun env => rn1 C Hd (.tr i k b f) env) := by
  have hi : X.N[i]? = some n := by rw [Y.F.hN]; exact g6
  have hln : X.env.kindOf n = some .local := by show X.env.scope.names.lookup n = _; rw [Y.F.sc]; exact isLoc_ g7
  have kin : k ∈ S.G.ks := isMem g3
  have nm : Names X (xname k) (.ref (He.ga X.K (xname k))) := ⟨Y.F.glb g4, (okName_ g5).1, .inl (Y.hg.mg k kin g2)⟩
  have xv : xval X.K k = .ref (He.ga X.K (xname k)) := by unfold xval; rw [if_neg g2]
  have main : (∀ (a : Addr) (oe : Obj) (c : Nat) (pn : List (Addr × Obj)), Zc (xcls X.K c) none oe → (∃ vs, oe.data = .fields vs) → c ∈ S.G.xs → PE (X.suite a ((a, oe) :: pn)) v (fun σ H Q => σ[i]? = some (some (.ref a)) ∧ ∃ R, Same R H ∧ ∀ v H' R', Ext R H R' H' → Dn X.K R' v (hk.d c) → Q v H')) →
      PS X (.Try body [.ExceptHandler (some (.Name (xname k) np)) (some n) [.Return (some v) rp] hp] [] [] pos) (tS S.fr X.K W mu R0 H0 fun env => rn1 C Hd (.tr i k b f) env) := by
    intro hv
    refine psImp (ps_try_as (Wout := W) (ts := fun a cls d D σ H => ∃ (c : Nat) (σ' : L2.St), cls = xcls X.K c ∧ d = none ∧ c ∈ S.G.xs ∧ σ = σ'.set i (some (.ref a)) ∧ ∃ R, Same R H ∧ ∀ v H' R', Ext R H R' H' → Dn X.K R' v (hk.d c) → D.rt v H') Y.stk Y.frm Y.F.nd hi hln nm Y.tk hb ?suite) fun D σ H ⟨R, env, rel, hw⟩ => ?_
    case suite =>
      intro a oe cls d pn hz hfl
      refine ⟨fun pins s σ H D I hts => ?_⟩
      obtain ⟨c, σ', rfl, rfl, hc, rfl, want⟩ := hts
      have call := hv a oe c pn hz hfl hc
      have il : i < (σ'.set i (some (V.ref a))).length := by
        have h1 := I.len
        have h2 : i < X.N.length := (List.getElem?_eq_some_iff.mp hi).1
        rw [h1]; exact h2
      exact (pss_one (ps_ret call)).run pins s _ H D I ⟨by rw [List.length_set] at il; rw [List.getElem?_set_self il], want⟩
    refine ⟨R, env, rel, ?_⟩
    have hw : WantS S.fr X.K W mu R0 H0 R D (trR (Hd f) k (rn C Hd b env)) := hw
    show WantS S.fr X.K _ mu R0 H0 R D (rn C Hd b env)
    revert hw
    cases rn C Hd b env with
    | nx env' => exact fun hw σ' H' R' sm r => hw σ' H' R' sm r
    | rt d => exact fun hw => hw
    | stuck => exact fun hw => hw
    | xc c env' =>
      intro hw
      have hw : WantS S.fr X.K W mu R0 H0 R D (match Hd f c with | .ok d => if subX c k then Fl.rt d else .xc c env' | _ => .stuck) := hw
      cases qh : Hd f c with
      | exc z => rw [qh] at hw; exact hw.elim
      | stuck => rw [qh] at hw; exact hw.elim
      | ok d =>
        rw [qh] at hw
        obtain ⟨y2, h2, hf2, hc, rfl⟩ := Y.hd f c d qh
        rw [hf] at hf2
        cases hf2
        show ∀ (σ' : L2.St) (H' R' : Hp), RelS X.K mu R0 H0 R' H' σ' env' → _
        intro σ' H' R' rel'
        refine ⟨subX c k, by rw [← xv]; exact (Y.xf c hc).exm k kin, fun hb1 a na => ?_, fun hb1 => ?_⟩
        · refine ⟨c, σ', rfl, rfl, hc, rfl, R', rel'.ext.sub, fun v H2 R2 ext dn => ?_⟩
          rw [hb1] at hw
          have hw : RtW S.fr X.K R0 H0 (hk.d c) D.rt := hw
          exact hw.1 (.inr (hk_list hk c)) v H2 R2 (rel'.ext.trans ext) dn
        · rw [hb1] at hw
          exact hw σ' H' R' rel'
  have vn : vis S.sc n = true := by unfold vis; rw [isLoc_ g7]
  unfold chkHv at g9
  by_cases hy : y = ("" : Str)
  · rw [if_pos hy] at g9
    refine main fun a oe c pn hz hfl hc => ?_
    have FX := Y.suite a ((a, oe) :: pn) n
    have hx : HotX (X.suite a ((a, oe) :: pn)) a oe c := ⟨List.mem_cons_self, hz, hfl⟩
    exact pe_in FX ⟨Y.hg.mg⟩ (Y.xf c hc) hx g6 vn g8 g9
  · rw [if_neg hy] at g9
    split at g9
    · rename_i y' e qc
      obtain ⟨p1, pos1, rfl⟩ := asCall_ qc
      simp only [Bool.and_eq_true, decide_eq_true_eq] at g9
      obtain ⟨⟨⟨⟨e1, e2⟩, e3⟩, e4⟩, e5⟩ := g9
      subst e1
      obtain ⟨p2, rfl⟩ := asName_ e2
      obtain ⟨fa, fd, kk, px, m1, m2, m3, m4, m5⟩ := (Y.hots f y' hk hf e5).ex
      refine main fun a oe c pn hz hfl hc => ?_
      have FX := Y.suite a ((a, oe) :: pn) n
      have hx : HotX (X.suite a ((a, oe) :: pn)) a oe c := ⟨List.mem_cons_self, hz, hfl⟩
      have nn := okName_ g8
      have he : PE (X.suite a ((a, oe) :: pn)) (.Name n p2) (tVar i) := pe_var hi (by show Vis X.env.scope n; rw [Y.F.sc]; exact vis_ok vn) nn.1 nn.2.1
      have room : L2H.RoomH kk (X.suite a ((a, oe) :: pn)).A := ⟨m5.dp, m5.un⟩
      exact pe_callE (X := X.suite a ((a, oe) :: pn)) m4 room hx hc (FX.glb e3) m1 m2 m3 he (okName_ e4).1 (q := p1) (pos := pos1) rfl
    · cases g9
mutual
theorem sS : ∀ (s : S) {X : Cx} {S : Sx} {W : WX} {st : Stmt}, FitS X S C Hd W cs → chkS s S mu cs st = true → PS X st (tS S.fr X.K W mu R0 H0 fun env => rn1 C Hd s env)
  | .set i m e, X, S, W, st, Y, h => by
    cases st with
    | Assign tgs v pos =>
      match tgs, h with
      | [], h => exact absurd h (by simp [chkS])
      | [tg], h =>
        rw [chkS] at h
        split at h
        · rename_i x q
          obtain ⟨p, rfl⟩ := asName_ q
          simp only [Bool.and_eq_true] at h
          obtain ⟨⟨⟨⟨h1, h2⟩, h3⟩, h4⟩, h5⟩ := h
          exact stSet (asg_of Y h1 h2 h5) (notMem h3) (orB h4)
        · cases h
      | _ :: _ :: _, h => exact absurd h (by simp [chkS])
    | _ => exact absurd h (by simp [chkS])
  | .own i e, X, S, W, st, Y, h => by
    cases st with
    | Assign tgs v pos =>
      match tgs, h with
      | [], h => exact absurd h (by simp [chkS])
      | [tg], h =>
        rw [chkS] at h
        split at h
        · rename_i x q
          obtain ⟨p, rfl⟩ := asName_ q
          simp only [Bool.and_eq_true, Bool.not_eq_true'] at h
          obtain ⟨⟨⟨⟨⟨h1, h2⟩, h3⟩, h4⟩, h5⟩, h6⟩ := h
          exact stOwn (own_of Y h1 h2 h5 h6) (isMem h3) h4
        · cases h
      | _ :: _ :: _, h => exact absurd h (by simp [chkS])
    | _ => exact absurd h (by simp [chkS])
  | .fls i e, X, S, W, st, Y, h => by
    cases st with
    | Assign tgs v pos =>
      match tgs, h with
      | [], h => exact absurd h (by simp [chkS])
      | [tg], h =>
        rw [chkS] at h
        split at h
        · rename_i x q
          obtain ⟨p, rfl⟩ := asName_ q
          simp only [Bool.and_eq_true] at h
          obtain ⟨⟨⟨⟨h1, h2⟩, h3⟩, h5⟩, h6⟩ := h
          exact stFls (own_of Y h1 h2 (isNewS_ h5) h6) (notMem h3)
        · cases h
      | _ :: _ :: _, h => exact absurd h (by simp [chkS])
    | _ => exact absurd h (by simp [chkS])
  | .ofl i e, X, S, W, st, Y, h => by
    cases st with
    | Assign tgs v pos =>
      match tgs, h with
      | [], h => exact absurd h (by simp [chkS])
      | [tg], h =>
        rw [chkS] at h
        split at h
        · rename_i x q
          obtain ⟨p, rfl⟩ := asName_ q
          simp only [Bool.and_eq_true] at h
          obtain ⟨⟨⟨⟨h1, h2⟩, h3⟩, h5⟩, h6⟩ := h
          exact stOfl (own_of Y h1 h2 (isNewS_ h5) h6) (isMem h3)
        · cases h
      | _ :: _ :: _, h => exact absurd h (by simp [chkS])
    | _ => exact absurd h (by simp [chkS])
  | .unp is e, X, S, W, st, Y, h => by
    cases st with
    | Assign tgs v pos =>
      match tgs, h with
      | [], h => exact absurd h (by simp [chkS])
      | [tg], h =>
        rw [chkS] at h
        simp only [Bool.and_eq_true, Bool.not_eq_true'] at h
        obtain ⟨⟨⟨⟨⟨h1, h2⟩, h4⟩, h5⟩, h6⟩, h7⟩ := h
        cases h3 : isComp v with
        | false =>
          rw [h3] at h7
          exact stUnp (sE e Y.F Y.tk h7) (pg_of Y.F (Y.F.calm Y.hot) h2) h3 h4 h1 h5 fun i hi => notMem (List.all_eq_true.mp h6 i hi)
        | true =>
          rw [h3, if_pos rfl] at h7
          obtain ⟨t, it, c, x, rfl, h7⟩ := chkUl_ h7
          have h5' : mnE mu (.lc t it c x) = false := by
            have : (mnE mu (.lc t it c x) || false) = false := h5
            simpa using this
          exact stUnl (sE _ Y.F Y.tk h7) (pg_ofL Y.F (Y.F.calm Y.hot) h2) h4 h1 h5' (fun i hi => notMem (List.all_eq_true.mp h6 i hi)) fun env d q => lc_list_ env d q
      | _ :: _ :: _, h => exact absurd h (by simp [chkS])
    | _ => exact absurd h (by simp [chkS])
  | .par i j a b, X, S, W, st, Y, h => by
    rw [chkS] at h
    split at h
    · rename_i x y z vb q
      obtain ⟨px, py, kt, pt, pz, k2, pt2, pos, rfl, hl⟩ := asPar_ q
      simp only [Bool.and_eq_true, Bool.not_eq_true', decide_eq_true_eq] at h
      obtain ⟨⟨⟨⟨⟨⟨⟨⟨⟨⟨⟨⟨g1, g2⟩, g3⟩, g4⟩, g5⟩, g6⟩, g7⟩, g8⟩, g9⟩, g10⟩, g11⟩, g12⟩, g13⟩ := h
      have lx : X.env.scope.names.lookup x = some .local := by rw [Y.F.sc]; exact isLoc_ g5
      have ly : X.env.scope.names.lookup y = some .local := by rw [Y.F.sc]; exact isLoc_ g6
      have hv : chkE a S (.Name z pz) = true := by
        cases a with
        | var m =>
          have g8 : (decide (S.N[m]? = some z) && vis S.sc z) = true := g8
          rw [chkE, g7]
          simp only [Bool.and_eq_true] at g8 ⊢
          simp [g8]
        | _ => cases g8
      exact stPar (Y.F.calm Y.hot) Y.F.nd Y.kind (by rw [Y.F.hN]; exact g1) (by rw [Y.F.hN]; exact g2) g3 g4 lx ly hl (okName_ g7).1 (noStar g9) (sE a Y.F Y.tk hv) (sE b Y.F Y.tk g9) g10 g11 (notMem (by rw [g12]; rfl)) (notMem (by rw [g13]; rfl))
    · cases h
  | .app i m e, X, S, W, st, Y, h => by
    cases st with
    | Expr v pos =>
      rw [chkS] at h
      split at h
      · rename_i x w q
        obtain ⟨p1, p2, p3, rfl, hl⟩ := asApp_ q
        simp only [Bool.and_eq_true] at h
        obtain ⟨⟨⟨⟨⟨h1, h2⟩, h2'⟩, h3⟩, h4⟩, h5⟩ := h
        have nn := okName_ h2'
        exact stApp (pe_var (Y.F.name h1) (by rw [Y.F.sc]; exact vis_ok h2) nn.1 nn.2.1) (sE e Y.F Y.tk h5) (isMem h3) (orB h4) (star1 (noStar h5) [] X.env) hl
      · cases h
    | _ => exact absurd h (by simp [chkS])
  | .ext i e, X, S, W, st, Y, h => by
    cases st with
    | Expr v pos =>
      rw [chkS] at h
      split at h
      · rename_i x w q
        obtain ⟨p1, p2, p3, rfl, hl⟩ := asExt_ q
        simp only [Bool.and_eq_true, Bool.not_eq_true'] at h
        obtain ⟨⟨⟨⟨⟨h1, h2⟩, h2'⟩, h3⟩, h4⟩, h5⟩ := h
        have nn := okName_ h2'
        exact stExt (pe_var (Y.F.name h1) (by rw [Y.F.sc]; exact vis_ok h2) nn.1 nn.2.1) (sE e Y.F Y.tk h5) (isMem h3) h4 (star1 (noStar h5) [] X.env) hl
      · cases h
    | _ => exact absurd h (by simp [chkS])
  | .put i m k e, X, S, W, st, Y, h => by
    cases st with
    | Assign tgs v pos =>
      match tgs, h with
      | [], h => exact absurd h (by simp [chkS])
      | [tg], h =>
        rw [chkS] at h
        split at h
        · rename_i x w q
          obtain ⟨p1, p2, rfl⟩ := asSub_ q
          simp only [Bool.and_eq_true, Bool.not_eq_true'] at h
          obtain ⟨⟨⟨⟨⟨⟨⟨⟨⟨h1, h2⟩, h2'⟩, h3⟩, h4⟩, h5⟩, h6⟩, h7⟩, h8⟩, h9⟩ := h
          have nn := okName_ h2'
          exact stPut (pe_var (Y.F.name h1) (by rw [Y.F.sc]; exact vis_ok h2) nn.1 nn.2.1) (sE e Y.F Y.tk h9) (sE k Y.F Y.tk h8) (isMem h3) (orB (by rw [h4])) h5 h6 h7
        · cases h
      | _ :: _ :: _, h => exact absurd h (by simp [chkS])
    | _ => exact absurd h (by simp [chkS])
  | .ret e, X, S, W, st, Y, h => by
    cases st with
    | Return v pos =>
      cases v with
      | none => exact absurd h (by simp [chkS])
      | some v =>
        rw [chkS, Bool.and_eq_true] at h
        cases q : S.fr with
        | false => exact stRet rfl (sE e Y.F Y.tk h.1)
        | true => rw [q] at h; exact retF Y.F Y.tk Y.hot (by simpa using h.2) h.1
    | _ => exact absurd h (by simp [chkS])
  | .ech i j xs c, X, S, W, st, Y, h => by
    rw [chkS] at h
    split at h
    · rename_i x es y v q
      obtain ⟨kk, p1, p2, p3, q1, q2, q3, q4, q5, q6, q7, r1, r2, r3, r4, rfl, l1, l2⟩ := asEch_ q
      simp only [Bool.and_eq_true, Bool.not_eq_true', decide_eq_true_eq] at h
      obtain ⟨⟨⟨⟨⟨⟨⟨⟨⟨⟨⟨⟨h1, h2⟩, h3⟩, h4⟩, h5⟩, h6⟩, h7⟩, h8⟩, h9⟩, h10⟩, h11⟩, h12⟩, h13⟩ := h
      obtain ⟨n1, n2, _⟩ := okName_ h4
      obtain ⟨m1, m2, _⟩ := okName_ h7
      obtain ⟨b1, b2, _, _⟩ := Y.F.bltn h11
      have vx : ∀ p, PE X (.Name x p) (tVar i) := fun p => pe_var (by rw [Y.F.hN]; exact h1) (by rw [Y.F.sc]; exact vis_ok h3) n1 n2
      have tg : PG X (.Name x p1) (tgD X.K (.nm i)) := pg_of Y.F (Y.F.calm Y.hot) (by show (decide (S.N[i]? = some x) && sto S x) = true; rw [h2, Bool.and_true]; exact decide_eq_true h1)
      exact stEch Y.hp (Y.F.calm Y.hot) tg (plPa Y.F Y.tk Y.hot h13) (pe_var (by rw [Y.F.hN]; exact h5) (by rw [Y.F.sc]; exact vis_ok h6) m1 m2) (vx _) (vx _) b1 b2 (sE _ Y.F Y.tk h12) (by simpa using h8) (isMem h9) h10 (star1 (noStar h12) [] X.env) l1 l2
    · cases h
  | .retn, X, S, W, st, Y, h => by
    cases st with
    | Return v pos =>
      cases v with
      | none => exact stRetN
      | some v => exact absurd h (by simp [chkS])
    | _ => exact absurd h (by simp [chkS])
  | .ifs c a b, X, S, W, st, Y, h => by
    cases st with
    | If t x y pos =>
      rw [chkS] at h
      simp only [Bool.and_eq_true] at h
      exact stIf (sE c Y.F Y.tk h.1.1) (sSs a Y h.1.2) (sSs b Y h.2)
    | _ => exact absurd h (by simp [chkS])
  | .fr t it b, X, S, W, st, Y, h => by
    cases st with
    | For tg iter body els pos =>
      match els, h with
      | [], h =>
        rw [chkS] at h
        simp only [Bool.and_eq_true, Bool.not_eq_true'] at h
        obtain ⟨⟨⟨⟨⟨h1, h2⟩, h3⟩, h4⟩, h5⟩, h6⟩ := h
        exact stFor Y.hp (Y.F.calm Y.hot) (tp_of h1) (sI it Y.F Y.tk h2) (pg_of Y.F (Y.F.calm Y.hot) h1) (sSs b Y h6) h3 h4 fun i hi => notMem (List.all_eq_true.mp h5 i hi)
      | _ :: _, h => exact absurd h (by simp [chkS])
    | _ => exact absurd h (by simp [chkS])
  | .wh c b, X, S, W, st, Y, h => by
    cases st with
    | While t body els pos =>
      match els, h with
      | [], h =>
        rw [chkS] at h
        simp only [Bool.and_eq_true] at h
        exact stWh Y.hp (sE c Y.F Y.tk h.1) (sSs b Y h.2)
      | _ :: _, h => exact absurd h (by simp [chkS])
    | _ => exact absurd h (by simp [chkS])
  | .rs c m, X, S, W, st, Y, h => by
    cases st with
    | Raise v w pos =>
      match v, w, h with
      | some v, none, h =>
        rw [chkS] at h
        split at h
        · rename_i x m' q
          obtain ⟨p, j, p2, pos', rfl⟩ := asRs_ q
          simp only [Bool.and_eq_true, decide_eq_true_eq] at h
          obtain ⟨⟨⟨h1, h2⟩, h3⟩, h4⟩ := h
          subst h1
          exact stRs (Y.F.calm Y.hot) Y.tk (Y.ex X.pn X.xe c (isMem h2) _ _ _ _ _ (Y.F.glb h3) (okName_ h4).1)
        · cases h
      | none, _, h => exact absurd h (by simp [chkS])
      | some _, some _, h => exact absurd h (by simp [chkS])
    | _ => exact absurd h (by simp [chkS])
  | .tr i k b f, X, S, W, st, Y, h => by
    rw [chkS] at h
    split at h
    · rename_i body te n v q
      obtain ⟨p1, p2, p3, rfl⟩ := asTry_ q
      split at h
      · rename_i x y hk q1 q2
        obtain ⟨np, rfl⟩ := asName_ q1
        simp only [Bool.and_eq_true, decide_eq_true_eq] at h
        obtain ⟨⟨⟨⟨⟨⟨⟨⟨⟨g1, g2⟩, g3⟩, g4⟩, g5⟩, g6⟩, g7⟩, g8⟩, g9⟩, g10⟩ := h
        subst g1
        exact stTr Y g2 g3 g4 g5 g6 g7 g8 q2 g9 fun W' pn xe tk' hp' => sSs b (Y.tr pn xe tk' hp') g10
      · cases h
    · cases h
  | .ex e, X, S, W, st, Y, h => by
    cases st with
    | Expr v pos =>
      rw [chkS] at h
      simp only [Bool.and_eq_true, Bool.not_eq_true'] at h
      exact stEx (sE e Y.F Y.tk h.1) h.2
    | _ => exact absurd h (by simp [chkS])
  | .skip, X, S, W, st, Y, h => by
    cases st with
    | Pass pos => exact stSkip
    | _ => exact absurd h (by simp [chkS])
theorem sSs : ∀ (s : Ss) {X : Cx} {S : Sx} {W : WX} {st : List Stmt}, FitS X S C Hd W cs → chkSs s S mu cs st = true → PSs X st (tS S.fr X.K W mu R0 H0 fun env => rn C Hd s env)
  | .nil, X, S, W, st, Y, h => by
    cases st with
    | nil => exact stNil
    | cons s st => exact absurd h (by simp [chkSs])
  | .cons a r, X, S, W, st, Y, h => by
    cases st with
    | nil => exact absurd h (by simp [chkSs])
    | cons s st =>
      rw [chkSs, Bool.and_eq_true] at h
      exact stCons (sS a Y h.1) (sSs r Y h.2)
end
end
end Z
end
section
/-! Z12: functions. -/
namespace Z
open PySem PySem.Spec PyProof.Rows L2
/-- a def of the program's text, and its form here -/
structure Fd where
  st : Stmt
  name : Str
  N : List Str
  ps : List Str
  mu : List Nat
  df : Df
  cls : Option Nat := none
  fr : Bool := false
/-- a def as it stands in the text -/
structure Sd where
  st : Stmt
  name : Str
  ps : List Str
  cls : Option Nat
def Fd.sd (f : Fd) : Sd := ⟨f.st, f.name, f.ps, f.cls⟩
/-- where it stands -/
def Sd.at_ (f : Sd) : Str × Option Str := match f.cls with
  | none => (f.name, none)
  | some c => (cname c, some f.name)
def qualN (c : Option Nat) (x : Str) : Str := match c with
  | none => x
  | some c => cname c ++ (("." : Str) ++ x)
def Sd.qual (f : Sd) : Str := qualN f.cls f.name
def Sd.gn (f : Sd) : Str := match f.cls with
  | none => f.name
  | some _ => ""
def Sd.ad (K : PySem.W.Frag) (f : Sd) : Addr := He.fAd K f.at_
def scOk (N ps : List Str) (sc : Scope) : Bool :=
  (match sc.kind with | .function => true | _ => false) && !sc.isCoroutine && !sc.isGenerator && decide N.Nodup && decide (N.take ps.length = ps) && ps.all (fun x => match sc.names.lookup x with | some .local => true | some .cell => true | _ => false) && sc.names.all (fun y => match y.2 with | .free => false | _ => true)
theorem scOk_ {N ps : List Str} {sc : Scope} (h : scOk N ps sc = true) : FnScope N ps sc := by
  unfold scOk at h
  simp only [Bool.and_eq_true, Bool.not_eq_true', decide_eq_true_eq, List.all_eq_true] at h
  obtain ⟨⟨⟨⟨⟨⟨h1, h2⟩, h3⟩, h4⟩, h5⟩, h6⟩, h7⟩ := h
  refine ⟨?_, h2, h3, h4, h5, fun x hx => ?_, fun y hy e => ?_⟩
  · split at h1
    · assumption
    · cases h1
  · have := h6 x hx
    split at this
    · left; assumption
    · right; assumption
    · cases this
  · have := h7 y hy
    rw [e] at this
    cases this
def Fd.chk (G : GT) (cs : List Nat) (f : Fd) : Bool :=
  scOk f.N f.ps (defScope f.st) && decide (f.N.length = f.df.nn) && decide (f.ps.length = f.df.np) && f.mu.all (fun i => decide (f.df.np ≤ i)) &&
    chkSs f.df.body ⟨f.N, defScope f.st, fun _ => true, G, none, true, f.fr⟩ f.mu cs (defBody f.st)
/-- a def as it stands behind the top -/
structure FnAt (K : PySem.W.Frag) (mg : Str → Option Value) (f : Sd) : Prop where
  ex : ∃ fd, FunD K f.name f.qual (defArgs f.st) (defBody f.st) (defScope f.st) [] [] (f.ad K) fd ∧ Binds K fd f.ps []
  mg : f.cls = none → mg f.name = some (.ref (f.ad K))
  mt : ∀ c, f.cls = some c → Meth K (He.ga K (cname c)) f.name (f.ad K)
structure ExcAt (K : PySem.W.Frag) (mg : Str → Option Value) (c : Nat) : Prop where
  a : PySem.W.excIn K (He.ga K (xname c)) He.veBase "ValueError.__new__" = true
  k : PySem.W.keepIn K (.ref (He.ga K (xname c))) = true
  s : PySem.W.subIn K (.ref (He.ga K (xname c))) (.type "BaseException") = some true
  t : PySem.W.typeIn K (.ref (He.ga K (xname c))) = some (.type "type")
  mg : mg (xname c) = some (.ref (He.ga K (xname c)))
/-- a def that tells of a refusal -/
structure Hf where
  st : Stmt
  name : Str
  N : List Str
  p : Str
  m : Nat
  hk : Hk
def Hf.chk (G : GT) (f : Hf) : Bool := scOk f.N [f.p] (defScope f.st) && (match f.hk with
  | .ref cs => chkRef ⟨f.N, defScope f.st, fun _ => true, G, some f.p, false, false⟩ G.ks cs f.m (defBody f.st) && decide (f.N[0]? = some f.p)
  | _ => false)
structure HfAt (K : PySem.W.Frag) (mg : Str → Option Value) (f : Hf) : Prop where
  ex : ∃ fd, FunD K f.name f.name (defArgs f.st) (defBody f.st) (defScope f.st) [] [] (He.ga K f.name) fd ∧ Binds K fd [f.p] []
  mg : mg f.name = some (.ref (He.ga K f.name))
def tbOf (fs : List Fd) (G : GT) : Tb := ⟨fs.map Fd.df, G.hots.map (·.2), G.xs⟩
structure World0 (K : PySem.W.Frag) (w : World) (mg : Str → Option Value) (G : GT) (cs : List Nat) (fs : List Fd) (hs : List Hf) : Prop where
  gl : Glob K w mg G
  fn : ∀ f ∈ fs, FnAt K mg f.sd
  ex : ∀ c ∈ cs, ExcAt K mg c
  nm : G.fns = fs.map fun f => f.sd.gn
  ck : ∀ f ∈ fs, f.chk G cs = true
  hf : ∀ f ∈ hs, HfAt K mg f
  hn : ∀ (i : Nat) (y : Str) (h : Hk), G.hots[i]? = some (y, h) → y ≠ ("" : Str) → ∃ f ∈ hs, f.name = y ∧ f.hk = h
  hc : ∀ f ∈ hs, f.chk G = true
  xf : ∀ c ∈ G.xs, ExcF K G.ks c
  kg : ∀ k ∈ G.ks, k ≠ 101 → mg (xname k) = some (.ref (He.ga K (xname k)))
  mt : ∀ g c m, (g, c, m) ∈ G.mts → ∃ gd, fs[g]? = some gd ∧ gd.cls = some c ∧ gd.name = m
  fr : ∀ (g : Nat) (gd : Fd), fs[g]? = some gd → G.frs.contains g = gd.fr
def spF (K : PySem.W.Frag) (T : Tb) (fr : Bool) (n f np : Nat) : Sp := fun vs H Q E => vs.length = np ∧ ∃ R ds, Same R H ∧ DnA K R vs ds ∧ WantR fr K (fun cls d _ H => E cls d H) [] R H (callF T n f ds) Q
theorem exsOf {K : PySem.W.Frag} {mg : Str → Option Value} {cs : List Nat} (h : ∀ c ∈ cs, ExcAt K mg c) {X : Cx} (eK : X.K = K) (em : X.mg = mg) : Exs X cs := by
  intro c hc m j p p2 pos hg hd
  subst eK em
  have e := h c hc
  exact pmk_own PySem.F.excBase_ValueError e.a e.mg e.k (raises_own e.s e.t) hg hd
theorem start_rel {K : PySem.W.Frag} {R H : Hp} {N : List Str} {vs : List V} {ds : List PyData} {mu : List Nat} (s : Same R H) (d : DnA K R vs ds) (hm : ∀ i ∈ mu, ds.length ≤ i) : RelS K mu R H R H (start N vs) (ds.map some ++ List.replicate (N.length - ds.length) none) := by
  have hl := d.length
  have none_ : ∀ i (x : PyData), ds.length ≤ i → (ds.map some ++ List.replicate (N.length - ds.length) none)[i]? = some (some x) → False := by
    intro i x hi e
    rw [List.getElem?_append_right (by simpa using hi)] at e
    have := List.mem_of_getElem? e
    simp at this
  refine ⟨Ext.refl s, by simp [L2.start, hl], ?_, ?_, ?_⟩
  · intro i x hi e
    by_cases hlt : i < ds.length
    · rw [List.getElem?_append_left (by simpa using hlt), List.getElem?_map] at e
      have e2 : ds[i]? = some x := by
        cases q : ds[i]? with
        | none => rw [q] at e; cases e
        | some y => rw [q] at e; cases e; rfl
      obtain ⟨v, hv, dn⟩ := d.get e2
      refine ⟨v, ?_, dn⟩
      unfold L2.start
      rw [List.getElem?_append_left (by simpa [hl] using hlt), List.getElem?_map, hv]
      rfl
    · exact (none_ i x (Nat.le_of_not_lt hlt) e).elim
  · exact fun i x hi e => (none_ i x (hm i hi) e).elim
  · exact fun i j a hi hj _ ⟨x, e⟩ _ _ _ => (none_ i x (hm i hi) e).elim
theorem xfl (r : Fl) : True := trivial
def Fl.res : Fl → Res PyData
  | .rt x => .ok x
  | .nx _ => .ok .none
  | .xc c _ => .exc c
  | .stuck => .stuck
theorem runD_eq (C : Nat → List PyData → Res PyData) (Hd : Nat → Nat → Res PyData) (d : Df) (args : List PyData) (h : args.length = d.np) : runD C Hd d args = (rn C Hd d.body (args.map some ++ List.replicate (d.nn - d.np) none)).res := by
  unfold runD
  rw [if_pos h]
  cases rn C Hd d.body (args.map some ++ List.replicate (d.nn - d.np) none) <;> rfl
section
variable {P : Program} {w : World} {K : PySem.W.Frag} {mg : Str → Option Value} {base : Heap} {G : GT} {cs : List Nat} {fs : List Fd} {hs : List Hf}
theorem WantR.stuck_no {fr : Bool} {K : PySem.W.Frag} {W : WX} {σ : L2.St} {R H : Hp} {Q : VK} (h : WantR fr K W σ R H .stuck Q) : False := h
theorem WantR.len {fr : Bool} {T : Tb} {W : WX} {σ : L2.St} {R H : Hp} {n f : Nat} {d : Df} {ds : List PyData} {Q : VK} (hT : T.fs[f]? = some d) (h : WantR fr K W σ R H (callF T n f ds) Q) : ds.length = d.np := by
  cases n with
  | zero => exact (WantR.stuck_no h).elim
  | succ n =>
    by_cases e : ds.length = d.np
    · exact e
    · have : callF T (n + 1) f ds = .stuck := by
        show (match T.fs[f]? with | some d => runD (callF T n) (hotF T) d ds | none => .stuck) = _
        rw [hT]
        show runD _ _ _ _ = _
        unfold runD
        rw [if_neg e]
      rw [this] at h
      exact (WantR.stuck_no h).elim
theorem hot_ok (V : World0 K w mg G cs fs hs) {f : Hf} (hf : f ∈ hs) : ∀ fdat, FunD K f.name f.name (defArgs f.st) (defBody f.st) (defScope f.st) [] [] (He.ga K f.name) fdat → FnE P w K mg base 1 (He.ga K f.name) fdat f.p G.xs f.hk := by
  intro fdat F
  have ck := V.hc f hf
  unfold Hf.chk at ck
  rw [Bool.and_eq_true] at ck
  obtain ⟨c1, c2⟩ := ck
  have sc := scOk_ c1
  refine fnE_of F sc fun cdv A outer s H a oe c Q hc room z fl want => ?_
  split at c2
  · rename_i cs' hk
    rw [Bool.and_eq_true, decide_eq_true_eq] at c2
    let X : Cx := L2H.cxH CX0 P w K mg base f.N f.name (defScope f.st) (He.ga K f.name) cdv A outer s H E0 (a, oe)
    have Y : Fits X ⟨f.N, defScope f.st, fun _ => true, G, some f.p, false, false⟩ (fun _ _ => .stuck) := ⟨rfl, sc.nd, rfl, rfl, V.gl, by have := room.un; show (A.deeper _).units + 65 < cLine; omega, fun z => (by cases z), fun z => (by cases z), fun z => (by cases z), fun z => (by cases z)⟩
    have hN : ∃ y, f.N = [f.p, y] := by
      obtain ⟨q1, q2⟩ := c2
      unfold chkRef at q1
      split at q1
      · split at q1
        · rename_i ev fl hh
          have hh : f.N = [ev, fl] := hh
          rw [hh] at q2
          cases q2
          exact ⟨fl, hh⟩
        · cases q1
      · cases q1
    obtain ⟨y, hN⟩ := hN
    refine ⟨_, ref_body (X := X) (W := fun _ _ _ _ => False) Y takes0 ⟨V.kg⟩ (V.xf c hc) ⟨List.mem_singleton.mpr rfl, z, fl⟩ c2.1, ?_⟩
    obtain ⟨R, sub, k⟩ := want
    refine ⟨R, ?_, sub, ?_⟩
    · show L2.start f.N [.ref a] = _
      rw [hN]; rfl
    · rw [hk] at k; exact k
  · cases c2
theorem fns_ok (V : World0 K w mg G cs fs hs) : ∀ (n f : Nat) (fd : Fd), fs[f]? = some fd → ∀ fdat, FunD K fd.name fd.sd.qual (defArgs fd.st) (defBody fd.st) (defScope fd.st) [] [] (fd.sd.ad K) fdat → FnOk P w K mg base (L2.CX P w) (n + 1) (fd.sd.ad K) fdat fd.ps (spF K (tbOf fs G) (G.frs.contains f) n f fd.ps.length)
  | 0, f, fd, hf, fdat, F => ⟨fun vs H Q E h => h.1, fun A outer s H args us vs Q E hr e0 b r h => by
      obtain ⟨_, R, ds, _, _, h⟩ := h
      exact (WantR.stuck_no h).elim⟩
  | n + 1, f, fd, hf, fdat, F => by
    have hmem : fd ∈ fs := List.mem_of_getElem? hf
    have hck := V.ck fd hmem
    unfold Fd.chk at hck
    simp only [Bool.and_eq_true, decide_eq_true_eq] at hck
    obtain ⟨⟨⟨⟨h1, h2⟩, h3⟩, h4⟩, h5⟩ := hck
    have sc := scOk_ h1
    refine FunD.ok F sc (fun vs H Q E h => h.1) fun cdv A outer s H vs Q E hr h => ?_
    obtain ⟨hl, R, ds, sub, dn, hw⟩ := h
    have hT : (tbOf fs G).fs[f]? = some fd.df := by show (fs.map Fd.df)[f]? = _; rw [List.getElem?_map, hf]; rfl
    have hds : ds.length = fd.df.np := WantR.len hT hw
    have e0 : callF (tbOf fs G) (n + 1) f ds = (rn (callF (tbOf fs G) n) (hotF (tbOf fs G)) fd.df.body (ds.map some ++ List.replicate (fd.N.length - ds.length) none)).res := by
      show (match (tbOf fs G).fs[f]? with | some d => runD (callF (tbOf fs G) n) (hotF (tbOf fs G)) d ds | none => .stuck) = _
      rw [hT]
      show runD _ _ _ _ = _
      rw [runD_eq _ _ _ _ hds, h2, hds]
    rw [e0] at hw
    let X : Cx := cxOf (L2.CX P w) P w K mg base fd.N fd.sd.qual (defScope fd.st) (fd.sd.ad K) cdv A outer s H E
    have hroom : Room (n + 1) X.A := hr
    have Y : FitS X ⟨fd.N, defScope fd.st, fun _ => true, G, none, true, fd.fr⟩ (callF (tbOf fs G) n) (hotF (tbOf fs G)) (fun cls d _ H => E cls d H) cs := by
      refine ⟨⟨rfl, sc.nd, rfl, rfl, V.gl, by have := hroom.un; omega, fun _ => rfl, fun _ g x hg hne => ?_, fun _ => ⟨rfl, rfl⟩, fun _ g c m hg => ?mts⟩, takes_of rfl rfl rfl rfl, passes_of rfl, rfl, sc.kind, fun pn xe => exsOf V.ex rfl rfl, rfl, rfl, ⟨V.kg⟩, V.xf, fun f y h e0 ne => ?hots, fun f c d e0 => ?hd⟩
      case hots =>
        obtain ⟨hf0, hm, rfl, rfl⟩ := V.hn f y h e0 ne
        have hat := V.hf hf0 hm
        obtain ⟨hdat, HF, HB⟩ := hat.ex
        refine ⟨He.ga K hf0.name, hdat, 1, hf0.p, hat.mg, HF.kp, HB, hot_ok V hm hdat HF, ?_⟩
        exact ⟨by have := hroom.dp; omega, by have := hroom.un; omega⟩
      case hd =>
        have e0 : (match (G.hots.map (·.2))[f]? with | some h => if G.xs.contains c then Res.ok (h.d c) else .stuck | none => .stuck) = .ok d := e0
        rw [List.getElem?_map] at e0
        cases q : G.hots[f]? with
        | none => rw [q] at e0; cases e0
        | some p =>
          rw [q] at e0
          obtain ⟨y, h⟩ := p
          have e0 : (if G.xs.contains c then Res.ok (h.d c) else .stuck) = .ok d := e0
          cases qc : G.xs.contains c with
          | false => rw [qc] at e0; cases e0
          | true =>
            rw [qc] at e0
            cases e0
            exact ⟨y, h, rfl, by simpa using qc, rfl⟩
      case mts =>
        obtain ⟨gd, q, gc, rfl⟩ := V.mt g c m hg
        have ga := V.fn gd (List.mem_of_getElem? q)
        obtain ⟨gdat, GF, GB⟩ := ga.ex
        refine ⟨gd.sd.ad K, gdat, gd.ps, n + 1, spF K (tbOf fs G) (G.frs.contains g) n g gd.ps.length, ga.mt c gc, GB, fns_ok V n g gd q gdat GF, hroom, fun W σ R H vs ds Q sub dn hw => ?_⟩
        have hgk := V.ck gd (List.mem_of_getElem? q)
        unfold Fd.chk at hgk
        simp only [Bool.and_eq_true, decide_eq_true_eq] at hgk
        have hT' : (tbOf fs G).fs[g]? = some gd.df := by show (fs.map Fd.df)[g]? = _; rw [List.getElem?_map, q]; rfl
        refine ⟨by rw [dn.length, WantR.len hT' hw, hgk.1.1.2], R, ds, sub, dn, ?_⟩
        revert hw
        cases callF (tbOf fs G) n g ds with
        | ok d => cases d <;> exact id
        | exc c => exact id
        | stuck => exact id
      have hg : G.fns[g]? = some x := hg
      rw [V.nm, List.getElem?_map] at hg
      cases q : fs[g]? with
      | none => rw [q] at hg; cases hg
      | some gd =>
        rw [q] at hg
        have hg : gd.sd.gn = x := Option.some.inj hg
        have ga := V.fn gd (List.mem_of_getElem? q)
        have gc : gd.cls = none ∧ gd.name = x := by
          unfold Sd.gn at hg
          split at hg
          · rename_i e; exact ⟨e, hg⟩
          · exact absurd hg.symm hne
        obtain ⟨gc, rfl⟩ := gc
        obtain ⟨gdat, GF, GB⟩ := ga.ex
        refine ⟨gd.sd.ad K, gdat, gd.ps, n + 1, spF K (tbOf fs G) (G.frs.contains g) n g gd.ps.length, ga.mg gc, GF.kp, GB, fns_ok V n g gd q gdat GF, hroom, fun W σ R H vs ds Q sub dn hw => ?_⟩
        have hgk := V.ck gd (List.mem_of_getElem? q)
        unfold Fd.chk at hgk
        simp only [Bool.and_eq_true, decide_eq_true_eq] at hgk
        have hT' : (tbOf fs G).fs[g]? = some gd.df := by show (fs.map Fd.df)[g]? = _; rw [List.getElem?_map, q]; rfl
        refine ⟨by rw [dn.length, WantR.len hT' hw, hgk.1.1.2], R, ds, sub, dn, ?_⟩
        revert hw
        cases callF (tbOf fs G) n g ds with
        | ok d => cases d <;> exact id
        | exc c => exact id
        | stuck => exact id
    refine ⟨_, sSs (Hd := hotF (tbOf fs G)) (R0 := R) (H0 := H) fd.df.body Y h5, R, _, start_rel sub dn fun i hi => ?_, ?_⟩
    · rw [hds]; exact of_decide_eq_true (List.all_eq_true.mp h4 i hi)
    · dsimp only
      have ef : G.frs.contains f = fd.fr := V.fr f fd hf
      rw [ef] at hw
      revert hw
      cases rn (callF (tbOf fs G) n) (hotF (tbOf fs G)) fd.df.body (ds.map some ++ List.replicate (fd.N.length - ds.length) none) with
      | nx env' =>
        intro hw σ' H' R' s' r'
        have r' : RelS K fd.mu R H R' H' σ' env' := r'
        have hw : WantG K (fun cls d _ H => E cls d H) [] (denV K) R H (.ok .none) Q := hw
        exact hw .non H' R' r'.ext .non
      | rt d =>
        intro hw
        refine ⟨fun h0 v H' R' e' d' => ?_, fun h0 ds0 e0 => ?_⟩
        · have hw : WantR fd.fr K (fun cls d _ H => E cls d H) [] R H (.ok d) Q := hw
          cases d with
          | list es =>
            have hw : if fd.fr then FreshK K R H es Q else WantG K (fun cls d _ H => E cls d H) [] (denV K) R H (.ok (.list es)) Q := hw
            rcases h0 with z | z
            · rw [z, if_neg Bool.false_ne_true] at hw
              exact hw v H' R' e' d'
            · exact absurd rfl (z es)
          | none => exact (show WantG K (fun cls d _ H => E cls d H) [] (denV K) R H (.ok .none) Q from hw) v H' R' e' d'
          | bool b => exact (show WantG K (fun cls d _ H => E cls d H) [] (denV K) R H (.ok (.bool b)) Q from hw) v H' R' e' d'
          | int b => exact (show WantG K (fun cls d _ H => E cls d H) [] (denV K) R H (.ok (.int b)) Q from hw) v H' R' e' d'
          | str b => exact (show WantG K (fun cls d _ H => E cls d H) [] (denV K) R H (.ok (.str b)) Q from hw) v H' R' e' d'
          | tuple b => exact (show WantG K (fun cls d _ H => E cls d H) [] (denV K) R H (.ok (.tuple b)) Q from hw) v H' R' e' d'
          | dict b => exact (show WantG K (fun cls d _ H => E cls d H) [] (denV K) R H (.ok (.dict b)) Q from hw) v H' R' e' d'
        · have hw : WantR fd.fr K (fun cls d _ H => E cls d H) [] R H (.ok d) Q := hw
          subst e0
          have hw : if fd.fr = true then FreshK K R H ds0 Q else WantG K (fun cls d _ H => E cls d H) [] (denV K) R H (.ok (.list ds0)) Q := hw
          rw [show fd.fr = true from h0, if_pos rfl] at hw
          exact hw
      | xc c env' =>
        intro hw σ' H' R' r'
        have r' : RelS K fd.mu R H R' H' σ' env' := r'
        have hw : WantG K (fun cls d _ H => E cls d H) [] (denV K) R H (.exc c) Q := hw
        exact hw H' R' r'.ext
      | stuck => exact fun hw => hw
/-- the law's own wish -/
theorem law_sp {T : Tb} {n f : Nat} {H : Hp} {a : Addr} {ns : List Int} (hr : Rd H a (.lst (ns.map V.int))) (h : callF T n f [.list (ns.map .int)] = .ok (.bool true)) {fr : Bool} : spF K T fr n f 1 [.ref a] H (fun v _ => v = .bl true) fun _ _ _ => False := by
  refine ⟨rfl, H, [.list (ns.map .int)], Same.refl H, .cons (.lst hr ?_) .nil, ?_⟩
  · clear h hr
    induction ns with
    | nil => exact .nil
    | cons i r ih => exact .cons (.int i) ih
  · rw [h]
    intro v H' R' _ d
    cases d
    rfl
end
end Z
end
section
/-! Z13: what stands behind the top. -/
namespace Z
open PySem PySem.Spec PyProof.Rows L2
/-- no list lies in what is written -/
def noLst (K : PySem.W.Frag) : Bool := K.all fun p => match p.2.cls with
  | .type c => !decide (c = "list")
  | _ => true
theorem look_mem {K : PySem.W.Frag} {a : Addr} {o : Obj} (h : K.lookup a = some o) : ∃ b, (b, o) ∈ K := by
  induction K with
  | nil => cases h
  | cons p r ih =>
    obtain ⟨b, o'⟩ := p
    have h : (match a == b with | true => some o' | false => List.lookup a r) = some o := h
    cases q : a == b with
    | true => rw [q] at h; cases h; exact ⟨b, List.mem_cons_self⟩
    | false => rw [q] at h; obtain ⟨b2, h2⟩ := ih h; exact ⟨b2, List.mem_cons_of_mem _ h2⟩
theorem noLst_ok {K : PySem.W.Frag} {H : Hp} {a : Addr} {xs : List V} (h : noLst K = true) (s : SqL K H a xs) : Rd H a (.lst xs) := by
  rcases s with s | ⟨o, its, n, hk, hc, _⟩
  · exact s
  · obtain ⟨b, hm⟩ := look_mem hk
    have := List.all_eq_true.mp h _ hm
    rw [hc] at this
    simp at this
/-- it has no dict -/
def noDict (K : PySem.W.Frag) (a : Addr) : Bool := match K.lookup a with
  | some o => o.dict.isNone
  | none => false
theorem tupB_N {K : PySem.W.Frag} {x : Str} {vs : List He.Dv} (h : (He.tupB K x vs && noDict K (He.ga K x)) = true) (R : Hp) : TpN K R (He.ga K x) (vs.map (He.Dv.v K)) := by
  obtain ⟨h1, h2⟩ := (Bool.and_eq_true _ _).mp h
  have h3 := He.tupB_ok h1 (fun _ => none)
  rcases h3 with (z | ⟨_, z⟩) | ⟨o, its, n, e, r⟩
  · cases z
  · cases z
  · unfold noDict at h2
    rw [e] at h2
    exact .inr ⟨o, its, n, ⟨e, by simpa using h2⟩, r⟩
def wsB (K : PySem.W.Frag) (cons : List (Str × Gc)) : Bool := cons.all fun p => match p.2 with
  | .ws xs => (He.tupB K p.1 (xs.map He.Dv.str) && noDict K (He.ga K p.1)) && (He.Fa.glo p.1).ok K
  | .cn (.int i) => (He.Fa.int p.1 i).ok K
  | .cn (.str x) => (He.Fa.str p.1 x).ok K
  | .cn _ => false
def excCB (K : PySem.W.Frag) (D : Addr) : Bool :=
  (PySem.W.findIn K (.ref D) "__getattribute__" == some (some (.builtin "BaseException.__getattribute__"))) && (PySem.W.findIn K (.ref D) "__getattr__" == some none) && (PySem.W.subIn K (.ref D) (.type "BaseException") == some true) && PySem.W.hasDictIn K D &&
  (PySem.W.findIn K (.ref D) "__class__" == some (some (.builtin "object.__class__"))) && (PySem.W.specialIn K (.builtin "object.__class__") "__get__" == some (some (.builtin "getset_descriptor.__get__"))) && (PySem.W.takesIn K (.builtin "object.__class__") == some true) && (PySem.W.mroIn K D (.type "object") == some true)
theorem excCB_ {K : PySem.W.Frag} {D : Addr} (h : excCB K D = true) : ExcC K D := by
  unfold excCB at h
  simp only [Bool.and_eq_true] at h
  obtain ⟨⟨⟨⟨⟨⟨⟨h1, h2⟩, h3⟩, h4⟩, h5⟩, h6⟩, h7⟩, h8⟩ := h
  exact ⟨eq_of_beq h1, eq_of_beq h2, eq_of_beq h3, h4, eq_of_beq h5, eq_of_beq h6, eq_of_beq h7, eq_of_beq h8⟩
def xsB (K : PySem.W.Frag) (xs ks : List Nat) : Bool := xs.all fun c => excCB K (He.ga K (xname c)) && ks.all fun k => (PySem.W.kitOne K (xcls K c) (xval K k) == some (subX c k)) && (PySem.W.exmOne K (xcls K c) (xval K k) == some (subX c k))
theorem xsB_ {K : PySem.W.Frag} {xs ks : List Nat} (h : xsB K xs ks = true) : ∀ c ∈ xs, ExcF K ks c := by
  intro c hc
  have := List.all_eq_true.mp h c hc
  rw [Bool.and_eq_true] at this
  refine ⟨excCB_ this.1, fun k hk => ?_, fun k hk => ?_⟩
  · have z := List.all_eq_true.mp this.2 k hk
    rw [Bool.and_eq_true] at z
    exact eq_of_beq z.1
  · have z := List.all_eq_true.mp this.2 k hk
    rw [Bool.and_eq_true] at z
    exact eq_of_beq z.2
/-- a table's values -/
def dvB (K : PySem.W.Frag) (x : Str) (kvs : List (Str × Cn)) : Bool := (He.Fa.glo x).ok K && kvs.all fun q => match PySem.W.nsIn K (He.ga K x) q.1 with
  | some (some u) => He.relB q.2.v u
  | _ => false
/-- a class -/
def clsB (K : PySem.W.Frag) (c : Nat) : Bool := (He.Fa.cls (cname c)).ok K && ((cfs c).all (fun f => (He.Fa.noat (cname c) f).ok K) && ((PySem.W.findIn K (.ref (He.ga K (cname c))) "__class__" == some (some (.builtin "object.__class__"))) && ((PySem.W.specialIn K (.builtin "object.__class__") "__get__" == some (some (.builtin "getset_descriptor.__get__"))) && ((PySem.W.takesIn K (.builtin "object.__class__") == some true) && ((PySem.W.mroIn K (He.ga K (cname c)) (.type "object") == some true) &&
  (["int", "bool", "str", "tuple", "list"].all fun t => PySem.W.kitOne K (.ref (He.ga K (cname c))) (.type t) == some false))))))
theorem clsB_ {K : PySem.W.Frag} {c : Nat} (h : clsB K c = true) : ClsOk K c := by
  obtain ⟨h1, h⟩ := He.ba h
  obtain ⟨h2, h⟩ := He.ba h
  obtain ⟨h3, h⟩ := He.ba h
  obtain ⟨h4, h⟩ := He.ba h
  obtain ⟨h5, h⟩ := He.ba h
  obtain ⟨h6, h7⟩ := He.ba h
  exact ⟨He.cls_ok h1, fun f hf => He.noat_ok (List.all_eq_true.mp h2 f hf), eq_of_beq h3, eq_of_beq h4, eq_of_beq h5, eq_of_beq h6, fun t ht => eq_of_beq (List.all_eq_true.mp h7 t ht)⟩
def exB (G : GT) (K : PySem.W.Frag) : Bool := noLst K && (wsB K G.cons && (xsB K G.xs G.ks && ((G.dics.all fun p => dvB K p.1 p.2) && G.cls.all fun c => clsB K c)))
abbrev AlZ : Type := (He.AlD × Bool) × List (Option (List (Option (Str × Int))))
def obsZ (fa : List He.Fa) (fn : List He.DefD) (cons : GT) (K : PySem.W.Frag) : AlZ := ((He.obsD fa fn K, exB cons K), cons.dics.map fun p => He.dicW K (He.ga K p.1))
def valZ (fn : List He.DefD) (G : GT) (w : World) : AlZ := ((He.valD fn, true), G.dics.map fun p => some (He.keysIn w.params (p.2.map (·.1))))
theorem kLook_mem {z : Str} {c : Cn} : ∀ {kvs : List (Str × Cn)}, kLook z kvs = some c → (z, c) ∈ kvs
  | [], h => by cases h
  | (k, d) :: r, h => by
    unfold kLook at h
    split at h
    · rename_i e; cases h; subst e; exact List.mem_cons_self
    · exact List.mem_cons_of_mem _ (kLook_mem h)
theorem kLook_none {z : Str} : ∀ {kvs : List (Str × Cn)}, kLook z kvs = none → z ∉ kvs.map (·.1)
  | [], _, h => by cases h
  | (k, d) :: r, h, hz => by
    unfold kLook at h
    split at h
    · cases h
    · rename_i e
      rcases List.mem_cons.mp hz with q | q
      · exact e q.symm
      · exact kLook_none h q
theorem dic_of {K : PySem.W.Frag} {h : Heap} {w : World} {mg : Str → Option Value} {x : Str} {kvs : List (Str × Cn)} (X : K.In h) (N : h.Ns mainGlobals mg) (hb : dvB K x kvs = true) (hd : He.dicW K (He.ga K x) = some (He.keysIn w.params (kvs.map (·.1)))) : DicAt K w mg x kvs := by
  obtain ⟨g1, g2⟩ := He.ba hb
  obtain ⟨es, n, kd⟩ := He.dicW_ok hd
  refine ⟨He.glo_ok X N g1, ⟨es, n, kd⟩, fun z => ?_⟩
  cases q : kLook z kvs with
  | some c =>
    have := List.all_eq_true.mp g2 _ (kLook_mem q)
    simp only at this
    cases e : PySem.W.nsIn K (He.ga K x) z with
    | none => rw [e] at this; cases this
    | some r =>
      cases r with
      | none => rw [e] at this; cases this
      | some u => rw [e] at this; exact ⟨u, rfl, He.relB_ok this⟩
  | none =>
    have nz := kLook_none q
    have hl := kd.at_
    have keys : es.toList.map He.keyOf = He.keysIn w.params (kvs.map (·.1)) := by
      unfold He.dicW at hd
      rw [hl] at hd
      simp only at hd
      split at hd
      · exact Option.some.inj hd
      · cases hd
    have each : ∀ e ∈ es.toList, ∃ y t, e.key = .str y t ∧ y ∈ kvs.map (·.1) := fun e he => by
      have hm : He.keyOf e ∈ He.keysIn w.params (kvs.map (·.1)) := by rw [← keys]; exact List.mem_map_of_mem he
      obtain ⟨y, hy, e2⟩ := List.mem_map.mp hm
      unfold He.keyOf at e2
      split at e2
      · rename_i y' t ek
        have e3 : (y, PyData.keyHash w.params y) = (y', e.hash) := Option.some.inj e2
        have e4 : y = y' := congrArg Prod.fst e3
        exact ⟨y, t, by rw [ek, e4], hy⟩
      · cases e2
    show (match K.lookup (He.ga K x) with | some ⟨_, _, .dict es _, _⟩ => (match es.toList.find? (·.key.isStr z) with | some e => some (some e.val) | none => if es.toList.any (·.refKey) then none else some none) | _ => none) = some none
    rw [hl]
    simp only
    have f1 : es.toList.find? (·.key.isStr z) = none := by
      rw [List.find?_eq_none]
      intro e he hk
      obtain ⟨y, t, ek, hy⟩ := each e he
      rw [ek] at hk
      have : y = z := by simpa [Value.isStr] using hk
      exact nz (this ▸ hy)
    have f2 : es.toList.any (·.refKey) = false := by
      rw [List.any_eq_false]
      intro e he hk
      obtain ⟨y, t, ek, hy⟩ := each e he
      unfold DictEntry.refKey at hk
      rw [ek] at hk
      simp at hk
    rw [f1, f2]
    rfl
def obsZG (n : Nat) (fa : List He.Fa) (fn : List He.DefD) (cons : GT) (g : Addr → Option Obj) : AlZ := obsZ fa fn cons (He.frG g (He.asD g n))
def hookZ (n : Nat) (fa : List He.Fa) (fn : List He.DefD) (cons : GT) : PySem.W.Hook where
  α := AlZ
  obs := fun s => obsZG n fa fn cons s.heap.get?
  val := fun w => valZ fn cons w
  says := fun w h => ∃ K : PySem.W.Frag, K.In h ∧ obsZ fa fn cons K = valZ fn cons w
  of := fun _ _ e => ⟨_, He.frG_in, e⟩
  keeps := fun _ _ _ ⟨K, hK, c⟩ k => ⟨K, PySem.W.Frag.In.keeps hK k, c⟩
theorem obsZG_eq {n : Nat} {fa : List He.Fa} {fn : List He.DefD} {cons : GT} {g : Addr → Option Obj} {s : Shared} (h : ∀ a, g a = s.heap.get? a) : obsZG n fa fn cons g = (hookZ n fa fn cons).obs s := by
  have e : g = s.heap.get? := funext h
  rw [e] <;> rfl
def Sd.fa (f : Sd) : He.Fa := match f.cls with
  | none => .glo f.name
  | some c => .meth (cname c) f.name
def mkFa (fs : List Sd) (hs : List Hf) (G : GT) (cs : List Nat) : List He.Fa := (fs.map Sd.fa ++ (G.free.map .free ++ cs.flatMap fun c => [.glo (xname c), .exc (xname c)])) ++ (hs.map (fun f => .glo f.name) ++ ((G.ks.filter (· ≠ 101)).map (fun k => .glo (xname k)) ++ G.mks.flatMap fun p => [.glo (cname p.1), .mkr (cname p.1)]))
def mkFn (fs : List Sd) (hs : List Hf) : List He.DefD := (fs.map fun f => ⟨f.at_, f.name, f.qual, defArgs f.st, defBody f.st, defScope f.st, [], []⟩) ++ hs.map fun f => ⟨(f.name, none), f.name, f.name, defArgs f.st, defBody f.st, defScope f.st, [], []⟩
def BindsOk (f : Sd) : Prop := ∀ (kV doc pm : Value) (an : Option Addr) (cdv ct : Value) (us : List Value), us.length = f.ps.length → bindArgs (PySem.W.fnOf f.name f.qual (defArgs f.st) (defBody f.st) (defScope f.st) .none kV doc pm an cdv ct) ⟨us, []⟩ = pure (f.ps.zip us)
def BindsOkH (f : Hf) : Prop := ∀ (kV doc pm : Value) (an : Option Addr) (cdv ct : Value) (us : List Value), us.length = [f.p].length → bindArgs (PySem.W.fnOf f.name f.name (defArgs f.st) (defBody f.st) (defScope f.st) .none kV doc pm an cdv ct) ⟨us, []⟩ = pure ([f.p].zip us)
def AllH : List Hf → Prop
  | [] => True
  | f :: r => BindsOkH f ∧ AllH r
theorem AllH.at_ : ∀ {fs : List Hf}, AllH fs → ∀ f ∈ fs, BindsOkH f
  | [], _, f, hf => by cases hf
  | g :: r, h, f, hf => by
    rcases List.mem_cons.mp hf with e | e
    · rw [e]; exact h.1
    · exact AllH.at_ h.2 f e
/-- each named handler is there -/
def hotsB (G : GT) (hs : List Hf) : Prop := ∀ (i : Nat) (y : Str) (h : Hk), G.hots[i]? = some (y, h) → y ≠ ("" : Str) → ∃ f ∈ hs, f.name = y ∧ f.hk = h
def AllB : List Sd → Prop
  | [] => True
  | f :: r => BindsOk f ∧ AllB r
theorem AllB.at_ : ∀ {fs : List Sd}, AllB fs → ∀ f ∈ fs, BindsOk f
  | [], _, f, hf => by cases hf
  | g :: r, h, f, hf => by
    rcases List.mem_cons.mp hf with e | e
    · rw [e]; exact h.1
    · exact AllB.at_ h.2 f e
/-- a world by one of its flags -/
def setF (w : World) (b : Bool) : World := { w with params := { w.params with followText := fun s => if s = "special-get-raises" then b else w.params.followText s } }
theorem setF_eq (w : World) : setF w (w.params.followText "special-get-raises") = w := by
  have e : (fun s : String => if s = "special-get-raises" then w.params.followText "special-get-raises" else w.params.followText s) = w.params.followText := by
    funext s
    split
    · rename_i q; rw [q]
    · rfl
  unfold setF
  rw [e]
theorem by_flag {P : World → Prop} (h : ∀ w b, P (setF w b)) (w : World) : P w := by
  have := h w (w.params.followText "special-get-raises")
  rw [setF_eq] at this
  exact this
section
variable {K : PySem.W.Frag} {h : Heap} {mg : Str → Option Value} {fs : List Fd} {sds : List Sd} {hs : List Hf} {G : GT} {cs : List Nat}
/-- the pure methods are in the table -/
def mtsB (G : GT) (fs : List Fd) : Bool := decide (fs.map Fd.fr = (List.range fs.length).map G.frs.contains) && G.mts.all fun p => match fs[p.1]? with
  | some f => decide (f.cls = some p.2.1) && decide (f.name = p.2.2)
  | none => false
theorem frs_ {G : GT} {fs : List Fd} (h : mtsB G fs = true) (g : Nat) (gd : Fd) (e : fs[g]? = some gd) : G.frs.contains g = gd.fr := by
  unfold mtsB at h
  rw [Bool.and_eq_true, decide_eq_true_eq] at h
  have z := congrArg (fun l : List Bool => l[g]?) h.1
  simp only [List.getElem?_map] at z
  have hl : g < fs.length := (List.getElem?_eq_some_iff.mp e).1
  rw [e, List.getElem?_range hl] at z
  exact (Option.some.inj z).symm
/-- a def behind the top -/
theorem sd_at {w : World} (X : K.In h) (N : h.Ns mainGlobals mg) (c : obsZ (mkFa sds hs G cs) (mkFn sds hs) G K = valZ (mkFn sds hs) G w) (hb : AllB sds) {f : Sd} (hf : f ∈ sds) : FnAt K mg f := by
  have c1 : He.SaysD (mkFa sds hs G cs) (mkFn sds hs) K := congrArg (fun z : AlZ => z.1.1) c
  have fact0 : ∀ f ∈ mkFa sds hs G cs, f.ok K = true := by
    have := (He.ba (show (((mkFa sds hs G cs).all fun f => f.ok K) && (mkFn sds hs).all fun d => d.ok K) = true from congrArg (fun z : He.AlD => z.1) c1)).1
    exact List.all_eq_true.mp this
  have fa : f.fa.ok K = true := fact0 _ (List.mem_append_left _ (List.mem_append_left _ (List.mem_map.mpr ⟨f, hf, rfl⟩)))
  obtain ⟨i, hi, e⟩ := List.getElem_of_mem hf
  have e2 : (mkFn sds hs)[i]? = some ⟨f.at_, f.name, f.qual, defArgs f.st, defBody f.st, defScope f.st, [], []⟩ := by
    unfold mkFn
    rw [List.getElem?_append_left (by simpa using hi), List.getElem?_map, List.getElem?_eq_getElem hi, e]
    rfl
  obtain ⟨fd, F⟩ := c1.def_ i e2
  refine ⟨⟨fd, F, FunD.bindsN F (hb.at_ f hf)⟩, fun hc => ?_, fun k hc => ?_⟩
  · unfold Sd.fa at fa
    unfold Sd.ad Sd.at_
    rw [hc] at fa ⊢
    exact He.glo_ok X N fa
  · unfold Sd.fa at fa
    unfold Sd.ad Sd.at_
    rw [hc] at fa ⊢
    exact He.meth_ok fa
theorem world_of {w : World} (X : K.In h) (N : h.Ns mainGlobals mg) (c : obsZ (mkFa sds hs G cs) (mkFn sds hs) G K = valZ (mkFn sds hs) G w) (nm : G.fns = fs.map fun f => f.sd.gn) (ck : (fs.all fun f => f.chk G cs) = true) (hsd : ∀ f ∈ fs, f.sd ∈ sds) (hmt : mtsB G fs = true) (hb : AllB sds) (hc : (hs.all fun f => f.chk G) = true) (hhb : AllH hs) (hn : hotsB G hs) : World0 K w mg G cs fs hs := by
  have c1 : He.SaysD (mkFa sds hs G cs) (mkFn sds hs) K := congrArg (fun z : AlZ => z.1.1) c
  have c2 : exB G K = true := congrArg (fun z : AlZ => z.1.2) c
  have cd : (G.dics.map fun p => He.dicW K (He.ga K p.1)) = G.dics.map fun p => some (He.keysIn w.params (p.2.map (·.1))) := congrArg (fun z : AlZ => z.2) c
  obtain ⟨c3, c45⟩ := He.ba c2
  obtain ⟨c4, c56⟩ := He.ba c45
  obtain ⟨c5, c67⟩ := He.ba c56
  obtain ⟨c6, c7⟩ := He.ba c67
  have fact0 : ∀ f ∈ mkFa sds hs G cs, f.ok K = true := by
    have := (He.ba (show (((mkFa sds hs G cs).all fun f => f.ok K) && (mkFn sds hs).all fun d => d.ok K) = true from congrArg (fun z : He.AlD => z.1) c1)).1
    exact List.all_eq_true.mp this
  have fact : ∀ f ∈ sds.map Sd.fa ++ (G.free.map He.Fa.free ++ cs.flatMap fun c => [He.Fa.glo (xname c), He.Fa.exc (xname c)]), f.ok K = true := fun f hf => fact0 f (List.mem_append_left _ hf)
  refine ⟨⟨fun x k hx => ?_, fun x hx => ?_, fun x kvs hx => dic_of X N (List.all_eq_true.mp c6 _ hx) (List.map_inj_left.mp cd _ hx), fun c hc => clsB_ (List.all_eq_true.mp c7 c hc)⟩, fun f hf => sd_at X N c hb (hsd f hf), fun e he => ?_, nm, List.all_eq_true.mp ck, fun f hf => ?hf, hn, List.all_eq_true.mp hc, xsB_ c5, fun k hk hk1 => ?kg, fun g c m hg => ?mts, fun g gd e => frs_ hmt g gd e⟩
  · have q := List.all_eq_true.mp c4 (x, k) hx
    cases k with
    | ws xs =>
      obtain ⟨q1, q2⟩ := He.ba q
      refine ⟨_, .ref (He.ga K x), He.glo_ok X N q2, rfl, fun R => .tup (tupB_N q1 R) ?_⟩
      clear q q1 q2 hx
      induction xs with
      | nil => exact .nil
      | cons y r ih => exact .cons (.str y) ih
    | cn k =>
      cases k with
      | int i =>
        obtain ⟨t, e⟩ := He.int_ok X N q
        exact ⟨_, .int i, e, ⟨t, rfl⟩, fun R => .int i⟩
      | str y =>
        obtain ⟨t, e⟩ := He.str_ok X N q
        exact ⟨_, .str y, e, ⟨t, rfl⟩, fun R => .str y⟩
      | non => cases q
      | bl b => cases q
  · exact He.free_ok X N (fact _ (List.mem_append_right _ (List.mem_append_left _ (List.mem_map.mpr ⟨x, hx, rfl⟩))))
  · have g := fact (.glo (xname e)) (List.mem_append_right _ (List.mem_append_right _ (List.mem_flatMap.mpr ⟨e, he, by simp⟩)))
    have g2 := He.exc_ok (fact (.exc (xname e)) (List.mem_append_right _ (List.mem_append_right _ (List.mem_flatMap.mpr ⟨e, he, by simp⟩))))
    exact ⟨g2.1, g2.2.1, g2.2.2.1, g2.2.2.2, He.glo_ok X N g⟩
  case hf =>
    refine ⟨?_, He.glo_ok X N (fact0 _ (List.mem_append_right _ (List.mem_append_left _ (List.mem_map.mpr ⟨f, hf, rfl⟩))))⟩
    obtain ⟨i, hi, e⟩ := List.getElem_of_mem hf
    have e2 : (mkFn sds hs)[sds.length + i]? = some ⟨(f.name, none), f.name, f.name, defArgs f.st, defBody f.st, defScope f.st, [], []⟩ := by
      unfold mkFn
      rw [List.getElem?_append_right (by simp), List.length_map, Nat.add_sub_cancel_left, List.getElem?_map, List.getElem?_eq_getElem hi, e]
      rfl
    obtain ⟨fd, F⟩ := c1.def_ _ e2
    exact ⟨fd, F, FunD.bindsN F (hhb.at_ f hf)⟩
  case kg =>
    exact He.glo_ok X N (fact0 _ (List.mem_append_right _ (List.mem_append_right _ (List.mem_append_left _ (List.mem_map.mpr ⟨k, List.mem_filter.mpr ⟨hk, by simpa using hk1⟩, rfl⟩)))))
  case mts =>
    have hmt2 := hmt
    unfold mtsB at hmt2
    rw [Bool.and_eq_true] at hmt2
    have := List.all_eq_true.mp hmt2.2 _ hg
    simp only at this
    cases q : fs[g]? with
    | none => rw [q] at this; cases this
    | some gd =>
      rw [q] at this
      simp only [Bool.and_eq_true, decide_eq_true_eq] at this
      exact ⟨gd, rfl, this.1, this.2⟩
theorem to0 {P : Program} {w : World} {base : Heap} {k : Nat} {f : Addr} {fd : FuncData} {ps : List Str} {sp : Sp} (F : FnOk P w K mg base (L2.CX P w) k f fd ps sp) : FnOk P w K mg base CX0 k f fd ps (fun vs H Q _ => sp vs H Q E0) :=
  ⟨fun vs H Q E h => F.len vs H Q E0 h, fun A outer s H args us vs Q E hr e0 b r h => codeAny_mono (F.run A outer s H args us vs Q E0 hr e0 b r h) fun r s' q => by
    cases r with
    | error e =>
      obtain ⟨_, _, _, _, _, _, _, _, _, _, _, _, z⟩ := q
      exact z.elim
    | ok fl => cases fl <;> exact q⟩
/-- what the walk of a law wants -/
theorem facts_of {P : Program} {w : World} {f : Addr} {L : Fd} {n i : Nat} {M : Nat} (X : K.In h) (N : h.Ns mainGlobals mg) (c : obsZ (mkFa (fs.map Fd.sd) hs G cs) (mkFn (fs.map Fd.sd) hs) G K = valZ (mkFn (fs.map Fd.sd) hs) G w) (nm : G.fns = fs.map fun f => f.sd.gn) (ck : (fs.all fun f => f.chk G cs) = true) (hmt : mtsB G fs = true) (hb : AllB (fs.map Fd.sd)) (hc : (hs.all fun f => f.chk G) = true) (hhb : AllH hs) (hn : hotsB G hs)
    (hL : fs[i]? = some L) (hLc : L.cls = none) (hm0 : mg L.name = some (.ref f)) (hp : L.ps = [("script" : Str)]) (law : ∀ ns : List Int, ns.length ≤ M → callF (tbOf fs G) n i [.list (ns.map .int)] = .ok (.bool true)) :
    ∃ (fd : FuncData) (sp : Sp), (∀ (s : Shared) (u : Value), BindsTo s fd ⟨[u], []⟩ [(("script" : Str), u)]) ∧ (∀ (H : Hp) (a : Addr) (ns : List Int), ns.length ≤ M → L2.Only H → SqL K H a (ns.map V.int) → sp [.ref a] H (fun v _ => v = .bl true) fun _ _ _ => False) ∧
      ∀ base : Heap, K.In base → base.Ns mainGlobals mg → FnOk P w K mg base CX0 (n + 1) f fd [("script" : Str)] sp := by
  have V := world_of X N c nm ck (fun f hf => List.mem_map.mpr ⟨f, hf, rfl⟩) hmt hb hc hhb hn
  have hm := List.mem_of_getElem? hL
  obtain ⟨⟨fd, F, B⟩, e0, _⟩ := V.fn L hm
  have e := e0 hLc
  have e : mg L.name = some (.ref (L.sd.ad K)) := e
  rw [hm0] at e
  have ef : f = L.sd.ad K := by cases e; rfl
  subst ef
  have c2 : exB G K = true := congrArg (fun z : AlZ => z.1.2) c
  refine ⟨fd, fun vs H Q _ => spF K (tbOf fs G) (G.frs.contains i) n i L.ps.length vs H Q E0, fun s u => ?_, fun H a ns hl _ hs => ?_, fun base _ _ => ?_⟩
  · have hp2 : L.sd.ps = [("script" : Str)] := hp
    have := FunD.bindsA F (hb.at_ L.sd (List.mem_map.mpr ⟨L, hm, rfl⟩)) s [u] (by rw [hp2]; rfl)
    rw [hp2] at this
    exact this
  · rw [hp]
    exact law_sp (noLst_ok (He.ba c2).1 hs) (law ns hl)
  · have := fns_ok (P := P) (w := w) (base := base) V n i L hL fd F
    rw [hp] at this ⊢
    exact to0 this
end
end Z
end
section
/-! ZS: how the small language is reckoned. -/
namespace Z
open PySem
variable (C : Nat → List PyData → Res PyData) (Hd : Nat → Nat → Res PyData)
theorem bind_head {α β : Type} {r r' : Res α} {f : α → Res β} (h : r = r') : (r >>= f) = (r' >>= f) := by rw [h]
theorem fl_head {α : Type} {r r' : Res α} {env : Ev} {k : α → Fl} (h : r = r') : r.fl env k = r'.fl env k := by rw [h]
theorem thn_head {r r' : Fl} {k : Ev → Fl} (h : r = r') : r.thn k = r'.thn k := by rw [h]
theorem ite_head {α : Type} {c c' : Prop} {ic : Decidable c} {ic' : Decidable c'} {a b : α} (h : c = c') : @ite α c ic a b = @ite α c' ic' a b := by
  subst h; congr
@[simp] theorem getV_0 (d : PyData) (r : Ev) : getV (some d :: r) 0 = .ok d := rfl
@[simp] theorem getV_s (o : Option PyData) (r : Ev) (i : Nat) : getV (o :: r) (i + 1) = getV r i := rfl
@[simp] theorem setV_0 (o : Option PyData) (r : Ev) (d : PyData) : setV (o :: r) 0 d = some d :: r := rfl
@[simp] theorem setV_s (o : Option PyData) (r : Ev) (i : Nat) (d : PyData) : setV (o :: r) (i + 1) d = o :: setV r i d := rfl
section
variable (env : Ev)
@[simp] theorem ev_var (i : Nat) : ev C env (.var i) = getV env i := rfl
@[simp] theorem ev_cn (c : Cn) : ev C env (.cn c) = .ok c.d := rfl
@[simp] theorem ev_gl (x : Str) (c : Gc) : ev C env (.gl x c) = .ok c.d := rfl
@[simp] theorem ev_bin (o : Bop) (a b : E) : ev C env (.bin o a b) = (ev C env a >>= fun x => ev C env b >>= fun y => binD o x y) := rfl
@[simp] theorem ev_neg (a : E) : ev C env (.neg a) = (ev C env a >>= fun x => negD x) := rfl
@[simp] theorem ev_inv (a : E) : ev C env (.inv a) = (ev C env a >>= fun x => boolD x >>= fun k => .ok (.bool (!k))) := rfl
@[simp] theorem ev_an (xs : Es) : ev C env (.an xs) = evan C env xs := rfl
@[simp] theorem ev_or (xs : Es) : ev C env (.or xs) = evor C env xs := rfl
@[simp] theorem ev_cmp (o : Cop) (a b : E) : ev C env (.cmp o a b) = (ev C env a >>= fun x => ev C env b >>= fun y => cmpD o x y) := rfl
@[simp] theorem ev_chn (o p : Cop) (a b c : E) : ev C env (.chn o p a b c) = (ev C env a >>= fun x => ev C env b >>= fun y => cmpD o x y >>= fun r => boolD r >>= fun k => if k then ev C env c >>= fun z => cmpD p y z else .ok (.bool false)) := rfl
@[simp] theorem ev_ch3 (o p q : Cop) (a b c d : E) : ev C env (.ch3 o p q a b c d) = (ev C env a >>= fun x => ev C env b >>= fun y => cmpD o x y >>= fun r => boolD r >>= fun k =>
      if k then ev C env c >>= fun z => cmpD p y z >>= fun r => boolD r >>= fun k => if k then ev C env d >>= fun w => cmpD q z w else .ok (.bool false) else .ok (.bool false)) := rfl
@[simp] theorem ev_ite (c a b : E) : ev C env (.ite c a b) = (ev C env c >>= fun x => boolD x >>= fun k => if k then ev C env a else ev C env b) := rfl
@[simp] theorem ev_tup (xs : Es) : ev C env (.tup xs) = (evs C env xs >>= fun ds => guardR (fitsL ds.length) (.tuple ds)) := rfl
@[simp] theorem ev_lst (xs : Es) : ev C env (.lst xs) = (evs C env xs >>= fun ds => guardR (fitsL ds.length) (.list ds)) := rfl
@[simp] theorem ev_ix (a i : E) : ev C env (.ix a i) = (ev C env a >>= fun x => ev C env i >>= fun y => ixD x y) := rfl
@[simp] theorem ev_sl (a : E) (lo hi : Eo) : ev C env (.sl a lo hi) = (ev C env a >>= fun x => evo C env lo >>= fun l => partD l >>= fun l => evo C env hi >>= fun h => partD h >>= fun h => slD x l h) := rfl
@[simp] theorem ev_rv (a : E) : ev C env (.rv a) = (ev C env a >>= fun x => rvD x) := rfl
@[simp] theorem ev_call (f : Nat) (xs : Es) : ev C env (.call f xs) = (evs C env xs >>= fun ds => C f ds) := rfl
@[simp] theorem ev_bl (b : Blt) (xs : Es) : ev C env (.bl b xs) = (evs C env xs >>= fun ds => bltD b ds) := rfl
@[simp] theorem ev_isi (a : E) (t : Ty) : ev C env (.isi a t) = (ev C env a >>= fun x => .ok (.bool (isiD x t))) := rfl
@[simp] theorem ev_mt (m : Mth) (o : E) (xs : Es) : ev C env (.mt m o xs) = (ev C env o >>= fun x => recv m x >>= fun _ => evs C env xs >>= fun ds => mtD m x ds) := rfl
@[simp] theorem recv_sset (d : PyData) : recv .sset d = .ok () := rfl
@[simp] theorem recv_count (xs : List PyData) : recv .count (.list xs) = .ok () := rfl
@[simp] theorem recv_index (xs : List PyData) : recv .index (.list xs) = .ok () := rfl
@[simp] theorem recv_countT (xs : List PyData) : recv .count (.tuple xs) = .ok () := rfl
@[simp] theorem recv_indexT (xs : List PyData) : recv .index (.tuple xs) = .ok () := rfl
@[simp] theorem recv_join (x : Str) : recv .join (.str x) = .ok () := rfl
@[simp] theorem recv_split (x : Str) : recv .split (.str x) = .ok () := rfl
/-- one turn of a comprehension -/
def lc1 (C : Nat → List PyData → Res PyData) (env : Ev) (t : Tg) (c : Eo) (e : E) (d : PyData) : Res (Option PyData) := calm (bindT env t d >>= fun env' => evc C env' c >>= fun k => if k then ev C env' e >>= fun x => .ok (some x) else .ok none)
@[simp] theorem ev_lc (t : Tg) (it : It) (c : Eo) (e : E) : ev C env (.lc t it c e) = (evi C env it >>= fun ds => lcR (lc1 C env t c e) ds >>= fun xs => guardR (fitsL ds.length) (.list xs)) := rfl
@[simp] theorem ev_lit (it : It) : ev C env (.lit it) = (evi C env it >>= fun ds => guardR (fitsL ds.length) (.list ds)) := rfl
@[simp] theorem ev_sel (fs : List Nat) (i : E) (xs : Es) : ev C env (.sel fs i xs) = (ev C env i >>= fun k => (match k with | .int j => someR (atI fs j) | _ => .stuck) >>= fun f => evs C env xs >>= fun ds => C f ds) := rfl
@[simp] theorem ev_dg (ks : List Str) (vs : Es) (k : E) : ev C env (.dg ks vs k) = (evs C env vs >>= fun ds => ev C env k >>= fun x => (match x with | .str z => lookS z ks ds | _ => .stuck)) := rfl
@[simp] theorem evan_1 (a : E) : evan C env (.cons a .nil) = ev C env a := rfl
@[simp] theorem evan_2 (a b : E) (r : Es) : evan C env (.cons a (.cons b r)) = (ev C env a >>= fun x => boolD x >>= fun k => if k then evan C env (.cons b r) else .ok (.bool false)) := rfl
@[simp] theorem evor_1 (a : E) : evor C env (.cons a .nil) = ev C env a := rfl
@[simp] theorem evor_2 (a b : E) (r : Es) : evor C env (.cons a (.cons b r)) = (ev C env a >>= fun x => boolD x >>= fun k => if k then .ok (.bool true) else evor C env (.cons b r)) := rfl
@[simp] theorem evs_nil : evs C env .nil = .ok [] := rfl
@[simp] theorem evs_cons (a : E) (r : Es) : evs C env (.cons a r) = (ev C env a >>= fun x => evs C env r >>= fun xs => .ok (x :: xs)) := rfl
@[simp] theorem evo_non : evo C env .non = .ok none := rfl
@[simp] theorem evo_som (a : E) : evo C env (.som a) = (ev C env a >>= fun x => .ok (some x)) := rfl
@[simp] theorem evc_non : evc C env .non = .ok true := rfl
@[simp] theorem evc_som (a : E) : evc C env (.som a) = (ev C env a >>= fun x => boolD x) := rfl
@[simp] theorem evi_ov (a : E) : evi C env (.ov a) = (ev C env a >>= fun x => someR (seqOf x)) := rfl
@[simp] theorem evi_rg (xs : Es) : evi C env (.rg xs) = (evs C env xs >>= fun ds => rgD ds) := rfl
@[simp] theorem evi_en (a : E) : evi C env (.en a) = (ev C env a >>= fun x => someR ((seqOf x).map (enumL 0))) := rfl
@[simp] theorem evi_zp (a b : E) : evi C env (.zp a b) = (ev C env a >>= fun x => ev C env b >>= fun y => someR ((seqOf x).bind fun xs => (seqOf y).map fun ys => zipL xs ys)) := rfl
@[simp] theorem rn_nil : rn C Hd .nil env = .nx env := rfl
@[simp] theorem rn_cons (a : S) (r : Ss) : rn C Hd (.cons a r) env = (rn1 C Hd a env).thn fun env2 => rn C Hd r env2 := rfl
@[simp] theorem rn1_setf (i : Nat) (e : E) : rn1 C Hd (.set i false e) env = (ev C env e).fl env fun d => .nx (setV env i d) := rfl
@[simp] theorem rn1_sett (i : Nat) (e : E) : rn1 C Hd (.set i true e) env = (ev C env e).fl env fun d => if !flat d then .stuck else .nx (setV env i d) := rfl
@[simp] theorem trR_rt (h : Nat → Res PyData) (k : Nat) (d : PyData) : trR h k (.rt d) = .rt d := rfl
@[simp] theorem trR_nx (h : Nat → Res PyData) (k : Nat) (e : Ev) : trR h k (.nx e) = .nx e := rfl
theorem trR_xc (h : Nat → Res PyData) (k c : Nat) (e : Ev) (d : PyData) (hd : h c = .ok d) (hk : subX c k = true) : trR h k (.xc c e) = .rt d := by
  show (match h c with | .ok d => if subX c k then Fl.rt d else .xc c e | _ => .stuck) = _
  rw [hd, hk]; rfl
def ownK (env : Ev) (i : Nat) (d : PyData) : Fl := match d with
  | .list xs => .nx (setV env i (.list xs))
  | _ => .stuck
@[simp] theorem ownK_list (i : Nat) (xs : List PyData) : ownK env i (.list xs) = .nx (setV env i (.list xs)) := rfl
@[simp] theorem rn1_own (i : Nat) (e : E) : rn1 C Hd (.own i e) env = (ev C env e).fl env fun d => ownK env i d := rfl
@[simp] theorem rn1_unp (is : List Nat) (e : E) : rn1 C Hd (.unp is e) env = (ev C env e).fl env fun d => (bindT env (.tp is) d).fl env fun env' => .nx env' := rfl
@[simp] theorem rn1_par (i j : Nat) (a b : E) : rn1 C Hd (.par i j a b) env = (ev C env a).fl env fun x => (ev C env b).fl env fun y => .nx (setV (setV env i x) j y) := rfl
@[simp] theorem rn1_appf (i : Nat) (e : E) : rn1 C Hd (.app i false e) env = (listV env i).fl env fun _ => (ev C env e).fl env fun d => (listV env i).fl env fun xs => if xs.length < sizeLine then .nx (setV env i (.list (xs ++ [d]))) else .stuck := rfl
@[simp] theorem rn1_appt (i : Nat) (e : E) : rn1 C Hd (.app i true e) env = (listV env i).fl env fun _ => (ev C env e).fl env fun d => if !flat d then .stuck else (listV env i).fl env fun xs => if xs.length < sizeLine then .nx (setV env i (.list (xs ++ [d]))) else .stuck := rfl
@[simp] theorem rn1_ret (e : E) : rn1 C Hd (.ret e) env = (ev C env e).fl env fun d => .rt d := rfl
@[simp] theorem rn1_retn : rn1 C Hd .retn env = .rt .none := rfl
@[simp] theorem rn1_ifs (c : E) (a b : Ss) : rn1 C Hd (.ifs c a b) env = (ev C env c).fl env fun x => (boolD x).fl env fun k => if k then rn C Hd a env else rn C Hd b env := rfl
@[simp] theorem rn1_fr (t : Tg) (it : It) (b : Ss) : rn1 C Hd (.fr t it b) env = (evi C env it).fl env fun ds => forR t (rn C Hd b) ds env := rfl
@[simp] theorem rn1_wh (c : E) (b : Ss) : rn1 C Hd (.wh c b) env = whR (fun env => ev C env c >>= boolD) (rn C Hd b) 100 env := rfl
@[simp] theorem rn1_rs (c : Nat) (m : Str) : rn1 C Hd (.rs c m) env = .xc c env := rfl
@[simp] theorem rn1_tr (i k : Nat) (b : Ss) (f : Nat) : rn1 C Hd (.tr i k b f) env = trR (Hd f) k (rn C Hd b env) := rfl
@[simp] theorem rn1_ex (e : E) : rn1 C Hd (.ex e) env = (ev C env e).fl env fun _ => .nx env := rfl
@[simp] theorem rn1_skip : rn1 C Hd .skip env = .nx env := rfl
@[simp] theorem forR_nil (t : Tg) (b : Ev → Fl) : forR t b [] env = .nx env := rfl
@[simp] theorem forR_cons (t : Tg) (b : Ev → Fl) (d : PyData) (r : List PyData) : forR t b (d :: r) env = (bindT env t d).fl env fun env' => (b env').thn fun env2 => forR t b r env2 := rfl
@[simp] theorem bindT_nm (i : Nat) (d : PyData) : bindT env (.nm i) d = .ok (setV env i d) := rfl
@[simp] theorem bindT_tp (is : List Nat) (ds : List PyData) : bindT env (.tp is) (.tuple ds) = someR (setAll env is ds) := rfl
@[simp] theorem setAll_nil : setAll env [] [] = some env := rfl
@[simp] theorem setAll_cons (i : Nat) (is : List Nat) (d : PyData) (ds : List PyData) : setAll env (i :: is) (d :: ds) = setAll (setV env i d) is ds := rfl
@[simp] theorem listV_0 (xs : List PyData) (r : Ev) : listV (some (.list xs) :: r) 0 = .ok xs := rfl
@[simp] theorem listV_s (o : Option PyData) (r : Ev) (i : Nat) : listV (o :: r) (i + 1) = listV r i := rfl
end
@[simp] theorem Cn_int (i : Int) : (Cn.int i).d = .int i := rfl
@[simp] theorem Cn_str (x : Str) : (Cn.str x).d = .str x := rfl
@[simp] theorem Cn_bl (b : Bool) : (Cn.bl b).d = .bool b := rfl
@[simp] theorem Cn_non : Cn.non.d = .none := rfl
@[simp] theorem Gc_cn (c : Cn) : (Gc.cn c).d = c.d := rfl
@[simp] theorem Gc_ws (xs : List Str) : (Gc.ws xs).d = .tuple (xs.map .str) := rfl
@[simp] theorem someR_s {α : Type} (a : α) : someR (some a) = .ok a := rfl
@[simp] theorem boolD_b (b : Bool) : boolD (.bool b) = .ok b := rfl
@[simp] theorem negD_i (i : Int) : negD (.int i) = .ok (.int (-i)) := rfl
@[simp] theorem add_i (i j : Int) : binD .add (.int i) (.int j) = .ok (.int (i + j)) := rfl
@[simp] theorem sub_i (i j : Int) : binD .sub (.int i) (.int j) = .ok (.int (i - j)) := rfl
theorem sizeL : sizeLine = 16777216 := PySem.sizeLine_eq
theorem add_l (xs ys : List PyData) (h : xs.length + ys.length ≤ 16777216) : binD .add (.list xs) (.list ys) = .ok (.list (xs ++ ys)) := by
  show guardR (fitsL _) _ = _
  unfold fitsL
  rw [decide_eq_true (by rw [sizeL]; exact h)]
  rfl
theorem add_t (xs ys : List PyData) (h : xs.length + ys.length ≤ 16777216) : binD .add (.tuple xs) (.tuple ys) = .ok (.tuple (xs ++ ys)) := by
  show guardR (fitsL _) _ = _
  unfold fitsL
  rw [decide_eq_true (by rw [sizeL]; exact h)]
  rfl
theorem mul_i (i j : Int) (h : (-18446744073709551616 < i ∧ i < 18446744073709551616) ∨ (-18446744073709551616 < j ∧ j < 18446744073709551616)) : binD .mul (.int i) (.int j) = .ok (.int (i * j)) := by
  show guardR (small64 i || small64 j) _ = _
  have : (small64 i || small64 j) = true := by
    unfold small64
    simp only [Bool.or_eq_true, decide_eq_true_eq]
    omega
  rw [this]
  rfl
theorem div_i (i j : Int) (h : 0 < j) (h2 : j < 1073741824) : binD .div (.int i) (.int j) = .ok (.int (i / j)) := by
  show guardR (decide (0 < j ∧ j < 1073741824)) _ = _
  rw [decide_eq_true ⟨h, h2⟩]
  rfl
theorem mod_i (i j : Int) (h : 0 < j) : binD .mod (.int i) (.int j) = .ok (.int (i % j)) := by
  show guardR (decide (0 < j)) _ = _
  rw [decide_eq_true h]
  rfl
@[simp] theorem lt_i (i j : Int) : cmpD .lt (.int i) (.int j) = .ok (.bool (decide (i < j))) := rfl
@[simp] theorem le_i (i j : Int) : cmpD .le (.int i) (.int j) = .ok (.bool (decide (i ≤ j))) := rfl
@[simp] theorem gt_i (i j : Int) : cmpD .gt (.int i) (.int j) = .ok (.bool (decide (j < i))) := rfl
@[simp] theorem ge_i (i j : Int) : cmpD .ge (.int i) (.int j) = .ok (.bool (decide (j ≤ i))) := rfl
@[simp] theorem tup_fit (n : Nat) (d : PyData) (h : n ≤ 16777216) : guardR (fitsL n) d = .ok d := by
  unfold fitsL
  rw [decide_eq_true (by rw [sizeL]; exact h)]
  rfl
@[simp] theorem len_l (xs : List PyData) : bltD .len [.list xs] = .ok (.int xs.length) := rfl
@[simp] theorem len_t (xs : List PyData) : bltD .len [.tuple xs] = .ok (.int xs.length) := rfl
@[simp] theorem abs_i (i : Int) : bltD .abs [.int i] = .ok (.int (if i < 0 then -i else i)) := rfl
@[simp] theorem max_i (i j : Int) : bltD .max [.int i, .int j] = .ok (.int (if j > i then j else i)) := rfl
@[simp] theorem min_i (i j : Int) : bltD .min [.int i, .int j] = .ok (.int (if j < i then j else i)) := rfl
@[simp] theorem list_l (xs : List PyData) : bltD .list [.list xs] = .ok (.list xs) := rfl
@[simp] theorem list_t (xs : List PyData) : bltD .list [.tuple xs] = .ok (.list xs) := rfl
@[simp] theorem tuple_l (xs : List PyData) : bltD .tuple [.list xs] = .ok (.tuple xs) := rfl
@[simp] theorem tuple_t (xs : List PyData) : bltD .tuple [.tuple xs] = .ok (.tuple xs) := rfl
@[simp] theorem seqOf_l (xs : List PyData) : seqOf (.list xs) = some xs := rfl
@[simp] theorem seqOf_t (xs : List PyData) : seqOf (.tuple xs) = some xs := rfl
@[simp] theorem partD_n : partD none = .ok none := rfl
@[simp] theorem partD_i (i : Int) : partD (some (.int i)) = .ok (some i) := rfl
@[simp] theorem slD_l (xs : List PyData) (lo hi : Option Int) : slD (.list xs) lo hi = .ok (.list (cutL xs lo hi)) := rfl
@[simp] theorem slD_t (xs : List PyData) (lo hi : Option Int) : slD (.tuple xs) lo hi = .ok (.tuple (cutL xs lo hi)) := rfl
@[simp] theorem rvD_l (xs : List PyData) : rvD (.list xs) = .ok (.list xs.reverse) := rfl
@[simp] theorem rvD_t (xs : List PyData) : rvD (.tuple xs) = .ok (.tuple xs.reverse) := rfl
/-! ### intL in a list -/
abbrev intL (ns : List Int) : List PyData := ns.map .int
@[simp] theorem intsOf_ints (ns : List Int) : intsOf (intL ns) = some ns := by
  induction ns with
  | nil => rfl
  | cons i r ih =>
    show (intsOf (intL r)).map (i :: ·) = _
    rw [ih]; rfl
/-! ### what is equal -/
structure EncOk {α : Type} (e : α → PyData) (D : Nat) : Prop where
  lay : ∀ a, (e a).canLay0 = true
  dep : ∀ a, (e a).depth ≤ D
  eqv : ∀ a b, PyData.eqv (e a) (e b) = true ↔ a = b
theorem encI : EncOk PyData.int 0 := ⟨fun _ => rfl, fun _ => Nat.le_refl _, fun a b => by simp [PyData.eqv]⟩
theorem encB : EncOk PyData.bool 0 := ⟨fun _ => rfl, fun _ => Nat.le_refl _, fun a b => by simp [PyData.eqv]⟩
section
variable {α β : Type} {e : α → PyData} {f : β → PyData} {D F : Nat}
theorem EncOk.layA (h : EncOk e D) (xs : List α) : PyData.canLayAll0 (xs.map e) = true := by
  induction xs with
  | nil => rfl
  | cons a r ih => simp [PyData.canLayAll0, h.lay, ih]
theorem EncOk.depA (h : EncOk e D) (xs : List α) : PyData.depthAll (xs.map e) ≤ D := by
  induction xs with
  | nil => exact Nat.zero_le _
  | cons a r ih =>
    have := h.dep a
    simp only [List.map, PyData.depthAll]
    omega
theorem EncOk.eqA (h : EncOk e D) (xs ys : List α) : PyData.eqvAll (xs.map e) (ys.map e) = true ↔ xs = ys := by
  induction xs generalizing ys with
  | nil => cases ys <;> simp [PyData.eqvAll]
  | cons a r ih =>
    cases ys with
    | nil => simp [PyData.eqvAll]
    | cons b q => simp [PyData.eqvAll, h.eqv, ih]
theorem EncOk.lst (h : EncOk e D) : EncOk (fun xs : List α => PyData.list (xs.map e)) (D + 1) :=
  ⟨fun xs => by rw [PyData.canLay0]; exact h.layA xs, fun xs => by rw [PyData.depth]; have := h.depA xs; omega, fun a b => by rw [PyData.eqv]; exact h.eqA a b⟩
theorem EncOk.tup (h : EncOk e D) : EncOk (fun xs : List α => PyData.tuple (xs.map e)) (D + 1) :=
  ⟨fun xs => by rw [PyData.canLay0]; exact h.layA xs, fun xs => by rw [PyData.depth]; have := h.depA xs; omega, fun a b => by rw [PyData.eqv]; exact h.eqA a b⟩
theorem EncOk.two (h : EncOk e D) (k : EncOk f F) : EncOk (fun p : α × β => PyData.tuple [e p.1, f p.2]) (max D F + 1) :=
  ⟨fun p => by simp [PyData.canLay0, PyData.canLayAll0, h.lay, k.lay], fun p => by have := h.dep p.1; have := k.dep p.2; simp [PyData.depth, PyData.depthAll]; omega,
    fun a b => by simp [PyData.eqv, PyData.eqvAll, h.eqv, k.eqv, Prod.ext_iff]⟩
theorem EncOk.map {γ : Type} (h : EncOk e D) {g : γ → α} (hg : ∀ a b, g a = g b → a = b) : EncOk (fun c => e (g c)) D :=
  ⟨fun c => h.lay _, fun c => h.dep _, fun a b => (h.eqv _ _).trans ⟨hg a b, fun z => by rw [z]⟩⟩
theorem EncOk.eq [DecidableEq α] (h : EncOk e D) (hD : D ≤ 64) (a b : α) : cmpD .eq (e a) (e b) = .ok (.bool (decide (a = b))) := by
  show guardR (eqOk _ _) _ = _
  have : eqOk (e a) (e b) = true := by
    unfold eqOk
    have := h.dep a
    simp [h.lay]; omega
  rw [this]
  have : PyData.eqv (e a) (e b) = decide (a = b) := by
    by_cases q : a = b
    · rw [(h.eqv a b).mpr q, decide_eq_true q]
    · rw [decide_eq_false q]
      cases z : PyData.eqv (e a) (e b) with
      | false => rfl
      | true => exact absurd ((h.eqv a b).mp z) q
  rw [this]; rfl
theorem EncOk.ne [DecidableEq α] (h : EncOk e D) (hD : D ≤ 64) (a b : α) : cmpD .ne (e a) (e b) = .ok (.bool (decide (a ≠ b))) := by
  show guardR (eqOk _ _) _ = _
  have : eqOk (e a) (e b) = true := by
    unfold eqOk
    have := h.dep a
    simp [h.lay]; omega
  rw [this]
  have : (!PyData.eqv (e a) (e b)) = decide (a ≠ b) := by
    by_cases q : a = b
    · rw [(h.eqv a b).mpr q, decide_eq_false (fun z => z q)]; rfl
    · rw [decide_eq_true q]
      cases z : PyData.eqv (e a) (e b) with
      | false => rfl
      | true => exact absurd ((h.eqv a b).mp z) q
  rw [this]; rfl
theorem EncOk.any [DecidableEq α] (h : EncOk e D) (xs : List α) (a : α) : (xs.map e).any (fun z => PyData.eqv z (e a)) = decide (a ∈ xs) := by
  induction xs with
  | nil => simp
  | cons b r ih =>
    rw [List.map_cons, List.any_cons, ih]
    by_cases q : b = a
    · subst q
      rw [(h.eqv b b).mpr rfl]; simp
    · have : PyData.eqv (e b) (e a) = false := by
        cases z : PyData.eqv (e b) (e a) with
        | false => rfl
        | true => exact absurd ((h.eqv b a).mp z) q
      rw [this]
      have q2 : a ≠ b := fun z => q z.symm
      simp [q2]
theorem EncOk.inOk (h : EncOk e D) (hD : D ≤ 64) (xs : List α) (a : α) : inOk (xs.map e) (e a) = true := by
  unfold Z.inOk
  have := h.dep a
  simp [h.layA, h.lay]; omega
theorem EncOk.inT [DecidableEq α] (h : EncOk e D) (hD : D ≤ 64) (xs : List α) (a : α) : cmpD .isin (e a) (.tuple (xs.map e)) = .ok (.bool (decide (a ∈ xs))) := by
  show guardR (Z.inOk _ _) _ = _
  rw [h.inOk hD, h.any]; rfl
theorem EncOk.inL [DecidableEq α] (h : EncOk e D) (hD : D ≤ 64) (xs : List α) (a : α) : cmpD .isin (e a) (.list (xs.map e)) = .ok (.bool (decide (a ∈ xs))) := by
  show guardR (Z.inOk _ _) _ = _
  rw [h.inOk hD, h.any]; rfl
theorem EncOk.notinT [DecidableEq α] (h : EncOk e D) (hD : D ≤ 64) (xs : List α) (a : α) : cmpD .notin (e a) (.tuple (xs.map e)) = .ok (.bool (decide (a ∉ xs))) := by
  show guardR (Z.inOk _ _) _ = _
  rw [h.inOk hD, h.any]
  simp [guardR]
theorem EncOk.notinL [DecidableEq α] (h : EncOk e D) (hD : D ≤ 64) (xs : List α) (a : α) : cmpD .notin (e a) (.list (xs.map e)) = .ok (.bool (decide (a ∉ xs))) := by
  show guardR (Z.inOk _ _) _ = _
  rw [h.inOk hD, h.any]
  simp [guardR]
end
@[simp] theorem eq_i (i j : Int) : cmpD .eq (.int i) (.int j) = .ok (.bool (decide (i = j))) := encI.eq (by decide) i j
@[simp] theorem ne_i (i j : Int) : cmpD .ne (.int i) (.int j) = .ok (.bool (decide (i ≠ j))) := encI.ne (by decide) i j
@[simp] theorem eq_ti (i j : List Int) : cmpD .eq (.tuple (intL i)) (.tuple (intL j)) = .ok (.bool (decide (i = j))) := encI.tup.eq (by decide) i j
@[simp] theorem ne_ti (i j : List Int) : cmpD .ne (.tuple (intL i)) (.tuple (intL j)) = .ok (.bool (decide (i ≠ j))) := encI.tup.ne (by decide) i j
@[simp] theorem eq_li (i j : List Int) : cmpD .eq (.list (intL i)) (.list (intL j)) = .ok (.bool (decide (i = j))) := encI.lst.eq (by decide) i j
@[simp] theorem ne_li (i j : List Int) : cmpD .ne (.list (intL i)) (.list (intL j)) = .ok (.bool (decide (i ≠ j))) := encI.lst.ne (by decide) i j
@[simp] theorem eq_ti0 (i : List Int) : cmpD .eq (.tuple (intL i)) (.tuple []) = .ok (.bool (decide (i = []))) := encI.tup.eq (by decide) i []
@[simp] theorem ne_ti0 (i : List Int) : cmpD .ne (.tuple (intL i)) (.tuple []) = .ok (.bool (decide (i ≠ []))) := encI.tup.ne (by decide) i []
@[simp] theorem eq_li0 (i : List Int) : cmpD .eq (.list (intL i)) (.list []) = .ok (.bool (decide (i = []))) := encI.lst.eq (by decide) i []
@[simp] theorem ne_li0 (i : List Int) : cmpD .ne (.list (intL i)) (.list []) = .ok (.bool (decide (i ≠ []))) := encI.lst.ne (by decide) i []
@[simp] theorem eq_l00 : cmpD .eq (.list []) (.list []) = .ok (.bool true) := rfl
@[simp] theorem ne_l00 : cmpD .ne (.list []) (.list []) = .ok (.bool false) := rfl
@[simp] theorem eq_t00 : cmpD .eq (.tuple []) (.tuple []) = .ok (.bool true) := rfl
@[simp] theorem ne_t00 : cmpD .ne (.tuple []) (.tuple []) = .ok (.bool false) := rfl
/-! ### whole numbers, tracks among all data -/
def isNumD : PyData → Int → Int → Bool
  | .int a, lo, hi => decide (lo ≤ a ∧ a ≤ hi)
  | _, _, _ => false
@[simp] theorem isNumD_i (a lo hi : Int) : isNumD (.int a) lo hi = decide (lo ≤ a ∧ a ≤ hi) := rfl
def isTrackD : PyData → Bool
  | .tuple xs => decide (xs.length ≤ 60) && xs.all fun d => isNumD d (-99) 99
  | _ => false
/-! ### runs -/
@[simp] theorem res_rt (d : PyData) : (match Fl.rt d with | .rt x => Res.ok x | .nx _ => .ok .none | .xc c _ => .exc c | .stuck => .stuck) = .ok d := rfl
@[simp] theorem res_nx (e : Ev) : (match Fl.nx e with | .rt x => Res.ok x | .nx _ => .ok .none | .xc c _ => .exc c | .stuck => .stuck) = .ok .none := rfl
@[simp] theorem res_xc (k : Nat) (e : Ev) : (match Fl.xc k e with | .rt x => Res.ok x | .nx _ => .ok .none | .xc c _ => .exc c | .stuck => .stuck) = .exc k := rfl
/-! ### comprehensions -/
theorem lcR_of {α : Type} {e : α → PyData} {f : PyData → Res (Option PyData)} (g : α → Option PyData) : ∀ (xs : List α), (∀ a ∈ xs, f (e a) = .ok (g a)) → lcR f (xs.map e) = .ok (xs.filterMap g)
  | [], _ => rfl
  | a :: r, h => by
    have e1 := h a List.mem_cons_self
    have e2 := lcR_of g r fun b hb => h b (List.mem_cons_of_mem _ hb)
    show (f (e a) >>= fun o => lcR f (r.map e) >>= fun ds => .ok (consO o ds)) = _
    rw [e1, e2]
    cases q : g a with
    | none => simp [q]
    | some d => simp [q]
theorem lcR_map {α : Type} {e : α → PyData} {f : PyData → Res (Option PyData)} (g : α → PyData) (xs : List α) (h : ∀ a ∈ xs, f (e a) = .ok (some (g a))) : lcR f (xs.map e) = .ok (xs.map g) := by
  rw [lcR_of (fun a => some (g a)) xs h]
  simp
theorem lcR_filter {α : Type} {e : α → PyData} {f : PyData → Res (Option PyData)} (p : α → Bool) (g : α → PyData) (xs : List α) (h : ∀ a ∈ xs, f (e a) = .ok (if p a then some (g a) else none)) : lcR f (xs.map e) = .ok ((xs.filter p).map g) := by
  rw [lcR_of (fun a => if p a then some (g a) else none) xs h]
  congr 1
  induction xs with
  | nil => rfl
  | cons a r ih =>
    have ih := ih fun b hb => h b (List.mem_cons_of_mem _ hb)
    cases q : p a <;> simp [q, ih]
/-- a loop that goes through -/
theorem forR_inv {α : Type} {e : α → PyData} {t : Tg} {b : Ev → Fl} (I : List α → Ev → Prop) : ∀ (xs done : List α) (env : Ev), I done env → (∀ d a r env, xs = d ++ a :: r → I (done ++ d) env → ∃ env1 env2, bindT env t (e a) = .ok env1 ∧ b env1 = .nx env2 ∧ I (done ++ d ++ [a]) env2) →
    ∃ env', forR t b (xs.map e) env = .nx env' ∧ I (done ++ xs) env'
  | [], done, env, h, _ => ⟨env, rfl, by simpa using h⟩
  | a :: r, done, env, h, st => by
    obtain ⟨env1, env2, h1, h2, h3⟩ := st [] a r env rfl (by simpa using h)
    obtain ⟨env', h4, h5⟩ := forR_inv I r (done ++ [a]) env2 (by simpa using h3) fun d a' r' env hx hI => by
      obtain ⟨x, y, p, q, z⟩ := st (a :: d) a' r' env (by rw [hx]; rfl) (by simpa using hI)
      exact ⟨x, y, p, q, by simpa using z⟩
    refine ⟨env', ?_, by simpa using h5⟩
    show (bindT env t (e a)).fl env (fun env' => (b env').thn fun env2 => forR t b (r.map e) env2) = _
    rw [h1, Res.fl_ok, h2, Fl.thn_nx, h4]
theorem forR_app {t : Tg} {b : Ev → Fl} : ∀ (xs ys : List PyData) (env : Ev), forR t b (xs ++ ys) env = (forR t b xs env).thn fun e => forR t b ys e
  | [], ys, env => rfl
  | x :: xs, ys, env => by
    show (bindT env t x).fl env (fun env' => (b env').thn fun env2 => forR t b (xs ++ ys) env2) = ((bindT env t x).fl env (fun env' => (b env').thn fun env2 => forR t b xs env2)).thn fun e => forR t b ys e
    cases bindT env t x with
    | ok e =>
      simp only [Res.fl_ok]
      cases b e with
      | nx e2 => simp only [Fl.thn_nx]; exact forR_app xs ys e2
      | _ => rfl
    | _ => rfl
theorem rangeL_succ (lo : Int) (n : Nat) : rangeL lo (n + 1) = rangeL lo n ++ [.int (lo + (n : Nat))] := by
  unfold rangeL
  rw [List.range_succ, List.map_append]
  rfl
theorem forR_range {t : Tg} {b : Ev → Fl} {lo : Int} (I : Nat → Ev → Prop) : ∀ (n : Nat) (env : Ev), I 0 env → (∀ k, k < n → ∀ env, I k env → ∃ env1 env2, bindT env t (.int (lo + (k : Nat))) = .ok env1 ∧ b env1 = .nx env2 ∧ I (k + 1) env2) →
    ∃ env', forR t b (rangeL lo n) env = .nx env' ∧ I n env'
  | 0, env, h, _ => ⟨env, rfl, h⟩
  | n + 1, env, h, st => by
    obtain ⟨e1, h1, i1⟩ := forR_range I n env h fun k hk => st k (by omega)
    obtain ⟨e2, e3, h2, h3, i3⟩ := st n (by omega) e1 i1
    refine ⟨e3, ?_, i3⟩
    rw [rangeL_succ, forR_app, h1, Fl.thn_nx, forR_cons, h2, Res.fl_ok, h3, Fl.thn_nx, forR_nil]
@[simp] theorem rg1 (n : Int) (h : -16777216 ≤ n ∧ n ≤ 16777216) : rgD [.int n] = .ok (rangeL 0 n.toNat) := by
  show (if okI n then Res.ok (rangeL 0 n.toNat) else .stuck) = _
  unfold okI
  rw [decide_eq_true h]; rfl
@[simp] theorem rg2 (a b : Int) (h : -16777216 ≤ a ∧ a ≤ 16777216) (h2 : -16777216 ≤ b ∧ b ≤ 16777216) : rgD [.int a, .int b] = .ok (rangeL a (b - a).toNat) := by
  show (if okI a && okI b then Res.ok (rangeL a (b - a).toNat) else .stuck) = _
  unfold okI
  rw [decide_eq_true h, decide_eq_true h2]; rfl
theorem appLen {α : Type} (n : Nat) (a b : α) (h : n < 16777216) : (if n < sizeLine then a else b) = a := by
  rw [if_pos (by rw [sizeL]; exact h)]
/-! ### parts, pairs -/
theorem sIx_no (n d : Nat) : sIx n d none = d := rfl
theorem sIx_nat (n d k : Nat) : sIx n d (some (k : Int)) = min k n := by
  show (if (k : Int) < 0 then ((k : Int) + (n : Int)).toNat else min ((k : Int)).toNat n) = _
  rw [if_neg (by omega)]
  rfl
theorem sIx_pos (n d : Nat) (k : Int) (h : 0 ≤ k) : sIx n d (some k) = min k.toNat n := by
  show (if k < 0 then (k + (n : Int)).toNat else min k.toNat n) = _
  rw [if_neg (by omega)]
theorem sIx_neg (n d : Nat) (k : Int) (h : k < 0) : sIx n d (some k) = (k + (n : Int)).toNat := by
  show (if k < 0 then (k + (n : Int)).toNat else min k.toNat n) = _
  rw [if_pos h]
@[simp] theorem cutL_map {α β : Type} (f : α → β) (xs : List α) (lo hi : Option Int) : cutL (xs.map f) lo hi = (cutL xs lo hi).map f := by
  unfold cutL
  simp
theorem zipL_map {α β : Type} (e : α → PyData) (f : β → PyData) : ∀ (xs : List α) (ys : List β), zipL (xs.map e) (ys.map f) = (xs.zip ys).map fun p => .tuple [e p.1, f p.2]
  | [], _ => by simp [zipL]
  | _ :: _, [] => by simp [zipL]
  | a :: r, b :: q => by
    show PyData.tuple [e a, f b] :: zipL (r.map e) (q.map f) = _
    rw [zipL_map e f r q]; rfl
theorem enumL_map {α : Type} (e : α → PyData) : ∀ (xs : List α) (k : Nat), enumL k (xs.map e) = (xs.zipIdx k).map fun p => .tuple [.int (p.2 : Nat), e p.1]
  | [], _ => rfl
  | a :: r, k => by
    show PyData.tuple [.int (k : Nat), e a] :: enumL (k + 1) (r.map e) = _
    rw [enumL_map e r (k + 1)]; rfl
@[simp] theorem boolsOf_bools (bs : List Bool) : boolsOf (bs.map .bool) = some bs := by
  induction bs with
  | nil => rfl
  | cons b r ih =>
    show (boolsOf (r.map .bool)).map (b :: ·) = _
    rw [ih]; rfl
theorem all_bools {α : Type} (p : α → Bool) (xs : List α) : bltD .all [.list (xs.map fun a => .bool (p a))] = .ok (.bool (xs.all p)) := by
  have e : (xs.map fun a => PyData.bool (p a)) = (xs.map p).map .bool := by simp
  rw [e]
  show (match boolsOf ((xs.map p).map .bool) with | some bs => Res.ok (PyData.bool (bs.all id)) | none => .stuck) = _
  rw [boolsOf_bools]
  simp [List.all_map]
theorem ix_neg1 {α : Type} (e : α → PyData) (F : List α) (l : α) : ixD (.tuple ((F ++ [l]).map e)) (.int (-1)) = .ok (e l) := by
  show someR (atI _ _) = _
  have : atI ((F ++ [l]).map e) (-1) = some (e l) := by
    unfold atI ixN
    rw [if_neg (by omega), if_pos (by simp; omega)]
    have : ((-1 : Int) + (((F ++ [l]).map e).length : Nat)).toNat = F.length := by simp; omega
    rw [this]
    simp
  rw [this]; rfl
theorem ix_neg1L {α : Type} (e : α → PyData) (F : List α) (l : α) : ixD (.list ((F ++ [l]).map e)) (.int (-1)) = .ok (e l) := ix_neg1 e F l
@[simp] theorem isi_ii (i : Int) : isiD (.int i) .int = true := rfl
@[simp] theorem isi_ib (i : Int) : isiD (.int i) .bool = false := rfl
@[simp] theorem isi_tt (xs : List PyData) : isiD (.tuple xs) .tuple = true := rfl
@[simp] theorem isi_ll (xs : List PyData) : isiD (.list xs) .list = true := rfl
theorem max_t (xs : List Int) (h : xs ≠ []) : bltD .max [.tuple (intL xs)] = .ok (.int (maxI xs)) := by
  cases xs with
  | nil => exact absurd rfl h
  | cons x r =>
    show (match (intsOf (intL (x :: r))) with | some (x :: r) => Res.ok (PyData.int (maxI (x :: r))) | _ => .stuck) = _
    rw [intsOf_ints]
theorem min_t (xs : List Int) (h : xs ≠ []) : bltD .min [.tuple (intL xs)] = .ok (.int (minI xs)) := by
  cases xs with
  | nil => exact absurd rfl h
  | cons x r =>
    show (match (intsOf (intL (x :: r))) with | some (x :: r) => Res.ok (PyData.int (minI (x :: r))) | _ => .stuck) = _
    rw [intsOf_ints]
/-! ### step by step -/
section
variable {C : Nat → List PyData → Res PyData} {Hd : Nat → Nat → Res PyData} {env : Ev} {r : Ss}
theorem stp_if0 {c : E} {a : Ss} (h : ev C env c = .ok (.bool false)) : rn C Hd (.cons (.ifs c a .nil) r) env = rn C Hd r env := by
  show ((ev C env c).fl env fun x => (boolD x).fl env fun k => if k then rn C Hd a env else rn C Hd .nil env).thn _ = _
  rw [h]; rfl
theorem stp_if1 {c : E} {a b : Ss} (h : ev C env c = .ok (.bool true)) : rn C Hd (.cons (.ifs c a b) r) env = (rn C Hd a env).thn fun e => rn C Hd r e := by
  show ((ev C env c).fl env fun x => (boolD x).fl env fun k => if k then rn C Hd a env else rn C Hd b env).thn _ = _
  rw [h]; rfl
theorem stp_if2 {c : E} {a b : Ss} (h : ev C env c = .ok (.bool false)) : rn C Hd (.cons (.ifs c a b) r) env = (rn C Hd b env).thn fun e => rn C Hd r e := by
  show ((ev C env c).fl env fun x => (boolD x).fl env fun k => if k then rn C Hd a env else rn C Hd b env).thn _ = _
  rw [h]; rfl
theorem stp_set {i : Nat} {e : E} {d : PyData} (h : ev C env e = .ok d) : rn C Hd (.cons (.set i false e) r) env = rn C Hd r (setV env i d) := by
  show ((ev C env e).fl env fun d => .nx (setV env i d)).thn _ = _
  rw [h]; rfl
theorem stp_setm {i : Nat} {e : E} {d : PyData} (h : ev C env e = .ok d) (hf : flat d = true) : rn C Hd (.cons (.set i true e) r) env = rn C Hd r (setV env i d) := by
  show ((ev C env e).fl env fun d => if !flat d then .stuck else .nx (setV env i d)).thn _ = _
  rw [h, Res.fl_ok, hf]; rfl
theorem stp_ex {e : E} {d : PyData} (h : ev C env e = .ok d) : rn C Hd (.cons (.ex e) r) env = rn C Hd r env := by
  show ((ev C env e).fl env fun _ => .nx env).thn _ = _
  rw [h]; rfl
theorem stp_ret {e : E} {d : PyData} (h : ev C env e = .ok d) : rn C Hd (.cons (.ret e) r) env = .rt d := by
  show ((ev C env e).fl env fun d => .rt d).thn _ = _
  rw [h]; rfl
theorem stp_own {i : Nat} {e : E} {xs : List PyData} (h : ev C env e = .ok (.list xs)) : rn C Hd (.cons (.own i e) r) env = rn C Hd r (setV env i (.list xs)) := by
  show ((ev C env e).fl env fun d => ownK env i d).thn _ = _
  rw [h]; rfl
theorem stp_fls {i : Nat} {e : E} {xs : List PyData} (h : ev C env e = .ok (.list xs)) (hf : flats xs = true) : rn C Hd (.cons (.fls i e) r) env = rn C Hd r (setV env i (.list xs)) := by
  show ((ev C env e).fl env fun d => match d with | .list xs => if flats xs then Fl.nx (setV env i (.list xs)) else .stuck | _ => .stuck).thn _ = _
  rw [h, Res.fl_ok]
  show (if flats xs then Fl.nx (setV env i (.list xs)) else .stuck).thn _ = _
  rw [hf]; rfl
theorem stp_ofl {i : Nat} {e : E} {xs : List PyData} (h : ev C env e = .ok (.list xs)) (hf : flats xs = true) : rn C Hd (.cons (.ofl i e) r) env = rn C Hd r (setV env i (.list xs)) := by
  show ((ev C env e).fl env fun d => match d with | .list xs => if flats xs then Fl.nx (setV env i (.list xs)) else .stuck | _ => .stuck).thn _ = _
  rw [h, Res.fl_ok]
  show (if flats xs then Fl.nx (setV env i (.list xs)) else .stuck).thn _ = _
  rw [hf]; rfl
theorem flats_ints (ns : List Int) : flats (ns.map PyData.int) = true := by
  induction ns with
  | nil => rfl
  | cons i r ih => simp [flats, flat, ih]
theorem stp_for {t : Tg} {it : It} {b : Ss} {ds : List PyData} {env' : Ev} (h : evi C env it = .ok ds) (h2 : forR t (rn C Hd b) ds env = .nx env') : rn C Hd (.cons (.fr t it b) r) env = rn C Hd r env' := by
  show ((evi C env it).fl env fun ds => forR t (rn C Hd b) ds env).thn _ = _
  rw [h, Res.fl_ok, h2]; rfl
theorem stp_unp {is : List Nat} {e : E} {ds : List PyData} {env' : Ev} (h : ev C env e = .ok (.tuple ds)) (h2 : setAll env is ds = some env') : rn C Hd (.cons (.unp is e) r) env = rn C Hd r env' := by
  show ((ev C env e).fl env fun d => (bindT env (.tp is) d).fl env fun env' => .nx env').thn _ = _
  rw [h, Res.fl_ok]
  show ((someR (setAll env is ds)).fl env _).thn _ = _
  rw [h2]; rfl
theorem runD_ok {d : Df} {args : List PyData} {x : PyData} (hl : args.length = d.np) (h : rn C Hd d.body (args.map some ++ List.replicate (d.nn - d.np) none) = .rt x) : runD C Hd d args = .ok x := by
  unfold runD
  rw [if_pos hl, h]
theorem stp_one {a : S} {env' : Ev} (h : rn C Hd (.cons a .nil) env = .nx env') : rn C Hd (.cons a r) env = rn C Hd r env' := by
  have h : (rn1 C Hd a env).thn (fun e => .nx e) = .nx env' := h
  show (rn1 C Hd a env).thn (fun e => rn C Hd r e) = _
  cases q : rn1 C Hd a env with
  | nx e => rw [q] at h; cases h; rfl
  | _ => rw [q] at h; cases h
theorem lst0 : ev C env (.lst .nil) = .ok (.list []) := by
  show guardR (fitsL 0) _ = _
  exact tup_fit _ _ (by decide)
theorem tup0 : ev C env (.tup .nil) = .ok (.tuple []) := by
  show guardR (fitsL 0) _ = _
  exact tup_fit _ _ (by decide)
theorem or_ff {a b : E} (h : ev C env a = .ok (.bool false)) (h2 : ev C env b = .ok (.bool false)) : ev C env (.or (.cons a (.cons b .nil))) = .ok (.bool false) := by
  show (ev C env a >>= fun x => boolD x >>= fun k => if k then .ok (.bool true) else ev C env b) = _
  rw [h]
  exact h2
theorem ne_ff {a b : E} {d e : PyData} (h : ev C env a = .ok d) (h2 : ev C env b = .ok e) (h3 : cmpD .ne d e = .ok (.bool false)) : ev C env (.cmp .ne a b) = .ok (.bool false) := by
  show (ev C env a >>= fun x => ev C env b >>= fun y => cmpD .ne x y) = _
  rw [h, h2]
  exact h3
/-- [.. for .. if ..] tells nothing -/
theorem lc_none {α : Type} {e : α → PyData} {t : Tg} {it : It} {c : E} {x : E} (xs : List α) (h : evi C env it = .ok (xs.map e)) (hl : xs.length ≤ 16777216) (h2 : ∀ a ∈ xs, ∃ env', bindT env t (e a) = .ok env' ∧ ev C env' c = .ok (.bool false)) : ev C env (.lc t it (.som c) x) = .ok (.list []) := by
  show (evi C env it >>= fun ds => lcR (lc1 C env t (.som c) x) ds >>= fun xs => guardR (fitsL ds.length) (.list xs)) = _
  rw [h, Res.ok_bind, lcR_of (fun _ => none) xs fun a ha => ?_]
  · rw [Res.ok_bind, tup_fit _ _ (by simpa using hl)]
    simp
  · obtain ⟨env', h3, h4⟩ := h2 a ha
    show calm (bindT env t (e a) >>= fun env' => (ev C env' c >>= fun x => boolD x) >>= fun k => if k then ev C env' x >>= fun x => .ok (some x) else .ok none) = _
    rw [h3, Res.ok_bind, h4]
    rfl
end
theorem atI_0 {α : Type} (x : α) (r : List α) : atI (x :: r) 0 = some x := by
  unfold atI ixN
  rw [if_pos (by omega), if_pos (by simp)]
  rfl
@[simp] theorem ix_0t (x : PyData) (r : List PyData) : ixD (.tuple (x :: r)) (.int 0) = .ok x := by
  show someR (atI _ _) = _
  rw [atI_0]; rfl
@[simp] theorem ix_0l (x : PyData) (r : List PyData) : ixD (.list (x :: r)) (.int 0) = .ok x := by
  show someR (atI _ _) = _
  rw [atI_0]; rfl
theorem atI_1 {α : Type} (x y : α) (r : List α) : atI (x :: y :: r) 1 = some y := by
  unfold atI ixN
  rw [if_pos (by omega), if_pos (by simp; omega)]
  rfl
@[simp] theorem ix_1t (x y : PyData) (r : List PyData) : ixD (.tuple (x :: y :: r)) (.int 1) = .ok y := by
  show someR (atI _ _) = _
  rw [atI_1]; rfl
@[simp] theorem ix_1l (x y : PyData) (r : List PyData) : ixD (.list (x :: y :: r)) (.int 1) = .ok y := by
  show someR (atI _ _) = _
  rw [atI_1]; rfl
/-- a loop over enumerate -/
theorem forR_enum {α : Type} {e : α → PyData} {t : Tg} {b : Ev → Fl} (I : List α → Ev → Prop) : ∀ (xs done : List α) (env : Ev), I done env → (∀ d a r env, done ++ xs = d ++ a :: r → I d env → ∃ env1 env2, bindT env t (.tuple [.int (d.length : Nat), e a]) = .ok env1 ∧ b env1 = .nx env2 ∧ I (d ++ [a]) env2) →
    ∃ env', forR t b (enumL done.length (xs.map e)) env = .nx env' ∧ I (done ++ xs) env'
  | [], done, env, h, _ => ⟨env, rfl, by simpa using h⟩
  | a :: r, done, env, h, st => by
    obtain ⟨env1, env2, h1, h2, h3⟩ := st done a r env rfl h
    obtain ⟨env', h4, h5⟩ := forR_enum I r (done ++ [a]) env2 h3 fun d a' r' env hx hI => st d a' r' env (by rw [← hx]; simp) hI
    refine ⟨env', ?_, by simpa using h5⟩
    show (bindT env t (.tuple [.int (done.length : Nat), e a])).fl env (fun env' => (b env').thn fun env2 => forR t b (enumL (done.length + 1) (r.map e)) env2) = _
    rw [h1, Res.fl_ok, h2, Fl.thn_nx]
    have : (done ++ [a]).length = done.length + 1 := by simp
    rw [this] at h4
    exact h4
theorem atI_k {α : Type} (xs : List α) (i : Int) (k : Nat) (x : α) (hi : i = (k : Nat)) (h : xs[k]? = some x) : atI xs i = some x := by
  obtain ⟨h1, h2⟩ := List.getElem?_eq_some_iff.mp h
  subst hi
  unfold atI ixN
  rw [if_pos (by omega), if_pos (by omega)]
  show xs[(k : Int).toNat]? = _
  rw [Int.toNat_natCast]
  exact h
@[simp] theorem ix_2t' (x y z : PyData) (r : List PyData) : ixD (.tuple (x :: y :: z :: r)) (.int 2) = .ok z := by
  show someR (atI _ _) = _
  exact congrArg someR (atI_k _ _ 2 _ rfl rfl)
@[simp] theorem ix_2l' (x y z : PyData) (r : List PyData) : ixD (.list (x :: y :: z :: r)) (.int 2) = .ok z := by
  show someR (atI _ _) = _
  exact congrArg someR (atI_k _ _ 2 _ rfl rfl)
@[simp] theorem ix_3t' (x y z u : PyData) (r : List PyData) : ixD (.tuple (x :: y :: z :: u :: r)) (.int 3) = .ok u := by
  show someR (atI _ _) = _
  exact congrArg someR (atI_k _ _ 3 _ rfl rfl)
@[simp] theorem ix_3l' (x y z u : PyData) (r : List PyData) : ixD (.list (x :: y :: z :: u :: r)) (.int 3) = .ok u := by
  show someR (atI _ _) = _
  exact congrArg someR (atI_k _ _ 3 _ rfl rfl)
@[simp] theorem ix_4t' (x y z u v : PyData) (r : List PyData) : ixD (.tuple (x :: y :: z :: u :: v :: r)) (.int 4) = .ok v := by
  show someR (atI _ _) = _
  exact congrArg someR (atI_k _ _ 4 _ rfl rfl)
@[simp] theorem ix_4l' (x y z u v : PyData) (r : List PyData) : ixD (.list (x :: y :: z :: u :: v :: r)) (.int 4) = .ok v := by
  show someR (atI _ _) = _
  exact congrArg someR (atI_k _ _ 4 _ rfl rfl)
@[simp] theorem ix_5t' (x y z u v w : PyData) (r : List PyData) : ixD (.tuple (x :: y :: z :: u :: v :: w :: r)) (.int 5) = .ok w := by
  show someR (atI _ _) = _
  exact congrArg someR (atI_k _ _ 5 _ rfl rfl)
@[simp] theorem ix_5l' (x y z u v w : PyData) (r : List PyData) : ixD (.list (x :: y :: z :: u :: v :: w :: r)) (.int 5) = .ok w := by
  show someR (atI _ _) = _
  exact congrArg someR (atI_k _ _ 5 _ rfl rfl)
@[simp] theorem ix_6t' (x y z u v w a : PyData) (r : List PyData) : ixD (.tuple (x :: y :: z :: u :: v :: w :: a :: r)) (.int 6) = .ok a := by
  show someR (atI _ _) = _
  exact congrArg someR (atI_k _ _ 6 _ rfl rfl)
@[simp] theorem ix_6l' (x y z u v w a : PyData) (r : List PyData) : ixD (.list (x :: y :: z :: u :: v :: w :: a :: r)) (.int 6) = .ok a := by
  show someR (atI _ _) = _
  exact congrArg someR (atI_k _ _ 6 _ rfl rfl)
@[simp] theorem int_b (b : Bool) : bltD .int [.bool b] = .ok (.int (if b then 1 else 0)) := rfl
@[simp] theorem flat_int (i : Int) : flat (.int i) = true := rfl
theorem app_fit (xs : List PyData) (d : PyData) (env : Ev) (i : Nat) (h : xs.length < 16777216) : (if xs.length < sizeLine then Fl.nx (setV env i (.list (xs ++ [d]))) else .stuck) = .nx (setV env i (.list (xs ++ [d]))) := by
  rw [if_pos (by rw [sizeL]; exact h)]
/-! ### going through a list with what was told last -/
def scan (f : Option Int → Int → Int) : Option Int → List Int → List Int
  | _, [] => []
  | o, x :: r => f o x :: scan f (some (f o x)) r
theorem scan_len (f : Option Int → Int → Int) : ∀ (t : List Int) (o : Option Int), (scan f o t).length = t.length
  | [], o => rfl
  | x :: r, o => by simp [scan, scan_len f r]
theorem scan_app (f : Option Int → Int → Int) : ∀ (t u : List Int) (o : Option Int), scan f o (t ++ u) = scan f o t ++ scan f ((o.toList ++ scan f o t).getLast?) u
  | [], u, o => by cases o <;> simp [scan]
  | x :: r, u, o => by
    have := scan_app f r u (some (f o x))
    simp only [scan, List.cons_append, this]
    cases o <;> simp [List.getLast?_cons_cons]
theorem scan_app0 (f : Option Int → Int → Int) (t u : List Int) : scan f none (t ++ u) = scan f none t ++ scan f (scan f none t).getLast? u := by
  have := scan_app f t u none
  simpa using this
theorem scan_take (f : Option Int → Int → Int) (t : List Int) (n : Nat) (h : n ≤ t.length) : scan f none (t.take n) = (scan f none t).take n := by
  have := scan_app0 f (t.take n) (t.drop n)
  rw [List.take_append_drop] at this
  rw [this, List.take_left' (by rw [scan_len]; simp; omega)]
theorem scan_congr {f g : Option Int → Int → Int} (h : ∀ o x, f o x = g o x) : f = g := by
  funext o x; exact h o x
/-- the k-th of it -/
theorem scan_get (f : Option Int → Int → Int) (t : List Int) (k : Nat) (h : k < t.length) : (scan f none t)[k]? = some (f (if k = 0 then none else (scan f none t)[k - 1]?) t[k]) := by
  have e : t = t.take k ++ t[k] :: t.drop (k + 1) := by simp
  have h2 := scan_app0 f (t.take k) (t[k] :: t.drop (k + 1))
  rw [← e] at h2
  have hl : (scan f none (t.take k)).length = k := by rw [scan_len]; simp; omega
  have hlast : (scan f none (t.take k)).getLast? = if k = 0 then none else (scan f none t)[k - 1]? := by
    by_cases hk : k = 0
    · subst hk; simp [scan]
    · rw [if_neg hk, h2, List.getElem?_append_left (by omega), List.getLast?_eq_getElem?, hl]
  rw [← hlast]
  conv => lhs; rw [h2]
  rw [List.getElem?_append_right (by omega), hl]
  simp [scan]
/-! ### whole comprehensions -/
section
variable {C : Nat → List PyData → Res PyData} {env : Ev} {α : Type}
theorem lc_f {t : Tg} {it : It} {c : Eo} {x : E} (xs : List α) (e : α → PyData) (p : α → Bool) (g : α → PyData) (h : evi C env it = .ok (xs.map e)) (hl : xs.length ≤ 16777216) (h2 : ∀ a ∈ xs, lc1 C env t c x (e a) = .ok (if p a then some (g a) else none)) : ev C env (.lc t it c x) = .ok (.list ((xs.filter p).map g)) := by
  show (evi C env it >>= fun ds => lcR (lc1 C env t c x) ds >>= fun xs => guardR (fitsL ds.length) (.list xs)) = _
  rw [h, Res.ok_bind, lcR_filter p g xs h2, Res.ok_bind, tup_fit _ _ (by simpa using hl)]
theorem lc_m {t : Tg} {it : It} {c : Eo} {x : E} (xs : List α) (e : α → PyData) (g : α → PyData) (h : evi C env it = .ok (xs.map e)) (hl : xs.length ≤ 16777216) (h2 : ∀ a ∈ xs, lc1 C env t c x (e a) = .ok (some (g a))) : ev C env (.lc t it c x) = .ok (.list (xs.map g)) := by
  show (evi C env it >>= fun ds => lcR (lc1 C env t c x) ds >>= fun xs => guardR (fitsL ds.length) (.list xs)) = _
  rw [h, Res.ok_bind, lcR_map g xs h2, Res.ok_bind, tup_fit _ _ (by simpa using hl)]
/-- .. of numbers, told as numbers -/
theorem lc_fi {t : Tg} {it : It} {c : Eo} {x : E} (xs : List Int) (p : Int → Bool) (g : Int → Int) (h : evi C env it = .ok (intL xs)) (hl : xs.length ≤ 16777216) (h2 : ∀ a ∈ xs, lc1 C env t c x (.int a) = .ok (if p a then some (.int (g a)) else none)) : ev C env (.lc t it c x) = .ok (.list (intL ((xs.filter p).map g))) := by
  rw [lc_f xs PyData.int p (fun a => .int (g a)) h hl h2]
  simp
theorem lc_mi {t : Tg} {it : It} {c : Eo} {x : E} (xs : List Int) (g : Int → Int) (h : evi C env it = .ok (intL xs)) (hl : xs.length ≤ 16777216) (h2 : ∀ a ∈ xs, lc1 C env t c x (.int a) = .ok (some (.int (g a)))) : ev C env (.lc t it c x) = .ok (.list (intL (xs.map g))) := by
  rw [lc_m xs PyData.int (fun a => .int (g a)) h hl h2]
  simp
/-- .. over a range -/
theorem lc_rm {t : Tg} {it : It} {c : Eo} {x : E} (lo : Int) (n : Nat) (g : Nat → PyData) (h : evi C env it = .ok (rangeL lo n)) (hl : n ≤ 16777216) (h2 : ∀ k, k < n → lc1 C env t c x (.int (lo + (k : Nat))) = .ok (some (g k))) : ev C env (.lc t it c x) = .ok (.list ((List.range n).map g)) := by
  refine lc_m (List.range n) (fun k : Nat => PyData.int (lo + (k : Nat))) g h (by simpa using hl) fun k hk => h2 k (List.mem_range.mp hk)
theorem lc_rf {t : Tg} {it : It} {c : Eo} {x : E} (lo : Int) (n : Nat) (p : Nat → Bool) (g : Nat → PyData) (h : evi C env it = .ok (rangeL lo n)) (hl : n ≤ 16777216) (h2 : ∀ k, k < n → lc1 C env t c x (.int (lo + (k : Nat))) = .ok (if p k then some (g k) else none)) : ev C env (.lc t it c x) = .ok (.list (((List.range n).filter p).map g)) := by
  refine lc_f (List.range n) (fun k : Nat => PyData.int (lo + (k : Nat))) p g h (by simpa using hl) fun k hk => h2 k (List.mem_range.mp hk)
end
end Z
end
section
/-! Z14: defs that change objects: terms over the small language, their meaning. An object is what its fields hold; a def that is handed objects tells what they hold at its end. -/
namespace Z
open PySem
/-! no object within -/
mutual
def nob : PyData → Bool
  | .none | .bool _ | .int _ | .str _ => true
  | .tuple xs => nobs xs
  | .list xs => nobs xs
  | .dict _ => false
def nobs : List PyData → Bool
  | [] => true
  | d :: r => nob d && nobs r
end
/-- what is handed to a def: an object's slot, a plain term -/
inductive Ag where
  | ob (i : Nat)
  | ex (e : E)
  | ow (i : Nat)
/-- a call: of a def, of a method, of a class -/
inductive Oc where
  | fn (f : Nat) (xs : List Ag)
  | mt (c f i : Nat) (xs : List Ag)
  | nw (c f : Nat) (xs : List Ag)
mutual
inductive OE where
  | p (m : Bool) (e : E)
  | n (e : E)
  | c (o : Oc)
  | cmp (o : Cop) (a b : OE)
  | inv (a : OE)
  | an (xs : OEs)
  | or (xs : OEs)
  | ite (c a b : OE)
  | lor (a : OE)
  | lc (t : Tg) (it : It) (e : OE)
inductive OEs where
  | nil
  | cons (a : OE) (r : OEs)
end
mutual
inductive OS where
  | set (i : Nat) (e : OE)
  | own (i : Nat) (e : E)
  | fls (i : Nat) (e : E)
  | unp (is : List Nat) (e : E)
  | app (i : Nat) (e : OE)
  | sto (c i k : Nat) (e : E)
  | ston (c i k : Nat) (e : E)
  | seto (i : Nat) (o : Oc)
  | ownc (i : Nat) (o : Oc)
  | ret (e : OE)
  | retn
  | reto (i : Nat)
  | retc (o : Oc)
  | ifs (c : OE) (a b : OSs)
  | fr (t : Tg) (it : It) (b : OSs)
  | rs (c : Nat) (msg : Str)
  | tr (i k : Nat) (b : OSs) (f : Nat)
  | ex (e : OE)
  | skip
inductive OSs where
  | nil
  | cons (a : OS) (r : OSs)
end
/-! ### meaning -/
inductive RM (α : Type) where
  | ok (a : α) (env : Ev)
  | exc (c : Nat) (env : Ev)
  | stuck
def RM.bind {α β : Type} (r : RM α) (f : α → Ev → RM β) : RM β := match r with
  | .ok a env => f a env
  | .exc c env => .exc c env
  | .stuck => .stuck
@[simp] theorem RM.bind_ok {α β : Type} (a : α) (env : Ev) (f : α → Ev → RM β) : (RM.ok a env).bind f = f a env := rfl
@[simp] theorem RM.bind_exc {α β : Type} (c : Nat) (env : Ev) (f : α → Ev → RM β) : (RM.exc c env : RM α).bind f = .exc c env := rfl
@[simp] theorem RM.bind_stuck {α β : Type} (f : α → Ev → RM β) : (RM.stuck : RM α).bind f = .stuck := rfl
def Res.to {α : Type} (r : Res α) (env : Ev) : RM α := match r with
  | .ok a => .ok a env
  | .exc c => .exc c env
  | .stuck => .stuck
@[simp] theorem Res.to_ok {α : Type} (a : α) (env : Ev) : (Res.ok a).to env = .ok a env := rfl
@[simp] theorem Res.to_exc {α : Type} (c : Nat) (env : Ev) : (Res.exc c : Res α).to env = .exc c env := rfl
@[simp] theorem Res.to_stuck {α : Type} (env : Ev) : (Res.stuck : Res α).to env = .stuck := rfl
/-- what a def that changes objects tells, and its objects at its end -/
inductive RO where
  | ok (d : PyData) (os : List PyData)
  | exc (c : Nat) (os : List PyData)
  | stuck
def RO.to (r : RO) (env : Ev) (is : List Nat) : RM PyData := match r with
  | .ok d os => (match setAll env is os with
    | some env' => .ok d env'
    | none => .stuck)
  | .exc c os => (match setAll env is os with
    | some env' => .exc c env'
    | none => .stuck)
  | .stuck => .stuck
def agSlots : List Ag → List Nat
  | [] => []
  | .ob i :: r => i :: agSlots r
  | .ex _ :: r => agSlots r
  | .ow _ :: r => agSlots r
/-- a plain value: without objects; if own lists are named, without lists too -/
def okV (m : Bool) (d : PyData) : Bool := if m then flat d else nob d
/-- which class, of an object -/
def obC : PyData → Option Nat
  | .dict [(.int k, .tuple _)] => some k.toNat
  | _ => none
def lorD : PyData → Res PyData
  | .none => .ok (.int 0)
  | .tuple (d :: ds) => .ok (.int (ds.length + 1 : Nat))
  | _ => .stuck
section
variable (C : Nat → List PyData → Res PyData) (M : Nat → List PyData → RO)
def evG (env : Ev) : List Ag → Res (List PyData)
  | [] => .ok []
  | .ob i :: r => getV env i >>= fun d => evG env r >>= fun ds => .ok (d :: ds)
  | .ex e :: r => ev C env e >>= fun d => if nob d then evG env r >>= fun ds => .ok (d :: ds) else .stuck
  | .ow i :: r => getV env i >>= fun d => evG env r >>= fun ds => .ok (d :: ds)
def evC (env : Ev) : Oc → RM PyData
  | .fn f xs => ((evG C env xs).to env).bind fun ds env => (M f ds).to env (agSlots xs)
  | .mt c f i xs => ((getV env i >>= fun d => obF c d >>= fun _ => evG C env (.ob i :: xs)).to env).bind fun ds env => (M f ds).to env (agSlots (.ob i :: xs))
  | .nw c f xs => ((evG C env xs).to env).bind fun ds env => match M f (obD c [] :: ds) with
    | .ok .none [o] => .ok o env
    | .exc k [_] => .exc k env
    | _ => .stuck
/-- a row of slots as they were -/
def putBack (env env2 : Ev) : List Nat → Ev
  | [] => env2
  | i :: is => putBack env (match env[i]? with | some o => env2.set i o | none => env2) is
def lcO (t : Tg) (f : Ev → RM PyData) (is : List Nat) : List PyData → Ev → RM (List PyData)
  | [], env => .ok [] env
  | d :: r, env => ((bindT env t d).to env).bind fun env1 _ => match f env1 with
    | .ok x env2 => (lcO t f is r (putBack env env2 is)).bind fun xs env3 => .ok (x :: xs) env3
    | .exc c env2 => .exc c (putBack env env2 is)
    | .stuck => .stuck
def tgSlots : Tg → List Nat
  | .nm i => [i]
  | .tp is => is
mutual
def evO (env : Ev) : OE → RM PyData
  | .p m e => ((ev C env e).to env).bind fun d env => if okV m d then .ok d env else .stuck
  | .n e => ((ev C env e).to env).bind fun d env => match d with | .list xs => if flats xs then .ok (.list xs) env else .stuck | _ => .stuck
  | .c o => (evC C M env o).bind fun d env => if nob d then .ok d env else .stuck
  | .cmp o a b => (evO env a).bind fun x env => (evO env b).bind fun y env => (cmpD o x y).to env
  | .inv a => (evO env a).bind fun x env => (boolD x).to env |>.bind fun k env => .ok (.bool (!k)) env
  | .an xs => evOan env xs
  | .or xs => evOor env xs
  | .ite c a b => (evO env c).bind fun x env => ((boolD x).to env).bind fun k env => if k then evO env a else evO env b
  | .lor a => (evO env a).bind fun x env => (lorD x).to env
  | .lc t it e => ((evi C env it).to env).bind fun ds env => if fitsL ds.length then (lcO t (fun env => evO env e) (tgSlots t) ds env).bind fun xs env => .ok (.list xs) env else .stuck
def evOan (env : Ev) : OEs → RM PyData
  | .nil => .stuck
  | .cons a .nil => evO env a
  | .cons a (.cons b r) => (evO env a).bind fun x env => ((boolD x).to env).bind fun k env => if k then evOan env (.cons b r) else .ok (.bool false) env
def evOor (env : Ev) : OEs → RM PyData
  | .nil => .stuck
  | .cons a .nil => evO env a
  | .cons a (.cons b r) => (evO env a).bind fun x env => ((boolD x).to env).bind fun k env => if k then .ok (.bool true) env else evOor env (.cons b r)
end
inductive FlO where
  | nx (env : Ev)
  | rt (d : PyData) (env : Ev)
  | xc (c : Nat) (env : Ev)
  | stuck
def RM.fl {α : Type} (r : RM α) (k : α → Ev → FlO) : FlO := match r with
  | .ok a env => k a env
  | .exc c env => .xc c env
  | .stuck => .stuck
@[simp] theorem RM.fl_ok {α : Type} (a : α) (env : Ev) (k : α → Ev → FlO) : (RM.ok a env).fl k = k a env := rfl
@[simp] theorem RM.fl_exc {α : Type} (c : Nat) (env : Ev) (k : α → Ev → FlO) : (RM.exc c env : RM α).fl k = .xc c env := rfl
@[simp] theorem RM.fl_stuck {α : Type} (k : α → Ev → FlO) : (RM.stuck : RM α).fl k = .stuck := rfl
def FlO.thn (r : FlO) (k : Ev → FlO) : FlO := match r with
  | .nx env => k env
  | r => r
@[simp] theorem FlO.thn_nx (env : Ev) (k : Ev → FlO) : (FlO.nx env).thn k = k env := rfl
@[simp] theorem FlO.thn_rt (d : PyData) (env : Ev) (k : Ev → FlO) : (FlO.rt d env).thn k = .rt d env := rfl
@[simp] theorem FlO.thn_xc (c : Nat) (env : Ev) (k : Ev → FlO) : (FlO.xc c env).thn k = .xc c env := rfl
@[simp] theorem FlO.thn_stuck (k : Ev → FlO) : (FlO.stuck).thn k = .stuck := rfl
def forO (t : Tg) (b : Ev → FlO) : List PyData → Ev → FlO
  | [], env => .nx env
  | d :: r, env => ((bindT env t d).to env).fl fun env' _ => (b env').thn fun env2 => forO t b r env2
def trO (h : Nat → Res PyData) (k : Nat) : FlO → FlO
  | .xc c env => (match h c with
    | .ok d => if subX c k then .rt d env else .xc c env
    | _ => .stuck)
  | r => r
/-- a field is stored -/
def putK (k : Nat) (d : PyData) (ds : List PyData) : Option (List PyData) := if k < ds.length then some (ds.set k d) else if k = ds.length then some (ds ++ [d]) else none
variable (Hd : Nat → Nat → Res PyData)
mutual
def rnO : OSs → Ev → FlO
  | .nil, env => .nx env
  | .cons a r, env => (rnO1 a env).thn fun env2 => rnO r env2
def rnO1 : OS → Ev → FlO
  | .set i e, env => (evO C M env e).fl fun d env => .nx (setV env i d)
  | .own i e, env => ((ev C env e).to env).fl fun d env => match d with
    | .list xs => if nobs xs then .nx (setV env i (.list xs)) else .stuck
    | _ => .stuck
  | .fls i e, env => ((ev C env e).to env).fl fun d env => match d with
    | .list xs => if flats xs then .nx (setV env i (.list xs)) else .stuck
    | _ => .stuck
  | .unp is e, env => ((ev C env e).to env).fl fun d env => if nob d then ((bindT env (.tp is) d).to env).fl fun env' _ => .nx env' else .stuck
  | .app i e, env => ((listV env i).to env).fl fun _ env => (evO C M env e).fl fun d env => ((listV env i).to env).fl fun xs env => if xs.length < sizeLine then .nx (setV env i (.list (xs ++ [d]))) else .stuck
  | .sto c i k e, env => ((ev C env e).to env).fl fun d env => if nob d then ((getV env i >>= obF c).to env).fl fun ds env => match putK k d ds with
    | some ds' => .nx (setV env i (obD c ds'))
    | none => .stuck
    else .stuck
  | .ston c i k e, env => (evO C M env (.n e)).fl fun d env => ((getV env i >>= obF c).to env).fl fun ds env => match putK k d ds with
    | some ds' => .nx (setV env i (obD c ds'))
    | none => .stuck
  | .seto i o, env => (evC C M env o).fl fun d env => if (obC d).isSome then .nx (setV env i d) else .stuck
  | .ownc i o, env => (evC C M env o).fl fun d env => match d with
    | .list xs => if nobs xs then .nx (setV env i (.list xs)) else .stuck
    | _ => .stuck
  | .ret e, env => (evO C M env e).fl fun d env => if nob d then .rt d env else .stuck
  | .retn, env => .rt .none env
  | .reto i, env => ((getV env i).to env).fl fun d env => .rt d env
  | .retc o, env => (evC C M env o).fl fun d env => .rt d env
  | .ifs c a b, env => (evO C M env c).fl fun x env => ((boolD x).to env).fl fun k env => if k then rnO a env else rnO b env
  | .fr t it b, env => ((evi C env it).to env).fl fun ds env => forO t (rnO b) ds env
  | .rs c _, env => .xc c env
  | .tr _ k b f, env => trO (Hd f) k (rnO b env)
  | .ex e, env => (evO C M env e).fl fun _ env => .nx env
  | .skip, env => .nx env
end
end
/-- a def that changes objects: how many parameters, slots, which parameters are objects, its body -/
structure Do where
  np : Nat
  nn : Nat
  ob : List Nat
  body : OSs
def takeO (env : Ev) : List Nat → Option (List PyData)
  | [] => some []
  | i :: is => match env[i]? with
    | some (some d) => (takeO env is).map (d :: ·)
    | _ => none
def FlO.res (is : List Nat) : FlO → RO
  | .rt x env => (match takeO env is with
    | some os => .ok x os
    | none => .stuck)
  | .nx env => (match takeO env is with
    | some os => .ok .none os
    | none => .stuck)
  | .xc c env => (match takeO env is with
    | some os => .exc c os
    | none => .stuck)
  | .stuck => .stuck
def runO (C : Nat → List PyData → Res PyData) (M : Nat → List PyData → RO) (Hd : Nat → Nat → Res PyData) (d : Do) (args : List PyData) : RO :=
  if args.length = d.np then (rnO C M Hd d.body (args.map some ++ List.replicate (d.nn - d.np) none)).res d.ob else .stuck
def callO (T : Tb) (os : List Do) : Nat → Nat → List PyData → RO
  | 0, _, _ => .stuck
  | n + 1, f, args => match os[f]? with
    | some d => runO (callF T n) (callO T os n) (hotF T) d args
    | none => .stuck
end Z
end
section
/-! the bodies of all defs, in the small language; printed by gen.py -/
namespace B
open PySem Z
def _law_cell : Ss := (.cons (.ifs (.cmp .eq (.var 0) (.lst .nil)) (.cons (.ret (.bin .mul (.cn (.int 7)) (.var 1))) .nil) .nil) (.cons (.ret (.bin .add (.ix (.var 0) (.bin .mod (.var 1) (.bl .len (.cons (.var 0) .nil)))) (.bin .mul (.cn (.int 6553)) (.bin .div (.var 1) (.bl .len (.cons (.var 0) .nil)))))) .nil))
def d__law_cell : Df := ⟨2, 2, _law_cell⟩
def _law_drawn (i__law_cell : Nat) : Ss := (.cons (.set 3 false (.bin .mod (.bin .add (.bin .mul (.bin .mod (.call i__law_cell (.cons (.var 0) (.cons (.var 1) .nil))) (.cn (.int 2147483563))) (.cn (.int 69069))) (.bin .mul (.cn (.int 104723)) (.bin .add (.var 1) (.cn (.int 1))))) (.cn (.int 2147483563)))) (.cons (.set 3 false (.bin .mod (.bin .add (.bin .mul (.var 3) (.var 3)) (.bin .div (.var 3) (.cn (.int 3)))) (.cn (.int 2147483399)))) (.cons (.ret (.bin .mod (.bin .div (.bin .mod (.bin .add (.bin .mul (.var 3) (.var 3)) (.bin .div (.var 3) (.cn (.int 7)))) (.cn (.int 2147483647))) (.cn (.int 11))) (.var 2))) .nil)))
def d__law_drawn (i__law_cell : Nat) : Df := ⟨3, 4, _law_drawn i__law_cell⟩
def _law_track_l1 (i__law_drawn : Nat) : Ss := (.cons (.app 6 false (.var 5)) (.cons (.set 5 false (.bl .max (.cons (.neg (.cn (.int 15))) (.cons (.bl .min (.cons (.cn (.int 15)) (.cons (.bin .sub (.bin .add (.var 5) (.call i__law_drawn (.cons (.var 0) (.cons (.bin .add (.bin .add (.var 1) (.cn (.int 3))) (.var 7)) (.cons (.bin .add (.bin .mul (.cn (.int 2)) (.var 4)) (.cn (.int 1))) .nil))))) (.var 4)) .nil))) .nil)))) .nil))
def _law_track (i__law_drawn : Nat) : Ss := (.cons (.set 3 false (.call i__law_drawn (.cons (.var 0) (.cons (.var 1) (.cons (.bin .add (.var 2) (.cn (.int 1))) .nil))))) (.cons (.set 4 false (.ix (.lst (.cons (.cn (.int 2)) (.cons (.cn (.int 5)) (.cons (.cn (.int 12)) .nil)))) (.call i__law_drawn (.cons (.var 0) (.cons (.bin .add (.var 1) (.cn (.int 1))) (.cons (.cn (.int 3)) .nil)))))) (.cons (.set 5 false (.bin .sub (.call i__law_drawn (.cons (.var 0) (.cons (.bin .add (.var 1) (.cn (.int 2))) (.cons (.cn (.int 13)) .nil)))) (.cn (.int 6)))) (.cons (.own 6 (.lst .nil)) (.cons (.fr (.nm 7) (.rg (.cons (.var 3) .nil)) (_law_track_l1 i__law_drawn)) (.cons (.ret (.bl .tuple (.cons (.var 6) .nil))) .nil))))))
def d__law_track (i__law_drawn : Nat) : Df := ⟨3, 8, _law_track i__law_drawn⟩
def is_number : Ss := (.cons (.ret (.an (.cons (.isi (.var 0) .int) (.cons (.inv (.isi (.var 0) .bool)) (.cons (.chn .le .le (.var 1) (.var 0) (.var 2)) .nil))))) .nil)
def d_is_number : Df := ⟨3, 3, is_number⟩
def is_sample (i_is_number : Nat) : Ss := (.cons (.ret (.call i_is_number (.cons (.var 0) (.cons (.bin .sub (.cn (.int 0)) (.gl "MOST_WORTH" (.cn (.int 99)))) (.cons (.gl "MOST_WORTH" (.cn (.int 99))) .nil))))) .nil)
def d_is_sample (i_is_number : Nat) : Df := ⟨1, 1, is_sample i_is_number⟩
def is_track (i_is_sample : Nat) : Ss := (.cons (.ret (.an (.cons (.isi (.var 0) .tuple) (.cons (.cmp .le (.bl .len (.cons (.var 0) .nil)) (.gl "MOST_SAMPLES" (.cn (.int 60)))) (.cons (.bl .all (.cons (.lc (.nm 1) (.ov (.var 0)) .non (.call i_is_sample (.cons (.var 1) .nil))) .nil)) .nil))))) .nil)
def d_is_track (i_is_sample : Nat) : Df := ⟨1, 2, is_track i_is_sample⟩
def need_track (i_is_track : Nat) : Ss := (.cons (.ifs (.inv (.call i_is_track (.cons (.var 0) .nil))) (.cons (.rs 0 "no track") .nil) .nil) .nil)
def d_need_track (i_is_track : Nat) : Df := ⟨1, 1, need_track i_is_track⟩
def span (i_need_track : Nat) : Ss := (.cons (.ex (.call i_need_track (.cons (.var 0) .nil))) (.cons (.ret (.ite (.cmp .ne (.var 0) (.tup .nil)) (.tup (.cons (.bl .min (.cons (.var 0) .nil)) (.cons (.bl .max (.cons (.var 0) .nil)) .nil))) (.cn .non))) .nil))
def d_span (i_need_track : Nat) : Df := ⟨1, 1, span i_need_track⟩
def states (i_need_track : Nat) (i_need_level : Nat) (i_states_of : Nat) : Ss := (.cons (.ex (.call i_need_track (.cons (.var 0) .nil))) (.cons (.ex (.call i_need_level (.cons (.var 1) (.cons (.var 2) .nil)))) (.cons (.ret (.call i_states_of (.cons (.var 0) (.cons (.var 1) (.cons (.var 2) .nil))))) .nil)))
def edges (i_need_track : Nat) (i_need_level : Nat) (i_edges_of : Nat) : Ss := (.cons (.ex (.call i_need_track (.cons (.var 0) .nil))) (.cons (.ex (.call i_need_level (.cons (.var 1) (.cons (.var 2) .nil)))) (.cons (.ret (.call i_edges_of (.cons (.var 0) (.cons (.var 1) (.cons (.var 2) .nil))))) .nil)))
def runs (i_need_track : Nat) (i_need_level : Nat) (i_runs_of : Nat) : Ss := (.cons (.ex (.call i_need_track (.cons (.var 0) .nil))) (.cons (.ex (.call i_need_level (.cons (.var 1) (.cons (.var 2) .nil)))) (.cons (.ret (.call i_runs_of (.cons (.var 0) (.cons (.var 1) (.cons (.var 2) .nil))))) .nil)))
def part (i_need_track : Nat) (i_is_number : Nat) : Ss := (.cons (.ex (.call i_need_track (.cons (.var 0) .nil))) (.cons (.ifs (.or (.cons (.inv (.call i_is_number (.cons (.var 1) (.cons (.cn (.int 0)) (.cons (.bin .sub (.bl .len (.cons (.var 0) .nil)) (.cn (.int 1))) .nil))))) (.cons (.inv (.call i_is_number (.cons (.var 2) (.cons (.var 1) (.cons (.bin .sub (.bl .len (.cons (.var 0) .nil)) (.cn (.int 1))) .nil))))) .nil))) (.cons (.rs 4 "no such places") .nil) .nil) (.cons (.ret (.sl (.var 0) (.som (.var 1)) (.som (.bin .add (.var 2) (.cn (.int 1)))))) .nil)))
def d_part (i_need_track : Nat) (i_is_number : Nat) : Df := ⟨3, 3, part i_need_track i_is_number⟩
def _law_is_sign_l1 (i__law_is_number : Nat) (i__law_is_sign : Nat) : Ss := (.cons (.ifs (.or (.cons (.cmp .eq (.var 1) (.cn (.int 1))) (.cons (.an (.cons (.cmp .eq (.bl .len (.cons (.var 0) .nil)) (.cn (.int 4))) (.cons (.inv (.call i__law_is_number (.cons (.ix (.var 0) (.cn (.int 3))) (.cons (.cn (.int 1)) (.cons (.cn (.int 60)) .nil))))) .nil))) .nil))) (.cons (.ret (.cn (.bl false))) .nil) .nil) (.cons (.ret (.an (.cons (.call i__law_is_sign (.cons (.ix (.var 0) (.cn (.int 1))) (.cons (.bin .sub (.var 1) (.cn (.int 1))) .nil))) (.cons (.call i__law_is_sign (.cons (.ix (.var 0) (.cn (.int 2))) (.cons (.bin .sub (.var 1) (.cn (.int 1))) .nil))) .nil)))) .nil))
def _law_is_sign_l2 (i__law_is_number : Nat) : Ss := (.cons (.ifs (.or (.cons (.inv (.isi (.ix (.var 0) (.cn (.int 3))) .tuple)) (.cons (.inv (.chn .le .le (.cn (.int 1)) (.bl .len (.cons (.ix (.var 0) (.cn (.int 3))) .nil)) (.cn (.int 6)))) .nil))) (.cons (.ret (.cn (.bl false))) .nil) .nil) (.cons (.ret (.cmp .eq (.lc (.nm 3) (.ov (.ix (.var 0) (.cn (.int 3)))) (.som (.an (.cons (.cmp .isnot (.var 3) (.cn .non)) (.cons (.inv (.call i__law_is_number (.cons (.var 3) (.cons (.cn (.int 0)) (.cons (.cn (.int 1)) .nil))))) .nil)))) (.var 3)) (.lst .nil))) .nil))
def _law_is_sign (i__law_is_number : Nat) (i__law_is_sign : Nat) : Ss := (.cons (.ifs (.or (.cons (.inv (.isi (.var 0) .tuple)) (.cons (.cmp .eq (.var 0) (.tup .nil)) (.cons (.inv (.isi (.ix (.var 0) (.cn (.int 0))) .str)) .nil)))) (.cons (.ret (.cn (.bl false))) .nil) .nil) (.cons (.set 2 false (.tup (.cons (.ix (.var 0) (.cn (.int 0))) (.cons (.bl .len (.cons (.var 0) .nil)) .nil)))) (.cons (.ifs (.cmp .isin (.var 2) (.tup (.cons (.tup (.cons (.cn (.str "either")) (.cons (.cn (.int 3)) .nil))) (.cons (.tup (.cons (.cn (.str "behind")) (.cons (.cn (.int 4)) .nil))) .nil)))) (_law_is_sign_l1 i__law_is_number i__law_is_sign) .nil) (.cons (.ifs (.cmp .notin (.var 2) (.tup (.cons (.tup (.cons (.cn (.str "edge")) (.cons (.cn (.int 4)) .nil))) (.cons (.tup (.cons (.cn (.str "width")) (.cons (.cn (.int 6)) .nil))) (.cons (.tup (.cons (.cn (.str "row")) (.cons (.cn (.int 4)) .nil))) .nil))))) (.cons (.ret (.cn (.bl false))) .nil) .nil) (.cons (.ifs (.or (.cons (.inv (.call i__law_is_number (.cons (.ix (.var 0) (.cn (.int 1))) (.cons (.neg (.cn (.int 99))) (.cons (.cn (.int 99)) .nil))))) (.cons (.inv (.call i__law_is_number (.cons (.ix (.var 0) (.cn (.int 2))) (.cons (.cn (.int 0)) (.cons (.cn (.int 20)) .nil))))) .nil))) (.cons (.ret (.cn (.bl false))) .nil) .nil) (.cons (.ifs (.cmp .eq (.ix (.var 0) (.cn (.int 0))) (.cn (.str "row"))) (_law_is_sign_l2 i__law_is_number) .nil) (.cons (.set 4 false (.ite (.cmp .eq (.ix (.var 0) (.cn (.int 0))) (.cn (.str "edge"))) (.tup (.cons (.cn (.str "up")) (.cons (.cn (.str "down")) (.cons (.cn (.str "both")) .nil)))) (.tup (.cons (.cn (.str "high")) (.cons (.cn (.str "low")) .nil))))) (.cons (.ifs (.or (.cons (.inv (.isi (.ix (.var 0) (.cn (.int 3))) .str)) (.cons (.cmp .notin (.ix (.var 0) (.cn (.int 3))) (.var 4)) .nil))) (.cons (.ret (.cn (.bl false))) .nil) .nil) (.cons (.ifs (.cmp .eq (.ix (.var 0) (.cn (.int 0))) (.cn (.str "edge"))) (.cons (.ret (.cn (.bl true))) .nil) .nil) (.cons (.ret (.an (.cons (.call i__law_is_number (.cons (.ix (.var 0) (.cn (.int 4))) (.cons (.cn (.int 1)) (.cons (.cn (.int 60)) .nil)))) (.cons (.call i__law_is_number (.cons (.ix (.var 0) (.cn (.int 5))) (.cons (.cn (.int 1)) (.cons (.cn (.int 60)) .nil)))) (.cons (.cmp .le (.ix (.var 0) (.cn (.int 4))) (.ix (.var 0) (.cn (.int 5)))) .nil))))) .nil))))))))))
def flipped (i_need_sign : Nat) (i_flipped_in : Nat) : Ss := (.cons (.ex (.call i_need_sign (.cons (.var 0) .nil))) (.cons (.ret (.call i_flipped_in (.cons (.var 0) .nil))) .nil))
def _law_flipped_l1 (i__law_flipped : Nat) : Ss := (.cons (.unp [1, 2] (.call i__law_flipped (.cons (.ix (.var 0) (.cn (.int 1))) .nil))) (.cons (.unp [3, 4] (.call i__law_flipped (.cons (.ix (.var 0) (.cn (.int 2))) .nil))) (.cons (.ret (.tup (.cons (.bin .add (.tup (.cons (.ix (.var 0) (.cn (.int 0))) (.cons (.var 1) (.cons (.var 3) .nil)))) (.sl (.var 0) (.som (.cn (.int 3))) .non)) (.cons (.bin .add (.var 2) (.var 4)) .nil)))) .nil)))
def _law_flipped (i__law_flipped : Nat) : Ss := (.cons (.ifs (.cmp .isin (.ix (.var 0) (.cn (.int 0))) (.tup (.cons (.cn (.str "either")) (.cons (.cn (.str "behind")) .nil)))) (_law_flipped_l1 i__law_flipped) .nil) (.cons (.own 5 (.bin .add (.lst (.cons (.ix (.var 0) (.cn (.int 0))) (.cons (.bin .mul (.neg (.cn (.int 1))) (.ix (.var 0) (.cn (.int 1)))) .nil))) (.bl .list (.cons (.sl (.var 0) (.som (.cn (.int 2))) .non) .nil)))) (.cons (.set 6 false (.lst (.cons (.cn (.str "up")) (.cons (.cn (.str "down")) (.cons (.cn (.str "high")) (.cons (.cn (.str "low")) .nil)))))) (.cons (.ifs (.cmp .eq (.ix (.var 0) (.cn (.int 0))) (.cn (.str "row"))) (.cons (.put 5 false (.cn (.int 3)) (.bl .tuple (.cons (.lc (.nm 7) (.ov (.ix (.var 0) (.cn (.int 3)))) .non (.ite (.cmp .is (.var 7) (.cn .non)) (.var 7) (.bl .int (.cons (.cmp .eq (.var 7) (.cn (.int 0))) .nil)))) .nil))) .nil) (.cons (.ifs (.cmp .isin (.ix (.var 0) (.cn (.int 3))) (.var 6)) (.cons (.put 5 false (.cn (.int 3)) (.ix (.lst (.cons (.cn (.str "down")) (.cons (.cn (.str "up")) (.cons (.cn (.str "low")) (.cons (.cn (.str "high")) .nil))))) (.mt .index (.var 6) (.cons (.ix (.var 0) (.cn (.int 3))) .nil)))) .nil) .nil) .nil)) (.cons (.ret (.tup (.cons (.bl .tuple (.cons (.var 5) .nil)) (.cons (.cn (.int 1)) .nil)))) .nil)))))
def fits : Ss := (.cons (.ret (.bl .all (.cons (.lc (.tp [2, 3]) (.zp (.var 0) (.var 1)) .non (.or (.cons (.cmp .is (.var 3) (.cn .non)) (.cons (.cmp .eq (.var 3) (.var 2)) .nil)))) .nil))) .nil)
def catches (i_need_track : Nat) (i_need_sign : Nat) (i_catches_of : Nat) : Ss := (.cons (.ex (.call i_need_track (.cons (.var 0) .nil))) (.cons (.ex (.call i_need_sign (.cons (.var 1) .nil))) (.cons (.ret (.call i_catches_of (.cons (.var 0) (.cons (.var 1) .nil)))) .nil)))
def taken_l1 : Ss := (.cons (.app 5 false (.var 7)) (.cons (.set 6 false (.bl .max (.cons (.var 3) (.cons (.bin .add (.bin .add (.bin .add (.var 7) (.var 4)) (.cn (.int 1))) (.var 2)) .nil)))) .nil))
def taken_l2 : Ss := (.cons (.ifs (.cmp .ge (.var 7) (.var 6)) (taken_l1) .nil) .nil)
def taken (i_catches_of : Nat) : Ss := (.cons (.own 5 (.lst .nil)) (.cons (.set 6 false (.var 3)) (.cons (.fr (.nm 7) (.ov (.call i_catches_of (.cons (.var 0) (.cons (.var 1) .nil)))) (taken_l2)) (.cons (.ret (.var 5)) .nil))))
def shots (i_need_track : Nat) (i_need_sign : Nat) (i_need_lengths : Nat) (i_taken : Nat) : Ss := (.cons (.ex (.call i_need_track (.cons (.var 0) .nil))) (.cons (.ex (.call i_need_sign (.cons (.var 1) .nil))) (.cons (.ex (.call i_need_lengths (.cons (.var 2) (.cons (.var 3) (.cons (.var 4) .nil))))) (.cons (.set 5 false (.lc (.nm 6) (.ov (.call i_taken (.cons (.var 0) (.cons (.var 1) (.cons (.var 2) (.cons (.var 3) (.cons (.var 4) .nil))))))) (.som (.cmp .lt (.bin .add (.var 6) (.var 4)) (.bl .len (.cons (.var 0) .nil)))) (.var 6))) (.cons (.ret (.lc (.nm 6) (.ov (.var 5)) .non (.tup (.cons (.var 6) (.cons (.sl (.var 0) (.som (.bin .sub (.var 6) (.var 3))) (.som (.bin .add (.bin .add (.var 6) (.var 4)) (.cn (.int 1))))) .nil))))) .nil)))))
def need_many (i_is_number : Nat) : Ss := (.cons (.ifs (.inv (.call i_is_number (.cons (.var 0) (.cons (.cn (.int 1)) (.cons (.gl "MOST_SAMPLES" (.cn (.int 60))) .nil))))) (.cons (.rs 3 "not so many") .nil) .nil) .nil)
def d_need_many (i_is_number : Nat) : Df := ⟨1, 1, need_many i_is_number⟩
def thinned (i_need_track : Nat) (i_need_many : Nat) : Ss := (.cons (.ex (.call i_need_track (.cons (.var 0) .nil))) (.cons (.ex (.call i_need_many (.cons (.var 1) .nil))) (.cons (.set 2 false (.lc (.nm 3) (.rg (.cons (.cn (.int 0)) (.cons (.bl .len (.cons (.var 0) .nil)) (.cons (.var 1) .nil)))) .non (.sl (.var 0) (.som (.var 3)) (.som (.bin .add (.var 3) (.var 1)))))) (.cons (.ret (.lc (.nm 4) (.ov (.var 2)) .non (.tup (.cons (.bl .min (.cons (.var 4) .nil)) (.cons (.bl .max (.cons (.var 4) .nil)) .nil))))) .nil))))
def d_thinned (i_need_track : Nat) (i_need_many : Nat) : Df := ⟨2, 5, thinned i_need_track i_need_many⟩
def drawn (i_thinned : Nat) (i_is_number : Nat) (i_column : Nat) : Ss := (.cons (.set 3 false (.call i_thinned (.cons (.var 0) (.cons (.var 1) .nil)))) (.cons (.ifs (.inv (.call i_is_number (.cons (.var 2) (.cons (.cn (.int 1)) (.cons (.gl "MOST_SAMPLES" (.cn (.int 60))) .nil))))) (.cons (.rs 3 "not so many") .nil) .nil) (.cons (.ret (.lc (.nm 4) (.ov (.var 3)) .non (.call i_column (.cons (.var 4) (.cons (.bl .min (.cons (.var 0) .nil)) (.cons (.bl .max (.cons (.var 0) .nil)) (.cons (.var 2) .nil))))))) .nil)))
def peaks_l1 : Ss := (.cons (.set 4 false (.sl (.var 0) (.som (.var 3)) (.som (.bin .add (.var 3) (.var 1))))) (.cons (.app 2 false (.tup (.cons (.bin .add (.var 3) (.mt .index (.var 4) (.cons (.bl .min (.cons (.var 4) .nil)) .nil))) (.cons (.bin .add (.var 3) (.mt .index (.var 4) (.cons (.bl .max (.cons (.var 4) .nil)) .nil))) .nil)))) .nil))
def peaks (i_need_track : Nat) (i_need_many : Nat) : Ss := (.cons (.ex (.call i_need_track (.cons (.var 0) .nil))) (.cons (.ex (.call i_need_many (.cons (.var 1) .nil))) (.cons (.own 2 (.lst .nil)) (.cons (.fr (.nm 3) (.rg (.cons (.cn (.int 0)) (.cons (.bl .len (.cons (.var 0) .nil)) (.cons (.var 1) .nil)))) (peaks_l1)) (.cons (.ret (.var 2)) .nil)))))
def d_peaks (i_need_track : Nat) (i_need_many : Nat) : Df := ⟨2, 5, peaks i_need_track i_need_many⟩
def kept_l1 : Ss := (.cons (.ext 2 (.var 3)) .nil)
def kept (i_peaks : Nat) : Ss := (.cons (.own 2 (.lst .nil)) (.cons (.fr (.nm 3) (.ov (.call i_peaks (.cons (.var 0) (.cons (.var 1) .nil)))) (kept_l1)) (.cons (.ret (.lc (.nm 4) (.ov (.mt .sset (.var 2) .nil)) .non (.tup (.cons (.var 4) (.cons (.ix (.var 0) (.var 4)) .nil))))) .nil)))
def d_kept (i_peaks : Nat) : Df := ⟨2, 5, kept i_peaks⟩
def least_many (i_need_track : Nat) (i_need_many : Nat) : Ss := (.cons (.ex (.call i_need_track (.cons (.var 0) .nil))) (.cons (.ex (.call i_need_many (.cons (.var 1) .nil))) (.cons (.ret (.bl .max (.cons (.cn (.int 1)) (.cons (.bin .div (.bin .sub (.bin .add (.bl .len (.cons (.var 0) .nil)) (.var 1)) (.cn (.int 1))) (.var 1)) .nil)))) .nil)))
def d_least_many (i_need_track : Nat) (i_need_many : Nat) : Df := ⟨2, 2, least_many i_need_track i_need_many⟩
def lowest_l1 : Ss := (.cons (.par 2 3 (.var 3) (.bin .mod (.var 2) (.var 3))) .nil)
def lowest : Ss := (.cons (.set 2 false (.var 0)) (.cons (.set 3 false (.var 1)) (.cons (.wh (.cmp .gt (.var 3) (.cn (.int 0))) (lowest_l1)) (.cons (.ret (.tup (.cons (.bin .div (.var 0) (.var 2)) (.cons (.bin .div (.var 1) (.var 2)) .nil)))) .nil))))
def steepest_l1 : Ss := (.cons (.set 4 false (.bin .sub (.ix (.var 0) (.bin .add (.var 3) (.var 1))) (.ix (.var 0) (.var 3)))) (.cons (.ifs (.or (.cons (.cmp .is (.var 2) (.cn .non)) (.cons (.cmp .gt (.bl .abs (.cons (.var 4) .nil)) (.bl .abs (.cons (.ix (.var 2) (.cn (.int 1))) .nil))) .nil))) (.cons (.set 2 false (.tup (.cons (.var 3) (.cons (.var 4) .nil)))) .nil) .nil) .nil))
def steepest (i_need_track : Nat) (i_is_number : Nat) : Ss := (.cons (.ex (.call i_need_track (.cons (.var 0) .nil))) (.cons (.ifs (.inv (.call i_is_number (.cons (.var 1) (.cons (.cn (.int 1)) (.cons (.bin .sub (.gl "MOST_SAMPLES" (.cn (.int 60))) (.cn (.int 1))) .nil))))) (.cons (.rs 3 "not so many") .nil) .nil) (.cons (.set 2 false (.cn .non)) (.cons (.fr (.nm 3) (.rg (.cons (.bin .sub (.bl .len (.cons (.var 0) .nil)) (.var 1)) .nil)) (steepest_l1)) (.cons (.ret (.var 2)) .nil)))))
def steady_l1 : Ss := (.cons (.set 4 false (.an (.cons (.cmp .ne (.var 2) (.tup .nil)) (.cons (.cmp .le (.bl .abs (.cons (.bin .sub (.var 3) (.ix (.var 2) (.neg (.cn (.int 1))))) .nil)) (.var 1)) .nil)))) (.cons (.set 2 false (.bin .add (.var 2) (.tup (.cons (.ite (.var 4) (.ix (.var 2) (.neg (.cn (.int 1)))) (.var 3)) .nil)))) .nil))
def steady (i_need_track : Nat) (i_is_number : Nat) : Ss := (.cons (.ex (.call i_need_track (.cons (.var 0) .nil))) (.cons (.ifs (.inv (.call i_is_number (.cons (.var 1) (.cons (.cn (.int 0)) (.cons (.gl "MOST_SLACK" (.cn (.int 20))) .nil))))) (.cons (.rs 1 "no slack") .nil) .nil) (.cons (.set 2 false (.tup .nil)) (.cons (.fr (.nm 3) (.ov (.var 0)) (steady_l1)) (.cons (.ret (.var 2)) .nil)))))
def changes (i_need_track : Nat) : Ss := (.cons (.ex (.call i_need_track (.cons (.var 0) .nil))) (.cons (.ret (.lc (.tp [1, 2]) (.zp (.var 0) (.sl (.var 0) (.som (.cn (.int 1))) .non)) .non (.bin .sub (.var 2) (.var 1)))) .nil))
def judged (i_catches_of : Nat) : Ss := (.cons (.set 3 false (.call i_catches_of (.cons (.var 0) (.cons (.var 1) .nil)))) (.cons (.set 4 false (.bl .len (.cons (.lc (.nm 5) (.ov (.var 3)) (.som (.cmp .isin (.var 5) (.var 2))) (.var 5)) .nil))) (.cons (.ret (.tup (.cons (.var 4) (.cons (.bin .sub (.bl .len (.cons (.var 3) .nil)) (.var 4)) (.cons (.bin .sub (.bl .len (.cons (.var 2) .nil)) (.var 4)) .nil))))) .nil)))
end B
end
section
/-! SP0: what a law draws. -/
namespace Z
open PySem
abbrev CT := Nat → List PyData → Res PyData
def SpCell (C : CT) (i : Nat) : Prop := ∀ (ns : List Int) (k : Int), ns.length ≤ 63 → 0 ≤ k → k < 1000000 → ∃ z, C i [.list (intL ns), .int k] = .ok (.int z)
theorem atI_pos {α : Type} (xs : List α) (i : Int) (h : 0 ≤ i) (h2 : i < xs.length) : atI xs i = some (xs[i.toNat]'(by omega)) := by
  have e : ixN xs.length i = some i.toNat := by
    unfold ixN
    rw [if_pos h, if_pos h2]
  unfold atI
  rw [e]
  exact List.getElem?_eq_getElem (by omega)
theorem ix_li (ns : List Int) (i : Int) (h : 0 ≤ i) (h2 : i < ns.length) : ixD (.list (intL ns)) (.int i) = .ok (.int (ns[i.toNat]'(by omega))) := by
  show someR (atI _ _) = _
  rw [atI_pos _ _ h (by simpa using h2)]
  simp [someR]
theorem ix_ti (ns : List Int) (i : Int) (h : 0 ≤ i) (h2 : i < ns.length) : ixD (.tuple (intL ns)) (.int i) = .ok (.int (ns[i.toNat]'(by omega))) := by
  show someR (atI _ _) = _
  rw [atI_pos _ _ h (by simpa using h2)]
  simp [someR]
theorem sp_cell (C : CT) (Hd) : ∀ (ns : List Int) (k : Int), ns.length ≤ 63 → 0 ≤ k → k < 1000000 → ∃ z, runD C Hd B.d__law_cell [.list (intL ns), .int k] = .ok (.int z) := by
  intro ns k hl h0 h1
  by_cases hn : ns = []
  · subst hn
    refine ⟨7 * k, ?_⟩
    simp (disch := omega) [runD, B.d__law_cell, B._law_cell, mul_i]
  · have hp : 0 < ns.length := List.length_pos_iff.mpr hn
    have hm : k % (ns.length : Int) < ns.length := Int.emod_lt_of_pos _ (by omega)
    have hm0 : 0 ≤ k % (ns.length : Int) := Int.emod_nonneg _ (by omega)
    refine ⟨ns[(k % (ns.length : Int)).toNat]'(by omega) + 6553 * (k / (ns.length : Int)), ?_⟩
    simp (disch := first | omega | assumption) [runD, B.d__law_cell, B._law_cell, mul_i, mod_i, div_i, hn, ix_li]
def SpDrawn (C : CT) (i : Nat) : Prop := ∀ (ns : List Int) (k many : Int), ns.length ≤ 63 → 0 ≤ k → k < 1000000 → 0 < many → ∃ z, C i [.list (intL ns), .int k, .int many] = .ok (.int z) ∧ 0 ≤ z ∧ z < many
theorem sp_drawn {C : CT} (Hd) {i : Nat} (hc : SpCell C i) : ∀ (ns : List Int) (k many : Int), ns.length ≤ 63 → 0 ≤ k → k < 1000000 → 0 < many → ∃ z, runD C Hd (B.d__law_drawn i) [.list (intL ns), .int k, .int many] = .ok (.int z) ∧ 0 ≤ z ∧ z < many := by
  intro ns k many hl h0 h1 hm
  obtain ⟨z, hz⟩ := hc ns k hl h0 h1
  have : ∃ y, runD C Hd (B.d__law_drawn i) [.list (intL ns), .int k, .int many] = .ok (.int (y % many)) := by
    refine ⟨?y, ?h⟩
    case h =>
      simp (disch := omega) [runD, B.d__law_drawn, B._law_drawn, mul_i, mod_i, div_i, hz]
      rfl
  obtain ⟨y, hy⟩ := this
  exact ⟨_, hy, Int.emod_nonneg _ (by omega), Int.emod_lt_of_pos _ hm⟩
def SpTrack (C : CT) (i : Nat) : Prop := ∀ (ns : List Int) (at_ most : Int), ns.length ≤ 63 → 0 ≤ at_ → at_ < 100000 → 0 ≤ most → most ≤ 60 → ∃ t : List Int, C i [.list (intL ns), .int at_, .int most] = .ok (.tuple (intL t)) ∧ (t.length : Int) ≤ most ∧ ∀ x ∈ t, -15 ≤ x ∧ x ≤ 15
theorem sp_track {C : CT} (Hd) {i : Nat} (hd : SpDrawn C i) : ∀ (ns : List Int) (at_ most : Int), ns.length ≤ 63 → 0 ≤ at_ → at_ < 100000 → 0 ≤ most → most ≤ 60 → ∃ t : List Int, runD C Hd (B.d__law_track i) [.list (intL ns), .int at_, .int most] = .ok (.tuple (intL t)) ∧ (t.length : Int) ≤ most ∧ ∀ x ∈ t, -15 ≤ x ∧ x ≤ 15 := by
  intro ns a most hl h0 h1 h2 h3
  obtain ⟨many, e1, m0, m1⟩ := hd ns a (most + 1) hl h0 (by omega) (by omega)
  obtain ⟨b, e2, b0, b1⟩ := hd ns (a + 1) 3 hl (by omega) (by omega) (by omega)
  obtain ⟨g, e3, g0, g1⟩ := hd ns (a + 2) 13 hl (by omega) (by omega) (by omega)
  have hby : ∃ by_ : Int, ixD (.list [.int 2, .int 5, .int 12]) (.int b) = .ok (.int by_) ∧ 0 < by_ ∧ by_ < 100 := by
    have : b = 0 ∨ b = 1 ∨ b = 2 := by omega
    rcases this with rfl | rfl | rfl
    · exact ⟨2, rfl, by omega, by omega⟩
    · exact ⟨5, rfl, by omega, by omega⟩
    · exact ⟨12, rfl, by omega, by omega⟩
  obtain ⟨by_, e4, y0, y1⟩ := hby
  obtain ⟨env', hl1, t, h, o, rfl, ht, -, -, h7⟩ := forR_range (t := .nm 7) (b := rn C Hd (B._law_track_l1 i)) (lo := 0) (fun done env => ∃ (t : List Int) (h : Int) (o : Option PyData), env = [some (.list (intL ns)), some (.int a), some (.int most), some (.int many), some (.int by_), some (.int h), some (.list (intL t)), o] ∧
    t.length = done ∧ -15 ≤ h ∧ h ≤ 15 ∧ ∀ x ∈ t, -15 ≤ x ∧ x ≤ 15) many.toNat [some (.list (intL ns)), some (.int a), some (.int most), some (.int many), some (.int by_), some (.int (g - 6)), some (.list []), none]
    ⟨[], g - 6, none, rfl, rfl, by omega, by omega, by simp⟩ (by
      rintro k hk env ⟨t, h, o, rfl, ht, h5, h6, h7⟩
      obtain ⟨z, e5, z0, z1⟩ := hd ns (a + 3 + (0 + (k : Nat))) (2 * by_ + 1) hl (by omega) (by omega) (by omega)
      refine ⟨_, [some (.list (intL ns)), some (.int a), some (.int most), some (.int many), some (.int by_), some (.int ?hh), some (.list (intL (t ++ [h]))), some (.int (0 + (k : Nat)))], rfl, ?e, t ++ [h], ?hh, _, rfl, by simp [ht], ?_⟩
      case e =>
        simp (disch := omega) only [B._law_track_l1, getV_0, getV_s, setV_0, setV_s, ev_var, ev_cn, ev_gl, ev_bin, ev_neg, ev_inv, ev_an, ev_or, ev_cmp, ev_chn, ev_ch3, ev_ite, ev_tup, ev_lst, ev_ix, ev_sl, ev_rv, ev_call, ev_bl, ev_isi, ev_mt, recv_sset, recv_count, recv_index, recv_countT, recv_indexT, recv_join, recv_split, ev_lc, ev_lit, ev_sel, ev_dg, evan_1, evan_2, evor_1, evor_2, evs_nil, evs_cons, evo_non, evo_som, evc_non, evc_som, evi_ov, evi_rg, evi_en, evi_zp, rn_nil, rn_cons, rn1_setf, rn1_sett, trR_rt, trR_nx, ownK_list, rn1_own, rn1_unp, rn1_par, rn1_appf, rn1_appt, rn1_ret, rn1_retn, rn1_ifs, rn1_fr, rn1_wh, rn1_rs, rn1_tr, rn1_ex, rn1_skip, forR_nil, forR_cons, bindT_nm, bindT_tp, setAll_nil, setAll_cons, listV_0, listV_s, Cn_int, Cn_str, Cn_bl, Cn_non, Gc_cn, Gc_ws, someR_s, boolD_b, negD_i, add_i, sub_i, lt_i, le_i, gt_i, ge_i, tup_fit, len_l, len_t, abs_i, max_i, min_i, list_l, list_t, tuple_l, tuple_t, seqOf_l, seqOf_t, partD_n, partD_i, slD_l, slD_t, rvD_l, rvD_t, intsOf_ints, eq_i, ne_i, eq_ti, ne_ti, eq_li, ne_li, eq_ti0, ne_ti0, eq_li0, ne_li0, eq_l00, ne_l00, eq_t00, ne_t00, isNumD_i, res_rt, res_nx, res_xc, rg1, rg2, cutL_map, boolsOf_bools, isi_ii, isi_ib, isi_tt, isi_ll, ix_0t, ix_0l, ix_1t, ix_1l, ix_2t', ix_2l', ix_3t', ix_3l', ix_4t', ix_4l', ix_5t', ix_5l', ix_6t', ix_6l', int_b, flat_int, Res.ok_bind, Res.exc_bind, Res.stuck_bind, Res.fl_ok, Res.fl_exc, Res.fl_stuck, Fl.thn_nx, Fl.thn_rt, Fl.thn_xc, Fl.thn_stuck, calm_ok, if_true, if_false, ite_true, ite_false, decide_true, decide_false, Bool.not_true, Bool.not_false, Bool.false_eq_true, List.map_cons, List.map_nil, List.length_map, List.length_cons, List.length_nil, eq_self, reduceIte, List.replicate, List.append_nil, List.cons_append, List.nil_append, mul_i, appLen, e5, ht]
        simp only [List.map_append, List.map_cons, List.map_nil]
        rfl
      · refine ⟨?_, ?_, ?_⟩
        · split <;> split <;> omega
        · split <;> split <;> omega
        · intro x hx
          rcases List.mem_append.mp hx with hx | hx
          · exact h7 x hx
          · simp at hx; omega)
  refine ⟨t, ?_, by omega, h7⟩
  simp (disch := omega) only [runD, B.d__law_track, B._law_track, getV_0, getV_s, setV_0, setV_s, ev_var, ev_cn, ev_gl, ev_bin, ev_neg, ev_inv, ev_an, ev_or, ev_cmp, ev_chn, ev_ch3, ev_ite, ev_tup, ev_lst, ev_ix, ev_sl, ev_rv, ev_call, ev_bl, ev_isi, ev_mt, recv_sset, recv_count, recv_index, recv_countT, recv_indexT, recv_join, recv_split, ev_lc, ev_lit, ev_sel, ev_dg, evan_1, evan_2, evor_1, evor_2, evs_nil, evs_cons, evo_non, evo_som, evc_non, evc_som, evi_ov, evi_rg, evi_en, evi_zp, rn_nil, rn_cons, rn1_setf, rn1_sett, trR_rt, trR_nx, ownK_list, rn1_own, rn1_unp, rn1_par, rn1_appf, rn1_appt, rn1_ret, rn1_retn, rn1_ifs, rn1_fr, rn1_wh, rn1_rs, rn1_tr, rn1_ex, rn1_skip, forR_nil, forR_cons, bindT_nm, bindT_tp, setAll_nil, setAll_cons, listV_0, listV_s, Cn_int, Cn_str, Cn_bl, Cn_non, Gc_cn, Gc_ws, someR_s, boolD_b, negD_i, add_i, sub_i, lt_i, le_i, gt_i, ge_i, tup_fit, len_l, len_t, abs_i, max_i, min_i, list_l, list_t, tuple_l, tuple_t, seqOf_l, seqOf_t, partD_n, partD_i, slD_l, slD_t, rvD_l, rvD_t, intsOf_ints, eq_i, ne_i, eq_ti, ne_ti, eq_li, ne_li, eq_ti0, ne_ti0, eq_li0, ne_li0, eq_l00, ne_l00, eq_t00, ne_t00, isNumD_i, res_rt, res_nx, res_xc, rg1, rg2, cutL_map, boolsOf_bools, isi_ii, isi_ib, isi_tt, isi_ll, ix_0t, ix_0l, ix_1t, ix_1l, ix_2t', ix_2l', ix_3t', ix_3l', ix_4t', ix_4l', ix_5t', ix_5l', ix_6t', ix_6l', int_b, flat_int, Res.ok_bind, Res.exc_bind, Res.stuck_bind, Res.fl_ok, Res.fl_exc, Res.fl_stuck, Fl.thn_nx, Fl.thn_rt, Fl.thn_xc, Fl.thn_stuck, calm_ok, if_true, if_false, ite_true, ite_false, decide_true, decide_false, Bool.not_true, Bool.not_false, Bool.false_eq_true, List.map_cons, List.map_nil, List.length_map, List.length_cons, List.length_nil, eq_self, reduceIte, List.replicate, List.append_nil, List.cons_append, List.nil_append, e1, e2, e3, e4, hl1]
end Z
end
section
/-! SP1: tracks. -/
namespace Z
open PySem
def Tr (t : List Int) : Prop := t.length ≤ 60 ∧ ∀ x ∈ t, -99 ≤ x ∧ x ≤ 99
instance (t : List Int) : Decidable (Tr t) := inferInstanceAs (Decidable (_ ∧ _))
structure SpNum (C : CT) (i : Nat) : Prop where
  D : ∀ (d : PyData) (lo hi : Int), C i [d, .int lo, .int hi] = .ok (.bool (isNumD d lo hi))
instance {C : CT} {i : Nat} : CoeFun (SpNum C i) (fun _ => ∀ a lo hi : Int, C i [.int a, .int lo, .int hi] = .ok (.bool (decide (lo ≤ a ∧ a ≤ hi)))) := ⟨fun h a lo hi => h.D (.int a) lo hi⟩
theorem sp_num (C : CT) (Hd) (d : PyData) (lo hi : Int) : runD C Hd B.d_is_number [d, .int lo, .int hi] = .ok (.bool (isNumD d lo hi)) := by
  cases d with
  | int a =>
    by_cases h1 : lo ≤ a
    · by_cases h2 : a ≤ hi <;> simp [runD, B.d_is_number, B.is_number, h1, h2]
    · simp [runD, B.d_is_number, B.is_number, h1]
  | _ => rfl
structure SpSample (C : CT) (i : Nat) : Prop where
  D : ∀ d : PyData, C i [d] = .ok (.bool (isNumD d (-99) 99))
instance {C : CT} {i : Nat} : CoeFun (SpSample C i) (fun _ => ∀ a : Int, C i [.int a] = .ok (.bool (decide (-99 ≤ a ∧ a ≤ 99)))) := ⟨fun h a => h.D (.int a)⟩
theorem sp_sample {C : CT} (Hd) {i : Nat} (h : SpNum C i) (d : PyData) : runD C Hd (B.d_is_sample i) [d] = .ok (.bool (isNumD d (-99) 99)) := by
  simp only [runD, B.d_is_sample, B.is_sample, getV_0, getV_s, setV_0, setV_s, ev_var, ev_cn, ev_gl, ev_bin, ev_neg, ev_inv, ev_an, ev_or, ev_cmp, ev_chn, ev_ch3, ev_ite, ev_tup, ev_lst, ev_ix, ev_sl, ev_rv, ev_call, ev_bl, ev_isi, ev_mt, recv_sset, recv_count, recv_index, recv_countT, recv_indexT, recv_join, recv_split, ev_lc, ev_lit, ev_sel, ev_dg, evan_1, evan_2, evor_1, evor_2, evs_nil, evs_cons, evo_non, evo_som, evc_non, evc_som, evi_ov, evi_rg, evi_en, evi_zp, rn_nil, rn_cons, rn1_setf, rn1_sett, trR_rt, trR_nx, ownK_list, rn1_own, rn1_unp, rn1_par, rn1_appf, rn1_appt, rn1_ret, rn1_retn, rn1_ifs, rn1_fr, rn1_wh, rn1_rs, rn1_tr, rn1_ex, rn1_skip, forR_nil, forR_cons, bindT_nm, bindT_tp, setAll_nil, setAll_cons, listV_0, listV_s, Cn_int, Cn_str, Cn_bl, Cn_non, Gc_cn, Gc_ws, someR_s, boolD_b, negD_i, add_i, sub_i, lt_i, le_i, gt_i, ge_i, tup_fit, len_l, len_t, abs_i, max_i, min_i, list_l, list_t, tuple_l, tuple_t, seqOf_l, seqOf_t, partD_n, partD_i, slD_l, slD_t, rvD_l, rvD_t, intsOf_ints, eq_i, ne_i, eq_ti, ne_ti, eq_li, ne_li, eq_ti0, ne_ti0, eq_li0, ne_li0, eq_l00, ne_l00, eq_t00, ne_t00, isNumD_i, res_rt, res_nx, res_xc, rg1, rg2, cutL_map, boolsOf_bools, isi_ii, isi_ib, isi_tt, isi_ll, ix_0t, ix_0l, ix_1t, ix_1l, ix_2t', ix_2l', ix_3t', ix_3l', ix_4t', ix_4l', ix_5t', ix_5l', ix_6t', ix_6l', int_b, flat_int, Res.ok_bind, Res.exc_bind, Res.stuck_bind, Res.fl_ok, Res.fl_exc, Res.fl_stuck, Fl.thn_nx, Fl.thn_rt, Fl.thn_xc, Fl.thn_stuck, calm_ok, if_true, if_false, ite_true, ite_false, decide_true, decide_false, Bool.not_true, Bool.not_false, Bool.false_eq_true, List.map_cons, List.map_nil, List.length_map, List.length_cons, List.length_nil, eq_self, reduceIte, List.replicate, List.append_nil, List.cons_append, List.nil_append, h.D]
  rfl
theorem isTrackD_i (t : List Int) : isTrackD (.tuple (intL t)) = decide (Tr t) := by
  have e : ((intL t).all fun d => isNumD d (-99) 99) = decide (∀ x ∈ t, -99 ≤ x ∧ x ≤ 99) := by
    by_cases q : ∀ x ∈ t, -99 ≤ x ∧ x ≤ 99
    · rw [decide_eq_true q, List.all_eq_true]
      intro d hd
      obtain ⟨x, hx, rfl⟩ := List.mem_map.mp hd
      exact decide_eq_true (q x hx)
    · rw [decide_eq_false q]
      cases z : ((intL t).all fun d => isNumD d (-99) 99) with
      | false => rfl
      | true => exact absurd (fun x hx => of_decide_eq_true (List.all_eq_true.mp z (.int x) (List.mem_map.mpr ⟨x, hx, rfl⟩))) q
  show (decide ((intL t).length ≤ 60) && _) = _
  rw [e, List.length_map]
  unfold Tr
  exact (Bool.decide_and _ _).symm
structure SpIsTrack (C : CT) (i : Nat) : Prop where
  D : ∀ d : PyData, C i [d] = .ok (.bool (isTrackD d))
instance {C : CT} {i : Nat} : CoeFun (SpIsTrack C i) (fun _ => ∀ t : List Int, t.length ≤ 16777216 → C i [.tuple (intL t)] = .ok (.bool (decide (Tr t)))) := ⟨fun h t _ => by rw [h.D, isTrackD_i]⟩
theorem sp_istrack {C : CT} (Hd) {i : Nat} (h : SpSample C i) (d : PyData) : runD C Hd (B.d_is_track i) [d] = .ok (.bool (isTrackD d)) := by
  cases d with
  | tuple xs =>
    by_cases h1 : xs.length ≤ 60
    · have e : lcR (lc1 C [some (.tuple xs), none] (.nm 1) .non (.call i (.cons (.var 1) .nil))) (xs.map id) = .ok (xs.map fun a => .bool (isNumD a (-99) 99)) := by
        refine lcR_map _ xs fun a _ => ?_
        simp only [lc1, getV_0, getV_s, setV_0, setV_s, ev_var, ev_cn, ev_gl, ev_bin, ev_neg, ev_inv, ev_an, ev_or, ev_cmp, ev_chn, ev_ch3, ev_ite, ev_tup, ev_lst, ev_ix, ev_sl, ev_rv, ev_call, ev_bl, ev_isi, ev_mt, recv_sset, recv_count, recv_index, recv_countT, recv_indexT, recv_join, recv_split, ev_lc, ev_lit, ev_sel, ev_dg, evan_1, evan_2, evor_1, evor_2, evs_nil, evs_cons, evo_non, evo_som, evc_non, evc_som, evi_ov, evi_rg, evi_en, evi_zp, rn_nil, rn_cons, rn1_setf, rn1_sett, trR_rt, trR_nx, ownK_list, rn1_own, rn1_unp, rn1_par, rn1_appf, rn1_appt, rn1_ret, rn1_retn, rn1_ifs, rn1_fr, rn1_wh, rn1_rs, rn1_tr, rn1_ex, rn1_skip, forR_nil, forR_cons, bindT_nm, bindT_tp, setAll_nil, setAll_cons, listV_0, listV_s, Cn_int, Cn_str, Cn_bl, Cn_non, Gc_cn, Gc_ws, someR_s, boolD_b, negD_i, add_i, sub_i, lt_i, le_i, gt_i, ge_i, tup_fit, len_l, len_t, abs_i, max_i, min_i, list_l, list_t, tuple_l, tuple_t, seqOf_l, seqOf_t, partD_n, partD_i, slD_l, slD_t, rvD_l, rvD_t, intsOf_ints, eq_i, ne_i, eq_ti, ne_ti, eq_li, ne_li, eq_ti0, ne_ti0, eq_li0, ne_li0, eq_l00, ne_l00, eq_t00, ne_t00, isNumD_i, res_rt, res_nx, res_xc, rg1, rg2, cutL_map, boolsOf_bools, isi_ii, isi_ib, isi_tt, isi_ll, ix_0t, ix_0l, ix_1t, ix_1l, ix_2t', ix_2l', ix_3t', ix_3l', ix_4t', ix_4l', ix_5t', ix_5l', ix_6t', ix_6l', int_b, flat_int, Res.ok_bind, Res.exc_bind, Res.stuck_bind, Res.fl_ok, Res.fl_exc, Res.fl_stuck, Fl.thn_nx, Fl.thn_rt, Fl.thn_xc, Fl.thn_stuck, calm_ok, if_true, if_false, ite_true, ite_false, decide_true, decide_false, Bool.not_true, Bool.not_false, Bool.false_eq_true, List.map_cons, List.map_nil, List.length_map, List.length_cons, List.length_nil, eq_self, reduceIte, List.replicate, List.append_nil, List.cons_append, List.nil_append, h.D, id]
      rw [List.map_id] at e
      have h2 : (xs.length : Int) ≤ 60 := by omega
      simp (disch := first | omega | simp [h1]) only [runD, B.d_is_track, B.is_track, getV_0, getV_s, setV_0, setV_s, ev_var, ev_cn, ev_gl, ev_bin, ev_neg, ev_inv, ev_an, ev_or, ev_cmp, ev_chn, ev_ch3, ev_ite, ev_tup, ev_lst, ev_ix, ev_sl, ev_rv, ev_call, ev_bl, ev_isi, ev_mt, recv_sset, recv_count, recv_index, recv_countT, recv_indexT, recv_join, recv_split, ev_lc, ev_lit, ev_sel, ev_dg, evan_1, evan_2, evor_1, evor_2, evs_nil, evs_cons, evo_non, evo_som, evc_non, evc_som, evi_ov, evi_rg, evi_en, evi_zp, rn_nil, rn_cons, rn1_setf, rn1_sett, trR_rt, trR_nx, ownK_list, rn1_own, rn1_unp, rn1_par, rn1_appf, rn1_appt, rn1_ret, rn1_retn, rn1_ifs, rn1_fr, rn1_wh, rn1_rs, rn1_tr, rn1_ex, rn1_skip, forR_nil, forR_cons, bindT_nm, bindT_tp, setAll_nil, setAll_cons, listV_0, listV_s, Cn_int, Cn_str, Cn_bl, Cn_non, Gc_cn, Gc_ws, someR_s, boolD_b, negD_i, add_i, sub_i, lt_i, le_i, gt_i, ge_i, tup_fit, len_l, len_t, abs_i, max_i, min_i, list_l, list_t, tuple_l, tuple_t, seqOf_l, seqOf_t, partD_n, partD_i, slD_l, slD_t, rvD_l, rvD_t, intsOf_ints, eq_i, ne_i, eq_ti, ne_ti, eq_li, ne_li, eq_ti0, ne_ti0, eq_li0, ne_li0, eq_l00, ne_l00, eq_t00, ne_t00, isNumD_i, res_rt, res_nx, res_xc, rg1, rg2, cutL_map, boolsOf_bools, isi_ii, isi_ib, isi_tt, isi_ll, ix_0t, ix_0l, ix_1t, ix_1l, ix_2t', ix_2l', ix_3t', ix_3l', ix_4t', ix_4l', ix_5t', ix_5l', ix_6t', ix_6l', int_b, flat_int, Res.ok_bind, Res.exc_bind, Res.stuck_bind, Res.fl_ok, Res.fl_exc, Res.fl_stuck, Fl.thn_nx, Fl.thn_rt, Fl.thn_xc, Fl.thn_stuck, calm_ok, if_true, if_false, ite_true, ite_false, decide_true, decide_false, Bool.not_true, Bool.not_false, Bool.false_eq_true, List.map_cons, List.map_nil, List.length_map, List.length_cons, List.length_nil, eq_self, reduceIte, List.replicate, List.append_nil, List.cons_append, List.nil_append, e, h2, all_bools, isTrackD, h1, decide_true, Bool.true_and]
    · have h2 : ¬ (xs.length : Int) ≤ 60 := by omega
      simp (disch := omega) only [runD, B.d_is_track, B.is_track, getV_0, getV_s, setV_0, setV_s, ev_var, ev_cn, ev_gl, ev_bin, ev_neg, ev_inv, ev_an, ev_or, ev_cmp, ev_chn, ev_ch3, ev_ite, ev_tup, ev_lst, ev_ix, ev_sl, ev_rv, ev_call, ev_bl, ev_isi, ev_mt, recv_sset, recv_count, recv_index, recv_countT, recv_indexT, recv_join, recv_split, ev_lc, ev_lit, ev_sel, ev_dg, evan_1, evan_2, evor_1, evor_2, evs_nil, evs_cons, evo_non, evo_som, evc_non, evc_som, evi_ov, evi_rg, evi_en, evi_zp, rn_nil, rn_cons, rn1_setf, rn1_sett, trR_rt, trR_nx, ownK_list, rn1_own, rn1_unp, rn1_par, rn1_appf, rn1_appt, rn1_ret, rn1_retn, rn1_ifs, rn1_fr, rn1_wh, rn1_rs, rn1_tr, rn1_ex, rn1_skip, forR_nil, forR_cons, bindT_nm, bindT_tp, setAll_nil, setAll_cons, listV_0, listV_s, Cn_int, Cn_str, Cn_bl, Cn_non, Gc_cn, Gc_ws, someR_s, boolD_b, negD_i, add_i, sub_i, lt_i, le_i, gt_i, ge_i, tup_fit, len_l, len_t, abs_i, max_i, min_i, list_l, list_t, tuple_l, tuple_t, seqOf_l, seqOf_t, partD_n, partD_i, slD_l, slD_t, rvD_l, rvD_t, intsOf_ints, eq_i, ne_i, eq_ti, ne_ti, eq_li, ne_li, eq_ti0, ne_ti0, eq_li0, ne_li0, eq_l00, ne_l00, eq_t00, ne_t00, isNumD_i, res_rt, res_nx, res_xc, rg1, rg2, cutL_map, boolsOf_bools, isi_ii, isi_ib, isi_tt, isi_ll, ix_0t, ix_0l, ix_1t, ix_1l, ix_2t', ix_2l', ix_3t', ix_3l', ix_4t', ix_4l', ix_5t', ix_5l', ix_6t', ix_6l', int_b, flat_int, Res.ok_bind, Res.exc_bind, Res.stuck_bind, Res.fl_ok, Res.fl_exc, Res.fl_stuck, Fl.thn_nx, Fl.thn_rt, Fl.thn_xc, Fl.thn_stuck, calm_ok, if_true, if_false, ite_true, ite_false, decide_true, decide_false, Bool.not_true, Bool.not_false, Bool.false_eq_true, List.map_cons, List.map_nil, List.length_map, List.length_cons, List.length_nil, eq_self, reduceIte, List.replicate, List.append_nil, List.cons_append, List.nil_append, h2, isTrackD, h1, decide_false, Bool.false_and]
  | _ => rfl
structure SpNeed (C : CT) (i : Nat) : Prop where
  D : ∀ d : PyData, C i [d] = if isTrackD d then .ok .none else .exc 0
instance {C : CT} {i : Nat} : CoeFun (SpNeed C i) (fun _ => ∀ t : List Int, Tr t → C i [.tuple (intL t)] = .ok .none) := ⟨fun h t ht => by rw [h.D, isTrackD_i, decide_eq_true ht]; rfl⟩
theorem sp_need {C : CT} (Hd) {i : Nat} (h : SpIsTrack C i) (d : PyData) : runD C Hd (B.d_need_track i) [d] = if isTrackD d then .ok .none else .exc 0 := by
  have := h.D d
  cases q : isTrackD d with
  | true => simp only [runD, B.d_need_track, B.need_track, getV_0, getV_s, setV_0, setV_s, ev_var, ev_cn, ev_gl, ev_bin, ev_neg, ev_inv, ev_an, ev_or, ev_cmp, ev_chn, ev_ch3, ev_ite, ev_tup, ev_lst, ev_ix, ev_sl, ev_rv, ev_call, ev_bl, ev_isi, ev_mt, recv_sset, recv_count, recv_index, recv_countT, recv_indexT, recv_join, recv_split, ev_lc, ev_lit, ev_sel, ev_dg, evan_1, evan_2, evor_1, evor_2, evs_nil, evs_cons, evo_non, evo_som, evc_non, evc_som, evi_ov, evi_rg, evi_en, evi_zp, rn_nil, rn_cons, rn1_setf, rn1_sett, trR_rt, trR_nx, ownK_list, rn1_own, rn1_unp, rn1_par, rn1_appf, rn1_appt, rn1_ret, rn1_retn, rn1_ifs, rn1_fr, rn1_wh, rn1_rs, rn1_tr, rn1_ex, rn1_skip, forR_nil, forR_cons, bindT_nm, bindT_tp, setAll_nil, setAll_cons, listV_0, listV_s, Cn_int, Cn_str, Cn_bl, Cn_non, Gc_cn, Gc_ws, someR_s, boolD_b, negD_i, add_i, sub_i, lt_i, le_i, gt_i, ge_i, tup_fit, len_l, len_t, abs_i, max_i, min_i, list_l, list_t, tuple_l, tuple_t, seqOf_l, seqOf_t, partD_n, partD_i, slD_l, slD_t, rvD_l, rvD_t, intsOf_ints, eq_i, ne_i, eq_ti, ne_ti, eq_li, ne_li, eq_ti0, ne_ti0, eq_li0, ne_li0, eq_l00, ne_l00, eq_t00, ne_t00, isNumD_i, res_rt, res_nx, res_xc, rg1, rg2, cutL_map, boolsOf_bools, isi_ii, isi_ib, isi_tt, isi_ll, ix_0t, ix_0l, ix_1t, ix_1l, ix_2t', ix_2l', ix_3t', ix_3l', ix_4t', ix_4l', ix_5t', ix_5l', ix_6t', ix_6l', int_b, flat_int, Res.ok_bind, Res.exc_bind, Res.stuck_bind, Res.fl_ok, Res.fl_exc, Res.fl_stuck, Fl.thn_nx, Fl.thn_rt, Fl.thn_xc, Fl.thn_stuck, calm_ok, if_true, if_false, ite_true, ite_false, decide_true, decide_false, Bool.not_true, Bool.not_false, Bool.false_eq_true, List.map_cons, List.map_nil, List.length_map, List.length_cons, List.length_nil, eq_self, reduceIte, List.replicate, List.append_nil, List.cons_append, List.nil_append, this, q]
  | false => simp only [runD, B.d_need_track, B.need_track, getV_0, getV_s, setV_0, setV_s, ev_var, ev_cn, ev_gl, ev_bin, ev_neg, ev_inv, ev_an, ev_or, ev_cmp, ev_chn, ev_ch3, ev_ite, ev_tup, ev_lst, ev_ix, ev_sl, ev_rv, ev_call, ev_bl, ev_isi, ev_mt, recv_sset, recv_count, recv_index, recv_countT, recv_indexT, recv_join, recv_split, ev_lc, ev_lit, ev_sel, ev_dg, evan_1, evan_2, evor_1, evor_2, evs_nil, evs_cons, evo_non, evo_som, evc_non, evc_som, evi_ov, evi_rg, evi_en, evi_zp, rn_nil, rn_cons, rn1_setf, rn1_sett, trR_rt, trR_nx, ownK_list, rn1_own, rn1_unp, rn1_par, rn1_appf, rn1_appt, rn1_ret, rn1_retn, rn1_ifs, rn1_fr, rn1_wh, rn1_rs, rn1_tr, rn1_ex, rn1_skip, forR_nil, forR_cons, bindT_nm, bindT_tp, setAll_nil, setAll_cons, listV_0, listV_s, Cn_int, Cn_str, Cn_bl, Cn_non, Gc_cn, Gc_ws, someR_s, boolD_b, negD_i, add_i, sub_i, lt_i, le_i, gt_i, ge_i, tup_fit, len_l, len_t, abs_i, max_i, min_i, list_l, list_t, tuple_l, tuple_t, seqOf_l, seqOf_t, partD_n, partD_i, slD_l, slD_t, rvD_l, rvD_t, intsOf_ints, eq_i, ne_i, eq_ti, ne_ti, eq_li, ne_li, eq_ti0, ne_ti0, eq_li0, ne_li0, eq_l00, ne_l00, eq_t00, ne_t00, isNumD_i, res_rt, res_nx, res_xc, rg1, rg2, cutL_map, boolsOf_bools, isi_ii, isi_ib, isi_tt, isi_ll, ix_0t, ix_0l, ix_1t, ix_1l, ix_2t', ix_2l', ix_3t', ix_3l', ix_4t', ix_4l', ix_5t', ix_5l', ix_6t', ix_6l', int_b, flat_int, Res.ok_bind, Res.exc_bind, Res.stuck_bind, Res.fl_ok, Res.fl_exc, Res.fl_stuck, Fl.thn_nx, Fl.thn_rt, Fl.thn_xc, Fl.thn_stuck, calm_ok, if_true, if_false, ite_true, ite_false, decide_true, decide_false, Bool.not_true, Bool.not_false, Bool.false_eq_true, List.map_cons, List.map_nil, List.length_map, List.length_cons, List.length_nil, eq_self, reduceIte, List.replicate, List.append_nil, List.cons_append, List.nil_append, this, q]
theorem Tr.len {t : List Int} (h : Tr t) : t.length ≤ 60 := h.1
def SpSpan (C : CT) (i : Nat) : Prop := ∀ t : List Int, Tr t → t ≠ [] → C i [.tuple (intL t)] = .ok (.tuple [.int (minI t), .int (maxI t)])
theorem sp_span {C : CT} (Hd) {i : Nat} (h : SpNeed C i) (t : List Int) (ht : Tr t) (hn : t ≠ []) : runD C Hd (B.d_span i) [.tuple (intL t)] = .ok (.tuple [.int (minI t), .int (maxI t)]) := by
  simp (disch := first | assumption | decide) only [runD, B.d_span, B.span, getV_0, getV_s, setV_0, setV_s, ev_var, ev_cn, ev_gl, ev_bin, ev_neg, ev_inv, ev_an, ev_or, ev_cmp, ev_chn, ev_ch3, ev_ite, ev_tup, ev_lst, ev_ix, ev_sl, ev_rv, ev_call, ev_bl, ev_isi, ev_mt, recv_sset, recv_count, recv_index, recv_countT, recv_indexT, recv_join, recv_split, ev_lc, ev_lit, ev_sel, ev_dg, evan_1, evan_2, evor_1, evor_2, evs_nil, evs_cons, evo_non, evo_som, evc_non, evc_som, evi_ov, evi_rg, evi_en, evi_zp, rn_nil, rn_cons, rn1_setf, rn1_sett, trR_rt, trR_nx, ownK_list, rn1_own, rn1_unp, rn1_par, rn1_appf, rn1_appt, rn1_ret, rn1_retn, rn1_ifs, rn1_fr, rn1_wh, rn1_rs, rn1_tr, rn1_ex, rn1_skip, forR_nil, forR_cons, bindT_nm, bindT_tp, setAll_nil, setAll_cons, listV_0, listV_s, Cn_int, Cn_str, Cn_bl, Cn_non, Gc_cn, Gc_ws, someR_s, boolD_b, negD_i, add_i, sub_i, lt_i, le_i, gt_i, ge_i, tup_fit, len_l, len_t, abs_i, max_i, min_i, list_l, list_t, tuple_l, tuple_t, seqOf_l, seqOf_t, partD_n, partD_i, slD_l, slD_t, rvD_l, rvD_t, intsOf_ints, eq_i, ne_i, eq_ti, ne_ti, eq_li, ne_li, eq_ti0, ne_ti0, eq_li0, ne_li0, eq_l00, ne_l00, eq_t00, ne_t00, isNumD_i, res_rt, res_nx, res_xc, rg1, rg2, cutL_map, boolsOf_bools, isi_ii, isi_ib, isi_tt, isi_ll, ix_0t, ix_0l, ix_1t, ix_1l, ix_2t', ix_2l', ix_3t', ix_3l', ix_4t', ix_4l', ix_5t', ix_5l', ix_6t', ix_6l', int_b, flat_int, Res.ok_bind, Res.exc_bind, Res.stuck_bind, Res.fl_ok, Res.fl_exc, Res.fl_stuck, Fl.thn_nx, Fl.thn_rt, Fl.thn_xc, Fl.thn_stuck, calm_ok, if_true, if_false, ite_true, ite_false, decide_true, decide_false, Bool.not_true, Bool.not_false, Bool.false_eq_true, List.map_cons, List.map_nil, List.length_map, List.length_cons, List.length_nil, eq_self, reduceIte, List.replicate, List.append_nil, List.cons_append, List.nil_append, h t ht, hn, max_t, min_t, ne_eq, not_false_eq_true]
def SpPart (C : CT) (i : Nat) : Prop := ∀ (t : List Int) (a b : Int), Tr t → 0 ≤ a → a ≤ b → b < t.length → C i [.tuple (intL t), .int a, .int b] = .ok (.tuple (intL (cutL t (some a) (some (b + 1)))))
theorem sp_part {C : CT} (Hd) {i j : Nat} (h : SpNeed C i) (hn : SpNum C j) (t : List Int) (a b : Int) (ht : Tr t) (h1 : 0 ≤ a) (h2 : a ≤ b) (h3 : b < t.length) : runD C Hd (B.d_part i j) [.tuple (intL t), .int a, .int b] = .ok (.tuple (intL (cutL t (some a) (some (b + 1))))) := by
  have e1 : 0 ≤ a ∧ a ≤ (t.length : Int) - 1 := by omega
  have e2 : a ≤ b ∧ b ≤ (t.length : Int) - 1 := by omega
  simp only [runD, B.d_part, B.part, getV_0, getV_s, setV_0, setV_s, ev_var, ev_cn, ev_gl, ev_bin, ev_neg, ev_inv, ev_an, ev_or, ev_cmp, ev_chn, ev_ch3, ev_ite, ev_tup, ev_lst, ev_ix, ev_sl, ev_rv, ev_call, ev_bl, ev_isi, ev_mt, recv_sset, recv_count, recv_index, recv_countT, recv_indexT, recv_join, recv_split, ev_lc, ev_lit, ev_sel, ev_dg, evan_1, evan_2, evor_1, evor_2, evs_nil, evs_cons, evo_non, evo_som, evc_non, evc_som, evi_ov, evi_rg, evi_en, evi_zp, rn_nil, rn_cons, rn1_setf, rn1_sett, trR_rt, trR_nx, ownK_list, rn1_own, rn1_unp, rn1_par, rn1_appf, rn1_appt, rn1_ret, rn1_retn, rn1_ifs, rn1_fr, rn1_wh, rn1_rs, rn1_tr, rn1_ex, rn1_skip, forR_nil, forR_cons, bindT_nm, bindT_tp, setAll_nil, setAll_cons, listV_0, listV_s, Cn_int, Cn_str, Cn_bl, Cn_non, Gc_cn, Gc_ws, someR_s, boolD_b, negD_i, add_i, sub_i, lt_i, le_i, gt_i, ge_i, tup_fit, len_l, len_t, abs_i, max_i, min_i, list_l, list_t, tuple_l, tuple_t, seqOf_l, seqOf_t, partD_n, partD_i, slD_l, slD_t, rvD_l, rvD_t, intsOf_ints, eq_i, ne_i, eq_ti, ne_ti, eq_li, ne_li, eq_ti0, ne_ti0, eq_li0, ne_li0, eq_l00, ne_l00, eq_t00, ne_t00, isNumD_i, res_rt, res_nx, res_xc, rg1, rg2, cutL_map, boolsOf_bools, isi_ii, isi_ib, isi_tt, isi_ll, ix_0t, ix_0l, ix_1t, ix_1l, ix_2t', ix_2l', ix_3t', ix_3l', ix_4t', ix_4l', ix_5t', ix_5l', ix_6t', ix_6l', int_b, flat_int, Res.ok_bind, Res.exc_bind, Res.stuck_bind, Res.fl_ok, Res.fl_exc, Res.fl_stuck, Fl.thn_nx, Fl.thn_rt, Fl.thn_xc, Fl.thn_stuck, calm_ok, if_true, if_false, ite_true, ite_false, decide_true, decide_false, Bool.not_true, Bool.not_false, Bool.false_eq_true, List.map_cons, List.map_nil, List.length_map, List.length_cons, List.length_nil, eq_self, reduceIte, List.replicate, List.append_nil, List.cons_append, List.nil_append, h t ht, hn _ _ _, e1, e2, and_self]
theorem maxI_ge : ∀ (xs : List Int) (x : Int), x ∈ xs → x ≤ maxI xs := by
  have key : ∀ (r : List Int) (a : Int), a ≤ r.foldl (fun a y => if a < y then y else a) a ∧ ∀ x ∈ r, x ≤ r.foldl (fun a y => if a < y then y else a) a := by
    intro r
    induction r with
    | nil => intro a; simp
    | cons y r ih =>
      intro a
      have := ih (if a < y then y else a)
      refine ⟨Int.le_trans (by split <;> omega) this.1, fun x hx => ?_⟩
      rcases List.mem_cons.mp hx with rfl | hx
      · exact Int.le_trans (by split <;> omega) this.1
      · exact this.2 x hx
  intro xs x hx
  cases xs with
  | nil => cases hx
  | cons y r =>
    rcases List.mem_cons.mp hx with rfl | hx
    · exact (key r x).1
    · exact (key r y).2 x hx
theorem maxI_mem : ∀ (xs : List Int), xs ≠ [] → maxI xs ∈ xs := by
  have key : ∀ (r : List Int) (a : Int), r.foldl (fun a y => if a < y then y else a) a ∈ a :: r := by
    intro r
    induction r with
    | nil => intro a; simp
    | cons y r ih =>
      intro a
      have := ih (if a < y then y else a)
      simp only [List.foldl_cons]
      rcases List.mem_cons.mp this with h | h
      · rw [h]; split <;> simp
      · exact List.mem_cons_of_mem _ (List.mem_cons_of_mem _ h)
  intro xs h
  cases xs with
  | nil => exact absurd rfl h
  | cons y r => exact key r y
theorem minI_le : ∀ (xs : List Int) (x : Int), x ∈ xs → minI xs ≤ x := by
  have key : ∀ (r : List Int) (a : Int), r.foldl (fun a y => if y < a then y else a) a ≤ a ∧ ∀ x ∈ r, r.foldl (fun a y => if y < a then y else a) a ≤ x := by
    intro r
    induction r with
    | nil => intro a; simp
    | cons y r ih =>
      intro a
      have := ih (if y < a then y else a)
      refine ⟨Int.le_trans this.1 (by split <;> omega), fun x hx => ?_⟩
      rcases List.mem_cons.mp hx with rfl | hx
      · exact Int.le_trans this.1 (by split <;> omega)
      · exact this.2 x hx
  intro xs x hx
  cases xs with
  | nil => cases hx
  | cons y r =>
    rcases List.mem_cons.mp hx with rfl | hx
    · exact (key r x).1
    · exact (key r y).2 x hx
theorem minI_mem : ∀ (xs : List Int), xs ≠ [] → minI xs ∈ xs := by
  have key : ∀ (r : List Int) (a : Int), r.foldl (fun a y => if y < a then y else a) a ∈ a :: r := by
    intro r
    induction r with
    | nil => intro a; simp
    | cons y r ih =>
      intro a
      have := ih (if y < a then y else a)
      simp only [List.foldl_cons]
      rcases List.mem_cons.mp this with h | h
      · rw [h]; split <;> simp
      · exact List.mem_cons_of_mem _ (List.mem_cons_of_mem _ h)
  intro xs h
  cases xs with
  | nil => exact absurd rfl h
  | cons y r => exact key r y
theorem Tr.sub {t u : List Int} (h : Tr t) (hl : u.length ≤ t.length) (hm : ∀ x ∈ u, x ∈ t) : Tr u := ⟨Nat.le_trans hl h.1, fun x hx => h.2 x (hm x hx)⟩
theorem ix_getT (ns : List Int) (i : Int) (k : Nat) (x : Int) (hi : i = (k : Nat)) (h : ns[k]? = some x) : ixD (.tuple (intL ns)) (.int i) = .ok (.int x) := by
  obtain ⟨h1, h2⟩ := List.getElem?_eq_some_iff.mp h
  subst hi
  rw [ix_ti ns (k : Nat) (by omega) (by omega)]
  simp [h2]
end Z
end
section
/-! SP2: states. -/
namespace Z
open PySem
def b1 (p : Prop) [Decidable p] : Int := if p then 1 else 0
def lvD (a b : PyData) : Bool := isNumD a (-99) 99 && isNumD b 0 20
structure SpLevel (C : CT) (i : Nat) : Prop where
  D : ∀ a b : PyData, C i [a, b] = if lvD a b then .ok .none else .exc 1
instance {C : CT} {i : Nat} : CoeFun (SpLevel C i) (fun _ => ∀ lv s : Int, -99 ≤ lv → lv ≤ 99 → 0 ≤ s → s ≤ 20 → C i [.int lv, .int s] = .ok .none) := ⟨fun h lv s h1 h2 h3 h4 => by
  rw [h.D]
  unfold lvD
  rw [isNumD_i, isNumD_i, decide_eq_true ⟨h1, h2⟩, decide_eq_true ⟨h3, h4⟩]; rfl⟩
end Z
end
section
/-! SP3: changing tracks. -/
namespace Z
open PySem
end Z
end
section
/-! SP4: edges, runs. -/
namespace Z
open PySem
def wU (b : Bool) : PyData := .str (if b then "up" else "down")
def wH (b : Bool) : PyData := .str (if b then "high" else "low")
theorem encU : EncOk wU 0 := ⟨fun b => by cases b <;> decide +kernel, fun b => by cases b <;> decide +kernel, fun a b => by cases a <;> cases b <;> decide +kernel⟩
theorem encH : EncOk wH 0 := ⟨fun b => by cases b <;> decide +kernel, fun b => by cases b <;> decide +kernel, fun a b => by cases a <;> cases b <;> decide +kernel⟩
def edge (row : List Int) (k : Nat) : Int × Bool := (1 + (k : Nat), decide (row.getD k 0 < row.getD (k + 1) 0))
theorem getD_some {α : Type} (l : List α) (k : Nat) (d : α) (h : k < l.length) : l[k]? = some (l.getD k d) := by
  rw [List.getElem?_eq_getElem h]; simp [h]
end Z
end
section
/-! SP5: what is true of states, edges and runs. -/
namespace Z
open PySem
def Bin (row : List Int) : Prop := ∀ y ∈ row, y = 0 ∨ y = 1
theorem Bin.at_ {row : List Int} (h : Bin row) (k : Nat) (hk : k < row.length) : row.getD k 0 = 0 ∨ row.getD k 0 = 1 := h _ (List.mem_of_getElem? (getD_some row k 0 hk))
end Z
end
section
/-! SP6: what is a sign. -/
namespace Z
open PySem
theorem eq_ss (x y : Str) (hx : (PyData.str x).canLay0 = true) (hy : (PyData.str y).canLay0 = true) : cmpD .eq (.str x) (.str y) = .ok (.bool (decide (x = y))) := by
  show guardR (eqOk _ _) _ = _
  have e : eqOk (.str x) (.str y) = true := by unfold eqOk; rw [hx, hy]; rfl
  rw [e]
  show Res.ok (PyData.bool (x == y)) = _
  by_cases q : x = y
  · subst q; simp
  · simp [q]
theorem lay_cons {x : PyData} {r : List PyData} (h : PyData.canLayAll0 (x :: r) = true) : x.canLay0 = true ∧ PyData.canLayAll0 r = true := by simpa [PyData.canLayAll0] using h
def hasW : PyData → Str → Int → Bool
  | .tuple (.str x :: r), w, n => decide ((r.length : Int) + 1 = n) && decide (x = w)
  | _, _, _ => false
/-! ### plain signs -/
def bitD : PyData → Bool
  | .none => true
  | d => isNumD d 0 1
def bitsD : PyData → Bool
  | .tuple xs => decide (1 ≤ xs.length ∧ xs.length ≤ 6) && xs.all bitD
  | _ => false
def wayD : PyData → Bool
  | .str x => decide (x = "up") || decide (x = "down") || decide (x = "both")
  | _ => false
def runwD : PyData → Bool
  | .str x => decide (x = "high") || decide (x = "low")
  | _ => false
def plainD (d : PyData) : Bool :=
  if hasW d "edge" 4 then (match d with | .tuple [_, a, b, c] => lvD a b && wayD c | _ => false)
  else if hasW d "row" 4 then (match d with | .tuple [_, a, b, c] => lvD a b && bitsD c | _ => false)
  else if hasW d "width" 6 then (match d with | .tuple [_, a, b, c, e, f] => lvD a b && runwD c && isNumD e 1 60 && (match e with | .int z => isNumD f z 60 | _ => false) | _ => false)
  else false
def twoD (f : PyData → Bool) (d : PyData) : Bool :=
  if hasW d "either" 3 then (match d with | .tuple [_, a, b] => f a && f b | _ => false)
  else if hasW d "behind" 4 then (match d with | .tuple [_, a, b, w] => isNumD w 1 60 && (f a && f b) | _ => false) else false
def isSgD : Nat → PyData → Bool
  | 0, _ => false
  | 1, d => plainD d
  | n + 2, d => plainD d || twoD (isSgD (n + 1)) d
structure SpNeedSg (C : CT) (i : Nat) : Prop where
  D : ∀ d : PyData, d.canLay0 = true → C i [d] = if isSgD 3 d then .ok .none else .exc 2
end Z
end
section
/-! SP7: signs, and what they catch. -/
namespace Z
open PySem
/-! ### rising lists -/
abbrev Srt (l : List Int) : Prop := l.Pairwise (· < ·)
theorem srt_ext : ∀ {l m : List Int}, Srt l → Srt m → (∀ x, x ∈ l ↔ x ∈ m) → l = m
  | [], [], _, _, _ => rfl
  | [], b :: m, _, _, h => by have := (h b).mpr List.mem_cons_self; cases this
  | a :: l, [], _, _, h => by have := (h a).mp List.mem_cons_self; cases this
  | a :: l, b :: m, h1, h2, h => by
    obtain ⟨h1, h1'⟩ := List.pairwise_cons.mp h1
    obtain ⟨h2, h2'⟩ := List.pairwise_cons.mp h2
    have e : a = b := by
      rcases List.mem_cons.mp ((h a).mp List.mem_cons_self) with q | q
      · exact q
      · rcases List.mem_cons.mp ((h b).mpr List.mem_cons_self) with z | z
        · exact z.symm
        · have := h1 b z; have := h2 a q; omega
    subst e
    congr 1
    refine srt_ext h1' h2' fun x => ⟨fun hx => ?_, fun hx => ?_⟩
    · rcases List.mem_cons.mp ((h x).mp (List.mem_cons_of_mem _ hx)) with q | q
      · have := h1 x hx; omega
      · exact q
    · rcases List.mem_cons.mp ((h x).mpr (List.mem_cons_of_mem _ hx)) with q | q
      · have := h2 x hx; omega
      · exact q
theorem srt_len : ∀ {l : List Int} {a b : Int}, Srt l → (∀ x ∈ l, a ≤ x ∧ x < b) → (l.length : Int) ≤ max 0 (b - a)
  | [], _, _, _, _ => by simp; omega
  | x :: l, a, b, h, hm => by
    obtain ⟨h1, h2⟩ := List.pairwise_cons.mp h
    have hx := hm x List.mem_cons_self
    have := srt_len (a := x + 1) (b := b) h2 fun y hy => ⟨by have := h1 y hy; omega, (hm y (List.mem_cons_of_mem _ hy)).2⟩
    simp only [List.length_cons]
    omega
theorem mem_insI (x y : Int) : ∀ l : List Int, y ∈ insI x l ↔ y = x ∨ y ∈ l
  | [] => by simp [insI]
  | z :: r => by
    unfold insI
    split
    · simp
    · rw [List.mem_cons, mem_insI x y r, List.mem_cons]
      constructor
      · rintro (h | h | h) <;> simp [h]
      · rintro (h | h | h) <;> simp [h]
theorem mem_sortI (y : Int) : ∀ l : List Int, y ∈ sortI l ↔ y ∈ l
  | [] => by simp [sortI]
  | x :: r => by rw [sortI, mem_insI, mem_sortI y r, List.mem_cons]
theorem mem_dedupI (y : Int) : ∀ l : List Int, y ∈ dedupI l ↔ y ∈ l
  | [] => by simp [dedupI]
  | x :: r => by
    unfold dedupI
    split
    · rename_i h
      rw [mem_dedupI y r, List.mem_cons]
      exact ⟨.inr, fun q => q.elim (fun z => z ▸ h) id⟩
    · rw [List.mem_cons, List.mem_cons, mem_dedupI y r]
theorem insI_srt (x : Int) : ∀ l : List Int, Srt l → x ∉ l → Srt (insI x l)
  | [], _, _ => by simp [insI, Srt]
  | y :: r, h, hx => by
    obtain ⟨h1, h2⟩ := List.pairwise_cons.mp h
    simp only [List.mem_cons, not_or] at hx
    unfold insI
    split
    · refine List.pairwise_cons.mpr ⟨fun z hz => ?_, h⟩
      rcases List.mem_cons.mp hz with q | q
      · omega
      · have := h1 z q; omega
    · refine List.pairwise_cons.mpr ⟨fun z hz => ?_, insI_srt x r h2 hx.2⟩
      rcases (mem_insI x z r).mp hz with q | q
      · omega
      · exact h1 z q
theorem sortI_srt : ∀ l : List Int, l.Nodup → Srt (sortI l)
  | [], _ => by simp [sortI, Srt]
  | x :: r, h => by
    obtain ⟨h1, h2⟩ := List.nodup_cons.mp h
    exact insI_srt x _ (sortI_srt r h2) (fun z => h1 ((mem_sortI x r).mp z))
theorem dedupZ_nodup : ∀ l : List Int, (dedupI l).Nodup
  | [] => by simp [dedupI]
  | x :: r => by
    unfold dedupI
    split
    · exact dedupZ_nodup r
    · rename_i h
      exact List.nodup_cons.mpr ⟨fun z => h ((mem_dedupI x r).mp z), dedupZ_nodup r⟩
theorem insI_len (x : Int) : ∀ l : List Int, (insI x l).length = l.length + 1
  | [] => rfl
  | y :: r => by
    unfold insI
    split
    · rfl
    · simp [insI_len x r]
theorem sortI_len : ∀ l : List Int, (sortI l).length = l.length
  | [] => rfl
  | x :: r => by rw [sortI, insI_len, sortI_len r]; rfl
def setZ (l : List Int) : List Int := sortI (dedupI l)
theorem setZ_srt (l : List Int) : Srt (setZ l) := sortI_srt _ (dedupZ_nodup l)
theorem mem_setZ (y : Int) (l : List Int) : y ∈ setZ l ↔ y ∈ l := by unfold setZ; rw [mem_sortI, mem_dedupI]
theorem sset_l (ns : List Int) (a b : Int) (h1 : ns.length ≤ 1000) (h2 : ∀ x ∈ ns, a ≤ x ∧ x < b) (h3 : b - a < 64) : mtD .sset (.list (intL ns)) [] = .ok (.list (intL (setZ ns))) := by
  have hl : (dedupI ns).length < 64 := by
    have := srt_len (setZ_srt ns) (a := a) (b := b) fun x hx => h2 x ((mem_setZ x ns).mp hx)
    have e : (setZ ns).length = (dedupI ns).length := sortI_len _
    omega
  show (match intsOf (intL ns) with
    | some ns => guardR (decide (ns.length ≤ 1000) && decide ((dedupI ns).length < 64)) (.list ((sortI (dedupI ns)).map .int))
    | none => .stuck) = _
  rw [intsOf_ints]
  show guardR _ _ = _
  rw [decide_eq_true h1, decide_eq_true hl]
  rfl
/-! ### signs -/
inductive Sg where
  | edge (lv s : Int) (w : Option Bool)
  | width (lv s : Int) (h : Bool) (a b : Int)
  | row (lv s : Int) (bs : List (Option Bool))
  | either (x y : Sg)
  | behind (x y : Sg) (w : Int)
  deriving DecidableEq
def wW : Option Bool → PyData
  | none => .str "both"
  | some b => wU b
def eB : Option Bool → PyData
  | none => .none
  | some b => .int (if b then 1 else 0)
def eS : Sg → PyData
  | .edge lv s w => .tuple [.str "edge", .int lv, .int s, wW w]
  | .width lv s h a b => .tuple [.str "width", .int lv, .int s, wH h, .int a, .int b]
  | .row lv s bs => .tuple [.str "row", .int lv, .int s, .tuple (bs.map eB)]
  | .either x y => .tuple [.str "either", eS x, eS y]
  | .behind x y w => .tuple [.str "behind", eS x, eS y, .int w]
def dpS : Sg → Nat
  | .either x y => 1 + max (dpS x) (dpS y)
  | .behind x y _ => 1 + max (dpS x) (dpS y)
  | _ => 1
def LvOk (lv s : Int) : Prop := (-99 ≤ lv ∧ lv ≤ 99) ∧ 0 ≤ s ∧ s ≤ 20
instance (a b : Int) : Decidable (LvOk a b) := inferInstanceAs (Decidable (_ ∧ _))
def FdOk : Sg → Prop
  | .edge lv s _ => LvOk lv s
  | .width lv s _ a b => LvOk lv s ∧ 1 ≤ a ∧ a ≤ b ∧ b ≤ 60
  | .row lv s bs => LvOk lv s ∧ 1 ≤ bs.length ∧ bs.length ≤ 6
  | .either x y => FdOk x ∧ FdOk y
  | .behind x y w => FdOk x ∧ FdOk y ∧ 1 ≤ w ∧ w ≤ 60
def SgOk (n : Nat) (g : Sg) : Prop := dpS g ≤ n ∧ FdOk g
theorem lay_eB (b : Option Bool) : (eB b).canLay0 = true := by cases b <;> rfl
theorem encBit : EncOk eB 0 := ⟨lay_eB, fun b => by cases b <;> exact Nat.le_refl _, fun a b => by
  cases a with
  | none => cases b <;> simp [eB, PyData.eqv]
  | some a => cases b with
    | none => simp [eB, PyData.eqv]
    | some b => cases a <;> cases b <;> simp [eB, PyData.eqv]⟩
theorem lay_wW (b : Option Bool) : (wW b).canLay0 = true := by
  rcases b with _ | b
  · decide +kernel
  · exact encU.lay b
theorem lay_eS : ∀ g : Sg, (eS g).canLay0 = true
  | .edge lv s w => by simp [eS, PyData.canLay0, PyData.canLayAll0, lay_wW w]; decide +kernel
  | .width lv s h a b => by simp [eS, PyData.canLay0, PyData.canLayAll0, encH.lay h]; decide +kernel
  | .row lv s bs => by simp [eS, PyData.canLay0, PyData.canLayAll0, encBit.layA bs]; decide +kernel
  | .either x y => by simp [eS, PyData.canLay0, PyData.canLayAll0, lay_eS x, lay_eS y]; decide +kernel
  | .behind x y w => by simp [eS, PyData.canLay0, PyData.canLayAll0, lay_eS x, lay_eS y]; decide +kernel
theorem lvD_i (a b : Int) : lvD (.int a) (.int b) = decide (LvOk a b) := by
  unfold lvD LvOk
  rw [isNumD_i, isNumD_i]
  exact (Bool.decide_and _ _).symm
theorem wayD_w (w : Option Bool) : wayD (wW w) = true := by
  rcases w with _ | b
  · decide +kernel
  · cases b <;> decide +kernel
theorem runwD_w (h : Bool) : runwD (wH h) = true := by cases h <;> decide +kernel
theorem bitD_b (b : Option Bool) : bitD (eB b) = true := by
  rcases b with _ | b
  · rfl
  · cases b <;> rfl
theorem hW_ne (x w : Str) (r : List PyData) (n : Int) (h : ¬ x = w) : hasW (.tuple (.str x :: r)) w n = false := by
  show (decide _ && decide (x = w)) = false
  rw [decide_eq_false h, Bool.and_false]
theorem hW_eq {w : Str} {r : List PyData} {n : Int} (h : decide ((r.length : Int) + 1 = n) = true) : hasW (.tuple (.str w :: r)) w n = true := by
  show (decide _ && decide (w = w)) = true
  rw [h, decide_eq_true rfl, Bool.and_self]
theorem plain_edge (lv s : Int) (w : Option Bool) : plainD (eS (.edge lv s w)) = decide (LvOk lv s) := by
  unfold plainD
  rw [eS, hW_eq (by rfl), if_pos rfl]
  show (lvD (.int lv) (.int s) && wayD (wW w)) = _
  rw [lvD_i, wayD_w, Bool.and_true]
theorem plain_row (lv s : Int) (bs : List (Option Bool)) : plainD (eS (.row lv s bs)) = decide (LvOk lv s ∧ 1 ≤ bs.length ∧ bs.length ≤ 6) := by
  unfold plainD
  rw [eS, hW_ne _ _ _ _ (by decide +kernel), if_neg (by simp), hW_eq (by rfl), if_pos rfl]
  show (lvD (.int lv) (.int s) && (decide (1 ≤ (bs.map eB).length ∧ (bs.map eB).length ≤ 6) && (bs.map eB).all bitD)) = _
  have : (bs.map eB).all bitD = true := by
    rw [List.all_map, List.all_eq_true]
    exact fun b _ => bitD_b b
  rw [lvD_i, this, Bool.and_true, List.length_map]
  exact (Bool.decide_and _ _).symm
theorem plain_width (lv s : Int) (h : Bool) (a b : Int) : plainD (eS (.width lv s h a b)) = decide (LvOk lv s ∧ 1 ≤ a ∧ a ≤ b ∧ b ≤ 60) := by
  unfold plainD
  rw [eS, hW_ne _ _ _ _ (by decide +kernel), if_neg (by simp), hW_ne _ _ _ _ (by decide +kernel), if_neg (by simp), hW_eq (by rfl), if_pos rfl]
  show (lvD (.int lv) (.int s) && runwD (wH h) && isNumD (.int a) 1 60 && isNumD (.int b) a 60) = _
  rw [lvD_i, runwD_w, Bool.and_true, isNumD_i, isNumD_i]
  rw [← Bool.decide_and, ← Bool.decide_and]
  congr 1
  rw [eq_iff_iff]
  constructor
  · rintro ⟨⟨h1, h2, h3⟩, h4, h5⟩; exact ⟨h1, h2, h4, h5⟩
  · rintro ⟨h1, h2, h3, h4⟩; exact ⟨⟨h1, h2, by omega⟩, h3, h4⟩
theorem plain_two (w : Str) (r : List PyData) (h : w = "either" ∨ w = "behind") : plainD (.tuple (.str w :: r)) = false := by
  unfold plainD
  have h1 : ¬ w = "edge" := by rcases h with rfl | rfl <;> decide +kernel
  have h2 : ¬ w = "row" := by rcases h with rfl | rfl <;> decide +kernel
  have h3 : ¬ w = "width" := by rcases h with rfl | rfl <;> decide +kernel
  rw [hW_ne _ _ _ _ h1, hW_ne _ _ _ _ h2, hW_ne _ _ _ _ h3]
  rfl
theorem sgD_ok : ∀ (g : Sg) (n : Nat), SgOk n g → isSgD n (eS g) = true
  | g, 0, h => by
    have := h.1
    cases g <;> simp [dpS] at this <;> omega
  | .edge lv s w, n + 1, h => by
    have e : plainD (eS (.edge lv s w)) = true := by rw [plain_edge]; exact decide_eq_true h.2
    cases n with
    | zero => exact e
    | succ n => rw [isSgD, e, Bool.true_or]
  | .row lv s bs, n + 1, h => by
    have e : plainD (eS (.row lv s bs)) = true := by rw [plain_row]; exact decide_eq_true h.2
    cases n with
    | zero => exact e
    | succ n => rw [isSgD, e, Bool.true_or]
  | .width lv s k a b, n + 1, h => by
    have e : plainD (eS (.width lv s k a b)) = true := by rw [plain_width]; exact decide_eq_true h.2
    cases n with
    | zero => exact e
    | succ n => rw [isSgD, e, Bool.true_or]
  | .either x y, n + 1, h => by
    have hd : dpS x ≤ n ∧ dpS y ≤ n := by have := h.1; simp only [dpS] at this; omega
    cases n with
    | zero =>
      have : 1 ≤ dpS x := by cases x <;> simp [dpS] <;> omega
      omega
    | succ n =>
      have e1 := sgD_ok x (n + 1) ⟨hd.1, h.2.1⟩
      have e2 := sgD_ok y (n + 1) ⟨hd.2, h.2.2⟩
      rw [isSgD, eS, plain_two _ _ (.inl rfl), Bool.false_or]
      unfold twoD
      rw [hW_eq (by rfl), if_pos rfl]
      show (isSgD (n + 1) (eS x) && isSgD (n + 1) (eS y)) = true
      rw [e1, e2]; rfl
  | .behind x y w, n + 1, h => by
    have hd : dpS x ≤ n ∧ dpS y ≤ n := by have := h.1; simp only [dpS] at this; omega
    cases n with
    | zero =>
      have : 1 ≤ dpS x := by cases x <;> simp [dpS] <;> omega
      omega
    | succ n =>
      have e1 := sgD_ok x (n + 1) ⟨hd.1, h.2.1⟩
      have e2 := sgD_ok y (n + 1) ⟨hd.2, h.2.2.1⟩
      rw [isSgD, eS, plain_two _ _ (.inr rfl), Bool.false_or]
      unfold twoD
      rw [hW_ne _ _ _ _ (by decide +kernel), if_neg (by simp), hW_eq (by rfl), if_pos rfl]
      show (isNumD (.int w) 1 60 && (isSgD (n + 1) (eS x) && isSgD (n + 1) (eS y))) = true
      rw [e1, e2, isNumD_i, decide_eq_true h.2.2.2]; rfl
theorem SpNeedSg.ok {C : CT} {i : Nat} (h : SpNeedSg C i) (g : Sg) (hg : SgOk 3 g) : C i [eS g] = .ok .none := by
  rw [h.D _ (lay_eS g), sgD_ok g 3 hg]; rfl
/-! ### catches -/
end Z
end
section
/-! SP8: catches, as they are reckoned. -/
namespace Z
open PySem
theorem eq_word (x y : Str) (b : Bool) (h : (decide (x = y) == b) = true) (hx : (PyData.str x).canLay0 = true) (hy : (PyData.str y).canLay0 = true) : cmpD .eq (.str x) (.str y) = .ok (.bool b) := by
  rw [eq_ss x y hx hy, eq_of_beq h]
theorem we : cmpD .eq (.str "width") (.str "edge") = .ok (.bool false) := eq_word _ _ _ (by decide +kernel) (by decide +kernel) (by decide +kernel)
theorem re : cmpD .eq (.str "row") (.str "edge") = .ok (.bool false) := eq_word _ _ _ (by decide +kernel) (by decide +kernel) (by decide +kernel)
theorem te : cmpD .eq (.str "either") (.str "edge") = .ok (.bool false) := eq_word _ _ _ (by decide +kernel) (by decide +kernel) (by decide +kernel)
theorem be : cmpD .eq (.str "behind") (.str "edge") = .ok (.bool false) := eq_word _ _ _ (by decide +kernel) (by decide +kernel) (by decide +kernel)
/-! ### how great -/
end Z
end
section
/-! SP9: signs that a law draws. -/
namespace Z
open PySem
def LvDr (lv s : Int) : Prop := (-4 ≤ lv ∧ lv ≤ 4) ∧ 0 ≤ s ∧ s ≤ 3
def DrS : Sg → Prop
  | .edge lv s _ => LvDr lv s
  | .width lv s _ a b => LvDr lv s ∧ 1 ≤ a ∧ a ≤ 4 ∧ a ≤ b ∧ b ≤ 9
  | .row lv s bs => LvDr lv s ∧ 1 ≤ bs.length ∧ bs.length ≤ 4
  | .either x y => DrS x ∧ DrS y
  | .behind x y w => DrS x ∧ DrS y ∧ 1 ≤ w ∧ w ≤ 9
theorem DrS.ok : ∀ {g : Sg}, DrS g → FdOk g
  | .edge lv s _, h => by obtain ⟨h1, h2⟩ := h; exact ⟨by omega, by omega⟩
  | .width lv s _ a b, h => by obtain ⟨⟨h1, h2⟩, h3⟩ := h; exact ⟨⟨by omega, by omega⟩, by omega⟩
  | .row lv s bs, h => by obtain ⟨⟨h1, h2⟩, h3⟩ := h; exact ⟨⟨by omega, by omega⟩, by omega⟩
  | .either x y, h => ⟨DrS.ok h.1, DrS.ok h.2⟩
  | .behind x y w, h => ⟨DrS.ok h.1, DrS.ok h.2.1, by have := h.2.2; omega⟩
end Z
end
section
/-! SP10: which places are caught. -/
namespace Z
open PySem
/-! ### rows -/
end Z
end
section
/-! SP11: shots. -/
namespace Z
open PySem
/-! ### held off -/
/-! ### the samples around a place -/
end Z
end
section
/-! SP12: samples behind change nothing ahead; what is taken. -/
namespace Z
open PySem
/-! ### samples behind -/
/-! ### what is taken -/
section
variable (off a b : Int)
end
end Z
end
section
/-! SP13: signs judged. -/
namespace Z
open PySem
def WnOk (n : Nat) (w : List Int) : Prop := (∀ p ∈ w, 0 ≤ p ∧ p ≤ (n : Int) - 1) ∧ Srt w
def wnD (n : Nat) : PyData → Bool
  | .list xs => xs.all (fun d => isNumD d 0 ((n : Int) - 1)) && (match intsOf xs with
    | some w => (w.zip (w.drop 1)).all fun q => decide (q.1 < q.2)
    | none => false)
  | _ => false
theorem srt_zip : ∀ w : List Int, ((w.zip (w.drop 1)).all fun q => decide (q.1 < q.2)) = true ↔ Srt w
  | [] => by simp
  | [x] => by simp [Srt]
  | x :: y :: r => by
    have ih := srt_zip (y :: r)
    simp only [List.drop_succ_cons, List.drop_zero, List.zip_cons_cons, List.all_cons, Bool.and_eq_true, decide_eq_true_eq] at ih ⊢
    rw [ih]
    constructor
    · rintro ⟨h1, h2⟩
      refine List.pairwise_cons.mpr ⟨fun z hz => ?_, h2⟩
      rcases List.mem_cons.mp hz with q | q
      · omega
      · have := (List.pairwise_cons.mp h2).1 z q; omega
    · intro h
      obtain ⟨h1, h2⟩ := List.pairwise_cons.mp h
      exact ⟨h1 y List.mem_cons_self, h2⟩
theorem wnD_i (n : Nat) (w : List Int) : wnD n (.list (intL w)) = true ↔ WnOk n w := by
  show ((intL w).all (fun d => isNumD d 0 ((n : Int) - 1)) && (match intsOf (intL w) with | some w => (w.zip (w.drop 1)).all fun q => decide (q.1 < q.2) | none => false)) = true ↔ _
  rw [intsOf_ints, Bool.and_eq_true]
  show _ ∧ ((w.zip (w.drop 1)).all fun q => decide (q.1 < q.2)) = true ↔ _
  rw [srt_zip]
  refine and_congr ⟨fun h p hp => ?_, fun h => ?_⟩ Iff.rfl
  · exact of_decide_eq_true (List.all_eq_true.mp h (.int p) (List.mem_map.mpr ⟨p, hp, rfl⟩))
  · rw [List.all_eq_true]
    intro d hd
    obtain ⟨p, hp, rfl⟩ := List.mem_map.mp hd
    exact decide_eq_true (h p hp)
structure SpWanted (C : CT) (i : Nat) : Prop where
  D : ∀ (t : List Int) (d : PyData), (∀ xs, d = .list xs → xs.length ≤ 1000) → C i [.tuple (intL t), d] = if wnD t.length d then .ok .none else .exc 4
theorem SpWanted.ok {C : CT} {i : Nat} (h : SpWanted C i) (t w : List Int) (hl : w.length ≤ 1000) (hw : WnOk t.length w) : C i [.tuple (intL t), .list (intL w)] = .ok .none := by
  rw [h.D t _ (fun xs e => by cases e; simpa using hl), (wnD_i t.length w).mpr hw]; rfl
/-! ### right, wrong, lost -/
/-! ### lists of signs -/
def sgsD : PyData → Bool
  | .list xs => decide (1 ≤ xs.length ∧ xs.length ≤ 6) && xs.all (isSgD 3)
  | _ => false
structure SpNeedSgs (C : CT) (i : Nat) : Prop where
  D : ∀ d : PyData, d.canLay0 = true → C i [d] = if sgsD d then .ok .none else .exc 2
theorem lay_signs (gs : List Sg) : (PyData.list (gs.map eS)).canLay0 = true := by
  rw [PyData.canLay0]
  induction gs with
  | nil => rfl
  | cons g r ih => simp [PyData.canLayAll0, lay_eS, ih]
theorem sgsD_ok (gs : List Sg) (h1 : 1 ≤ gs.length) (h2 : gs.length ≤ 6) (h : ∀ g ∈ gs, SgOk 3 g) : sgsD (.list (gs.map eS)) = true := by
  show (decide (1 ≤ (gs.map eS).length ∧ (gs.map eS).length ≤ 6) && (gs.map eS).all (isSgD 3)) = true
  rw [List.length_map, decide_eq_true ⟨h1, h2⟩, Bool.true_and, List.all_eq_true]
  intro d hd
  obtain ⟨g, hg, rfl⟩ := List.mem_map.mp hd
  exact sgD_ok g 3 (h g hg)
theorem SpNeedSgs.ok {C : CT} {i : Nat} (h : SpNeedSgs C i) (gs : List Sg) (h1 : 1 ≤ gs.length) (h2 : gs.length ≤ 6) (hg : ∀ g ∈ gs, SgOk 3 g) : C i [.list (gs.map eS)] = .ok .none := by
  rw [h.D _ (lay_signs gs), sgsD_ok gs h1 h2 hg]; rfl
/-! ### the best one -/
/-! ### which track parts two signs -/
abbrev eT (t : List Int) : PyData := .tuple (intL t)
end Z
end
section
/-! SP14: refusals told. -/
namespace Z
open PySem
mutual
theorem eqv_refl : ∀ (d : PyData), d.canLay0 = true → PyData.eqv d d = true
  | .none, _ => rfl
  | .bool b, _ => by simp [PyData.eqv]
  | .int i, _ => by simp [PyData.eqv]
  | .str x, _ => by simp [PyData.eqv]
  | .list xs, h => by rw [PyData.eqv]; exact eqvA_refl xs (by simpa [PyData.canLay0] using h)
  | .tuple xs, h => by rw [PyData.eqv]; exact eqvA_refl xs (by simpa [PyData.canLay0] using h)
  | .dict _, h => by simp [PyData.canLay0] at h
theorem eqvA_refl : ∀ (xs : List PyData), PyData.canLayAll0 xs = true → PyData.eqvAll xs xs = true
  | [], _ => rfl
  | x :: r, h => by
    have := lay_cons h
    rw [PyData.eqvAll, eqv_refl x this.1, eqvA_refl r this.2]; rfl
end
theorem ne_same (d : PyData) (h : d.canLay0 = true) (hd : d.depth ≤ 64) : cmpD .ne d d = .ok (.bool false) := by
  show guardR (eqOk d d) _ = _
  have e : eqOk d d = true := by unfold eqOk; rw [h]; simp; omega
  rw [e, eqv_refl d h]; rfl
theorem eq_same (d : PyData) (h : d.canLay0 = true) (hd : d.depth ≤ 64) : cmpD .eq d d = .ok (.bool true) := by
  show guardR (eqOk d d) _ = _
  have e : eqOk d d = true := by unfold eqOk; rw [h]; simp; omega
  rw [e, eqv_refl d h]; rfl
/-! ### the least and the greatest -/
end Z
end
section
/-! SP15: good data; the laws' own edges and runs; refusals of states, edges, runs. -/
namespace Z
open PySem
structure GD (n : Nat) (d : PyData) : Prop where
  lay : d.canLay0 = true
  dep : d.depth ≤ n
theorem gd_enc {α : Type} {e : α → PyData} {D : Nat} (h : EncOk e D) (a : α) : GD D (e a) := ⟨h.lay a, h.dep a⟩
theorem GD.up {n m : Nat} {d : PyData} (h : GD n d) (k : n ≤ m) : GD m d := ⟨h.lay, Nat.le_trans h.dep k⟩
theorem gd_int (i : Int) : GD 0 (.int i) := gd_enc encI i
theorem GD.ne {n : Nat} {d : PyData} (h : GD n d) (hn : n ≤ 64) : cmpD .ne d d = .ok (.bool false) := ne_same d h.lay (Nat.le_trans h.dep hn)
theorem GD.eq {n : Nat} {d : PyData} (h : GD n d) (hn : n ≤ 64) : cmpD .eq d d = .ok (.bool true) := eq_same d h.lay (Nat.le_trans h.dep hn)
/-! ### refusals -/
end Z
end
section
/-! SP16: signs flipped and shifted. -/
namespace Z
open PySem
/-! ### what they catch -/
/-! ### as they are reckoned -/
theorem ad (xs ys : List PyData) (h : (xs.length + ys.length ≤ 20) = True) : binD .add (.tuple xs) (.tuple ys) = .ok (.tuple (xs ++ ys)) := add_t _ _ (by have := of_eq_true h; omega)
/-! ### a sign is good data -/
end Z
end
section
/-! SP17: steps of any environment. -/
namespace Z
open PySem
section
variable {C : CT} {env : Ev}
theorem ev_cmp2 {o : Cop} {a b : E} {x y : PyData} {r : Res PyData} (h1 : ev C env a = .ok x) (h2 : ev C env b = .ok y) (h : cmpD o x y = r) : ev C env (.cmp o a b) = r := by
  show (ev C env a >>= fun a => ev C env b >>= fun b => cmpD o a b) = _
  rw [h1, h2]; exact h
theorem ev_tup1 {a : E} {xs : List PyData} (h : ev C env a = .ok (.list xs)) (hl : xs.length ≤ 16777216) : ev C env (.bl .tuple (.cons a .nil)) = .ok (.tuple xs) := by
  show ((ev C env a >>= fun d => evs C env .nil >>= fun ds => .ok (d :: ds)) >>= fun ds => bltD .tuple ds) = _
  rw [h]
  simp (disch := first | assumption | omega | (simp; done) | (simp; omega)) only [getV_0, getV_s, setV_0, setV_s, ev_var, ev_cn, ev_gl, ev_bin, ev_neg, ev_inv, ev_an, ev_or, ev_cmp, ev_chn, ev_ch3, ev_ite, ev_tup, ev_lst, ev_ix, ev_sl, ev_rv, ev_call, ev_bl, ev_isi, ev_mt, recv_sset, recv_count, recv_index, recv_countT, recv_indexT, recv_join, recv_split, ev_lc, ev_lit, ev_sel, ev_dg, evan_1, evan_2, evor_1, evor_2, evs_nil, evs_cons, evo_non, evo_som, evc_non, evc_som, evi_ov, evi_rg, evi_en, evi_zp, rn_nil, rn_cons, rn1_setf, rn1_sett, trR_rt, trR_nx, ownK_list, rn1_own, rn1_unp, rn1_par, rn1_appf, rn1_appt, rn1_ret, rn1_retn, rn1_ifs, rn1_fr, rn1_wh, rn1_rs, rn1_tr, rn1_ex, rn1_skip, forR_nil, forR_cons, bindT_nm, bindT_tp, setAll_nil, setAll_cons, listV_0, listV_s, Cn_int, Cn_str, Cn_bl, Cn_non, Gc_cn, Gc_ws, someR_s, boolD_b, negD_i, add_i, sub_i, lt_i, le_i, gt_i, ge_i, tup_fit, len_l, len_t, abs_i, max_i, min_i, list_l, list_t, tuple_l, tuple_t, seqOf_l, seqOf_t, partD_n, partD_i, slD_l, slD_t, rvD_l, rvD_t, intsOf_ints, eq_i, ne_i, eq_ti, ne_ti, eq_li, ne_li, eq_ti0, ne_ti0, eq_li0, ne_li0, eq_l00, ne_l00, eq_t00, ne_t00, isNumD_i, res_rt, res_nx, res_xc, rg1, rg2, cutL_map, boolsOf_bools, isi_ii, isi_ib, isi_tt, isi_ll, ix_0t, ix_0l, ix_1t, ix_1l, ix_2t', ix_2l', ix_3t', ix_3l', ix_4t', ix_4l', ix_5t', ix_5l', ix_6t', ix_6l', int_b, flat_int, Res.ok_bind, Res.exc_bind, Res.stuck_bind, Res.fl_ok, Res.fl_exc, Res.fl_stuck, Fl.thn_nx, Fl.thn_rt, Fl.thn_xc, Fl.thn_stuck, calm_ok, if_true, if_false, ite_true, ite_false, decide_true, decide_false, Bool.not_true, Bool.not_false, Bool.false_eq_true, List.map_cons, List.map_nil, List.length_map, List.length_cons, List.length_nil, eq_self, reduceIte, List.replicate, List.append_nil, List.cons_append, List.nil_append]
end
end Z
end
section
/-! SP18: the laws' own catches: a flag for each place. -/
namespace Z
open PySem
section
variable {C : CT} {env : Ev}
end
/-! ### the plain facts -/
end Z
end
section
/-! SP19: measures. -/
namespace Z
open PySem
/-! ### a fraction in lowest terms -/
abbrev eP (p : Int × Int) : PyData := .tuple [.int p.1, .int p.2]
theorem encP : EncOk eP 1 := encI.two encI
/-! ### the share -/
/-! ### from edge to edge of a way -/
/-! ### the longest run -/
/-! ### the steepest -/
end Z
end
section
/-! SP20: the laws' own word on signs. -/
namespace Z
open PySem
/-! ### what is a sign is one -/
/-! ### a word with how many -/
/-! ### _law_is_sign -/
/-! ### _law_flipped -/
end Z
end
section
/-! SP21: held off. -/
namespace Z
open PySem
theorem evi_of {K : CT} {env : Ev} {xs : Es} {ds rs : List PyData} (h : evs K env xs = .ok ds) (h2 : rgD ds = .ok rs) : evi K env (.rg xs) = .ok rs := by
  show (evs K env xs >>= fun ds => rgD ds) = _
  rw [h]; exact h2
end Z
end
section
/-! SP22: places taken one by one. -/
namespace Z
open PySem
/-! ### held off, one by one -/
/-! ### taken, one by one -/
/-! ### the samples around a place -/
end Z
end
section
/-! SP23: tracks thinned. -/
namespace Z
open PySem
def pcN (n m : Nat) : Nat := (n + m - 1) / m
theorem pcN_lt (n m k : Nat) (hm : 0 < m) : k < pcN n m ↔ k * m < n := by
  unfold pcN
  rw [Nat.lt_iff_add_one_le, Nat.le_div_iff_mul_le hm, Nat.succ_mul]
  omega
theorem pcN_le (n m : Nat) (hm : 0 < m) : pcN n m ≤ n := by
  rcases Nat.eq_zero_or_pos (pcN n m) with z | z
  · omega
  · have h := (pcN_lt n m (pcN n m - 1) hm).mp (by omega)
    have h2 : pcN n m - 1 ≤ (pcN n m - 1) * m := Nat.le_mul_of_pos_right _ hm
    omega
def pcZ (t : List Int) (m k : Nat) : List Int := (t.drop (k * m)).take m
theorem cut_pc {α : Type} (t : List α) (a m : Nat) (x y : Int) (hx : x = (a : Nat)) (hy : y = (a : Nat) + (m : Nat)) : cutL t (some x) (some y) = (t.drop a).take m := by
  subst hx hy
  unfold cutL
  rw [sIx_pos _ _ _ (by omega), sIx_pos _ _ _ (by omega)]
  have e1 : ((a : Int)).toNat = a := by omega
  have e2 : ((a : Int) + (m : Int)).toNat = a + m := by omega
  rw [e1, e2]
  apply List.ext_getElem?
  intro i
  rw [List.getElem?_take, List.getElem?_take, List.getElem?_drop, List.getElem?_drop]
  by_cases h : a + i < t.length
  · have z : min a t.length = a := by omega
    rw [z]
    by_cases h2 : i < m
    · rw [if_pos (by omega), if_pos h2]
    · rw [if_neg (by omega), if_neg h2]
  · have z1 : t[min a t.length + i]? = none ∨ ¬ i < min (a + m) t.length - min a t.length := by
      by_cases q : i < min (a + m) t.length - min a t.length
      · left
        exact List.getElem?_eq_none (by omega)
      · exact .inr q
    have z2 : t[a + i]? = none := List.getElem?_eq_none (by omega)
    rw [z2]
    rcases z1 with z | z
    · rw [z]; simp
    · rw [if_neg z]; simp
theorem pc_get (t : List Int) (m k i : Nat) (hi : i < m) : (pcZ t m k)[i]? = t[k * m + i]? := by
  unfold pcZ
  rw [List.getElem?_take, if_pos hi, List.getElem?_drop]
theorem pc_ne (t : List Int) (m k : Nat) (hm : 0 < m) (hk : k < pcN t.length m) : pcZ t m k ≠ [] := by
  intro z
  have h := (pcN_lt _ _ _ hm).mp hk
  have e := pc_get t m k 0 hm
  rw [z, Nat.add_zero, List.getElem?_eq_getElem h] at e
  cases e
theorem pc_mem (t : List Int) (m k : Nat) (x : Int) : x ∈ pcZ t m k ↔ ∃ i, i < m ∧ t[k * m + i]? = some x := by
  rw [List.mem_iff_getElem?]
  constructor
  · rintro ⟨i, hi⟩
    have h : i < (pcZ t m k).length := by
      rcases Nat.lt_or_ge i (pcZ t m k).length with z | z
      · exact z
      · rw [List.getElem?_eq_none z] at hi; cases hi
    have h2 : (pcZ t m k).length ≤ m := by unfold pcZ; exact List.length_take_le ..
    refine ⟨i, by omega, ?_⟩
    rw [← pc_get t m k i (by omega)]
    exact hi
  · rintro ⟨i, h, hi⟩
    exact ⟨i, by rw [pc_get t m k i h]; exact hi⟩
theorem pc_sub (t : List Int) (m k : Nat) (x : Int) (h : x ∈ pcZ t m k) : x ∈ t := by
  obtain ⟨i, _, hi⟩ := (pc_mem t m k x).mp h
  exact List.mem_iff_getElem?.mpr ⟨_, hi⟩
theorem rg3 (n m : Nat) (hn : n ≤ 1000) (hm : 0 < m) (hm2 : m ≤ 1000) (x y : Int) (hx : x = (n : Nat)) (hy : y = (m : Nat)) : rgD [.int 0, .int x, .int y] = .ok ((List.range (pcN n m)).map fun k => .int ((k * m : Nat) : Int)) := by
  subst hx hy
  have ok : (okI 0 && okI (n : Int) && decide ((0 : Int) < (m : Int) ∧ (m : Int) ≤ 16777216)) = true := by
    unfold okI
    simp only [Bool.and_eq_true, decide_eq_true_eq]
    omega
  show (if (okI 0 && okI (n : Int) && decide ((0 : Int) < (m : Int) ∧ (m : Int) ≤ 16777216)) = true then Res.ok ((List.range (if (0 : Int) < (n : Int) then (((n : Int) - 0 - 1) / (m : Int) + 1).toNat else 0)).map fun k : Nat => PyData.int (0 + (k : Int) * (m : Int))) else if okI 0 && okI (n : Int) && decide ((m : Int) = -1) then Res.ok ((List.range ((0 : Int) - (n : Int)).toNat).map fun k : Nat => PyData.int (0 + (k : Int) * (m : Int))) else .stuck) = _
  rw [if_pos ok]
  have e : (if (0 : Int) < (n : Int) then (((n : Int) - 0 - 1) / (m : Int) + 1).toNat else 0) = pcN n m := by
    unfold pcN
    rcases Nat.eq_zero_or_pos n with z | z
    · subst z
      rw [if_neg (by omega), Nat.div_eq_of_lt (by omega)]
    · rw [if_pos (by omega)]
      have h1 : (n : Int) - 0 - 1 = ((n - 1 : Nat) : Int) := by omega
      have h3 : (((n - 1 : Nat) : Int) / (m : Int)) = (((n - 1) / m : Nat) : Int) := (Int.natCast_ediv _ _).symm
      have h2 : n + m - 1 = (n - 1) + m := by omega
      rw [h1, h3, h2, Nat.add_div_right _ hm]
      generalize (n - 1) / m = q
      omega
  rw [e]
  congr 1
  apply List.map_congr_left
  intro k _
  rw [Int.zero_add, Int.natCast_mul]
/-! ### where a number is first -/
def ixZ (x : Int) : List Int → Nat
  | [] => 0
  | y :: r => if y = x then 0 else ixZ x r + 1
theorem ix_of (x : Int) : ∀ xs : List Int, x ∈ xs → idxOf (.int x) (intL xs) = some (ixZ x xs) ∧ xs[ixZ x xs]? = some x
  | [], h => by cases h
  | y :: r, h => by
    have e : idxOf (.int x) (intL (y :: r)) = if PyData.eqv (.int y) (.int x) then some 0 else (idxOf (.int x) (intL r)).map (· + 1) := rfl
    rw [e]
    by_cases q : y = x
    · subst q
      rw [if_pos ((encI.eqv y y).mpr rfl)]
      simp [ixZ]
    · rw [if_neg (fun z => q ((encI.eqv y x).mp z))]
      have hm : x ∈ r := (List.mem_cons.mp h).resolve_left fun z => q z.symm
      obtain ⟨h1, h2⟩ := ix_of x r hm
      rw [h1]
      simp [ixZ, q, h2]
theorem idx_t (x : Int) (xs : List Int) (h : x ∈ xs) : mtD .index (.tuple (intL xs)) [.int x] = .ok (.int (ixZ x xs : Nat)) := by
  show (if inOk (intL xs) (.int x) then (match idxOf (.int x) (intL xs) with | some j => Res.ok (PyData.int j) | none => .stuck) else .stuck) = _
  rw [(ix_of x xs h).1, encI.inOk (by omega)]
  rfl
theorem min_ll (xs : List Int) (h : xs ≠ []) : bltD .min [.list (intL xs)] = .ok (.int (minI xs)) := by
  cases xs with
  | nil => exact absurd rfl h
  | cons x r =>
    show (match (intsOf (intL (x :: r))) with | some (x :: r) => Res.ok (PyData.int (minI (x :: r))) | _ => .stuck) = _
    rw [intsOf_ints]
theorem max_ll (xs : List Int) (h : xs ≠ []) : bltD .max [.list (intL xs)] = .ok (.int (maxI xs)) := by
  cases xs with
  | nil => exact absurd rfl h
  | cons x r =>
    show (match (intsOf (intL (x :: r))) with | some (x :: r) => Res.ok (PyData.int (maxI (x :: r))) | _ => .stuck) = _
    rw [intsOf_ints]
/-! ### the defs -/
structure SpMany (C : CT) (i : Nat) : Prop where
  D : ∀ d : PyData, C i [d] = if isNumD d 1 60 then .ok .none else .exc 3
theorem sp_many {C : CT} (Hd) {i : Nat} (h : SpNum C i) (d : PyData) : runD C Hd (B.d_need_many i) [d] = if isNumD d 1 60 then .ok .none else .exc 3 := by
  cases q : isNumD d 1 60 <;> simp (disch := first | assumption | omega | (simp; done) | (simp; omega)) only [runD, B.d_need_many, B.need_many, getV_0, getV_s, setV_0, setV_s, ev_var, ev_cn, ev_gl, ev_bin, ev_neg, ev_inv, ev_an, ev_or, ev_cmp, ev_chn, ev_ch3, ev_ite, ev_tup, ev_lst, ev_ix, ev_sl, ev_rv, ev_call, ev_bl, ev_isi, ev_mt, recv_sset, recv_count, recv_index, recv_countT, recv_indexT, recv_join, recv_split, ev_lc, ev_lit, ev_sel, ev_dg, evan_1, evan_2, evor_1, evor_2, evs_nil, evs_cons, evo_non, evo_som, evc_non, evc_som, evi_ov, evi_rg, evi_en, evi_zp, rn_nil, rn_cons, rn1_setf, rn1_sett, trR_rt, trR_nx, ownK_list, rn1_own, rn1_unp, rn1_par, rn1_appf, rn1_appt, rn1_ret, rn1_retn, rn1_ifs, rn1_fr, rn1_wh, rn1_rs, rn1_tr, rn1_ex, rn1_skip, forR_nil, forR_cons, bindT_nm, bindT_tp, setAll_nil, setAll_cons, listV_0, listV_s, Cn_int, Cn_str, Cn_bl, Cn_non, Gc_cn, Gc_ws, someR_s, boolD_b, negD_i, add_i, sub_i, lt_i, le_i, gt_i, ge_i, tup_fit, len_l, len_t, abs_i, max_i, min_i, list_l, list_t, tuple_l, tuple_t, seqOf_l, seqOf_t, partD_n, partD_i, slD_l, slD_t, rvD_l, rvD_t, intsOf_ints, eq_i, ne_i, eq_ti, ne_ti, eq_li, ne_li, eq_ti0, ne_ti0, eq_li0, ne_li0, eq_l00, ne_l00, eq_t00, ne_t00, isNumD_i, res_rt, res_nx, res_xc, rg1, rg2, cutL_map, boolsOf_bools, isi_ii, isi_ib, isi_tt, isi_ll, ix_0t, ix_0l, ix_1t, ix_1l, ix_2t', ix_2l', ix_3t', ix_3l', ix_4t', ix_4l', ix_5t', ix_5l', ix_6t', ix_6l', int_b, flat_int, Res.ok_bind, Res.exc_bind, Res.stuck_bind, Res.fl_ok, Res.fl_exc, Res.fl_stuck, Fl.thn_nx, Fl.thn_rt, Fl.thn_xc, Fl.thn_stuck, calm_ok, if_true, if_false, ite_true, ite_false, decide_true, decide_false, Bool.not_true, Bool.not_false, Bool.false_eq_true, List.map_cons, List.map_nil, List.length_map, List.length_cons, List.length_nil, eq_self, reduceIte, List.replicate, List.append_nil, List.cons_append, List.nil_append, h.D, q]
theorem SpMany.ok {C : CT} {i : Nat} (h : SpMany C i) (m : Nat) (h1 : 0 < m) (h2 : m ≤ 60) : C i [.int (m : Nat)] = .ok .none := by
  rw [h.D, isNumD_i, decide_eq_true (by omega)]; rfl
def mmZ (p : List Int) : Int × Int := (minI p, maxI p)
def thZ (t : List Int) (m : Nat) : List (Int × Int) := (List.range (pcN t.length m)).map fun k => mmZ (pcZ t m k)
theorem th_len (t : List Int) (m : Nat) : (thZ t m).length = pcN t.length m := by simp [thZ]
theorem th_get (t : List Int) (m k : Nat) (h : k < pcN t.length m) : (thZ t m)[k]? = some (mmZ (pcZ t m k)) := by
  unfold thZ
  rw [List.getElem?_map, List.getElem?_range h]; rfl
structure SpThin (C : CT) (i : Nat) : Prop where
  D : ∀ (t : List Int) (m : Nat), Tr t → 0 < m → m ≤ 60 → C i [.tuple (intL t), .int (m : Nat)] = .ok (.list ((thZ t m).map eP))
theorem sp_thin {C : CT} (Hd) {i1 i2 : Nat} (h : SpNeed C i1) (hn : SpMany C i2) (t : List Int) (m : Nat) (ht : Tr t) (h1 : 0 < m) (h2 : m ≤ 60) : runD C Hd (B.d_thinned i1 i2) [.tuple (intL t), .int (m : Nat)] = .ok (.list ((thZ t m).map eP)) := by
  have l := ht.1
  have e1 := h t ht
  have e2 := hn.ok m h1 h2
  have lp := pcN_le t.length m h1
  refine runD_ok (C := C) (Hd := Hd) (d := B.d_thinned i1 i2) (by rfl) ?_
  show rn C Hd (B.thinned i1 i2) [some (.tuple (intL t)), some (.int (m : Nat)), none, none, none] = _
  unfold B.thinned
  refine (stp_ex (d := .none) (by simp (disch := first | assumption | omega | (simp; done) | (simp; omega)) only [getV_0, getV_s, setV_0, setV_s, ev_var, ev_cn, ev_gl, ev_bin, ev_neg, ev_inv, ev_an, ev_or, ev_cmp, ev_chn, ev_ch3, ev_ite, ev_tup, ev_lst, ev_ix, ev_sl, ev_rv, ev_call, ev_bl, ev_isi, ev_mt, recv_sset, recv_count, recv_index, recv_countT, recv_indexT, recv_join, recv_split, ev_lc, ev_lit, ev_sel, ev_dg, evan_1, evan_2, evor_1, evor_2, evs_nil, evs_cons, evo_non, evo_som, evc_non, evc_som, evi_ov, evi_rg, evi_en, evi_zp, rn_nil, rn_cons, rn1_setf, rn1_sett, trR_rt, trR_nx, ownK_list, rn1_own, rn1_unp, rn1_par, rn1_appf, rn1_appt, rn1_ret, rn1_retn, rn1_ifs, rn1_fr, rn1_wh, rn1_rs, rn1_tr, rn1_ex, rn1_skip, forR_nil, forR_cons, bindT_nm, bindT_tp, setAll_nil, setAll_cons, listV_0, listV_s, Cn_int, Cn_str, Cn_bl, Cn_non, Gc_cn, Gc_ws, someR_s, boolD_b, negD_i, add_i, sub_i, lt_i, le_i, gt_i, ge_i, tup_fit, len_l, len_t, abs_i, max_i, min_i, list_l, list_t, tuple_l, tuple_t, seqOf_l, seqOf_t, partD_n, partD_i, slD_l, slD_t, rvD_l, rvD_t, intsOf_ints, eq_i, ne_i, eq_ti, ne_ti, eq_li, ne_li, eq_ti0, ne_ti0, eq_li0, ne_li0, eq_l00, ne_l00, eq_t00, ne_t00, isNumD_i, res_rt, res_nx, res_xc, rg1, rg2, cutL_map, boolsOf_bools, isi_ii, isi_ib, isi_tt, isi_ll, ix_0t, ix_0l, ix_1t, ix_1l, ix_2t', ix_2l', ix_3t', ix_3l', ix_4t', ix_4l', ix_5t', ix_5l', ix_6t', ix_6l', int_b, flat_int, Res.ok_bind, Res.exc_bind, Res.stuck_bind, Res.fl_ok, Res.fl_exc, Res.fl_stuck, Fl.thn_nx, Fl.thn_rt, Fl.thn_xc, Fl.thn_stuck, calm_ok, if_true, if_false, ite_true, ite_false, decide_true, decide_false, Bool.not_true, Bool.not_false, Bool.false_eq_true, List.map_cons, List.map_nil, List.length_map, List.length_cons, List.length_nil, eq_self, reduceIte, List.replicate, List.append_nil, List.cons_append, List.nil_append, e1])).trans ?_
  refine (stp_ex (d := .none) (by simp (disch := first | assumption | omega | (simp; done) | (simp; omega)) only [getV_0, getV_s, setV_0, setV_s, ev_var, ev_cn, ev_gl, ev_bin, ev_neg, ev_inv, ev_an, ev_or, ev_cmp, ev_chn, ev_ch3, ev_ite, ev_tup, ev_lst, ev_ix, ev_sl, ev_rv, ev_call, ev_bl, ev_isi, ev_mt, recv_sset, recv_count, recv_index, recv_countT, recv_indexT, recv_join, recv_split, ev_lc, ev_lit, ev_sel, ev_dg, evan_1, evan_2, evor_1, evor_2, evs_nil, evs_cons, evo_non, evo_som, evc_non, evc_som, evi_ov, evi_rg, evi_en, evi_zp, rn_nil, rn_cons, rn1_setf, rn1_sett, trR_rt, trR_nx, ownK_list, rn1_own, rn1_unp, rn1_par, rn1_appf, rn1_appt, rn1_ret, rn1_retn, rn1_ifs, rn1_fr, rn1_wh, rn1_rs, rn1_tr, rn1_ex, rn1_skip, forR_nil, forR_cons, bindT_nm, bindT_tp, setAll_nil, setAll_cons, listV_0, listV_s, Cn_int, Cn_str, Cn_bl, Cn_non, Gc_cn, Gc_ws, someR_s, boolD_b, negD_i, add_i, sub_i, lt_i, le_i, gt_i, ge_i, tup_fit, len_l, len_t, abs_i, max_i, min_i, list_l, list_t, tuple_l, tuple_t, seqOf_l, seqOf_t, partD_n, partD_i, slD_l, slD_t, rvD_l, rvD_t, intsOf_ints, eq_i, ne_i, eq_ti, ne_ti, eq_li, ne_li, eq_ti0, ne_ti0, eq_li0, ne_li0, eq_l00, ne_l00, eq_t00, ne_t00, isNumD_i, res_rt, res_nx, res_xc, rg1, rg2, cutL_map, boolsOf_bools, isi_ii, isi_ib, isi_tt, isi_ll, ix_0t, ix_0l, ix_1t, ix_1l, ix_2t', ix_2l', ix_3t', ix_3l', ix_4t', ix_4l', ix_5t', ix_5l', ix_6t', ix_6l', int_b, flat_int, Res.ok_bind, Res.exc_bind, Res.stuck_bind, Res.fl_ok, Res.fl_exc, Res.fl_stuck, Fl.thn_nx, Fl.thn_rt, Fl.thn_xc, Fl.thn_stuck, calm_ok, if_true, if_false, ite_true, ite_false, decide_true, decide_false, Bool.not_true, Bool.not_false, Bool.false_eq_true, List.map_cons, List.map_nil, List.length_map, List.length_cons, List.length_nil, eq_self, reduceIte, List.replicate, List.append_nil, List.cons_append, List.nil_append, e2])).trans ?_
  refine (stp_set (d := .list ((List.range (pcN t.length m)).map fun k => .tuple (intL (pcZ t m k)))) ?_).trans ?_
  · refine lc_m (List.range (pcN t.length m)) (fun k => PyData.int ((k * m : Nat) : Int)) _ (evi_of (ds := [.int 0, .int (t.length : Nat), .int (m : Nat)]) (by simp (disch := first | assumption | omega | (simp; done) | (simp; omega)) only [getV_0, getV_s, setV_0, setV_s, ev_var, ev_cn, ev_gl, ev_bin, ev_neg, ev_inv, ev_an, ev_or, ev_cmp, ev_chn, ev_ch3, ev_ite, ev_tup, ev_lst, ev_ix, ev_sl, ev_rv, ev_call, ev_bl, ev_isi, ev_mt, recv_sset, recv_count, recv_index, recv_countT, recv_indexT, recv_join, recv_split, ev_lc, ev_lit, ev_sel, ev_dg, evan_1, evan_2, evor_1, evor_2, evs_nil, evs_cons, evo_non, evo_som, evc_non, evc_som, evi_ov, evi_rg, evi_en, evi_zp, rn_nil, rn_cons, rn1_setf, rn1_sett, trR_rt, trR_nx, ownK_list, rn1_own, rn1_unp, rn1_par, rn1_appf, rn1_appt, rn1_ret, rn1_retn, rn1_ifs, rn1_fr, rn1_wh, rn1_rs, rn1_tr, rn1_ex, rn1_skip, forR_nil, forR_cons, bindT_nm, bindT_tp, setAll_nil, setAll_cons, listV_0, listV_s, Cn_int, Cn_str, Cn_bl, Cn_non, Gc_cn, Gc_ws, someR_s, boolD_b, negD_i, add_i, sub_i, lt_i, le_i, gt_i, ge_i, tup_fit, len_l, len_t, abs_i, max_i, min_i, list_l, list_t, tuple_l, tuple_t, seqOf_l, seqOf_t, partD_n, partD_i, slD_l, slD_t, rvD_l, rvD_t, intsOf_ints, eq_i, ne_i, eq_ti, ne_ti, eq_li, ne_li, eq_ti0, ne_ti0, eq_li0, ne_li0, eq_l00, ne_l00, eq_t00, ne_t00, isNumD_i, res_rt, res_nx, res_xc, rg1, rg2, cutL_map, boolsOf_bools, isi_ii, isi_ib, isi_tt, isi_ll, ix_0t, ix_0l, ix_1t, ix_1l, ix_2t', ix_2l', ix_3t', ix_3l', ix_4t', ix_4l', ix_5t', ix_5l', ix_6t', ix_6l', int_b, flat_int, Res.ok_bind, Res.exc_bind, Res.stuck_bind, Res.fl_ok, Res.fl_exc, Res.fl_stuck, Fl.thn_nx, Fl.thn_rt, Fl.thn_xc, Fl.thn_stuck, calm_ok, if_true, if_false, ite_true, ite_false, decide_true, decide_false, Bool.not_true, Bool.not_false, Bool.false_eq_true, List.map_cons, List.map_nil, List.length_map, List.length_cons, List.length_nil, eq_self, reduceIte, List.replicate, List.append_nil, List.cons_append, List.nil_append, List.length_map]) (rg3 t.length m (by omega) h1 (by omega) _ _ rfl rfl)) (by simp; omega) fun k hk => ?_
    have hc := cut_pc t (k * m) m ((k * m : Nat) : Int) (((k * m : Nat) : Int) + (m : Int)) rfl rfl
    have hc : cutL t (some ((k * m : Nat) : Int)) (some (((k * m : Nat) : Int) + (m : Int))) = pcZ t m k := hc
    generalize ((k * m : Nat) : Int) = z at hc ⊢
    simp (disch := first | assumption | omega | (simp; done) | (simp; omega)) only [lc1, getV_0, getV_s, setV_0, setV_s, ev_var, ev_cn, ev_gl, ev_bin, ev_neg, ev_inv, ev_an, ev_or, ev_cmp, ev_chn, ev_ch3, ev_ite, ev_tup, ev_lst, ev_ix, ev_sl, ev_rv, ev_call, ev_bl, ev_isi, ev_mt, recv_sset, recv_count, recv_index, recv_countT, recv_indexT, recv_join, recv_split, ev_lc, ev_lit, ev_sel, ev_dg, evan_1, evan_2, evor_1, evor_2, evs_nil, evs_cons, evo_non, evo_som, evc_non, evc_som, evi_ov, evi_rg, evi_en, evi_zp, rn_nil, rn_cons, rn1_setf, rn1_sett, trR_rt, trR_nx, ownK_list, rn1_own, rn1_unp, rn1_par, rn1_appf, rn1_appt, rn1_ret, rn1_retn, rn1_ifs, rn1_fr, rn1_wh, rn1_rs, rn1_tr, rn1_ex, rn1_skip, forR_nil, forR_cons, bindT_nm, bindT_tp, setAll_nil, setAll_cons, listV_0, listV_s, Cn_int, Cn_str, Cn_bl, Cn_non, Gc_cn, Gc_ws, someR_s, boolD_b, negD_i, add_i, sub_i, lt_i, le_i, gt_i, ge_i, tup_fit, len_l, len_t, abs_i, max_i, min_i, list_l, list_t, tuple_l, tuple_t, seqOf_l, seqOf_t, partD_n, partD_i, slD_l, slD_t, rvD_l, rvD_t, intsOf_ints, eq_i, ne_i, eq_ti, ne_ti, eq_li, ne_li, eq_ti0, ne_ti0, eq_li0, ne_li0, eq_l00, ne_l00, eq_t00, ne_t00, isNumD_i, res_rt, res_nx, res_xc, rg1, rg2, cutL_map, boolsOf_bools, isi_ii, isi_ib, isi_tt, isi_ll, ix_0t, ix_0l, ix_1t, ix_1l, ix_2t', ix_2l', ix_3t', ix_3l', ix_4t', ix_4l', ix_5t', ix_5l', ix_6t', ix_6l', int_b, flat_int, Res.ok_bind, Res.exc_bind, Res.stuck_bind, Res.fl_ok, Res.fl_exc, Res.fl_stuck, Fl.thn_nx, Fl.thn_rt, Fl.thn_xc, Fl.thn_stuck, calm_ok, if_true, if_false, ite_true, ite_false, decide_true, decide_false, Bool.not_true, Bool.not_false, Bool.false_eq_true, List.map_cons, List.map_nil, List.length_map, List.length_cons, List.length_nil, eq_self, reduceIte, List.replicate, List.append_nil, List.cons_append, List.nil_append, hc]
  · simp only [setV_0, setV_s]
    refine stp_ret ?_
    have := lc_m (C := C) (env := [some (.tuple (intL t)), some (.int (m : Nat)), some (.list ((List.range (pcN t.length m)).map fun k => .tuple (intL (pcZ t m k)))), none, none]) (t := .nm 4) (it := .ov (.var 2)) (c := .non) (x := .tup (.cons (.bl .min (.cons (.var 4) .nil)) (.cons (.bl .max (.cons (.var 4) .nil)) .nil))) (List.range (pcN t.length m)) (fun k => .tuple (intL (pcZ t m k))) (fun k => eP (mmZ (pcZ t m k))) (by simp (disch := first | assumption | omega | (simp; done) | (simp; omega)) only [getV_0, getV_s, setV_0, setV_s, ev_var, ev_cn, ev_gl, ev_bin, ev_neg, ev_inv, ev_an, ev_or, ev_cmp, ev_chn, ev_ch3, ev_ite, ev_tup, ev_lst, ev_ix, ev_sl, ev_rv, ev_call, ev_bl, ev_isi, ev_mt, recv_sset, recv_count, recv_index, recv_countT, recv_indexT, recv_join, recv_split, ev_lc, ev_lit, ev_sel, ev_dg, evan_1, evan_2, evor_1, evor_2, evs_nil, evs_cons, evo_non, evo_som, evc_non, evc_som, evi_ov, evi_rg, evi_en, evi_zp, rn_nil, rn_cons, rn1_setf, rn1_sett, trR_rt, trR_nx, ownK_list, rn1_own, rn1_unp, rn1_par, rn1_appf, rn1_appt, rn1_ret, rn1_retn, rn1_ifs, rn1_fr, rn1_wh, rn1_rs, rn1_tr, rn1_ex, rn1_skip, forR_nil, forR_cons, bindT_nm, bindT_tp, setAll_nil, setAll_cons, listV_0, listV_s, Cn_int, Cn_str, Cn_bl, Cn_non, Gc_cn, Gc_ws, someR_s, boolD_b, negD_i, add_i, sub_i, lt_i, le_i, gt_i, ge_i, tup_fit, len_l, len_t, abs_i, max_i, min_i, list_l, list_t, tuple_l, tuple_t, seqOf_l, seqOf_t, partD_n, partD_i, slD_l, slD_t, rvD_l, rvD_t, intsOf_ints, eq_i, ne_i, eq_ti, ne_ti, eq_li, ne_li, eq_ti0, ne_ti0, eq_li0, ne_li0, eq_l00, ne_l00, eq_t00, ne_t00, isNumD_i, res_rt, res_nx, res_xc, rg1, rg2, cutL_map, boolsOf_bools, isi_ii, isi_ib, isi_tt, isi_ll, ix_0t, ix_0l, ix_1t, ix_1l, ix_2t', ix_2l', ix_3t', ix_3l', ix_4t', ix_4l', ix_5t', ix_5l', ix_6t', ix_6l', int_b, flat_int, Res.ok_bind, Res.exc_bind, Res.stuck_bind, Res.fl_ok, Res.fl_exc, Res.fl_stuck, Fl.thn_nx, Fl.thn_rt, Fl.thn_xc, Fl.thn_stuck, calm_ok, if_true, if_false, ite_true, ite_false, decide_true, decide_false, Bool.not_true, Bool.not_false, Bool.false_eq_true, List.map_cons, List.map_nil, List.length_map, List.length_cons, List.length_nil, eq_self, reduceIte, List.replicate, List.append_nil, List.cons_append, List.nil_append]) (by simp; omega) (fun k hk => by
      have ne := pc_ne t m k h1 (List.mem_range.mp hk)
      have a1 := min_t _ ne
      have a2 := max_t _ ne
      unfold mmZ
      generalize pcZ t m k = P at a1 a2 ⊢
      simp (disch := first | assumption | omega | (simp; done) | (simp; omega)) only [lc1, getV_0, getV_s, setV_0, setV_s, ev_var, ev_cn, ev_gl, ev_bin, ev_neg, ev_inv, ev_an, ev_or, ev_cmp, ev_chn, ev_ch3, ev_ite, ev_tup, ev_lst, ev_ix, ev_sl, ev_rv, ev_call, ev_bl, ev_isi, ev_mt, recv_sset, recv_count, recv_index, recv_countT, recv_indexT, recv_join, recv_split, ev_lc, ev_lit, ev_sel, ev_dg, evan_1, evan_2, evor_1, evor_2, evs_nil, evs_cons, evo_non, evo_som, evc_non, evc_som, evi_ov, evi_rg, evi_en, evi_zp, rn_nil, rn_cons, rn1_setf, rn1_sett, trR_rt, trR_nx, ownK_list, rn1_own, rn1_unp, rn1_par, rn1_appf, rn1_appt, rn1_ret, rn1_retn, rn1_ifs, rn1_fr, rn1_wh, rn1_rs, rn1_tr, rn1_ex, rn1_skip, forR_nil, forR_cons, bindT_nm, bindT_tp, setAll_nil, setAll_cons, listV_0, listV_s, Cn_int, Cn_str, Cn_bl, Cn_non, Gc_cn, Gc_ws, someR_s, boolD_b, negD_i, add_i, sub_i, lt_i, le_i, gt_i, ge_i, tup_fit, len_l, len_t, abs_i, max_i, min_i, list_l, list_t, tuple_l, tuple_t, seqOf_l, seqOf_t, partD_n, partD_i, slD_l, slD_t, rvD_l, rvD_t, intsOf_ints, eq_i, ne_i, eq_ti, ne_ti, eq_li, ne_li, eq_ti0, ne_ti0, eq_li0, ne_li0, eq_l00, ne_l00, eq_t00, ne_t00, isNumD_i, res_rt, res_nx, res_xc, rg1, rg2, cutL_map, boolsOf_bools, isi_ii, isi_ib, isi_tt, isi_ll, ix_0t, ix_0l, ix_1t, ix_1l, ix_2t', ix_2l', ix_3t', ix_3l', ix_4t', ix_4l', ix_5t', ix_5l', ix_6t', ix_6l', int_b, flat_int, Res.ok_bind, Res.exc_bind, Res.stuck_bind, Res.fl_ok, Res.fl_exc, Res.fl_stuck, Fl.thn_nx, Fl.thn_rt, Fl.thn_xc, Fl.thn_stuck, calm_ok, if_true, if_false, ite_true, ite_false, decide_true, decide_false, Bool.not_true, Bool.not_false, Bool.false_eq_true, List.map_cons, List.map_nil, List.length_map, List.length_cons, List.length_nil, eq_self, reduceIte, List.replicate, List.append_nil, List.cons_append, List.nil_append, a1, a2])
    rw [this]
    unfold thZ
    rw [List.map_map]
    rfl
def pkP (t : List Int) (m k : Nat) : Int × Int := (((k * m + ixZ (minI (pcZ t m k)) (pcZ t m k) : Nat) : Int), ((k * m + ixZ (maxI (pcZ t m k)) (pcZ t m k) : Nat) : Int))
def pksZ (t : List Int) (m : Nat) : List (Int × Int) := (List.range (pcN t.length m)).map (pkP t m)
structure SpPeaks (C : CT) (i : Nat) : Prop where
  D : ∀ (t : List Int) (m : Nat), Tr t → 0 < m → m ≤ 60 → C i [.tuple (intL t), .int (m : Nat)] = .ok (.list ((pksZ t m).map eP))
theorem sp_peaks {C : CT} (Hd) {i1 i2 : Nat} (h : SpNeed C i1) (hn : SpMany C i2) (t : List Int) (m : Nat) (ht : Tr t) (h1 : 0 < m) (h2 : m ≤ 60) : runD C Hd (B.d_peaks i1 i2) [.tuple (intL t), .int (m : Nat)] = .ok (.list ((pksZ t m).map eP)) := by
  have l := ht.1
  have e1 := h t ht
  have e2 := hn.ok m h1 h2
  have lp := pcN_le t.length m h1
  refine runD_ok (C := C) (Hd := Hd) (d := B.d_peaks i1 i2) (by rfl) ?_
  show rn C Hd (B.peaks i1 i2) [some (.tuple (intL t)), some (.int (m : Nat)), none, none, none] = _
  unfold B.peaks
  refine (stp_ex (d := .none) (by simp (disch := first | assumption | omega | (simp; done) | (simp; omega)) only [getV_0, getV_s, setV_0, setV_s, ev_var, ev_cn, ev_gl, ev_bin, ev_neg, ev_inv, ev_an, ev_or, ev_cmp, ev_chn, ev_ch3, ev_ite, ev_tup, ev_lst, ev_ix, ev_sl, ev_rv, ev_call, ev_bl, ev_isi, ev_mt, recv_sset, recv_count, recv_index, recv_countT, recv_indexT, recv_join, recv_split, ev_lc, ev_lit, ev_sel, ev_dg, evan_1, evan_2, evor_1, evor_2, evs_nil, evs_cons, evo_non, evo_som, evc_non, evc_som, evi_ov, evi_rg, evi_en, evi_zp, rn_nil, rn_cons, rn1_setf, rn1_sett, trR_rt, trR_nx, ownK_list, rn1_own, rn1_unp, rn1_par, rn1_appf, rn1_appt, rn1_ret, rn1_retn, rn1_ifs, rn1_fr, rn1_wh, rn1_rs, rn1_tr, rn1_ex, rn1_skip, forR_nil, forR_cons, bindT_nm, bindT_tp, setAll_nil, setAll_cons, listV_0, listV_s, Cn_int, Cn_str, Cn_bl, Cn_non, Gc_cn, Gc_ws, someR_s, boolD_b, negD_i, add_i, sub_i, lt_i, le_i, gt_i, ge_i, tup_fit, len_l, len_t, abs_i, max_i, min_i, list_l, list_t, tuple_l, tuple_t, seqOf_l, seqOf_t, partD_n, partD_i, slD_l, slD_t, rvD_l, rvD_t, intsOf_ints, eq_i, ne_i, eq_ti, ne_ti, eq_li, ne_li, eq_ti0, ne_ti0, eq_li0, ne_li0, eq_l00, ne_l00, eq_t00, ne_t00, isNumD_i, res_rt, res_nx, res_xc, rg1, rg2, cutL_map, boolsOf_bools, isi_ii, isi_ib, isi_tt, isi_ll, ix_0t, ix_0l, ix_1t, ix_1l, ix_2t', ix_2l', ix_3t', ix_3l', ix_4t', ix_4l', ix_5t', ix_5l', ix_6t', ix_6l', int_b, flat_int, Res.ok_bind, Res.exc_bind, Res.stuck_bind, Res.fl_ok, Res.fl_exc, Res.fl_stuck, Fl.thn_nx, Fl.thn_rt, Fl.thn_xc, Fl.thn_stuck, calm_ok, if_true, if_false, ite_true, ite_false, decide_true, decide_false, Bool.not_true, Bool.not_false, Bool.false_eq_true, List.map_cons, List.map_nil, List.length_map, List.length_cons, List.length_nil, eq_self, reduceIte, List.replicate, List.append_nil, List.cons_append, List.nil_append, e1])).trans ?_
  refine (stp_ex (d := .none) (by simp (disch := first | assumption | omega | (simp; done) | (simp; omega)) only [getV_0, getV_s, setV_0, setV_s, ev_var, ev_cn, ev_gl, ev_bin, ev_neg, ev_inv, ev_an, ev_or, ev_cmp, ev_chn, ev_ch3, ev_ite, ev_tup, ev_lst, ev_ix, ev_sl, ev_rv, ev_call, ev_bl, ev_isi, ev_mt, recv_sset, recv_count, recv_index, recv_countT, recv_indexT, recv_join, recv_split, ev_lc, ev_lit, ev_sel, ev_dg, evan_1, evan_2, evor_1, evor_2, evs_nil, evs_cons, evo_non, evo_som, evc_non, evc_som, evi_ov, evi_rg, evi_en, evi_zp, rn_nil, rn_cons, rn1_setf, rn1_sett, trR_rt, trR_nx, ownK_list, rn1_own, rn1_unp, rn1_par, rn1_appf, rn1_appt, rn1_ret, rn1_retn, rn1_ifs, rn1_fr, rn1_wh, rn1_rs, rn1_tr, rn1_ex, rn1_skip, forR_nil, forR_cons, bindT_nm, bindT_tp, setAll_nil, setAll_cons, listV_0, listV_s, Cn_int, Cn_str, Cn_bl, Cn_non, Gc_cn, Gc_ws, someR_s, boolD_b, negD_i, add_i, sub_i, lt_i, le_i, gt_i, ge_i, tup_fit, len_l, len_t, abs_i, max_i, min_i, list_l, list_t, tuple_l, tuple_t, seqOf_l, seqOf_t, partD_n, partD_i, slD_l, slD_t, rvD_l, rvD_t, intsOf_ints, eq_i, ne_i, eq_ti, ne_ti, eq_li, ne_li, eq_ti0, ne_ti0, eq_li0, ne_li0, eq_l00, ne_l00, eq_t00, ne_t00, isNumD_i, res_rt, res_nx, res_xc, rg1, rg2, cutL_map, boolsOf_bools, isi_ii, isi_ib, isi_tt, isi_ll, ix_0t, ix_0l, ix_1t, ix_1l, ix_2t', ix_2l', ix_3t', ix_3l', ix_4t', ix_4l', ix_5t', ix_5l', ix_6t', ix_6l', int_b, flat_int, Res.ok_bind, Res.exc_bind, Res.stuck_bind, Res.fl_ok, Res.fl_exc, Res.fl_stuck, Fl.thn_nx, Fl.thn_rt, Fl.thn_xc, Fl.thn_stuck, calm_ok, if_true, if_false, ite_true, ite_false, decide_true, decide_false, Bool.not_true, Bool.not_false, Bool.false_eq_true, List.map_cons, List.map_nil, List.length_map, List.length_cons, List.length_nil, eq_self, reduceIte, List.replicate, List.append_nil, List.cons_append, List.nil_append, e2])).trans ?_
  refine (stp_own lst0).trans ?_
  simp only [setV_0, setV_s]
  obtain ⟨env', hf, o3, o4, rfl⟩ := forR_inv (e := fun k : Nat => PyData.int ((k * m : Nat) : Int)) (t := .nm 3) (b := rn C Hd B.peaks_l1) (fun d env => ∃ o3 o4, env = [some (.tuple (intL t)), some (.int (m : Nat)), some (.list ((d.map (pkP t m)).map eP)), o3, o4]) (List.range (pcN t.length m)) [] [some (.tuple (intL t)), some (.int (m : Nat)), some (.list []), none, none] ⟨none, none, rfl⟩ (by
    rintro d k r env hd ⟨o3, o4, rfl⟩
    refine ⟨_, [some (.tuple (intL t)), some (.int (m : Nat)), some (.list ((([] ++ d ++ [k]).map (pkP t m)).map eP)), some (.int ((k * m : Nat) : Int)), some (.tuple (intL (pcZ t m k)))], rfl, ?_, _, _, rfl⟩
    have hk : k < pcN t.length m := List.mem_range.mp (by rw [hd]; simp)
    have hl : d.length ≤ pcN t.length m := by
      have := congrArg List.length hd
      simp at this
      omega
    have hc : cutL t (some ((k * m : Nat) : Int)) (some (((k * m : Nat) : Int) + (m : Int))) = pcZ t m k := cut_pc t (k * m) m ((k * m : Nat) : Int) (((k * m : Nat) : Int) + (m : Int)) rfl rfl
    have ne := pc_ne t m k h1 hk
    have a1 := min_t _ ne
    have a2 := max_t _ ne
    have b1 := idx_t _ _ (minI_mem _ ne)
    have b2 := idx_t _ _ (maxI_mem _ ne)
    have ep : (([] ++ d ++ [k]).map (pkP t m)).map eP = (d.map (pkP t m)).map eP ++ [.tuple [.int (((k * m : Nat) : Int) + (ixZ (minI (pcZ t m k)) (pcZ t m k) : Nat)), .int (((k * m : Nat) : Int) + (ixZ (maxI (pcZ t m k)) (pcZ t m k) : Nat))]] := by
      rw [List.nil_append, List.map_append, List.map_append]
      simp only [List.map_cons, List.map_nil, pkP, eP, Int.natCast_add]
    rw [ep]
    have hl2 : ((d.map (pkP t m)).map eP).length < 16777216 := by simp; omega
    have hlx : ([] ++ d : List Nat) = d := rfl
    rw [hlx]
    generalize (d.map (pkP t m)).map eP = DD at hl2 ⊢
    generalize ((k * m : Nat) : Int) = z at hc ⊢
    generalize pcZ t m k = P at hc a1 a2 b1 b2 ⊢
    show rn C Hd B.peaks_l1 [some (.tuple (intL t)), some (.int (m : Nat)), some (.list DD), some (.int z), o4] = _
    simp (disch := first | assumption | omega | (simp; done) | (simp; omega)) only [B.peaks_l1, getV_0, getV_s, setV_0, setV_s, ev_var, ev_cn, ev_gl, ev_bin, ev_neg, ev_inv, ev_an, ev_or, ev_cmp, ev_chn, ev_ch3, ev_ite, ev_tup, ev_lst, ev_ix, ev_sl, ev_rv, ev_call, ev_bl, ev_isi, ev_mt, recv_sset, recv_count, recv_index, recv_countT, recv_indexT, recv_join, recv_split, ev_lc, ev_lit, ev_sel, ev_dg, evan_1, evan_2, evor_1, evor_2, evs_nil, evs_cons, evo_non, evo_som, evc_non, evc_som, evi_ov, evi_rg, evi_en, evi_zp, rn_nil, rn_cons, rn1_setf, rn1_sett, trR_rt, trR_nx, ownK_list, rn1_own, rn1_unp, rn1_par, rn1_appf, rn1_appt, rn1_ret, rn1_retn, rn1_ifs, rn1_fr, rn1_wh, rn1_rs, rn1_tr, rn1_ex, rn1_skip, forR_nil, forR_cons, bindT_nm, bindT_tp, setAll_nil, setAll_cons, listV_0, listV_s, Cn_int, Cn_str, Cn_bl, Cn_non, Gc_cn, Gc_ws, someR_s, boolD_b, negD_i, add_i, sub_i, lt_i, le_i, gt_i, ge_i, tup_fit, len_l, len_t, abs_i, max_i, min_i, list_l, list_t, tuple_l, tuple_t, seqOf_l, seqOf_t, partD_n, partD_i, slD_l, slD_t, rvD_l, rvD_t, intsOf_ints, eq_i, ne_i, eq_ti, ne_ti, eq_li, ne_li, eq_ti0, ne_ti0, eq_li0, ne_li0, eq_l00, ne_l00, eq_t00, ne_t00, isNumD_i, res_rt, res_nx, res_xc, rg1, rg2, cutL_map, boolsOf_bools, isi_ii, isi_ib, isi_tt, isi_ll, ix_0t, ix_0l, ix_1t, ix_1l, ix_2t', ix_2l', ix_3t', ix_3l', ix_4t', ix_4l', ix_5t', ix_5l', ix_6t', ix_6l', int_b, flat_int, Res.ok_bind, Res.exc_bind, Res.stuck_bind, Res.fl_ok, Res.fl_exc, Res.fl_stuck, Fl.thn_nx, Fl.thn_rt, Fl.thn_xc, Fl.thn_stuck, calm_ok, if_true, if_false, ite_true, ite_false, decide_true, decide_false, Bool.not_true, Bool.not_false, Bool.false_eq_true, List.map_cons, List.map_nil, List.length_map, List.length_cons, List.length_nil, eq_self, reduceIte, List.replicate, List.append_nil, List.cons_append, List.nil_append, hc, a1, a2, b1, b2, appLen])
  refine (stp_for (evi_of (ds := [.int 0, .int (t.length : Nat), .int (m : Nat)]) (by simp (disch := first | assumption | omega | (simp; done) | (simp; omega)) only [getV_0, getV_s, setV_0, setV_s, ev_var, ev_cn, ev_gl, ev_bin, ev_neg, ev_inv, ev_an, ev_or, ev_cmp, ev_chn, ev_ch3, ev_ite, ev_tup, ev_lst, ev_ix, ev_sl, ev_rv, ev_call, ev_bl, ev_isi, ev_mt, recv_sset, recv_count, recv_index, recv_countT, recv_indexT, recv_join, recv_split, ev_lc, ev_lit, ev_sel, ev_dg, evan_1, evan_2, evor_1, evor_2, evs_nil, evs_cons, evo_non, evo_som, evc_non, evc_som, evi_ov, evi_rg, evi_en, evi_zp, rn_nil, rn_cons, rn1_setf, rn1_sett, trR_rt, trR_nx, ownK_list, rn1_own, rn1_unp, rn1_par, rn1_appf, rn1_appt, rn1_ret, rn1_retn, rn1_ifs, rn1_fr, rn1_wh, rn1_rs, rn1_tr, rn1_ex, rn1_skip, forR_nil, forR_cons, bindT_nm, bindT_tp, setAll_nil, setAll_cons, listV_0, listV_s, Cn_int, Cn_str, Cn_bl, Cn_non, Gc_cn, Gc_ws, someR_s, boolD_b, negD_i, add_i, sub_i, lt_i, le_i, gt_i, ge_i, tup_fit, len_l, len_t, abs_i, max_i, min_i, list_l, list_t, tuple_l, tuple_t, seqOf_l, seqOf_t, partD_n, partD_i, slD_l, slD_t, rvD_l, rvD_t, intsOf_ints, eq_i, ne_i, eq_ti, ne_ti, eq_li, ne_li, eq_ti0, ne_ti0, eq_li0, ne_li0, eq_l00, ne_l00, eq_t00, ne_t00, isNumD_i, res_rt, res_nx, res_xc, rg1, rg2, cutL_map, boolsOf_bools, isi_ii, isi_ib, isi_tt, isi_ll, ix_0t, ix_0l, ix_1t, ix_1l, ix_2t', ix_2l', ix_3t', ix_3l', ix_4t', ix_4l', ix_5t', ix_5l', ix_6t', ix_6l', int_b, flat_int, Res.ok_bind, Res.exc_bind, Res.stuck_bind, Res.fl_ok, Res.fl_exc, Res.fl_stuck, Fl.thn_nx, Fl.thn_rt, Fl.thn_xc, Fl.thn_stuck, calm_ok, if_true, if_false, ite_true, ite_false, decide_true, decide_false, Bool.not_true, Bool.not_false, Bool.false_eq_true, List.map_cons, List.map_nil, List.length_map, List.length_cons, List.length_nil, eq_self, reduceIte, List.replicate, List.append_nil, List.cons_append, List.nil_append, List.length_map]) (rg3 t.length m (by omega) h1 (by omega) _ _ rfl rfl)) hf).trans ?_
  refine stp_ret ?_
  rw [List.nil_append]
  rfl
structure SpLeast (C : CT) (i : Nat) : Prop where
  D : ∀ (t : List Int) (c : Nat), Tr t → 0 < c → c ≤ 60 → C i [.tuple (intL t), .int (c : Nat)] = .ok (.int (max 1 (pcN t.length c) : Nat))
theorem sp_least {C : CT} (Hd) {i1 i2 : Nat} (h : SpNeed C i1) (hn : SpMany C i2) (t : List Int) (c : Nat) (ht : Tr t) (h1 : 0 < c) (h2 : c ≤ 60) : runD C Hd (B.d_least_many i1 i2) [.tuple (intL t), .int (c : Nat)] = .ok (.int (max 1 (pcN t.length c) : Nat)) := by
  have l := ht.1
  have e1 := h t ht
  have e2 := hn.ok c h1 h2
  have d1 := div_i ((t.length : Int) + (c : Int) - 1) (c : Int) (by omega) (by omega)
  have d2 : ((t.length : Int) + (c : Int) - 1) / (c : Int) = ((pcN t.length c : Nat) : Int) := by
    unfold pcN
    rw [Int.natCast_ediv]
    congr 1
    omega
  rw [d2] at d1
  have d3 : (if ((pcN t.length c : Nat) : Int) > 1 then ((pcN t.length c : Nat) : Int) else 1) = ((max 1 (pcN t.length c) : Nat) : Int) := by split <;> omega
  rw [← d3]
  simp (disch := first | assumption | omega | (simp; done) | (simp; omega)) only [runD, B.d_least_many, B.least_many, getV_0, getV_s, setV_0, setV_s, ev_var, ev_cn, ev_gl, ev_bin, ev_neg, ev_inv, ev_an, ev_or, ev_cmp, ev_chn, ev_ch3, ev_ite, ev_tup, ev_lst, ev_ix, ev_sl, ev_rv, ev_call, ev_bl, ev_isi, ev_mt, recv_sset, recv_count, recv_index, recv_countT, recv_indexT, recv_join, recv_split, ev_lc, ev_lit, ev_sel, ev_dg, evan_1, evan_2, evor_1, evor_2, evs_nil, evs_cons, evo_non, evo_som, evc_non, evc_som, evi_ov, evi_rg, evi_en, evi_zp, rn_nil, rn_cons, rn1_setf, rn1_sett, trR_rt, trR_nx, ownK_list, rn1_own, rn1_unp, rn1_par, rn1_appf, rn1_appt, rn1_ret, rn1_retn, rn1_ifs, rn1_fr, rn1_wh, rn1_rs, rn1_tr, rn1_ex, rn1_skip, forR_nil, forR_cons, bindT_nm, bindT_tp, setAll_nil, setAll_cons, listV_0, listV_s, Cn_int, Cn_str, Cn_bl, Cn_non, Gc_cn, Gc_ws, someR_s, boolD_b, negD_i, add_i, sub_i, lt_i, le_i, gt_i, ge_i, tup_fit, len_l, len_t, abs_i, max_i, min_i, list_l, list_t, tuple_l, tuple_t, seqOf_l, seqOf_t, partD_n, partD_i, slD_l, slD_t, rvD_l, rvD_t, intsOf_ints, eq_i, ne_i, eq_ti, ne_ti, eq_li, ne_li, eq_ti0, ne_ti0, eq_li0, ne_li0, eq_l00, ne_l00, eq_t00, ne_t00, isNumD_i, res_rt, res_nx, res_xc, rg1, rg2, cutL_map, boolsOf_bools, isi_ii, isi_ib, isi_tt, isi_ll, ix_0t, ix_0l, ix_1t, ix_1l, ix_2t', ix_2l', ix_3t', ix_3l', ix_4t', ix_4l', ix_5t', ix_5l', ix_6t', ix_6l', int_b, flat_int, Res.ok_bind, Res.exc_bind, Res.stuck_bind, Res.fl_ok, Res.fl_exc, Res.fl_stuck, Fl.thn_nx, Fl.thn_rt, Fl.thn_xc, Fl.thn_stuck, calm_ok, if_true, if_false, ite_true, ite_false, decide_true, decide_false, Bool.not_true, Bool.not_false, Bool.false_eq_true, List.map_cons, List.map_nil, List.length_map, List.length_cons, List.length_nil, eq_self, reduceIte, List.replicate, List.append_nil, List.cons_append, List.nil_append, e1, e2, d1, List.length_map]
end Z
end
section
/-! SP24: what is kept, what is drawn. -/
namespace Z
open PySem
theorem pk_at (t : List Int) (m k : Nat) (x : Int) (hm : 0 < m) (hx : x ∈ pcZ t m k) : ∃ i, i < m ∧ ixZ x (pcZ t m k) = i ∧ t[k * m + i]? = some x ∧ k * m + i < t.length := by
  have h := (ix_of x (pcZ t m k) hx).2
  have h2 : (pcZ t m k).length ≤ m := by unfold pcZ; exact List.length_take_le ..
  have h1 : ixZ x (pcZ t m k) < (pcZ t m k).length := by
    rcases Nat.lt_or_ge (ixZ x (pcZ t m k)) (pcZ t m k).length with z | z
    · exact z
    · rw [List.getElem?_eq_none z] at h; cases h
  refine ⟨_, by omega, rfl, ?_, ?_⟩
  · rw [← pc_get t m k _ (by omega)]; exact h
  · rw [pc_get t m k _ (by omega)] at h
    rcases Nat.lt_or_ge (k * m + ixZ x (pcZ t m k)) t.length with z | z
    · exact z
    · rw [List.getElem?_eq_none z] at h; cases h
theorem pk_lo (t : List Int) (m k : Nat) (hm : 0 < m) (hk : k < pcN t.length m) : ∃ i, i < m ∧ (pkP t m k).1 = ((k * m + i : Nat) : Int) ∧ t[k * m + i]? = some (minI (pcZ t m k)) ∧ k * m + i < t.length := by
  obtain ⟨i, h1, h2, h3, h4⟩ := pk_at t m k _ hm (minI_mem _ (pc_ne t m k hm hk))
  exact ⟨i, h1, by rw [← h2]; rfl, h3, h4⟩
theorem pk_hi (t : List Int) (m k : Nat) (hm : 0 < m) (hk : k < pcN t.length m) : ∃ i, i < m ∧ (pkP t m k).2 = ((k * m + i : Nat) : Int) ∧ t[k * m + i]? = some (maxI (pcZ t m k)) ∧ k * m + i < t.length := by
  obtain ⟨i, h1, h2, h3, h4⟩ := pk_at t m k _ hm (maxI_mem _ (pc_ne t m k hm hk))
  exact ⟨i, h1, by rw [← h2]; rfl, h3, h4⟩
def kpL (t : List Int) (m : Nat) : List Int := (pksZ t m).flatMap fun p : Int × Int => [p.1, p.2]
theorem kp_mem (t : List Int) (m : Nat) (x : Int) : x ∈ kpL t m ↔ ∃ k, k < pcN t.length m ∧ (x = (pkP t m k).1 ∨ x = (pkP t m k).2) := by
  unfold kpL pksZ
  simp only [List.mem_flatMap, List.mem_map, List.mem_range, List.mem_cons, List.not_mem_nil, or_false]
  constructor
  · rintro ⟨p, ⟨k, hk, rfl⟩, h⟩
    exact ⟨k, hk, h⟩
  · rintro ⟨k, hk, h⟩
    exact ⟨_, ⟨k, hk, rfl⟩, h⟩
theorem kp_bd (t : List Int) (m : Nat) (hm : 0 < m) (x : Int) (h : x ∈ kpL t m) : 0 ≤ x ∧ x < t.length := by
  obtain ⟨k, hk, h⟩ := (kp_mem t m x).mp h
  obtain ⟨i, _, e1, _, l1⟩ := pk_lo t m k hm hk
  obtain ⟨j, _, e2, _, l2⟩ := pk_hi t m k hm hk
  rcases h with rfl | rfl
  · rw [e1]; omega
  · rw [e2]; omega
def kpZ (t : List Int) (m : Nat) : List (Int × Int) := (setZ (kpL t m)).map fun p => (p, t.getD p.toNat 0)
theorem rn1_ext {C : CT} {Hd : Nat → Nat → Res PyData} {env : Ev} (i : Nat) (e : E) (xs ys : List PyData) (h1 : listV env i = .ok xs) (h2 : ev C env e = .ok (.tuple ys)) (h3 : xs.length + ys.length ≤ 16777216) : rn1 C Hd (.ext i e) env = .nx (setV env i (.list (xs ++ ys))) := by
  show ((listV env i).fl env fun _ => (ev C env e).fl env fun d => (listV env i).fl env fun xs => (someR (seqOf d)).fl env fun ys => if xs.length + ys.length ≤ sizeLine then .nx (setV env i (.list (xs ++ ys))) else .stuck) = _
  rw [h1, Res.fl_ok, h2, Res.fl_ok]
  show (if xs.length + ys.length ≤ sizeLine then Fl.nx (setV env i (.list (xs ++ ys))) else .stuck) = _
  rw [if_pos (by rw [sizeLine_eq]; exact h3)]
theorem fm_len : ∀ d : List (Int × Int), (d.flatMap fun p : Int × Int => [p.1, p.2]).length = 2 * d.length
  | [] => rfl
  | a :: d => by rw [List.flatMap_cons, List.length_append, fm_len d]; simp; omega
structure SpKept (C : CT) (i : Nat) : Prop where
  D : ∀ (t : List Int) (m : Nat), Tr t → 0 < m → m ≤ 60 → C i [.tuple (intL t), .int (m : Nat)] = .ok (.list ((kpZ t m).map eP))
theorem sp_kept {C : CT} (Hd) {i1 : Nat} (h : SpPeaks C i1) (t : List Int) (m : Nat) (ht : Tr t) (h1 : 0 < m) (h2 : m ≤ 60) : runD C Hd (B.d_kept i1) [.tuple (intL t), .int (m : Nat)] = .ok (.list ((kpZ t m).map eP)) := by
  have l := ht.1
  have e1 := h.D t m ht h1 h2
  have lp := pcN_le t.length m h1
  have ll : (pksZ t m).length ≤ 60 := by unfold pksZ; simp; omega
  refine runD_ok (C := C) (Hd := Hd) (d := B.d_kept i1) (by rfl) ?_
  show rn C Hd (B.kept i1) [some (.tuple (intL t)), some (.int (m : Nat)), none, none, none] = _
  unfold B.kept
  refine (stp_own lst0).trans ?_
  simp only [setV_0, setV_s]
  obtain ⟨env', hf, o3, rfl⟩ := forR_inv (e := eP) (t := .nm 3) (b := rn C Hd B.kept_l1) (fun d env => ∃ o3, env = [some (.tuple (intL t)), some (.int (m : Nat)), some (.list (intL (d.flatMap fun p : Int × Int => [p.1, p.2]))), o3, none]) (pksZ t m) [] [some (.tuple (intL t)), some (.int (m : Nat)), some (.list []), none, none] ⟨none, rfl⟩ (by
    rintro d p r env hd ⟨o3, rfl⟩
    refine ⟨_, [some (.tuple (intL t)), some (.int (m : Nat)), some (.list (intL (([] ++ d ++ [p]).flatMap fun p : Int × Int => [p.1, p.2]))), some (eP p), none], rfl, ?_, _, rfl⟩
    have hl : d.length ≤ (pksZ t m).length := by
      have := congrArg List.length hd
      simp at this
      omega
    have hlx : ([] ++ d : List (Int × Int)) = d := rfl
    rw [hlx]
    have e : intL ((d ++ [p]).flatMap fun p : Int × Int => [p.1, p.2]) = intL (d.flatMap fun p : Int × Int => [p.1, p.2]) ++ [.int p.1, .int p.2] := by
      rw [List.flatMap_append, intL, List.map_append]; rfl
    rw [e]
    have hz : (intL (d.flatMap fun p : Int × Int => [p.1, p.2])).length + 2 ≤ 16777216 := by
      rw [List.length_map, fm_len]
      omega
    generalize intL (d.flatMap fun p : Int × Int => [p.1, p.2]) = DD at hz ⊢
    show rn C Hd B.kept_l1 [some (.tuple (intL t)), some (.int (m : Nat)), some (.list DD), some (eP p), none] = _
    show (rn1 C Hd (.ext 2 (.var 3)) _).thn (fun e => Fl.nx e) = _
    rw [rn1_ext 2 (.var 3) DD [.int p.1, .int p.2] rfl rfl hz]
    rfl)
  refine (stp_for (ds := (pksZ t m).map eP) (by simp (disch := first | assumption | omega | (simp; done) | (simp; omega)) only [getV_0, getV_s, setV_0, setV_s, ev_var, ev_cn, ev_gl, ev_bin, ev_neg, ev_inv, ev_an, ev_or, ev_cmp, ev_chn, ev_ch3, ev_ite, ev_tup, ev_lst, ev_ix, ev_sl, ev_rv, ev_call, ev_bl, ev_isi, ev_mt, recv_sset, recv_count, recv_index, recv_countT, recv_indexT, recv_join, recv_split, ev_lc, ev_lit, ev_sel, ev_dg, evan_1, evan_2, evor_1, evor_2, evs_nil, evs_cons, evo_non, evo_som, evc_non, evc_som, evi_ov, evi_rg, evi_en, evi_zp, rn_nil, rn_cons, rn1_setf, rn1_sett, trR_rt, trR_nx, ownK_list, rn1_own, rn1_unp, rn1_par, rn1_appf, rn1_appt, rn1_ret, rn1_retn, rn1_ifs, rn1_fr, rn1_wh, rn1_rs, rn1_tr, rn1_ex, rn1_skip, forR_nil, forR_cons, bindT_nm, bindT_tp, setAll_nil, setAll_cons, listV_0, listV_s, Cn_int, Cn_str, Cn_bl, Cn_non, Gc_cn, Gc_ws, someR_s, boolD_b, negD_i, add_i, sub_i, lt_i, le_i, gt_i, ge_i, tup_fit, len_l, len_t, abs_i, max_i, min_i, list_l, list_t, tuple_l, tuple_t, seqOf_l, seqOf_t, partD_n, partD_i, slD_l, slD_t, rvD_l, rvD_t, intsOf_ints, eq_i, ne_i, eq_ti, ne_ti, eq_li, ne_li, eq_ti0, ne_ti0, eq_li0, ne_li0, eq_l00, ne_l00, eq_t00, ne_t00, isNumD_i, res_rt, res_nx, res_xc, rg1, rg2, cutL_map, boolsOf_bools, isi_ii, isi_ib, isi_tt, isi_ll, ix_0t, ix_0l, ix_1t, ix_1l, ix_2t', ix_2l', ix_3t', ix_3l', ix_4t', ix_4l', ix_5t', ix_5l', ix_6t', ix_6l', int_b, flat_int, Res.ok_bind, Res.exc_bind, Res.stuck_bind, Res.fl_ok, Res.fl_exc, Res.fl_stuck, Fl.thn_nx, Fl.thn_rt, Fl.thn_xc, Fl.thn_stuck, calm_ok, if_true, if_false, ite_true, ite_false, decide_true, decide_false, Bool.not_true, Bool.not_false, Bool.false_eq_true, List.map_cons, List.map_nil, List.length_map, List.length_cons, List.length_nil, eq_self, reduceIte, List.replicate, List.append_nil, List.cons_append, List.nil_append, e1]) hf).trans ?_
  refine stp_ret ?_
  rw [List.nil_append]
  have hs := sset_l (kpL t m) 0 60 (by
    unfold kpL
    rw [fm_len]; omega) (fun x hx => by have := kp_bd t m h1 x hx; omega) (by omega)
  have hb : ∀ x ∈ setZ (kpL t m), 0 ≤ x ∧ x < t.length := fun x hx => kp_bd t m h1 x ((mem_setZ x _).mp hx)
  have hln := srt_len (setZ_srt (kpL t m)) (a := 0) (b := 60) fun x hx => by have := hb x hx; omega
  have := lc_m (C := C) (env := [some (.tuple (intL t)), some (.int (m : Nat)), some (.list (intL (kpL t m))), o3, none]) (t := .nm 4) (it := .ov (.mt .sset (.var 2) .nil)) (c := .non) (x := .tup (.cons (.var 4) (.cons (.ix (.var 0) (.var 4)) .nil))) (setZ (kpL t m)) PyData.int (fun p => eP (p, t.getD p.toNat 0)) (by simp (disch := first | assumption | omega | (simp; done) | (simp; omega)) only [getV_0, getV_s, setV_0, setV_s, ev_var, ev_cn, ev_gl, ev_bin, ev_neg, ev_inv, ev_an, ev_or, ev_cmp, ev_chn, ev_ch3, ev_ite, ev_tup, ev_lst, ev_ix, ev_sl, ev_rv, ev_call, ev_bl, ev_isi, ev_mt, recv_sset, recv_count, recv_index, recv_countT, recv_indexT, recv_join, recv_split, ev_lc, ev_lit, ev_sel, ev_dg, evan_1, evan_2, evor_1, evor_2, evs_nil, evs_cons, evo_non, evo_som, evc_non, evc_som, evi_ov, evi_rg, evi_en, evi_zp, rn_nil, rn_cons, rn1_setf, rn1_sett, trR_rt, trR_nx, ownK_list, rn1_own, rn1_unp, rn1_par, rn1_appf, rn1_appt, rn1_ret, rn1_retn, rn1_ifs, rn1_fr, rn1_wh, rn1_rs, rn1_tr, rn1_ex, rn1_skip, forR_nil, forR_cons, bindT_nm, bindT_tp, setAll_nil, setAll_cons, listV_0, listV_s, Cn_int, Cn_str, Cn_bl, Cn_non, Gc_cn, Gc_ws, someR_s, boolD_b, negD_i, add_i, sub_i, lt_i, le_i, gt_i, ge_i, tup_fit, len_l, len_t, abs_i, max_i, min_i, list_l, list_t, tuple_l, tuple_t, seqOf_l, seqOf_t, partD_n, partD_i, slD_l, slD_t, rvD_l, rvD_t, intsOf_ints, eq_i, ne_i, eq_ti, ne_ti, eq_li, ne_li, eq_ti0, ne_ti0, eq_li0, ne_li0, eq_l00, ne_l00, eq_t00, ne_t00, isNumD_i, res_rt, res_nx, res_xc, rg1, rg2, cutL_map, boolsOf_bools, isi_ii, isi_ib, isi_tt, isi_ll, ix_0t, ix_0l, ix_1t, ix_1l, ix_2t', ix_2l', ix_3t', ix_3l', ix_4t', ix_4l', ix_5t', ix_5l', ix_6t', ix_6l', int_b, flat_int, Res.ok_bind, Res.exc_bind, Res.stuck_bind, Res.fl_ok, Res.fl_exc, Res.fl_stuck, Fl.thn_nx, Fl.thn_rt, Fl.thn_xc, Fl.thn_stuck, calm_ok, if_true, if_false, ite_true, ite_false, decide_true, decide_false, Bool.not_true, Bool.not_false, Bool.false_eq_true, List.map_cons, List.map_nil, List.length_map, List.length_cons, List.length_nil, eq_self, reduceIte, List.replicate, List.append_nil, List.cons_append, List.nil_append, hs]) (by omega) (fun p hp => by
    have b := hb p hp
    have ix := ix_getT t p p.toNat (t.getD p.toNat 0) (by omega) (by rw [List.getD_eq_getElem?_getD, List.getElem?_eq_getElem (show p.toNat < t.length by omega)]; rfl)
    generalize t.getD p.toNat 0 = y at ix ⊢
    simp (disch := first | assumption | omega | (simp; done) | (simp; omega)) only [lc1, getV_0, getV_s, setV_0, setV_s, ev_var, ev_cn, ev_gl, ev_bin, ev_neg, ev_inv, ev_an, ev_or, ev_cmp, ev_chn, ev_ch3, ev_ite, ev_tup, ev_lst, ev_ix, ev_sl, ev_rv, ev_call, ev_bl, ev_isi, ev_mt, recv_sset, recv_count, recv_index, recv_countT, recv_indexT, recv_join, recv_split, ev_lc, ev_lit, ev_sel, ev_dg, evan_1, evan_2, evor_1, evor_2, evs_nil, evs_cons, evo_non, evo_som, evc_non, evc_som, evi_ov, evi_rg, evi_en, evi_zp, rn_nil, rn_cons, rn1_setf, rn1_sett, trR_rt, trR_nx, ownK_list, rn1_own, rn1_unp, rn1_par, rn1_appf, rn1_appt, rn1_ret, rn1_retn, rn1_ifs, rn1_fr, rn1_wh, rn1_rs, rn1_tr, rn1_ex, rn1_skip, forR_nil, forR_cons, bindT_nm, bindT_tp, setAll_nil, setAll_cons, listV_0, listV_s, Cn_int, Cn_str, Cn_bl, Cn_non, Gc_cn, Gc_ws, someR_s, boolD_b, negD_i, add_i, sub_i, lt_i, le_i, gt_i, ge_i, tup_fit, len_l, len_t, abs_i, max_i, min_i, list_l, list_t, tuple_l, tuple_t, seqOf_l, seqOf_t, partD_n, partD_i, slD_l, slD_t, rvD_l, rvD_t, intsOf_ints, eq_i, ne_i, eq_ti, ne_ti, eq_li, ne_li, eq_ti0, ne_ti0, eq_li0, ne_li0, eq_l00, ne_l00, eq_t00, ne_t00, isNumD_i, res_rt, res_nx, res_xc, rg1, rg2, cutL_map, boolsOf_bools, isi_ii, isi_ib, isi_tt, isi_ll, ix_0t, ix_0l, ix_1t, ix_1l, ix_2t', ix_2l', ix_3t', ix_3l', ix_4t', ix_4l', ix_5t', ix_5l', ix_6t', ix_6l', int_b, flat_int, Res.ok_bind, Res.exc_bind, Res.stuck_bind, Res.fl_ok, Res.fl_exc, Res.fl_stuck, Fl.thn_nx, Fl.thn_rt, Fl.thn_xc, Fl.thn_stuck, calm_ok, if_true, if_false, ite_true, ite_false, decide_true, decide_false, Bool.not_true, Bool.not_false, Bool.false_eq_true, List.map_cons, List.map_nil, List.length_map, List.length_cons, List.length_nil, eq_self, reduceIte, List.replicate, List.append_nil, List.cons_append, List.nil_append, ix])
  refine Eq.trans this ?_
  unfold kpZ
  rw [List.map_map]
  rfl
/-! ### rows -/
end Z
end
section
/-! SP25: facts of parts. -/
namespace Z
open PySem
theorem minI_eq {xs : List Int} {v : Int} (h : v ∈ xs) (h2 : ∀ x ∈ xs, v ≤ x) : minI xs = v := by
  have a := minI_le xs v h
  have b := h2 _ (minI_mem xs (fun z => by rw [z] at h; cases h))
  omega
theorem maxI_eq {xs : List Int} {v : Int} (h : v ∈ xs) (h2 : ∀ x ∈ xs, x ≤ v) : maxI xs = v := by
  have a := maxI_ge xs v h
  have b := h2 _ (maxI_mem xs (fun z => by rw [z] at h; cases h))
  omega
theorem min_parts (ks : List Nat) (P : Nat → List Int) (u : List Int) (hu : u ≠ []) (h : ∀ x, x ∈ u ↔ ∃ k ∈ ks, x ∈ P k) (hn : ∀ k ∈ ks, P k ≠ []) : minI (ks.map fun k => minI (P k)) = minI u := by
  obtain ⟨k, hk, hv⟩ := (h _).mp (minI_mem u hu)
  have lo := minI_le (P k) _ hv
  have hi := minI_le u _ ((h _).mpr ⟨k, hk, minI_mem _ (hn k hk)⟩)
  refine minI_eq (List.mem_map.mpr ⟨k, hk, by omega⟩) fun x hx => ?_
  obtain ⟨j, hj, rfl⟩ := List.mem_map.mp hx
  exact minI_le u _ ((h _).mpr ⟨j, hj, minI_mem _ (hn j hj)⟩)
theorem max_parts (ks : List Nat) (P : Nat → List Int) (u : List Int) (hu : u ≠ []) (h : ∀ x, x ∈ u ↔ ∃ k ∈ ks, x ∈ P k) (hn : ∀ k ∈ ks, P k ≠ []) : maxI (ks.map fun k => maxI (P k)) = maxI u := by
  obtain ⟨k, hk, hv⟩ := (h _).mp (maxI_mem u hu)
  have lo := maxI_ge (P k) _ hv
  have hi := maxI_ge u _ ((h _).mpr ⟨k, hk, maxI_mem _ (hn k hk)⟩)
  refine maxI_eq (List.mem_map.mpr ⟨k, hk, by omega⟩) fun x hx => ?_
  obtain ⟨j, hj, rfl⟩ := List.mem_map.mp hx
  exact maxI_ge u _ ((h _).mpr ⟨j, hj, maxI_mem _ (hn j hj)⟩)
theorem get_lt {α : Type} {t : List α} {i : Nat} {x : α} (h : t[i]? = some x) : i < t.length := by
  rcases Nat.lt_or_ge i t.length with z | z
  · exact z
  · rw [List.getElem?_eq_none z] at h; cases h
theorem pc_in (t : List Int) (m i : Nat) (x : Int) (hm : 0 < m) (h : t[i]? = some x) : i / m < pcN t.length m ∧ x ∈ pcZ t m (i / m) := by
  have l := get_lt h
  have e : i / m * m + i % m = i := by rw [Nat.mul_comm]; exact Nat.div_add_mod i m
  refine ⟨(pcN_lt _ _ _ hm).mpr (by omega), (pc_mem ..).mpr ⟨i % m, Nat.mod_lt _ hm, by rw [e]; exact h⟩⟩
theorem pc_all (t : List Int) (m : Nat) (hm : 0 < m) (x : Int) : x ∈ t ↔ ∃ k ∈ List.range (pcN t.length m), x ∈ pcZ t m k := by
  constructor
  · intro h
    obtain ⟨i, hi⟩ := List.mem_iff_getElem?.mp h
    obtain ⟨h1, h2⟩ := pc_in t m i x hm hi
    exact ⟨_, List.mem_range.mpr h1, h2⟩
  · rintro ⟨k, _, h⟩
    exact pc_sub t m k x h
theorem th_min (t : List Int) (m : Nat) (hm : 0 < m) (hn : t ≠ []) : minI ((thZ t m).map (·.1)) = minI t := by
  have := min_parts (List.range (pcN t.length m)) (pcZ t m) t hn (pc_all t m hm) fun k hk => pc_ne t m k hm (List.mem_range.mp hk)
  unfold thZ
  rw [List.map_map]
  exact this
theorem th_max (t : List Int) (m : Nat) (hm : 0 < m) (hn : t ≠ []) : maxI ((thZ t m).map (·.2)) = maxI t := by
  have := max_parts (List.range (pcN t.length m)) (pcZ t m) t hn (pc_all t m hm) fun k hk => pc_ne t m k hm (List.mem_range.mp hk)
  unfold thZ
  rw [List.map_map]
  exact this
/-! ### the kept ones of one part -/
/-! ### the least number -/
theorem least_1 (n c : Nat) (hc : 0 < c) : pcN n (max 1 (pcN n c)) ≤ c := by
  have h0 : 0 < max 1 (pcN n c) := by omega
  have h1 := pcN_lt n (max 1 (pcN n c)) c h0
  have h2 := pcN_lt n c (max 1 (pcN n c)) hc
  have h3 : max 1 (pcN n c) * c = c * max 1 (pcN n c) := Nat.mul_comm ..
  omega
theorem least_2 (n c : Nat) (hc : 0 < c) (h : 1 < max 1 (pcN n c)) : c < pcN n (max 1 (pcN n c) - 1) := by
  have h0 : 0 < max 1 (pcN n c) - 1 := by omega
  have h1 := pcN_lt n (max 1 (pcN n c) - 1) c h0
  have h2 := pcN_lt n c (max 1 (pcN n c) - 1) hc
  have h3 : (max 1 (pcN n c) - 1) * c = c * (max 1 (pcN n c) - 1) := Nat.mul_comm ..
  omega
/-! ### rows -/
end Z
end
namespace L
open PySem PySem.Spec PyProof.Rows L2 Z
def top (i : Nat) : Stmt := PySem.Challenge.pw_signcatches_k32_whole_kept.main.body.getD i (.Pass ⟨0, 0, 0, 0⟩)
abbrev i__law_cell : Nat := 0
abbrev i__law_drawn : Nat := 1
abbrev i__law_track : Nat := 2
abbrev i_is_number : Nat := 3
abbrev i_is_sample : Nat := 4
abbrev i_is_track : Nat := 5
abbrev i_need_track : Nat := 6
abbrev i_need_many : Nat := 7
abbrev i_part : Nat := 8
abbrev i_peaks : Nat := 9
abbrev i_kept : Nat := 10
abbrev i_thinned : Nat := 11
abbrev i_least_many : Nat := 12
abbrev i_span : Nat := 13
abbrev i_law : Nat := 14
def hs : List Hf := []
abbrev d__law_cell : Df := (B.d__law_cell)
def f__law_cell : Fd := ⟨top 22, "_law_cell", ["script", "k"], ["script", "k"], [], d__law_cell, none, false⟩
abbrev d__law_drawn : Df := (B.d__law_drawn i__law_cell)
def f__law_drawn : Fd := ⟨top 23, "_law_drawn", ["script", "k", "many", "cell"], ["script", "k", "many"], [], d__law_drawn, none, false⟩
abbrev d__law_track : Df := (B.d__law_track i__law_drawn)
def f__law_track : Fd := ⟨top 24, "_law_track", ["script", "at", "most", "many", "by", "here", "found", "k"], ["script", "at", "most"], [6], d__law_track, none, false⟩
abbrev d_is_number : Df := (B.d_is_number)
def f_is_number : Fd := ⟨top 8, "is_number", ["thing", "low", "high"], ["thing", "low", "high"], [], d_is_number, none, false⟩
abbrev d_is_sample : Df := (B.d_is_sample i_is_number)
def f_is_sample : Fd := ⟨top 9, "is_sample", ["thing"], ["thing"], [], d_is_sample, none, false⟩
abbrev d_is_track : Df := (B.d_is_track i_is_sample)
def f_is_track : Fd := ⟨top 10, "is_track", ["thing", "one"], ["thing"], [], d_is_track, none, false⟩
abbrev d_need_track : Df := (B.d_need_track i_is_track)
def f_need_track : Fd := ⟨top 11, "need_track", ["track"], ["track"], [], d_need_track, none, false⟩
abbrev d_need_many : Df := (B.d_need_many i_is_number)
def f_need_many : Fd := ⟨top 14, "need_many", ["many"], ["many"], [], d_need_many, none, false⟩
abbrev d_part : Df := (B.d_part i_need_track i_is_number)
def f_part : Fd := ⟨top 20, "part", ["track", "first", "last"], ["track", "first", "last"], [], d_part, none, false⟩
abbrev d_peaks : Df := (B.d_peaks i_need_track i_need_many)
def f_peaks : Fd := ⟨top 17, "peaks", ["track", "many", "found", "place", "part"], ["track", "many"], [2], d_peaks, none, false⟩
abbrev d_kept : Df := (B.d_kept i_peaks)
def f_kept : Fd := ⟨top 18, "kept", ["track", "many", "places", "pair", "place"], ["track", "many"], [2], d_kept, none, false⟩
abbrev d_thinned : Df := (B.d_thinned i_need_track i_need_many)
def f_thinned : Fd := ⟨top 15, "thinned", ["track", "many", "parts", "place", "part"], ["track", "many"], [], d_thinned, none, false⟩
abbrev d_least_many : Df := (B.d_least_many i_need_track i_need_many)
def f_least_many : Fd := ⟨top 16, "least_many", ["track", "columns"], ["track", "columns"], [], d_least_many, none, false⟩
abbrev d_span : Df := (B.d_span i_need_track)
def f_span : Fd := ⟨top 12, "span", ["track"], ["track"], [], d_span, none, false⟩
def b_law_l1 (i_part : Nat) (i_span : Nat) (i_peaks : Nat) : Ss := (.cons (.set 9 false (.call i_part (.cons (.var 1) (.cons (.bin .mul (.var 2) (.var 7)) (.cons (.bin .sub (.bl .min (.cons (.bl .len (.cons (.var 1) .nil)) (.cons (.bin .add (.bin .mul (.var 2) (.var 7)) (.var 2)) .nil))) (.cn (.int 1))) .nil))))) (.cons (.ifs (.cmp .ne (.call i_span (.cons (.var 9) .nil)) (.var 8)) (.cons (.ret (.cn (.bl false))) .nil) .nil) (.cons (.unp [12, 13] (.ix (.call i_peaks (.cons (.var 1) (.cons (.var 2) .nil))) (.var 7))) (.cons (.ifs (.or (.cons (.cmp .ne (.tup (.cons (.ix (.var 1) (.var 12)) (.cons (.ix (.var 1) (.var 13)) .nil))) (.var 8)) (.cons (.cmp .notin (.tup (.cons (.var 12) (.cons (.ix (.var 1) (.var 12)) .nil))) (.var 4)) .nil))) (.cons (.ret (.cn (.bl false))) .nil) .nil) (.cons (.ifs (.cmp .notin (.tup (.cons (.var 13) (.cons (.ix (.var 1) (.var 13)) .nil))) (.var 4)) (.cons (.ret (.cn (.bl false))) .nil) .nil) .nil)))))
def b_law_l2 (i_span : Nat) : Ss := (.cons (.set 10 false (.lc (.tp [12, 13]) (.ov (.var 3)) .non (.var 12))) (.cons (.set 11 false (.lc (.tp [12, 13]) (.ov (.var 3)) .non (.var 13))) (.cons (.ifs (.cmp .ne (.tup (.cons (.bl .min (.cons (.var 10) .nil)) (.cons (.bl .max (.cons (.var 11) .nil)) .nil))) (.call i_span (.cons (.var 1) .nil))) (.cons (.ret (.cn (.bl false))) .nil) .nil) (.cons (.ifs (.cmp .ne (.call i_span (.cons (.bl .tuple (.cons (.lc (.tp [14, 15]) (.ov (.var 4)) .non (.var 15)) .nil)) .nil)) (.call i_span (.cons (.var 1) .nil))) (.cons (.ret (.cn (.bl false))) .nil) .nil) .nil))))
def b_law_l3 (i_thinned : Nat) (i_kept : Nat) (i_part : Nat) (i_span : Nat) (i_peaks : Nat) (i__law_drawn : Nat) (i_least_many : Nat) : Ss := (.cons (.set 3 false (.call i_thinned (.cons (.var 1) (.cons (.var 2) .nil)))) (.cons (.set 4 false (.call i_kept (.cons (.var 1) (.cons (.var 2) .nil)))) (.cons (.ifs (.or (.cons (.cmp .ne (.bl .len (.cons (.var 3) .nil)) (.bin .div (.bin .sub (.bin .add (.bl .len (.cons (.var 1) .nil)) (.var 2)) (.cn (.int 1))) (.var 2))) (.cons (.cmp .ne (.var 4) (.mt .ssp (.var 4) .nil)) .nil))) (.cons (.ret (.cn (.bl false))) .nil) .nil) (.cons (.fr (.tp [7, 8]) (.en (.var 3)) (b_law_l1 i_part i_span i_peaks)) (.cons (.ifs (.cmp .ne (.var 1) (.tup .nil)) (b_law_l2 i_span) .nil) (.cons (.set 5 false (.bin .add (.cn (.int 1)) (.call i__law_drawn (.cons (.var 0) (.cons (.bin .add (.cn (.int 60)) (.var 2)) (.cons (.cn (.int 12)) .nil)))))) (.cons (.set 6 false (.call i_least_many (.cons (.var 1) (.cons (.var 5) .nil)))) (.cons (.ifs (.cmp .gt (.bl .len (.cons (.call i_thinned (.cons (.var 1) (.cons (.var 6) .nil))) .nil)) (.var 5)) (.cons (.ret (.cn (.bl false))) .nil) .nil) (.cons (.ifs (.an (.cons (.cmp .gt (.var 6) (.cn (.int 1))) (.cons (.cmp .le (.bl .len (.cons (.call i_thinned (.cons (.var 1) (.cons (.bin .sub (.var 6) (.cn (.int 1))) .nil))) .nil)) (.var 5)) .nil))) (.cons (.ret (.cn (.bl false))) .nil) .nil) .nil)))))))))
def b_law : Ss := (.cons (.set 1 false (.call i__law_track (.cons (.var 0) (.cons (.cn (.int 0)) (.cons (.cn (.int 30)) .nil))))) (.cons (.ifs (.cmp .ne (.call i_kept (.cons (.var 1) (.cons (.cn (.int 1)) .nil))) (.lit (.en (.var 1)))) (.cons (.ret (.cn (.bl false))) .nil) .nil) (.cons (.fr (.nm 2) (.ov (.tup (.cons (.cn (.int 1)) (.cons (.cn (.int 2)) (.cons (.cn (.int 3)) (.cons (.cn (.int 7)) (.cons (.cn (.int 30)) (.cons (.cn (.int 60)) .nil)))))))) (b_law_l3 i_thinned i_kept i_part i_span i_peaks i__law_drawn i_least_many)) (.cons (.ret (.cn (.bl true))) .nil))))
def d_law : Df := ⟨1, 16, b_law⟩

def f_law : Fd := ⟨top 25, "law", ["script", "track", "many", "rows", "some", "columns", "least", "k", "pair", "here", "lows", "highs", "low", "high", "place", "sample"], ["script"], [], d_law, none, false⟩
def fs : List Fd := [f__law_cell, f__law_drawn, f__law_track, f_is_number, f_is_sample, f_is_track, f_need_track, f_need_many, f_part, f_peaks, f_kept, f_thinned, f_least_many, f_span, f_law]
def T : Tb := ⟨[d__law_cell, d__law_drawn, d__law_track, d_is_number, d_is_sample, d_is_track, d_need_track, d_need_many, d_part, d_peaks, d_kept, d_thinned, d_least_many, d_span, d_law], [], []⟩
def G : GT := ⟨(("_law_cell" : Str) :: ("_law_drawn" : Str) :: ("_law_track" : Str) :: ("is_number" : Str) :: ("is_sample" : Str) :: ("is_track" : Str) :: ("need_track" : Str) :: ("need_many" : Str) :: ("part" : Str) :: ("peaks" : Str) :: ("kept" : Str) :: ("thinned" : Str) :: ("least_many" : Str) :: ("span" : Str) :: ("law" : Str) :: []), [("MOST_WORTH", (.cn (.int 99))), ("MOST_SAMPLES", (.cn (.int 60)))], ["all", "bool", "enumerate", "int", "isinstance", "len", "list", "max", "min", "range", "set", "sorted", "tuple"], [], [], [], [], [], [], ([]), [], [], [], [], []⟩
def cs : List Nat := [0, 3, 4]
def depth : Nat := 40
theorem c__law_cell (n : Nat) (a : List PyData) : callF T (n + 1) 0 a = runD (callF T n) (hotF T) d__law_cell a := rfl
theorem c__law_drawn (n : Nat) (a : List PyData) : callF T (n + 1) 1 a = runD (callF T n) (hotF T) d__law_drawn a := rfl
theorem c__law_track (n : Nat) (a : List PyData) : callF T (n + 1) 2 a = runD (callF T n) (hotF T) d__law_track a := rfl
theorem c_is_number (n : Nat) (a : List PyData) : callF T (n + 1) 3 a = runD (callF T n) (hotF T) d_is_number a := rfl
theorem c_is_sample (n : Nat) (a : List PyData) : callF T (n + 1) 4 a = runD (callF T n) (hotF T) d_is_sample a := rfl
theorem c_is_track (n : Nat) (a : List PyData) : callF T (n + 1) 5 a = runD (callF T n) (hotF T) d_is_track a := rfl
theorem c_need_track (n : Nat) (a : List PyData) : callF T (n + 1) 6 a = runD (callF T n) (hotF T) d_need_track a := rfl
theorem c_need_many (n : Nat) (a : List PyData) : callF T (n + 1) 7 a = runD (callF T n) (hotF T) d_need_many a := rfl
theorem c_part (n : Nat) (a : List PyData) : callF T (n + 1) 8 a = runD (callF T n) (hotF T) d_part a := rfl
theorem c_peaks (n : Nat) (a : List PyData) : callF T (n + 1) 9 a = runD (callF T n) (hotF T) d_peaks a := rfl
theorem c_kept (n : Nat) (a : List PyData) : callF T (n + 1) 10 a = runD (callF T n) (hotF T) d_kept a := rfl
theorem c_thinned (n : Nat) (a : List PyData) : callF T (n + 1) 11 a = runD (callF T n) (hotF T) d_thinned a := rfl
theorem c_least_many (n : Nat) (a : List PyData) : callF T (n + 1) 12 a = runD (callF T n) (hotF T) d_least_many a := rfl
theorem c_span (n : Nat) (a : List PyData) : callF T (n + 1) 13 a = runD (callF T n) (hotF T) d_span a := rfl
theorem c_law (n : Nat) (a : List PyData) : callF T (n + 1) 14 a = runD (callF T n) (hotF T) d_law a := rfl
def Law : Prop := ∀ ns : List Int, ns.length ≤ 63 → callF T depth i_law [.list (ns.map .int)] = .ok (.bool true)
end L
namespace L
open PySem Z
theorem s__law_cell (n : Nat) : SpCell (callF T (n + 1)) i__law_cell := sp_cell (callF T (n + 0)) (hotF T)
theorem s__law_drawn (n : Nat) : SpDrawn (callF T (n + 2)) i__law_drawn := sp_drawn (hotF T) (s__law_cell (n + 0))
theorem s__law_track (n : Nat) : SpTrack (callF T (n + 3)) i__law_track := sp_track (hotF T) (s__law_drawn (n + 0))
theorem s_is_number (n : Nat) : SpNum (callF T (n + 1)) i_is_number := ⟨sp_num (callF T (n + 0)) (hotF T)⟩
theorem s_is_sample (n : Nat) : SpSample (callF T (n + 2)) i_is_sample := ⟨sp_sample (hotF T) (s_is_number (n + 0))⟩
theorem s_is_track (n : Nat) : SpIsTrack (callF T (n + 3)) i_is_track := ⟨sp_istrack (hotF T) (s_is_sample (n + 0))⟩
theorem s_need_track (n : Nat) : SpNeed (callF T (n + 4)) i_need_track := ⟨sp_need (hotF T) (s_is_track (n + 0))⟩
theorem s_need_many (n : Nat) : SpMany (callF T (n + 2)) i_need_many := ⟨sp_many (hotF T) (s_is_number (n + 0))⟩
theorem s_part (n : Nat) : SpPart (callF T (n + 5)) i_part := sp_part (hotF T) (s_need_track (n + 0)) (s_is_number (n + 3))
theorem s_peaks (n : Nat) : SpPeaks (callF T (n + 5)) i_peaks := ⟨sp_peaks (hotF T) (s_need_track (n + 0)) (s_need_many (n + 2))⟩
theorem s_kept (n : Nat) : SpKept (callF T (n + 6)) i_kept := ⟨sp_kept (hotF T) (s_peaks (n + 0))⟩
theorem s_thinned (n : Nat) : SpThin (callF T (n + 5)) i_thinned := ⟨sp_thin (hotF T) (s_need_track (n + 0)) (s_need_many (n + 2))⟩
theorem s_least_many (n : Nat) : SpLeast (callF T (n + 5)) i_least_many := ⟨sp_least (hotF T) (s_need_track (n + 0)) (s_need_many (n + 2))⟩
theorem s_span (n : Nat) : SpSpan (callF T (n + 5)) i_span := sp_span (hotF T) (s_need_track (n + 0))
theorem h__law_cell : SpCell (callF T 39) i__law_cell := s__law_cell 38
theorem h__law_drawn : SpDrawn (callF T 39) i__law_drawn := s__law_drawn 37
theorem h__law_track : SpTrack (callF T 39) i__law_track := s__law_track 36
theorem h_is_number : SpNum (callF T 39) i_is_number := s_is_number 38
theorem h_is_sample : SpSample (callF T 39) i_is_sample := s_is_sample 37
theorem h_is_track : SpIsTrack (callF T 39) i_is_track := s_is_track 36
theorem h_need_track : SpNeed (callF T 39) i_need_track := s_need_track 35
theorem h_need_many : SpMany (callF T 39) i_need_many := s_need_many 37
theorem h_part : SpPart (callF T 39) i_part := s_part 34
theorem h_peaks : SpPeaks (callF T 39) i_peaks := s_peaks 34
theorem h_kept : SpKept (callF T 39) i_kept := s_kept 33
theorem h_thinned : SpThin (callF T 39) i_thinned := s_thinned 34
theorem h_least_many : SpLeast (callF T 39) i_least_many := s_least_many 34
theorem h_span : SpSpan (callF T 39) i_span := s_span 34
end L
-- needs: SP25
/-! ### the law k32 -/
namespace L
open PySem Z
abbrev C : CT := callF T 39
abbrev hd := hotF T
theorem ix_lst {α : Type} (e : α → PyData) (xs : List α) (z : Int) (k : Nat) (x : α) (hz : z = (k : Nat)) (h : xs[k]? = some x) : ixD (.list (xs.map e)) (.int z) = .ok (e x) := by
  show someR (atI (xs.map e) z) = _
  rw [atI_k _ _ k (e x) hz (by rw [List.getElem?_map, h]; rfl)]
  rfl
theorem tup_2 {env : Ev} {a b : E} {x y : PyData} (h1 : ev C env a = .ok x) (h2 : ev C env b = .ok y) : ev C env (.tup (.cons a (.cons b .nil))) = .ok (.tuple [x, y]) := by
  simp (disch := first | assumption | omega | (simp; done) | (simp; omega)) only [getV_0, getV_s, setV_0, setV_s, ev_var, ev_cn, ev_gl, ev_bin, ev_neg, ev_inv, ev_an, ev_or, ev_cmp, ev_chn, ev_ch3, ev_ite, ev_tup, ev_lst, ev_ix, ev_sl, ev_rv, ev_call, ev_bl, ev_isi, ev_mt, recv_sset, recv_count, recv_index, recv_countT, recv_indexT, recv_join, recv_split, ev_lc, ev_lit, ev_sel, ev_dg, evan_1, evan_2, evor_1, evor_2, evs_nil, evs_cons, evo_non, evo_som, evc_non, evc_som, evi_ov, evi_rg, evi_en, evi_zp, rn_nil, rn_cons, rn1_setf, rn1_sett, trR_rt, trR_nx, ownK_list, rn1_own, rn1_unp, rn1_par, rn1_appf, rn1_appt, rn1_ret, rn1_retn, rn1_ifs, rn1_fr, rn1_wh, rn1_rs, rn1_tr, rn1_ex, rn1_skip, forR_nil, forR_cons, bindT_nm, bindT_tp, setAll_nil, setAll_cons, listV_0, listV_s, Cn_int, Cn_str, Cn_bl, Cn_non, Gc_cn, Gc_ws, someR_s, boolD_b, negD_i, add_i, sub_i, lt_i, le_i, gt_i, ge_i, tup_fit, len_l, len_t, abs_i, max_i, min_i, list_l, list_t, tuple_l, tuple_t, seqOf_l, seqOf_t, partD_n, partD_i, slD_l, slD_t, rvD_l, rvD_t, intsOf_ints, eq_i, ne_i, eq_ti, ne_ti, eq_li, ne_li, eq_ti0, ne_ti0, eq_li0, ne_li0, eq_l00, ne_l00, eq_t00, ne_t00, isNumD_i, res_rt, res_nx, res_xc, rg1, rg2, cutL_map, boolsOf_bools, isi_ii, isi_ib, isi_tt, isi_ll, ix_0t, ix_0l, ix_1t, ix_1l, ix_2t', ix_2l', ix_3t', ix_3l', ix_4t', ix_4l', ix_5t', ix_5l', ix_6t', ix_6l', int_b, flat_int, Res.ok_bind, Res.exc_bind, Res.stuck_bind, Res.fl_ok, Res.fl_exc, Res.fl_stuck, Fl.thn_nx, Fl.thn_rt, Fl.thn_xc, Fl.thn_stuck, calm_ok, if_true, if_false, ite_true, ite_false, decide_true, decide_false, Bool.not_true, Bool.not_false, Bool.false_eq_true, List.map_cons, List.map_nil, List.length_map, List.length_cons, List.length_nil, eq_self, reduceIte, List.replicate, List.append_nil, List.cons_append, List.nil_append, h1, h2]
theorem kp_len (t : List Int) (m : Nat) (ht : Tr t) (hm : 0 < m) : (kpZ t m).length ≤ 60 := by
  unfold kpZ
  rw [List.length_map]
  have l := ht.1
  have := srt_len (setZ_srt (kpL t m)) (a := 0) (b := 60) fun x hx => by
    have := kp_bd t m hm x ((mem_setZ x _).mp hx)
    omega
  omega
theorem kp_in (t : List Int) (m : Nat) (x : Int) (n : Nat) (u : Int) (hx : x ∈ kpL t m) (e : x = (n : Nat)) (h : t[n]? = some u) : (x, u) ∈ kpZ t m := by
  unfold kpZ
  refine List.mem_map.mpr ⟨x, (mem_setZ x _).mpr hx, ?_⟩
  have : x.toNat = n := by omega
  rw [this, List.getD_eq_getElem?_getD, h]; rfl
theorem kp_of (t : List Int) (m : Nat) (hm : 0 < m) (p : Int × Int) (h : p ∈ kpZ t m) : p.2 ∈ t ∧ 0 ≤ p.1 ∧ p.1 < t.length := by
  unfold kpZ at h
  obtain ⟨x, hx, rfl⟩ := List.mem_map.mp h
  have bd := kp_bd t m hm x ((mem_setZ x _).mp hx)
  refine ⟨?_, bd⟩
  have hl : x.toNat < t.length := by omega
  show t.getD x.toNat 0 ∈ t
  rw [List.getD_eq_getElem?_getD, List.getElem?_eq_getElem hl]
  exact List.getElem_mem hl
theorem prs_e (ps : List (Int × Int)) : prsOf (ps.map eP) = some ps := by
  induction ps with
  | nil => rfl
  | cons p r ih =>
    show (prsOf (r.map eP)).map ((p.1, p.2) :: ·) = _
    rw [ih]; rfl
theorem kp_ssp (t : List Int) (m : Nat) (ht : Tr t) (hm : 0 < m) : mtD .ssp (.list ((kpZ t m).map eP)) [] = .ok (.list ((kpZ t m).map eP)) := by
  show (match prsOf ((kpZ t m).map eP) with | some ps => guardR (rsP ps) (.list ((kpZ t m).map eP)) | none => .stuck) = _
  rw [prs_e]
  have kl := kp_len t m ht hm
  have h1 : rsP (kpZ t m) = true := by
    unfold rsP
    simp only [Bool.and_eq_true, decide_eq_true_eq, List.all_eq_true]
    refine ⟨⟨by omega, fun p hp => ?_⟩, ?_⟩
    · have := ht.2 p.2 (kp_of t m hm p hp).1
      omega
    · unfold kpZ
      rw [List.pairwise_map]
      exact setZ_srt _
  show guardR (rsP (kpZ t m)) _ = _
  rw [h1]; rfl
theorem cut_part (t : List Int) (m k : Nat) (hm : 0 < m) (hk : k * m < t.length) (y : Int) (hy : y = (if ((k * m : Nat) : Int) + (m : Int) < (t.length : Int) then ((k * m : Nat) : Int) + (m : Int) else (t.length : Int))) : cutL t (some ((k * m : Nat) : Int)) (some y) = pcZ t m k := by
  unfold pcZ
  by_cases h : ((k * m : Nat) : Int) + (m : Int) < (t.length : Int)
  · rw [if_pos h] at hy
    exact cut_pc t (k * m) m _ _ rfl hy
  · rw [if_neg h] at hy
    rw [cut_pc t (k * m) (t.length - k * m) _ _ rfl (by omega)]
    rw [List.take_of_length_le (by simp), List.take_of_length_le (by simp; omega)]
theorem pc_tr (t : List Int) (m k : Nat) (ht : Tr t) : Tr (pcZ t m k) := by
  refine ⟨?_, fun x hx => ht.2 x (pc_sub t m k x hx)⟩
  have l := ht.1
  unfold pcZ
  rw [List.length_take, List.length_drop]
  omega
theorem notin_f {ps : List (Int × Int)} {p : Int × Int} (h : p ∈ ps) : cmpD .notin (eP p) (.list (ps.map eP)) = .ok (.bool false) := by
  have q := encP.notinL (by decide) ps p
  rw [q]
  congr 2
  simpa using h
theorem call3 {K : CT} {f : Nat} {env : Ev} {a b c : E} {x y z : PyData} (h1 : ev K env a = .ok x) (h2 : ev K env b = .ok y) (h3 : ev K env c = .ok z) : ev K env (.call f (.cons a (.cons b (.cons c .nil)))) = K f [x, y, z] := by
  simp (disch := first | assumption | omega | (simp; done) | (simp; omega)) only [getV_0, getV_s, setV_0, setV_s, ev_var, ev_cn, ev_gl, ev_bin, ev_neg, ev_inv, ev_an, ev_or, ev_cmp, ev_chn, ev_ch3, ev_ite, ev_tup, ev_lst, ev_ix, ev_sl, ev_rv, ev_call, ev_bl, ev_isi, ev_mt, recv_sset, recv_count, recv_index, recv_countT, recv_indexT, recv_join, recv_split, ev_lc, ev_lit, ev_sel, ev_dg, evan_1, evan_2, evor_1, evor_2, evs_nil, evs_cons, evo_non, evo_som, evc_non, evc_som, evi_ov, evi_rg, evi_en, evi_zp, rn_nil, rn_cons, rn1_setf, rn1_sett, trR_rt, trR_nx, ownK_list, rn1_own, rn1_unp, rn1_par, rn1_appf, rn1_appt, rn1_ret, rn1_retn, rn1_ifs, rn1_fr, rn1_wh, rn1_rs, rn1_tr, rn1_ex, rn1_skip, forR_nil, forR_cons, bindT_nm, bindT_tp, setAll_nil, setAll_cons, listV_0, listV_s, Cn_int, Cn_str, Cn_bl, Cn_non, Gc_cn, Gc_ws, someR_s, boolD_b, negD_i, add_i, sub_i, lt_i, le_i, gt_i, ge_i, tup_fit, len_l, len_t, abs_i, max_i, min_i, list_l, list_t, tuple_l, tuple_t, seqOf_l, seqOf_t, partD_n, partD_i, slD_l, slD_t, rvD_l, rvD_t, intsOf_ints, eq_i, ne_i, eq_ti, ne_ti, eq_li, ne_li, eq_ti0, ne_ti0, eq_li0, ne_li0, eq_l00, ne_l00, eq_t00, ne_t00, isNumD_i, res_rt, res_nx, res_xc, rg1, rg2, cutL_map, boolsOf_bools, isi_ii, isi_ib, isi_tt, isi_ll, ix_0t, ix_0l, ix_1t, ix_1l, ix_2t', ix_2l', ix_3t', ix_3l', ix_4t', ix_4l', ix_5t', ix_5l', ix_6t', ix_6l', int_b, flat_int, Res.ok_bind, Res.exc_bind, Res.stuck_bind, Res.fl_ok, Res.fl_exc, Res.fl_stuck, Fl.thn_nx, Fl.thn_rt, Fl.thn_xc, Fl.thn_stuck, calm_ok, if_true, if_false, ite_true, ite_false, decide_true, decide_false, Bool.not_true, Bool.not_false, Bool.false_eq_true, List.map_cons, List.map_nil, List.length_map, List.length_cons, List.length_nil, eq_self, reduceIte, List.replicate, List.append_nil, List.cons_append, List.nil_append, h1, h2, h3]
theorem min_ab {K : CT} {env : Ev} {a b : E} {i j : Int} (h1 : ev K env a = .ok (.int i)) (h2 : ev K env b = .ok (.int j)) : ev K env (.bin .sub (.bl .min (.cons a (.cons b .nil))) (.cn (.int 1))) = .ok (.int ((if j < i then j else i) - 1)) := by
  simp (disch := first | assumption | omega | (simp; done) | (simp; omega)) only [getV_0, getV_s, setV_0, setV_s, ev_var, ev_cn, ev_gl, ev_bin, ev_neg, ev_inv, ev_an, ev_or, ev_cmp, ev_chn, ev_ch3, ev_ite, ev_tup, ev_lst, ev_ix, ev_sl, ev_rv, ev_call, ev_bl, ev_isi, ev_mt, recv_sset, recv_count, recv_index, recv_countT, recv_indexT, recv_join, recv_split, ev_lc, ev_lit, ev_sel, ev_dg, evan_1, evan_2, evor_1, evor_2, evs_nil, evs_cons, evo_non, evo_som, evc_non, evc_som, evi_ov, evi_rg, evi_en, evi_zp, rn_nil, rn_cons, rn1_setf, rn1_sett, trR_rt, trR_nx, ownK_list, rn1_own, rn1_unp, rn1_par, rn1_appf, rn1_appt, rn1_ret, rn1_retn, rn1_ifs, rn1_fr, rn1_wh, rn1_rs, rn1_tr, rn1_ex, rn1_skip, forR_nil, forR_cons, bindT_nm, bindT_tp, setAll_nil, setAll_cons, listV_0, listV_s, Cn_int, Cn_str, Cn_bl, Cn_non, Gc_cn, Gc_ws, someR_s, boolD_b, negD_i, add_i, sub_i, lt_i, le_i, gt_i, ge_i, tup_fit, len_l, len_t, abs_i, max_i, min_i, list_l, list_t, tuple_l, tuple_t, seqOf_l, seqOf_t, partD_n, partD_i, slD_l, slD_t, rvD_l, rvD_t, intsOf_ints, eq_i, ne_i, eq_ti, ne_ti, eq_li, ne_li, eq_ti0, ne_ti0, eq_li0, ne_li0, eq_l00, ne_l00, eq_t00, ne_t00, isNumD_i, res_rt, res_nx, res_xc, rg1, rg2, cutL_map, boolsOf_bools, isi_ii, isi_ib, isi_tt, isi_ll, ix_0t, ix_0l, ix_1t, ix_1l, ix_2t', ix_2l', ix_3t', ix_3l', ix_4t', ix_4l', ix_5t', ix_5l', ix_6t', ix_6l', int_b, flat_int, Res.ok_bind, Res.exc_bind, Res.stuck_bind, Res.fl_ok, Res.fl_exc, Res.fl_stuck, Fl.thn_nx, Fl.thn_rt, Fl.thn_xc, Fl.thn_stuck, calm_ok, if_true, if_false, ite_true, ite_false, decide_true, decide_false, Bool.not_true, Bool.not_false, Bool.false_eq_true, List.map_cons, List.map_nil, List.length_map, List.length_cons, List.length_nil, eq_self, reduceIte, List.replicate, List.append_nil, List.cons_append, List.nil_append, h1, h2]
theorem bin2 {K : CT} {env : Ev} {o : Bop} {a b : E} {x y : PyData} {r : Res PyData} (h1 : ev K env a = .ok x) (h2 : ev K env b = .ok y) (h : binD o x y = r) : ev K env (.bin o a b) = r := by
  show (ev K env a >>= fun x => ev K env b >>= fun y => binD o x y) = _
  rw [h1, h2]; exact h
theorem loop1 (ns t : List Int) (m k : Nat) (o5 o6 o9 o10 o11 o12 o13 o14 o15 : Option PyData) (ht : Tr t) (hm : 0 < m) (hm2 : m ≤ 60) (hk : k < pcN t.length m) : ∃ p9 p12 p13, rn C hd (b_law_l1 i_part i_span i_peaks) [some (.list (intL ns)), some (.tuple (intL t)), some (.int (m : Nat)), some (.list ((thZ t m).map eP)), some (.list ((kpZ t m).map eP)), o5, o6, some (.int (k : Nat)), some (eP (mmZ (pcZ t m k))), o9, o10, o11, o12, o13, o14, o15] = .nx [some (.list (intL ns)), some (.tuple (intL t)), some (.int (m : Nat)), some (.list ((thZ t m).map eP)), some (.list ((kpZ t m).map eP)), o5, o6, some (.int (k : Nat)), some (eP (mmZ (pcZ t m k))), p9, o10, o11, p12, p13, o14, o15] := by
  obtain ⟨i1, l1, e1, g1, lt1⟩ := pk_lo t m k hm hk
  obtain ⟨i2, l2, e2, g2, lt2⟩ := pk_hi t m k hm hk
  have kn := (pcN_lt t.length m k hm).mp hk
  have l := ht.1
  have ne := pc_ne t m k hm hk
  have sp := h_span (pcZ t m k) (pc_tr t m k ht) ne
  have pks := h_peaks.D t m ht hm hm2
  have ixk : ixD (.list ((pksZ t m).map eP)) (.int (k : Nat)) = .ok (eP (pkP t m k)) := ix_lst eP (pksZ t m) _ k _ rfl (by unfold pksZ; rw [List.getElem?_map, List.getElem?_range hk]; rfl)
  have x1 := ix_getT t _ _ _ rfl g1
  have x2 := ix_getT t _ _ _ rfl g2
  have m1 := kp_in t m (pkP t m k).1 _ _ ((kp_mem t m _).mpr ⟨k, hk, .inl rfl⟩) e1 g1
  have m2 := kp_in t m (pkP t m k).2 _ _ ((kp_mem t m _).mpr ⟨k, hk, .inr rfl⟩) e2 g2
  have n1 := notin_f m1
  have n2 := notin_f m2
  have ep : eP (pkP t m k) = .tuple [.int ((k * m + i1 : Nat) : Int), .int ((k * m + i2 : Nat) : Int)] := by unfold eP; rw [e1, e2]
  rw [ep] at ixk
  rw [e1] at n1
  rw [e2] at n2
  have mu : binD .mul (.int (m : Nat)) (.int (k : Nat)) = .ok (.int ((k * m : Nat) : Int)) := by
    rw [mul_i (m : Int) (k : Int) (.inl (by omega)), Nat.mul_comm k m, Int.natCast_mul]
  obtain ⟨y, hy⟩ : ∃ y : Int, y = (if ((k * m : Nat) : Int) + (m : Int) < (t.length : Int) then ((k * m : Nat) : Int) + (m : Int) else (t.length : Int)) := ⟨_, rfl⟩
  have yb : ((k * m : Nat) : Int) < y ∧ y ≤ t.length := by rw [hy]; split <;> omega
  have pt := h_part t ((k * m : Nat) : Int) (y - 1) ht (by omega) (by omega) (by omega)
  rw [show y - 1 + 1 = y by omega, cut_part t m k hm kn y hy] at pt
  have nn : cmpD .ne (.tuple [.int (minI (pcZ t m k)), .int (maxI (pcZ t m k))]) (.tuple [.int (minI (pcZ t m k)), .int (maxI (pcZ t m k))]) = .ok (.bool false) := (gd_enc encP (minI (pcZ t m k), maxI (pcZ t m k))).ne (by omega)
  refine ⟨some (.tuple (intL (pcZ t m k))), some (.int ((k * m + i1 : Nat) : Int)), some (.int ((k * m + i2 : Nat) : Int)), ?_⟩
  have em : eP (mmZ (pcZ t m k)) = .tuple [.int (minI (pcZ t m k)), .int (maxI (pcZ t m k))] := rfl
  rw [em]
  unfold b_law_l1
  generalize (kpZ t m).map eP = KK at n1 n2 ⊢
  generalize (thZ t m).map eP = PP
  generalize (pksZ t m).map eP = QQ at pks ixk
  generalize minI (pcZ t m k) = u at *
  generalize maxI (pcZ t m k) = w at *
  generalize ((k * m + i1 : Nat) : Int) = z1 at *
  generalize ((k * m + i2 : Nat) : Int) = z2 at *
  generalize ((k * m : Nat) : Int) = a at *
  have n1 : cmpD .notin (.tuple [.int z1, .int u]) (.list KK) = .ok (.bool false) := n1
  have n2 : cmpD .notin (.tuple [.int z2, .int w]) (.list KK) = .ok (.bool false) := n2
  refine (stp_set (d := .tuple (intL (pcZ t m k))) (?s1 : ev C _ _ = _)).trans ?_
  case s1 =>
    refine (call3 (K := C) (x := .tuple (intL t)) (y := .int a) (z := .int (y - 1)) ?_ ?_ ?_).trans pt
    · rfl
    · exact bin2 rfl rfl mu
    · refine (min_ab (K := C) (i := (t.length : Int)) (j := a + (m : Int)) ?_ ?_).trans ?_
      · simp (disch := first | assumption | omega | (simp; done) | (simp; omega)) only [getV_0, getV_s, setV_0, setV_s, ev_var, ev_cn, ev_gl, ev_bin, ev_neg, ev_inv, ev_an, ev_or, ev_cmp, ev_chn, ev_ch3, ev_ite, ev_tup, ev_lst, ev_ix, ev_sl, ev_rv, ev_call, ev_bl, ev_isi, ev_mt, recv_sset, recv_count, recv_index, recv_countT, recv_indexT, recv_join, recv_split, ev_lc, ev_lit, ev_sel, ev_dg, evan_1, evan_2, evor_1, evor_2, evs_nil, evs_cons, evo_non, evo_som, evc_non, evc_som, evi_ov, evi_rg, evi_en, evi_zp, rn_nil, rn_cons, rn1_setf, rn1_sett, trR_rt, trR_nx, ownK_list, rn1_own, rn1_unp, rn1_par, rn1_appf, rn1_appt, rn1_ret, rn1_retn, rn1_ifs, rn1_fr, rn1_wh, rn1_rs, rn1_tr, rn1_ex, rn1_skip, forR_nil, forR_cons, bindT_nm, bindT_tp, setAll_nil, setAll_cons, listV_0, listV_s, Cn_int, Cn_str, Cn_bl, Cn_non, Gc_cn, Gc_ws, someR_s, boolD_b, negD_i, add_i, sub_i, lt_i, le_i, gt_i, ge_i, tup_fit, len_l, len_t, abs_i, max_i, min_i, list_l, list_t, tuple_l, tuple_t, seqOf_l, seqOf_t, partD_n, partD_i, slD_l, slD_t, rvD_l, rvD_t, intsOf_ints, eq_i, ne_i, eq_ti, ne_ti, eq_li, ne_li, eq_ti0, ne_ti0, eq_li0, ne_li0, eq_l00, ne_l00, eq_t00, ne_t00, isNumD_i, res_rt, res_nx, res_xc, rg1, rg2, cutL_map, boolsOf_bools, isi_ii, isi_ib, isi_tt, isi_ll, ix_0t, ix_0l, ix_1t, ix_1l, ix_2t', ix_2l', ix_3t', ix_3l', ix_4t', ix_4l', ix_5t', ix_5l', ix_6t', ix_6l', int_b, flat_int, Res.ok_bind, Res.exc_bind, Res.stuck_bind, Res.fl_ok, Res.fl_exc, Res.fl_stuck, Fl.thn_nx, Fl.thn_rt, Fl.thn_xc, Fl.thn_stuck, calm_ok, if_true, if_false, ite_true, ite_false, decide_true, decide_false, Bool.not_true, Bool.not_false, Bool.false_eq_true, List.map_cons, List.map_nil, List.length_map, List.length_cons, List.length_nil, eq_self, reduceIte, List.replicate, List.append_nil, List.cons_append, List.nil_append, List.length_map]
      · exact bin2 (bin2 rfl rfl mu) rfl rfl
      · rw [← hy]
  simp only [setV_0, setV_s]
  refine (stp_if0 (by simp (disch := first | assumption | omega | (simp; done) | (simp; omega)) only [getV_0, getV_s, setV_0, setV_s, ev_var, ev_cn, ev_gl, ev_bin, ev_neg, ev_inv, ev_an, ev_or, ev_cmp, ev_chn, ev_ch3, ev_ite, ev_tup, ev_lst, ev_ix, ev_sl, ev_rv, ev_call, ev_bl, ev_isi, ev_mt, recv_sset, recv_count, recv_index, recv_countT, recv_indexT, recv_join, recv_split, ev_lc, ev_lit, ev_sel, ev_dg, evan_1, evan_2, evor_1, evor_2, evs_nil, evs_cons, evo_non, evo_som, evc_non, evc_som, evi_ov, evi_rg, evi_en, evi_zp, rn_nil, rn_cons, rn1_setf, rn1_sett, trR_rt, trR_nx, ownK_list, rn1_own, rn1_unp, rn1_par, rn1_appf, rn1_appt, rn1_ret, rn1_retn, rn1_ifs, rn1_fr, rn1_wh, rn1_rs, rn1_tr, rn1_ex, rn1_skip, forR_nil, forR_cons, bindT_nm, bindT_tp, setAll_nil, setAll_cons, listV_0, listV_s, Cn_int, Cn_str, Cn_bl, Cn_non, Gc_cn, Gc_ws, someR_s, boolD_b, negD_i, add_i, sub_i, lt_i, le_i, gt_i, ge_i, tup_fit, len_l, len_t, abs_i, max_i, min_i, list_l, list_t, tuple_l, tuple_t, seqOf_l, seqOf_t, partD_n, partD_i, slD_l, slD_t, rvD_l, rvD_t, intsOf_ints, eq_i, ne_i, eq_ti, ne_ti, eq_li, ne_li, eq_ti0, ne_ti0, eq_li0, ne_li0, eq_l00, ne_l00, eq_t00, ne_t00, isNumD_i, res_rt, res_nx, res_xc, rg1, rg2, cutL_map, boolsOf_bools, isi_ii, isi_ib, isi_tt, isi_ll, ix_0t, ix_0l, ix_1t, ix_1l, ix_2t', ix_2l', ix_3t', ix_3l', ix_4t', ix_4l', ix_5t', ix_5l', ix_6t', ix_6l', int_b, flat_int, Res.ok_bind, Res.exc_bind, Res.stuck_bind, Res.fl_ok, Res.fl_exc, Res.fl_stuck, Fl.thn_nx, Fl.thn_rt, Fl.thn_xc, Fl.thn_stuck, calm_ok, if_true, if_false, ite_true, ite_false, decide_true, decide_false, Bool.not_true, Bool.not_false, Bool.false_eq_true, List.map_cons, List.map_nil, List.length_map, List.length_cons, List.length_nil, eq_self, reduceIte, List.replicate, List.append_nil, List.cons_append, List.nil_append, sp, nn])).trans ?_
  refine (stp_unp (ds := [.int z1, .int z2]) (by simp (disch := first | assumption | omega | (simp; done) | (simp; omega)) only [getV_0, getV_s, setV_0, setV_s, ev_var, ev_cn, ev_gl, ev_bin, ev_neg, ev_inv, ev_an, ev_or, ev_cmp, ev_chn, ev_ch3, ev_ite, ev_tup, ev_lst, ev_ix, ev_sl, ev_rv, ev_call, ev_bl, ev_isi, ev_mt, recv_sset, recv_count, recv_index, recv_countT, recv_indexT, recv_join, recv_split, ev_lc, ev_lit, ev_sel, ev_dg, evan_1, evan_2, evor_1, evor_2, evs_nil, evs_cons, evo_non, evo_som, evc_non, evc_som, evi_ov, evi_rg, evi_en, evi_zp, rn_nil, rn_cons, rn1_setf, rn1_sett, trR_rt, trR_nx, ownK_list, rn1_own, rn1_unp, rn1_par, rn1_appf, rn1_appt, rn1_ret, rn1_retn, rn1_ifs, rn1_fr, rn1_wh, rn1_rs, rn1_tr, rn1_ex, rn1_skip, forR_nil, forR_cons, bindT_nm, bindT_tp, setAll_nil, setAll_cons, listV_0, listV_s, Cn_int, Cn_str, Cn_bl, Cn_non, Gc_cn, Gc_ws, someR_s, boolD_b, negD_i, add_i, sub_i, lt_i, le_i, gt_i, ge_i, tup_fit, len_l, len_t, abs_i, max_i, min_i, list_l, list_t, tuple_l, tuple_t, seqOf_l, seqOf_t, partD_n, partD_i, slD_l, slD_t, rvD_l, rvD_t, intsOf_ints, eq_i, ne_i, eq_ti, ne_ti, eq_li, ne_li, eq_ti0, ne_ti0, eq_li0, ne_li0, eq_l00, ne_l00, eq_t00, ne_t00, isNumD_i, res_rt, res_nx, res_xc, rg1, rg2, cutL_map, boolsOf_bools, isi_ii, isi_ib, isi_tt, isi_ll, ix_0t, ix_0l, ix_1t, ix_1l, ix_2t', ix_2l', ix_3t', ix_3l', ix_4t', ix_4l', ix_5t', ix_5l', ix_6t', ix_6l', int_b, flat_int, Res.ok_bind, Res.exc_bind, Res.stuck_bind, Res.fl_ok, Res.fl_exc, Res.fl_stuck, Fl.thn_nx, Fl.thn_rt, Fl.thn_xc, Fl.thn_stuck, calm_ok, if_true, if_false, ite_true, ite_false, decide_true, decide_false, Bool.not_true, Bool.not_false, Bool.false_eq_true, List.map_cons, List.map_nil, List.length_map, List.length_cons, List.length_nil, eq_self, reduceIte, List.replicate, List.append_nil, List.cons_append, List.nil_append, pks, ixk]) rfl).trans ?_
  simp only [setV_0, setV_s]
  refine (stp_if0 (or_ff (by simp (disch := first | assumption | omega | (simp; done) | (simp; omega)) only [getV_0, getV_s, setV_0, setV_s, ev_var, ev_cn, ev_gl, ev_bin, ev_neg, ev_inv, ev_an, ev_or, ev_cmp, ev_chn, ev_ch3, ev_ite, ev_tup, ev_lst, ev_ix, ev_sl, ev_rv, ev_call, ev_bl, ev_isi, ev_mt, recv_sset, recv_count, recv_index, recv_countT, recv_indexT, recv_join, recv_split, ev_lc, ev_lit, ev_sel, ev_dg, evan_1, evan_2, evor_1, evor_2, evs_nil, evs_cons, evo_non, evo_som, evc_non, evc_som, evi_ov, evi_rg, evi_en, evi_zp, rn_nil, rn_cons, rn1_setf, rn1_sett, trR_rt, trR_nx, ownK_list, rn1_own, rn1_unp, rn1_par, rn1_appf, rn1_appt, rn1_ret, rn1_retn, rn1_ifs, rn1_fr, rn1_wh, rn1_rs, rn1_tr, rn1_ex, rn1_skip, forR_nil, forR_cons, bindT_nm, bindT_tp, setAll_nil, setAll_cons, listV_0, listV_s, Cn_int, Cn_str, Cn_bl, Cn_non, Gc_cn, Gc_ws, someR_s, boolD_b, negD_i, add_i, sub_i, lt_i, le_i, gt_i, ge_i, tup_fit, len_l, len_t, abs_i, max_i, min_i, list_l, list_t, tuple_l, tuple_t, seqOf_l, seqOf_t, partD_n, partD_i, slD_l, slD_t, rvD_l, rvD_t, intsOf_ints, eq_i, ne_i, eq_ti, ne_ti, eq_li, ne_li, eq_ti0, ne_ti0, eq_li0, ne_li0, eq_l00, ne_l00, eq_t00, ne_t00, isNumD_i, res_rt, res_nx, res_xc, rg1, rg2, cutL_map, boolsOf_bools, isi_ii, isi_ib, isi_tt, isi_ll, ix_0t, ix_0l, ix_1t, ix_1l, ix_2t', ix_2l', ix_3t', ix_3l', ix_4t', ix_4l', ix_5t', ix_5l', ix_6t', ix_6l', int_b, flat_int, Res.ok_bind, Res.exc_bind, Res.stuck_bind, Res.fl_ok, Res.fl_exc, Res.fl_stuck, Fl.thn_nx, Fl.thn_rt, Fl.thn_xc, Fl.thn_stuck, calm_ok, if_true, if_false, ite_true, ite_false, decide_true, decide_false, Bool.not_true, Bool.not_false, Bool.false_eq_true, List.map_cons, List.map_nil, List.length_map, List.length_cons, List.length_nil, eq_self, reduceIte, List.replicate, List.append_nil, List.cons_append, List.nil_append, x1, x2, nn]) (by simp (disch := first | assumption | omega | (simp; done) | (simp; omega)) only [getV_0, getV_s, setV_0, setV_s, ev_var, ev_cn, ev_gl, ev_bin, ev_neg, ev_inv, ev_an, ev_or, ev_cmp, ev_chn, ev_ch3, ev_ite, ev_tup, ev_lst, ev_ix, ev_sl, ev_rv, ev_call, ev_bl, ev_isi, ev_mt, recv_sset, recv_count, recv_index, recv_countT, recv_indexT, recv_join, recv_split, ev_lc, ev_lit, ev_sel, ev_dg, evan_1, evan_2, evor_1, evor_2, evs_nil, evs_cons, evo_non, evo_som, evc_non, evc_som, evi_ov, evi_rg, evi_en, evi_zp, rn_nil, rn_cons, rn1_setf, rn1_sett, trR_rt, trR_nx, ownK_list, rn1_own, rn1_unp, rn1_par, rn1_appf, rn1_appt, rn1_ret, rn1_retn, rn1_ifs, rn1_fr, rn1_wh, rn1_rs, rn1_tr, rn1_ex, rn1_skip, forR_nil, forR_cons, bindT_nm, bindT_tp, setAll_nil, setAll_cons, listV_0, listV_s, Cn_int, Cn_str, Cn_bl, Cn_non, Gc_cn, Gc_ws, someR_s, boolD_b, negD_i, add_i, sub_i, lt_i, le_i, gt_i, ge_i, tup_fit, len_l, len_t, abs_i, max_i, min_i, list_l, list_t, tuple_l, tuple_t, seqOf_l, seqOf_t, partD_n, partD_i, slD_l, slD_t, rvD_l, rvD_t, intsOf_ints, eq_i, ne_i, eq_ti, ne_ti, eq_li, ne_li, eq_ti0, ne_ti0, eq_li0, ne_li0, eq_l00, ne_l00, eq_t00, ne_t00, isNumD_i, res_rt, res_nx, res_xc, rg1, rg2, cutL_map, boolsOf_bools, isi_ii, isi_ib, isi_tt, isi_ll, ix_0t, ix_0l, ix_1t, ix_1l, ix_2t', ix_2l', ix_3t', ix_3l', ix_4t', ix_4l', ix_5t', ix_5l', ix_6t', ix_6l', int_b, flat_int, Res.ok_bind, Res.exc_bind, Res.stuck_bind, Res.fl_ok, Res.fl_exc, Res.fl_stuck, Fl.thn_nx, Fl.thn_rt, Fl.thn_xc, Fl.thn_stuck, calm_ok, if_true, if_false, ite_true, ite_false, decide_true, decide_false, Bool.not_true, Bool.not_false, Bool.false_eq_true, List.map_cons, List.map_nil, List.length_map, List.length_cons, List.length_nil, eq_self, reduceIte, List.replicate, List.append_nil, List.cons_append, List.nil_append, x1, n1]))).trans ?_
  refine (stp_if0 (by simp (disch := first | assumption | omega | (simp; done) | (simp; omega)) only [getV_0, getV_s, setV_0, setV_s, ev_var, ev_cn, ev_gl, ev_bin, ev_neg, ev_inv, ev_an, ev_or, ev_cmp, ev_chn, ev_ch3, ev_ite, ev_tup, ev_lst, ev_ix, ev_sl, ev_rv, ev_call, ev_bl, ev_isi, ev_mt, recv_sset, recv_count, recv_index, recv_countT, recv_indexT, recv_join, recv_split, ev_lc, ev_lit, ev_sel, ev_dg, evan_1, evan_2, evor_1, evor_2, evs_nil, evs_cons, evo_non, evo_som, evc_non, evc_som, evi_ov, evi_rg, evi_en, evi_zp, rn_nil, rn_cons, rn1_setf, rn1_sett, trR_rt, trR_nx, ownK_list, rn1_own, rn1_unp, rn1_par, rn1_appf, rn1_appt, rn1_ret, rn1_retn, rn1_ifs, rn1_fr, rn1_wh, rn1_rs, rn1_tr, rn1_ex, rn1_skip, forR_nil, forR_cons, bindT_nm, bindT_tp, setAll_nil, setAll_cons, listV_0, listV_s, Cn_int, Cn_str, Cn_bl, Cn_non, Gc_cn, Gc_ws, someR_s, boolD_b, negD_i, add_i, sub_i, lt_i, le_i, gt_i, ge_i, tup_fit, len_l, len_t, abs_i, max_i, min_i, list_l, list_t, tuple_l, tuple_t, seqOf_l, seqOf_t, partD_n, partD_i, slD_l, slD_t, rvD_l, rvD_t, intsOf_ints, eq_i, ne_i, eq_ti, ne_ti, eq_li, ne_li, eq_ti0, ne_ti0, eq_li0, ne_li0, eq_l00, ne_l00, eq_t00, ne_t00, isNumD_i, res_rt, res_nx, res_xc, rg1, rg2, cutL_map, boolsOf_bools, isi_ii, isi_ib, isi_tt, isi_ll, ix_0t, ix_0l, ix_1t, ix_1l, ix_2t', ix_2l', ix_3t', ix_3l', ix_4t', ix_4l', ix_5t', ix_5l', ix_6t', ix_6l', int_b, flat_int, Res.ok_bind, Res.exc_bind, Res.stuck_bind, Res.fl_ok, Res.fl_exc, Res.fl_stuck, Fl.thn_nx, Fl.thn_rt, Fl.thn_xc, Fl.thn_stuck, calm_ok, if_true, if_false, ite_true, ite_false, decide_true, decide_false, Bool.not_true, Bool.not_false, Bool.false_eq_true, List.map_cons, List.map_nil, List.length_map, List.length_cons, List.length_nil, eq_self, reduceIte, List.replicate, List.append_nil, List.cons_append, List.nil_append, x2, n2])).trans ?_
  rfl
/-! by one all are kept -/
theorem kp_one (t : List Int) : (kpZ t 1).map eP = enumL 0 (intL t) := by
  have hm : (0 : Nat) < 1 := by omega
  have hs : setZ (kpL t 1) = (List.range t.length).map fun k : Nat => (k : Int) := by
    refine srt_ext (setZ_srt _) ?_ fun x => ?_
    · show ((List.range t.length).map fun k : Nat => (k : Int)).Pairwise (· < ·)
      rw [List.pairwise_map]
      exact List.Pairwise.imp (fun h => by omega) List.pairwise_lt_range
    · rw [mem_setZ]
      constructor
      · intro h
        have := kp_bd t 1 hm x h
        exact List.mem_map.mpr ⟨x.toNat, List.mem_range.mpr (by omega), by omega⟩
      · intro h
        obtain ⟨k, hk, rfl⟩ := List.mem_map.mp h
        have hk := List.mem_range.mp hk
        have hk' : k < pcN t.length 1 := (pcN_lt t.length 1 k hm).mpr (by omega)
        obtain ⟨i, li, e, _⟩ := pk_lo t 1 k hm hk'
        exact (kp_mem t 1 _).mpr ⟨k, hk', .inl (by rw [e]; omega)⟩
  unfold kpZ
  rw [hs, List.map_map, List.map_map]
  apply List.ext_getElem?
  intro i
  rw [enumL_get, List.getElem?_map, List.getElem?_map]
  by_cases h : i < t.length
  · rw [List.getElem?_range h, List.getElem?_eq_getElem h]
    show some (PyData.tuple [.int (i : Nat), .int (t.getD ((i : Nat) : Int).toNat 0)]) = some (PyData.tuple [.int ((0 + i : Nat) : Int), .int t[i]])
    rw [Int.toNat_natCast, List.getD_eq_getElem?_getD, List.getElem?_eq_getElem h, Nat.zero_add]; rfl
  · rw [List.getElem?_eq_none (by simpa using h), List.getElem?_eq_none (by simpa using h)]; rfl
/-- the kept samples span the track -/
theorem kp_min (t : List Int) (m : Nat) (hm : 0 < m) (hn : t ≠ []) : minI ((kpZ t m).map (·.2)) = minI t ∧ maxI ((kpZ t m).map (·.2)) = maxI t := by
  have key : ∀ v : Int, v ∈ t → ∀ k, k < pcN t.length m → (v = minI (pcZ t m k) ∨ v = maxI (pcZ t m k)) → v ∈ (kpZ t m).map (·.2) := fun v _ k hk hv => by
    rcases hv with rfl | rfl
    · obtain ⟨i, _, e, g, _⟩ := pk_lo t m k hm hk
      exact List.mem_map.mpr ⟨_, kp_in t m (pkP t m k).1 _ _ ((kp_mem t m _).mpr ⟨k, hk, .inl rfl⟩) e g, rfl⟩
    · obtain ⟨i, _, e, g, _⟩ := pk_hi t m k hm hk
      exact List.mem_map.mpr ⟨_, kp_in t m (pkP t m k).2 _ _ ((kp_mem t m _).mpr ⟨k, hk, .inr rfl⟩) e g, rfl⟩
  have sub : ∀ x ∈ (kpZ t m).map (·.2), x ∈ t := fun x hx => by
    obtain ⟨p, hp, rfl⟩ := List.mem_map.mp hx
    exact (kp_of t m hm p hp).1
  constructor
  · refine minI_eq ?_ fun x hx => minI_le t x (sub x hx)
    have hv := minI_mem t hn
    obtain ⟨k, hk, hx⟩ := (pc_all t m hm _).mp hv
    have hk := List.mem_range.mp hk
    refine key _ hv k hk (.inl ?_)
    exact (minI_eq hx fun y hy => minI_le t y (pc_sub t m k y hy)).symm
  · refine maxI_eq ?_ fun x hx => maxI_ge t x (sub x hx)
    have hv := maxI_mem t hn
    obtain ⟨k, hk, hx⟩ := (pc_all t m hm _).mp hv
    have hk := List.mem_range.mp hk
    refine key _ hv k hk (.inr ?_)
    exact (maxI_eq hx fun y hy => maxI_ge t y (pc_sub t m k y hy)).symm
theorem call1 {K : CT} {f : Nat} {env : Ev} {a : E} {x : PyData} (h1 : ev K env a = .ok x) : ev K env (.call f (.cons a .nil)) = K f [x] := by
  simp (disch := first | assumption | omega | (simp; done) | (simp; omega)) only [getV_0, getV_s, setV_0, setV_s, ev_var, ev_cn, ev_gl, ev_bin, ev_neg, ev_inv, ev_an, ev_or, ev_cmp, ev_chn, ev_ch3, ev_ite, ev_tup, ev_lst, ev_ix, ev_sl, ev_rv, ev_call, ev_bl, ev_isi, ev_mt, recv_sset, recv_count, recv_index, recv_countT, recv_indexT, recv_join, recv_split, ev_lc, ev_lit, ev_sel, ev_dg, evan_1, evan_2, evor_1, evor_2, evs_nil, evs_cons, evo_non, evo_som, evc_non, evc_som, evi_ov, evi_rg, evi_en, evi_zp, rn_nil, rn_cons, rn1_setf, rn1_sett, trR_rt, trR_nx, ownK_list, rn1_own, rn1_unp, rn1_par, rn1_appf, rn1_appt, rn1_ret, rn1_retn, rn1_ifs, rn1_fr, rn1_wh, rn1_rs, rn1_tr, rn1_ex, rn1_skip, forR_nil, forR_cons, bindT_nm, bindT_tp, setAll_nil, setAll_cons, listV_0, listV_s, Cn_int, Cn_str, Cn_bl, Cn_non, Gc_cn, Gc_ws, someR_s, boolD_b, negD_i, add_i, sub_i, lt_i, le_i, gt_i, ge_i, tup_fit, len_l, len_t, abs_i, max_i, min_i, list_l, list_t, tuple_l, tuple_t, seqOf_l, seqOf_t, partD_n, partD_i, slD_l, slD_t, rvD_l, rvD_t, intsOf_ints, eq_i, ne_i, eq_ti, ne_ti, eq_li, ne_li, eq_ti0, ne_ti0, eq_li0, ne_li0, eq_l00, ne_l00, eq_t00, ne_t00, isNumD_i, res_rt, res_nx, res_xc, rg1, rg2, cutL_map, boolsOf_bools, isi_ii, isi_ib, isi_tt, isi_ll, ix_0t, ix_0l, ix_1t, ix_1l, ix_2t', ix_2l', ix_3t', ix_3l', ix_4t', ix_4l', ix_5t', ix_5l', ix_6t', ix_6l', int_b, flat_int, Res.ok_bind, Res.exc_bind, Res.stuck_bind, Res.fl_ok, Res.fl_exc, Res.fl_stuck, Fl.thn_nx, Fl.thn_rt, Fl.thn_xc, Fl.thn_stuck, calm_ok, if_true, if_false, ite_true, ite_false, decide_true, decide_false, Bool.not_true, Bool.not_false, Bool.false_eq_true, List.map_cons, List.map_nil, List.length_map, List.length_cons, List.length_nil, eq_self, reduceIte, List.replicate, List.append_nil, List.cons_append, List.nil_append, h1]
theorem gd_enc' {α : Type} {e : α → PyData} {D : Nat} (h : EncOk e D) (hD : D ≤ 40) (xs : List α) : cmpD .ne (.list (xs.map e)) (.list (xs.map e)) = .ok (.bool false) := (gd_enc h.lst xs).ne (by omega)
/-- the inner loop, and the spans -/
theorem loop2 (ns t : List Int) (m : Nat) (o3 o4 o5 o6 o7 o8 o9 o10 o11 o12 o13 o14 o15 : Option PyData) (ht : Tr t) (hm : 0 < m) (hm2 : m ≤ 60) (hn : t ≠ []) : ∃ p10 p11, rn C hd (b_law_l2 i_span) [some (.list (intL ns)), some (.tuple (intL t)), some (.int (m : Nat)), some (.list ((thZ t m).map eP)), some (.list ((kpZ t m).map eP)), o5, o6, o7, o8, o9, o10, o11, o12, o13, o14, o15] = .nx [some (.list (intL ns)), some (.tuple (intL t)), some (.int (m : Nat)), some (.list ((thZ t m).map eP)), some (.list ((kpZ t m).map eP)), o5, o6, o7, o8, o9, p10, p11, o12, o13, o14, o15] := by
  have l := ht.1
  have th := th_len t m
  have lp := pcN_le t.length m hm
  have kl := kp_len t m ht hm
  have eS := h_span t ht hn
  have tne : thZ t m ≠ [] := fun z => by
    rw [z] at th
    have := (pcN_lt t.length m 0 hm).mpr (by rw [Nat.zero_mul]; exact Nat.pos_of_ne_zero fun y => hn (List.length_eq_zero_iff.mp y))
    simp at th
    omega
  have nf : ∀ f : Int × Int → Int, (thZ t m).map f ≠ [] := fun f z => tne (List.map_eq_nil_iff.mp z)
  have a1 := min_ll _ (nf (·.1))
  have a2 := max_ll _ (nf (·.2))
  rw [th_min t m hm hn] at a1
  rw [th_max t m hm hn] at a2
  have nn : cmpD .ne (.tuple [.int (minI t), .int (maxI t)]) (.tuple [.int (minI t), .int (maxI t)]) = .ok (.bool false) := (gd_enc encP (minI t, maxI t)).ne (by omega)
  -- the kept samples as a track
  have sub : ∀ x ∈ (kpZ t m).map (·.2), x ∈ t := fun x hx => by
    obtain ⟨p, hp, rfl⟩ := List.mem_map.mp hx
    exact (kp_of t m hm p hp).1
  have hk2 : Tr ((kpZ t m).map (·.2)) := ⟨by rw [List.length_map]; exact kl, fun x hx => ht.2 x (sub x hx)⟩
  have kne : (kpZ t m).map (·.2) ≠ [] := fun z => by
    obtain ⟨i, _, e, g, _⟩ := pk_lo t m 0 hm ((pcN_lt t.length m 0 hm).mpr (by rw [Nat.zero_mul]; exact Nat.pos_of_ne_zero fun y => hn (List.length_eq_zero_iff.mp y)))
    have h0 : 0 < pcN t.length m := (pcN_lt t.length m 0 hm).mpr (by rw [Nat.zero_mul]; exact Nat.pos_of_ne_zero fun y => hn (List.length_eq_zero_iff.mp y))
    have h1 := kp_in t m (pkP t m 0).1 _ _ ((kp_mem t m _).mpr ⟨0, h0, .inl rfl⟩) e g
    have this : minI (pcZ t m 0) ∈ (kpZ t m).map (·.2) := List.mem_map.mpr ⟨_, h1, rfl⟩
    rw [z] at this
    cases this
  have eK := h_span _ hk2 kne
  obtain ⟨q1, q2⟩ := kp_min t m hm hn
  rw [q1, q2] at eK
  refine ⟨some (.list (intL ((thZ t m).map (·.1)))), some (.list (intL ((thZ t m).map (·.2)))), ?_⟩
  have c1 : ev C [some (.list (intL ns)), some (.tuple (intL t)), some (.int (m : Nat)), some (.list ((thZ t m).map eP)), some (.list ((kpZ t m).map eP)), o5, o6, o7, o8, o9, o10, o11, o12, o13, o14, o15] (.lc (.tp [12, 13]) (.ov (.var 3)) .non (.var 12)) = .ok (.list (intL ((thZ t m).map (·.1)))) := by
    have := lc_m (C := C) (env := [some (.list (intL ns)), some (.tuple (intL t)), some (.int (m : Nat)), some (.list ((thZ t m).map eP)), some (.list ((kpZ t m).map eP)), o5, o6, o7, o8, o9, o10, o11, o12, o13, o14, o15]) (t := .tp [12, 13]) (it := .ov (.var 3)) (c := .non) (x := .var 12) (thZ t m) eP (fun p => .int p.1) (by
      generalize (thZ t m).map eP = PP
      generalize (kpZ t m).map eP = KK
      simp (disch := first | assumption | omega | (simp; done) | (simp; omega)) only [getV_0, getV_s, setV_0, setV_s, ev_var, ev_cn, ev_gl, ev_bin, ev_neg, ev_inv, ev_an, ev_or, ev_cmp, ev_chn, ev_ch3, ev_ite, ev_tup, ev_lst, ev_ix, ev_sl, ev_rv, ev_call, ev_bl, ev_isi, ev_mt, recv_sset, recv_count, recv_index, recv_countT, recv_indexT, recv_join, recv_split, ev_lc, ev_lit, ev_sel, ev_dg, evan_1, evan_2, evor_1, evor_2, evs_nil, evs_cons, evo_non, evo_som, evc_non, evc_som, evi_ov, evi_rg, evi_en, evi_zp, rn_nil, rn_cons, rn1_setf, rn1_sett, trR_rt, trR_nx, ownK_list, rn1_own, rn1_unp, rn1_par, rn1_appf, rn1_appt, rn1_ret, rn1_retn, rn1_ifs, rn1_fr, rn1_wh, rn1_rs, rn1_tr, rn1_ex, rn1_skip, forR_nil, forR_cons, bindT_nm, bindT_tp, setAll_nil, setAll_cons, listV_0, listV_s, Cn_int, Cn_str, Cn_bl, Cn_non, Gc_cn, Gc_ws, someR_s, boolD_b, negD_i, add_i, sub_i, lt_i, le_i, gt_i, ge_i, tup_fit, len_l, len_t, abs_i, max_i, min_i, list_l, list_t, tuple_l, tuple_t, seqOf_l, seqOf_t, partD_n, partD_i, slD_l, slD_t, rvD_l, rvD_t, intsOf_ints, eq_i, ne_i, eq_ti, ne_ti, eq_li, ne_li, eq_ti0, ne_ti0, eq_li0, ne_li0, eq_l00, ne_l00, eq_t00, ne_t00, isNumD_i, res_rt, res_nx, res_xc, rg1, rg2, cutL_map, boolsOf_bools, isi_ii, isi_ib, isi_tt, isi_ll, ix_0t, ix_0l, ix_1t, ix_1l, ix_2t', ix_2l', ix_3t', ix_3l', ix_4t', ix_4l', ix_5t', ix_5l', ix_6t', ix_6l', int_b, flat_int, Res.ok_bind, Res.exc_bind, Res.stuck_bind, Res.fl_ok, Res.fl_exc, Res.fl_stuck, Fl.thn_nx, Fl.thn_rt, Fl.thn_xc, Fl.thn_stuck, calm_ok, if_true, if_false, ite_true, ite_false, decide_true, decide_false, Bool.not_true, Bool.not_false, Bool.false_eq_true, List.map_cons, List.map_nil, List.length_map, List.length_cons, List.length_nil, eq_self, reduceIte, List.replicate, List.append_nil, List.cons_append, List.nil_append]) (by omega) (fun p _ => by
      generalize (thZ t m).map eP = PP
      generalize (kpZ t m).map eP = KK
      simp (disch := first | assumption | omega | (simp; done) | (simp; omega)) only [lc1, getV_0, getV_s, setV_0, setV_s, ev_var, ev_cn, ev_gl, ev_bin, ev_neg, ev_inv, ev_an, ev_or, ev_cmp, ev_chn, ev_ch3, ev_ite, ev_tup, ev_lst, ev_ix, ev_sl, ev_rv, ev_call, ev_bl, ev_isi, ev_mt, recv_sset, recv_count, recv_index, recv_countT, recv_indexT, recv_join, recv_split, ev_lc, ev_lit, ev_sel, ev_dg, evan_1, evan_2, evor_1, evor_2, evs_nil, evs_cons, evo_non, evo_som, evc_non, evc_som, evi_ov, evi_rg, evi_en, evi_zp, rn_nil, rn_cons, rn1_setf, rn1_sett, trR_rt, trR_nx, ownK_list, rn1_own, rn1_unp, rn1_par, rn1_appf, rn1_appt, rn1_ret, rn1_retn, rn1_ifs, rn1_fr, rn1_wh, rn1_rs, rn1_tr, rn1_ex, rn1_skip, forR_nil, forR_cons, bindT_nm, bindT_tp, setAll_nil, setAll_cons, listV_0, listV_s, Cn_int, Cn_str, Cn_bl, Cn_non, Gc_cn, Gc_ws, someR_s, boolD_b, negD_i, add_i, sub_i, lt_i, le_i, gt_i, ge_i, tup_fit, len_l, len_t, abs_i, max_i, min_i, list_l, list_t, tuple_l, tuple_t, seqOf_l, seqOf_t, partD_n, partD_i, slD_l, slD_t, rvD_l, rvD_t, intsOf_ints, eq_i, ne_i, eq_ti, ne_ti, eq_li, ne_li, eq_ti0, ne_ti0, eq_li0, ne_li0, eq_l00, ne_l00, eq_t00, ne_t00, isNumD_i, res_rt, res_nx, res_xc, rg1, rg2, cutL_map, boolsOf_bools, isi_ii, isi_ib, isi_tt, isi_ll, ix_0t, ix_0l, ix_1t, ix_1l, ix_2t', ix_2l', ix_3t', ix_3l', ix_4t', ix_4l', ix_5t', ix_5l', ix_6t', ix_6l', int_b, flat_int, Res.ok_bind, Res.exc_bind, Res.stuck_bind, Res.fl_ok, Res.fl_exc, Res.fl_stuck, Fl.thn_nx, Fl.thn_rt, Fl.thn_xc, Fl.thn_stuck, calm_ok, if_true, if_false, ite_true, ite_false, decide_true, decide_false, Bool.not_true, Bool.not_false, Bool.false_eq_true, List.map_cons, List.map_nil, List.length_map, List.length_cons, List.length_nil, eq_self, reduceIte, List.replicate, List.append_nil, List.cons_append, List.nil_append, bindT, setAll, someR])
    refine this.trans ?_
    rw [intL, List.map_map]; rfl
  have c2 : ev C [some (.list (intL ns)), some (.tuple (intL t)), some (.int (m : Nat)), some (.list ((thZ t m).map eP)), some (.list ((kpZ t m).map eP)), o5, o6, o7, o8, o9, some (.list (intL ((thZ t m).map (·.1)))), o11, o12, o13, o14, o15] (.lc (.tp [12, 13]) (.ov (.var 3)) .non (.var 13)) = .ok (.list (intL ((thZ t m).map (·.2)))) := by
    have := lc_m (C := C) (env := [some (.list (intL ns)), some (.tuple (intL t)), some (.int (m : Nat)), some (.list ((thZ t m).map eP)), some (.list ((kpZ t m).map eP)), o5, o6, o7, o8, o9, some (.list (intL ((thZ t m).map (·.1)))), o11, o12, o13, o14, o15]) (t := .tp [12, 13]) (it := .ov (.var 3)) (c := .non) (x := .var 13) (thZ t m) eP (fun p => .int p.2) (by
      generalize (thZ t m).map eP = PP
      generalize (kpZ t m).map eP = KK
      simp (disch := first | assumption | omega | (simp; done) | (simp; omega)) only [getV_0, getV_s, setV_0, setV_s, ev_var, ev_cn, ev_gl, ev_bin, ev_neg, ev_inv, ev_an, ev_or, ev_cmp, ev_chn, ev_ch3, ev_ite, ev_tup, ev_lst, ev_ix, ev_sl, ev_rv, ev_call, ev_bl, ev_isi, ev_mt, recv_sset, recv_count, recv_index, recv_countT, recv_indexT, recv_join, recv_split, ev_lc, ev_lit, ev_sel, ev_dg, evan_1, evan_2, evor_1, evor_2, evs_nil, evs_cons, evo_non, evo_som, evc_non, evc_som, evi_ov, evi_rg, evi_en, evi_zp, rn_nil, rn_cons, rn1_setf, rn1_sett, trR_rt, trR_nx, ownK_list, rn1_own, rn1_unp, rn1_par, rn1_appf, rn1_appt, rn1_ret, rn1_retn, rn1_ifs, rn1_fr, rn1_wh, rn1_rs, rn1_tr, rn1_ex, rn1_skip, forR_nil, forR_cons, bindT_nm, bindT_tp, setAll_nil, setAll_cons, listV_0, listV_s, Cn_int, Cn_str, Cn_bl, Cn_non, Gc_cn, Gc_ws, someR_s, boolD_b, negD_i, add_i, sub_i, lt_i, le_i, gt_i, ge_i, tup_fit, len_l, len_t, abs_i, max_i, min_i, list_l, list_t, tuple_l, tuple_t, seqOf_l, seqOf_t, partD_n, partD_i, slD_l, slD_t, rvD_l, rvD_t, intsOf_ints, eq_i, ne_i, eq_ti, ne_ti, eq_li, ne_li, eq_ti0, ne_ti0, eq_li0, ne_li0, eq_l00, ne_l00, eq_t00, ne_t00, isNumD_i, res_rt, res_nx, res_xc, rg1, rg2, cutL_map, boolsOf_bools, isi_ii, isi_ib, isi_tt, isi_ll, ix_0t, ix_0l, ix_1t, ix_1l, ix_2t', ix_2l', ix_3t', ix_3l', ix_4t', ix_4l', ix_5t', ix_5l', ix_6t', ix_6l', int_b, flat_int, Res.ok_bind, Res.exc_bind, Res.stuck_bind, Res.fl_ok, Res.fl_exc, Res.fl_stuck, Fl.thn_nx, Fl.thn_rt, Fl.thn_xc, Fl.thn_stuck, calm_ok, if_true, if_false, ite_true, ite_false, decide_true, decide_false, Bool.not_true, Bool.not_false, Bool.false_eq_true, List.map_cons, List.map_nil, List.length_map, List.length_cons, List.length_nil, eq_self, reduceIte, List.replicate, List.append_nil, List.cons_append, List.nil_append]) (by omega) (fun p _ => by
      generalize (thZ t m).map eP = PP
      generalize (kpZ t m).map eP = KK
      simp (disch := first | assumption | omega | (simp; done) | (simp; omega)) only [lc1, getV_0, getV_s, setV_0, setV_s, ev_var, ev_cn, ev_gl, ev_bin, ev_neg, ev_inv, ev_an, ev_or, ev_cmp, ev_chn, ev_ch3, ev_ite, ev_tup, ev_lst, ev_ix, ev_sl, ev_rv, ev_call, ev_bl, ev_isi, ev_mt, recv_sset, recv_count, recv_index, recv_countT, recv_indexT, recv_join, recv_split, ev_lc, ev_lit, ev_sel, ev_dg, evan_1, evan_2, evor_1, evor_2, evs_nil, evs_cons, evo_non, evo_som, evc_non, evc_som, evi_ov, evi_rg, evi_en, evi_zp, rn_nil, rn_cons, rn1_setf, rn1_sett, trR_rt, trR_nx, ownK_list, rn1_own, rn1_unp, rn1_par, rn1_appf, rn1_appt, rn1_ret, rn1_retn, rn1_ifs, rn1_fr, rn1_wh, rn1_rs, rn1_tr, rn1_ex, rn1_skip, forR_nil, forR_cons, bindT_nm, bindT_tp, setAll_nil, setAll_cons, listV_0, listV_s, Cn_int, Cn_str, Cn_bl, Cn_non, Gc_cn, Gc_ws, someR_s, boolD_b, negD_i, add_i, sub_i, lt_i, le_i, gt_i, ge_i, tup_fit, len_l, len_t, abs_i, max_i, min_i, list_l, list_t, tuple_l, tuple_t, seqOf_l, seqOf_t, partD_n, partD_i, slD_l, slD_t, rvD_l, rvD_t, intsOf_ints, eq_i, ne_i, eq_ti, ne_ti, eq_li, ne_li, eq_ti0, ne_ti0, eq_li0, ne_li0, eq_l00, ne_l00, eq_t00, ne_t00, isNumD_i, res_rt, res_nx, res_xc, rg1, rg2, cutL_map, boolsOf_bools, isi_ii, isi_ib, isi_tt, isi_ll, ix_0t, ix_0l, ix_1t, ix_1l, ix_2t', ix_2l', ix_3t', ix_3l', ix_4t', ix_4l', ix_5t', ix_5l', ix_6t', ix_6l', int_b, flat_int, Res.ok_bind, Res.exc_bind, Res.stuck_bind, Res.fl_ok, Res.fl_exc, Res.fl_stuck, Fl.thn_nx, Fl.thn_rt, Fl.thn_xc, Fl.thn_stuck, calm_ok, if_true, if_false, ite_true, ite_false, decide_true, decide_false, Bool.not_true, Bool.not_false, Bool.false_eq_true, List.map_cons, List.map_nil, List.length_map, List.length_cons, List.length_nil, eq_self, reduceIte, List.replicate, List.append_nil, List.cons_append, List.nil_append, bindT, setAll, someR])
    refine this.trans ?_
    rw [intL, List.map_map]; rfl
  have c3 : ev C [some (.list (intL ns)), some (.tuple (intL t)), some (.int (m : Nat)), some (.list ((thZ t m).map eP)), some (.list ((kpZ t m).map eP)), o5, o6, o7, o8, o9, some (.list (intL ((thZ t m).map (·.1)))), some (.list (intL ((thZ t m).map (·.2)))), o12, o13, o14, o15] (.lc (.tp [14, 15]) (.ov (.var 4)) .non (.var 15)) = .ok (.list (intL ((kpZ t m).map (·.2)))) := by
    generalize intL ((thZ t m).map (·.1)) = F1
    generalize intL ((thZ t m).map (·.2)) = F2
    have := lc_m (C := C) (env := [some (.list (intL ns)), some (.tuple (intL t)), some (.int (m : Nat)), some (.list ((thZ t m).map eP)), some (.list ((kpZ t m).map eP)), o5, o6, o7, o8, o9, some (.list F1), some (.list F2), o12, o13, o14, o15]) (t := .tp [14, 15]) (it := .ov (.var 4)) (c := .non) (x := .var 15) (kpZ t m) eP (fun p => .int p.2) (by
      generalize (thZ t m).map eP = PP
      generalize (kpZ t m).map eP = KK
      simp (disch := first | assumption | omega | (simp; done) | (simp; omega)) only [getV_0, getV_s, setV_0, setV_s, ev_var, ev_cn, ev_gl, ev_bin, ev_neg, ev_inv, ev_an, ev_or, ev_cmp, ev_chn, ev_ch3, ev_ite, ev_tup, ev_lst, ev_ix, ev_sl, ev_rv, ev_call, ev_bl, ev_isi, ev_mt, recv_sset, recv_count, recv_index, recv_countT, recv_indexT, recv_join, recv_split, ev_lc, ev_lit, ev_sel, ev_dg, evan_1, evan_2, evor_1, evor_2, evs_nil, evs_cons, evo_non, evo_som, evc_non, evc_som, evi_ov, evi_rg, evi_en, evi_zp, rn_nil, rn_cons, rn1_setf, rn1_sett, trR_rt, trR_nx, ownK_list, rn1_own, rn1_unp, rn1_par, rn1_appf, rn1_appt, rn1_ret, rn1_retn, rn1_ifs, rn1_fr, rn1_wh, rn1_rs, rn1_tr, rn1_ex, rn1_skip, forR_nil, forR_cons, bindT_nm, bindT_tp, setAll_nil, setAll_cons, listV_0, listV_s, Cn_int, Cn_str, Cn_bl, Cn_non, Gc_cn, Gc_ws, someR_s, boolD_b, negD_i, add_i, sub_i, lt_i, le_i, gt_i, ge_i, tup_fit, len_l, len_t, abs_i, max_i, min_i, list_l, list_t, tuple_l, tuple_t, seqOf_l, seqOf_t, partD_n, partD_i, slD_l, slD_t, rvD_l, rvD_t, intsOf_ints, eq_i, ne_i, eq_ti, ne_ti, eq_li, ne_li, eq_ti0, ne_ti0, eq_li0, ne_li0, eq_l00, ne_l00, eq_t00, ne_t00, isNumD_i, res_rt, res_nx, res_xc, rg1, rg2, cutL_map, boolsOf_bools, isi_ii, isi_ib, isi_tt, isi_ll, ix_0t, ix_0l, ix_1t, ix_1l, ix_2t', ix_2l', ix_3t', ix_3l', ix_4t', ix_4l', ix_5t', ix_5l', ix_6t', ix_6l', int_b, flat_int, Res.ok_bind, Res.exc_bind, Res.stuck_bind, Res.fl_ok, Res.fl_exc, Res.fl_stuck, Fl.thn_nx, Fl.thn_rt, Fl.thn_xc, Fl.thn_stuck, calm_ok, if_true, if_false, ite_true, ite_false, decide_true, decide_false, Bool.not_true, Bool.not_false, Bool.false_eq_true, List.map_cons, List.map_nil, List.length_map, List.length_cons, List.length_nil, eq_self, reduceIte, List.replicate, List.append_nil, List.cons_append, List.nil_append]) (by omega) (fun p _ => by
      generalize (thZ t m).map eP = PP
      generalize (kpZ t m).map eP = KK
      simp (disch := first | assumption | omega | (simp; done) | (simp; omega)) only [lc1, getV_0, getV_s, setV_0, setV_s, ev_var, ev_cn, ev_gl, ev_bin, ev_neg, ev_inv, ev_an, ev_or, ev_cmp, ev_chn, ev_ch3, ev_ite, ev_tup, ev_lst, ev_ix, ev_sl, ev_rv, ev_call, ev_bl, ev_isi, ev_mt, recv_sset, recv_count, recv_index, recv_countT, recv_indexT, recv_join, recv_split, ev_lc, ev_lit, ev_sel, ev_dg, evan_1, evan_2, evor_1, evor_2, evs_nil, evs_cons, evo_non, evo_som, evc_non, evc_som, evi_ov, evi_rg, evi_en, evi_zp, rn_nil, rn_cons, rn1_setf, rn1_sett, trR_rt, trR_nx, ownK_list, rn1_own, rn1_unp, rn1_par, rn1_appf, rn1_appt, rn1_ret, rn1_retn, rn1_ifs, rn1_fr, rn1_wh, rn1_rs, rn1_tr, rn1_ex, rn1_skip, forR_nil, forR_cons, bindT_nm, bindT_tp, setAll_nil, setAll_cons, listV_0, listV_s, Cn_int, Cn_str, Cn_bl, Cn_non, Gc_cn, Gc_ws, someR_s, boolD_b, negD_i, add_i, sub_i, lt_i, le_i, gt_i, ge_i, tup_fit, len_l, len_t, abs_i, max_i, min_i, list_l, list_t, tuple_l, tuple_t, seqOf_l, seqOf_t, partD_n, partD_i, slD_l, slD_t, rvD_l, rvD_t, intsOf_ints, eq_i, ne_i, eq_ti, ne_ti, eq_li, ne_li, eq_ti0, ne_ti0, eq_li0, ne_li0, eq_l00, ne_l00, eq_t00, ne_t00, isNumD_i, res_rt, res_nx, res_xc, rg1, rg2, cutL_map, boolsOf_bools, isi_ii, isi_ib, isi_tt, isi_ll, ix_0t, ix_0l, ix_1t, ix_1l, ix_2t', ix_2l', ix_3t', ix_3l', ix_4t', ix_4l', ix_5t', ix_5l', ix_6t', ix_6l', int_b, flat_int, Res.ok_bind, Res.exc_bind, Res.stuck_bind, Res.fl_ok, Res.fl_exc, Res.fl_stuck, Fl.thn_nx, Fl.thn_rt, Fl.thn_xc, Fl.thn_stuck, calm_ok, if_true, if_false, ite_true, ite_false, decide_true, decide_false, Bool.not_true, Bool.not_false, Bool.false_eq_true, List.map_cons, List.map_nil, List.length_map, List.length_cons, List.length_nil, eq_self, reduceIte, List.replicate, List.append_nil, List.cons_append, List.nil_append, bindT, setAll, someR])
    refine this.trans ?_
    rw [intL, List.map_map]; rfl
  unfold b_law_l2
  refine (stp_set c1).trans ?_
  simp only [setV_0, setV_s]
  refine (stp_set c2).trans ?_
  simp only [setV_0, setV_s]
  have kl2 : (intL ((kpZ t m).map (·.2))).length ≤ 60 := by rw [List.length_map, List.length_map]; exact kl
  generalize intL ((thZ t m).map (·.1)) = F1 at a1 c3 ⊢
  generalize intL ((thZ t m).map (·.2)) = F2 at a2 c3 ⊢
  generalize intL ((kpZ t m).map (·.2)) = F3 at c3 eK kl2 ⊢
  generalize minI t = u at *
  generalize maxI t = w at *
  refine (stp_if0 (ev_cmp2 (tup_2 (x := .int u) (y := .int w) ?_ ?_) ?_ nn)).trans ?_
  · generalize (thZ t m).map eP = PP
    generalize (kpZ t m).map eP = KK
    simp (disch := first | assumption | omega | (simp; done) | (simp; omega)) only [getV_0, getV_s, setV_0, setV_s, ev_var, ev_cn, ev_gl, ev_bin, ev_neg, ev_inv, ev_an, ev_or, ev_cmp, ev_chn, ev_ch3, ev_ite, ev_tup, ev_lst, ev_ix, ev_sl, ev_rv, ev_call, ev_bl, ev_isi, ev_mt, recv_sset, recv_count, recv_index, recv_countT, recv_indexT, recv_join, recv_split, ev_lc, ev_lit, ev_sel, ev_dg, evan_1, evan_2, evor_1, evor_2, evs_nil, evs_cons, evo_non, evo_som, evc_non, evc_som, evi_ov, evi_rg, evi_en, evi_zp, rn_nil, rn_cons, rn1_setf, rn1_sett, trR_rt, trR_nx, ownK_list, rn1_own, rn1_unp, rn1_par, rn1_appf, rn1_appt, rn1_ret, rn1_retn, rn1_ifs, rn1_fr, rn1_wh, rn1_rs, rn1_tr, rn1_ex, rn1_skip, forR_nil, forR_cons, bindT_nm, bindT_tp, setAll_nil, setAll_cons, listV_0, listV_s, Cn_int, Cn_str, Cn_bl, Cn_non, Gc_cn, Gc_ws, someR_s, boolD_b, negD_i, add_i, sub_i, lt_i, le_i, gt_i, ge_i, tup_fit, len_l, len_t, abs_i, max_i, min_i, list_l, list_t, tuple_l, tuple_t, seqOf_l, seqOf_t, partD_n, partD_i, slD_l, slD_t, rvD_l, rvD_t, intsOf_ints, eq_i, ne_i, eq_ti, ne_ti, eq_li, ne_li, eq_ti0, ne_ti0, eq_li0, ne_li0, eq_l00, ne_l00, eq_t00, ne_t00, isNumD_i, res_rt, res_nx, res_xc, rg1, rg2, cutL_map, boolsOf_bools, isi_ii, isi_ib, isi_tt, isi_ll, ix_0t, ix_0l, ix_1t, ix_1l, ix_2t', ix_2l', ix_3t', ix_3l', ix_4t', ix_4l', ix_5t', ix_5l', ix_6t', ix_6l', int_b, flat_int, Res.ok_bind, Res.exc_bind, Res.stuck_bind, Res.fl_ok, Res.fl_exc, Res.fl_stuck, Fl.thn_nx, Fl.thn_rt, Fl.thn_xc, Fl.thn_stuck, calm_ok, if_true, if_false, ite_true, ite_false, decide_true, decide_false, Bool.not_true, Bool.not_false, Bool.false_eq_true, List.map_cons, List.map_nil, List.length_map, List.length_cons, List.length_nil, eq_self, reduceIte, List.replicate, List.append_nil, List.cons_append, List.nil_append, a1]
  · generalize (thZ t m).map eP = PP
    generalize (kpZ t m).map eP = KK
    simp (disch := first | assumption | omega | (simp; done) | (simp; omega)) only [getV_0, getV_s, setV_0, setV_s, ev_var, ev_cn, ev_gl, ev_bin, ev_neg, ev_inv, ev_an, ev_or, ev_cmp, ev_chn, ev_ch3, ev_ite, ev_tup, ev_lst, ev_ix, ev_sl, ev_rv, ev_call, ev_bl, ev_isi, ev_mt, recv_sset, recv_count, recv_index, recv_countT, recv_indexT, recv_join, recv_split, ev_lc, ev_lit, ev_sel, ev_dg, evan_1, evan_2, evor_1, evor_2, evs_nil, evs_cons, evo_non, evo_som, evc_non, evc_som, evi_ov, evi_rg, evi_en, evi_zp, rn_nil, rn_cons, rn1_setf, rn1_sett, trR_rt, trR_nx, ownK_list, rn1_own, rn1_unp, rn1_par, rn1_appf, rn1_appt, rn1_ret, rn1_retn, rn1_ifs, rn1_fr, rn1_wh, rn1_rs, rn1_tr, rn1_ex, rn1_skip, forR_nil, forR_cons, bindT_nm, bindT_tp, setAll_nil, setAll_cons, listV_0, listV_s, Cn_int, Cn_str, Cn_bl, Cn_non, Gc_cn, Gc_ws, someR_s, boolD_b, negD_i, add_i, sub_i, lt_i, le_i, gt_i, ge_i, tup_fit, len_l, len_t, abs_i, max_i, min_i, list_l, list_t, tuple_l, tuple_t, seqOf_l, seqOf_t, partD_n, partD_i, slD_l, slD_t, rvD_l, rvD_t, intsOf_ints, eq_i, ne_i, eq_ti, ne_ti, eq_li, ne_li, eq_ti0, ne_ti0, eq_li0, ne_li0, eq_l00, ne_l00, eq_t00, ne_t00, isNumD_i, res_rt, res_nx, res_xc, rg1, rg2, cutL_map, boolsOf_bools, isi_ii, isi_ib, isi_tt, isi_ll, ix_0t, ix_0l, ix_1t, ix_1l, ix_2t', ix_2l', ix_3t', ix_3l', ix_4t', ix_4l', ix_5t', ix_5l', ix_6t', ix_6l', int_b, flat_int, Res.ok_bind, Res.exc_bind, Res.stuck_bind, Res.fl_ok, Res.fl_exc, Res.fl_stuck, Fl.thn_nx, Fl.thn_rt, Fl.thn_xc, Fl.thn_stuck, calm_ok, if_true, if_false, ite_true, ite_false, decide_true, decide_false, Bool.not_true, Bool.not_false, Bool.false_eq_true, List.map_cons, List.map_nil, List.length_map, List.length_cons, List.length_nil, eq_self, reduceIte, List.replicate, List.append_nil, List.cons_append, List.nil_append, a2]
  · generalize (thZ t m).map eP = PP
    generalize (kpZ t m).map eP = KK
    simp (disch := first | assumption | omega | (simp; done) | (simp; omega)) only [getV_0, getV_s, setV_0, setV_s, ev_var, ev_cn, ev_gl, ev_bin, ev_neg, ev_inv, ev_an, ev_or, ev_cmp, ev_chn, ev_ch3, ev_ite, ev_tup, ev_lst, ev_ix, ev_sl, ev_rv, ev_call, ev_bl, ev_isi, ev_mt, recv_sset, recv_count, recv_index, recv_countT, recv_indexT, recv_join, recv_split, ev_lc, ev_lit, ev_sel, ev_dg, evan_1, evan_2, evor_1, evor_2, evs_nil, evs_cons, evo_non, evo_som, evc_non, evc_som, evi_ov, evi_rg, evi_en, evi_zp, rn_nil, rn_cons, rn1_setf, rn1_sett, trR_rt, trR_nx, ownK_list, rn1_own, rn1_unp, rn1_par, rn1_appf, rn1_appt, rn1_ret, rn1_retn, rn1_ifs, rn1_fr, rn1_wh, rn1_rs, rn1_tr, rn1_ex, rn1_skip, forR_nil, forR_cons, bindT_nm, bindT_tp, setAll_nil, setAll_cons, listV_0, listV_s, Cn_int, Cn_str, Cn_bl, Cn_non, Gc_cn, Gc_ws, someR_s, boolD_b, negD_i, add_i, sub_i, lt_i, le_i, gt_i, ge_i, tup_fit, len_l, len_t, abs_i, max_i, min_i, list_l, list_t, tuple_l, tuple_t, seqOf_l, seqOf_t, partD_n, partD_i, slD_l, slD_t, rvD_l, rvD_t, intsOf_ints, eq_i, ne_i, eq_ti, ne_ti, eq_li, ne_li, eq_ti0, ne_ti0, eq_li0, ne_li0, eq_l00, ne_l00, eq_t00, ne_t00, isNumD_i, res_rt, res_nx, res_xc, rg1, rg2, cutL_map, boolsOf_bools, isi_ii, isi_ib, isi_tt, isi_ll, ix_0t, ix_0l, ix_1t, ix_1l, ix_2t', ix_2l', ix_3t', ix_3l', ix_4t', ix_4l', ix_5t', ix_5l', ix_6t', ix_6l', int_b, flat_int, Res.ok_bind, Res.exc_bind, Res.stuck_bind, Res.fl_ok, Res.fl_exc, Res.fl_stuck, Fl.thn_nx, Fl.thn_rt, Fl.thn_xc, Fl.thn_stuck, calm_ok, if_true, if_false, ite_true, ite_false, decide_true, decide_false, Bool.not_true, Bool.not_false, Bool.false_eq_true, List.map_cons, List.map_nil, List.length_map, List.length_cons, List.length_nil, eq_self, reduceIte, List.replicate, List.append_nil, List.cons_append, List.nil_append, eS]
  refine (stp_if0 (ev_cmp2 (x := .tuple [.int u, .int w]) ?_ ?_ nn)).trans ?_
  · refine (call1 (K := C) (ev_tup1 c3 (by omega))).trans eK
  · generalize (thZ t m).map eP = PP
    generalize (kpZ t m).map eP = KK
    simp (disch := first | assumption | omega | (simp; done) | (simp; omega)) only [getV_0, getV_s, setV_0, setV_s, ev_var, ev_cn, ev_gl, ev_bin, ev_neg, ev_inv, ev_an, ev_or, ev_cmp, ev_chn, ev_ch3, ev_ite, ev_tup, ev_lst, ev_ix, ev_sl, ev_rv, ev_call, ev_bl, ev_isi, ev_mt, recv_sset, recv_count, recv_index, recv_countT, recv_indexT, recv_join, recv_split, ev_lc, ev_lit, ev_sel, ev_dg, evan_1, evan_2, evor_1, evor_2, evs_nil, evs_cons, evo_non, evo_som, evc_non, evc_som, evi_ov, evi_rg, evi_en, evi_zp, rn_nil, rn_cons, rn1_setf, rn1_sett, trR_rt, trR_nx, ownK_list, rn1_own, rn1_unp, rn1_par, rn1_appf, rn1_appt, rn1_ret, rn1_retn, rn1_ifs, rn1_fr, rn1_wh, rn1_rs, rn1_tr, rn1_ex, rn1_skip, forR_nil, forR_cons, bindT_nm, bindT_tp, setAll_nil, setAll_cons, listV_0, listV_s, Cn_int, Cn_str, Cn_bl, Cn_non, Gc_cn, Gc_ws, someR_s, boolD_b, negD_i, add_i, sub_i, lt_i, le_i, gt_i, ge_i, tup_fit, len_l, len_t, abs_i, max_i, min_i, list_l, list_t, tuple_l, tuple_t, seqOf_l, seqOf_t, partD_n, partD_i, slD_l, slD_t, rvD_l, rvD_t, intsOf_ints, eq_i, ne_i, eq_ti, ne_ti, eq_li, ne_li, eq_ti0, ne_ti0, eq_li0, ne_li0, eq_l00, ne_l00, eq_t00, ne_t00, isNumD_i, res_rt, res_nx, res_xc, rg1, rg2, cutL_map, boolsOf_bools, isi_ii, isi_ib, isi_tt, isi_ll, ix_0t, ix_0l, ix_1t, ix_1l, ix_2t', ix_2l', ix_3t', ix_3l', ix_4t', ix_4l', ix_5t', ix_5l', ix_6t', ix_6l', int_b, flat_int, Res.ok_bind, Res.exc_bind, Res.stuck_bind, Res.fl_ok, Res.fl_exc, Res.fl_stuck, Fl.thn_nx, Fl.thn_rt, Fl.thn_xc, Fl.thn_stuck, calm_ok, if_true, if_false, ite_true, ite_false, decide_true, decide_false, Bool.not_true, Bool.not_false, Bool.false_eq_true, List.map_cons, List.map_nil, List.length_map, List.length_cons, List.length_nil, eq_self, reduceIte, List.replicate, List.append_nil, List.cons_append, List.nil_append, eS]
  rfl
theorem loop3 (ns t : List Int) (hns : ns.length ≤ 63) (m : Nat) (o3 o4 o5 o6 o7 o8 o9 o10 o11 o12 o13 o14 o15 : Option PyData) (ht : Tr t) (hm : 0 < m) (hm2 : m ≤ 60) : ∃ p3 p4 p5 p6 p7 p8 p9 p10 p11 p12 p13 p14 p15, rn C hd (b_law_l3 i_thinned i_kept i_part i_span i_peaks i__law_drawn i_least_many) [some (.list (intL ns)), some (.tuple (intL t)), some (.int (m : Nat)), o3, o4, o5, o6, o7, o8, o9, o10, o11, o12, o13, o14, o15] = .nx [some (.list (intL ns)), some (.tuple (intL t)), some (.int (m : Nat)), p3, p4, p5, p6, p7, p8, p9, p10, p11, p12, p13, p14, p15] := by
  have l := ht.1
  have th := th_len t m
  have lp := pcN_le t.length m hm
  have kl := kp_len t m ht hm
  have eT := h_thinned.D t m ht hm hm2
  have eK := h_kept.D t m ht hm hm2
  have eZ := kp_ssp t m ht hm
  obtain ⟨c0, ec, c0a, c0b⟩ := h__law_drawn ns (60 + (m : Int)) 12 hns (by omega) (by omega) (by omega)
  obtain ⟨c, hc⟩ : ∃ k : Nat, 1 + c0 = k := ⟨(1 + c0).toNat, by omega⟩
  have eL := h_least_many.D t c ht (by omega) (by omega)
  have d1 := div_i ((t.length : Int) + (m : Int) - 1) (m : Int) (by omega) (by omega)
  have d2 : ((t.length : Int) + (m : Int) - 1) / (m : Int) = ((pcN t.length m : Nat) : Int) := by
    unfold pcN
    rw [Int.natCast_ediv]
    congr 1
    omega
  rw [d2] at d1
  obtain ⟨env1, hf, o7', o8', o9', o12', o13', rfl⟩ := forR_enum (e := eP) (t := .tp [7, 8]) (b := rn C hd (b_law_l1 i_part i_span i_peaks)) (fun _ env => ∃ o7 o8 o9 o12 o13, env = [some (.list (intL ns)), some (.tuple (intL t)), some (.int (m : Nat)), some (.list ((thZ t m).map eP)), some (.list ((kpZ t m).map eP)), o5, o6, o7, o8, o9, o10, o11, o12, o13, o14, o15]) (thZ t m) [] [some (.list (intL ns)), some (.tuple (intL t)), some (.int (m : Nat)), some (.list ((thZ t m).map eP)), some (.list ((kpZ t m).map eP)), o5, o6, o7, o8, o9, o10, o11, o12, o13, o14, o15] ⟨_, _, _, _, _, rfl⟩ (by
    rintro d x r env hx ⟨o7, o8, o9, o12, o13, rfl⟩
    rw [List.nil_append] at hx
    have hk : (thZ t m)[d.length]? = some x := by rw [hx]; simp
    have hl : d.length < pcN t.length m := by rw [← th]; exact get_lt hk
    rw [th_get t m d.length hl] at hk
    cases hk
    obtain ⟨p9, p12, p13, h⟩ := loop1 ns t m d.length o5 o6 o9 o10 o11 o12 o13 o14 o15 ht hm hm2 hl
    exact ⟨_, _, rfl, h, _, _, _, _, _, rfl⟩)
  have fin : ∀ (o3 o4 o5 o6 o7 o8 o9 o10 o11 o12 o13 o14 o15 : Option PyData), ∃ q3 q4 q5 q6 q7 q8 q9 q10 q11 q12 q13 q14 q15, rn C hd (.cons (.set 5 false (.bin .add (.cn (.int 1)) (.call i__law_drawn (.cons (.var 0) (.cons (.bin .add (.cn (.int 60)) (.var 2)) (.cons (.cn (.int 12)) .nil)))))) (.cons (.set 6 false (.call i_least_many (.cons (.var 1) (.cons (.var 5) .nil)))) (.cons (.ifs (.cmp .gt (.bl .len (.cons (.call i_thinned (.cons (.var 1) (.cons (.var 6) .nil))) .nil)) (.var 5)) (.cons (.ret (.cn (.bl false))) .nil) .nil) (.cons (.ifs (.an (.cons (.cmp .gt (.var 6) (.cn (.int 1))) (.cons (.cmp .le (.bl .len (.cons (.call i_thinned (.cons (.var 1) (.cons (.bin .sub (.var 6) (.cn (.int 1))) .nil))) .nil)) (.var 5)) .nil))) (.cons (.ret (.cn (.bl false))) .nil) .nil) .nil)))) [some (.list (intL ns)), some (.tuple (intL t)), some (.int (m : Nat)), o3, o4, o5, o6, o7, o8, o9, o10, o11, o12, o13, o14, o15] = .nx [some (.list (intL ns)), some (.tuple (intL t)), some (.int (m : Nat)), q3, q4, q5, q6, q7, q8, q9, q10, q11, q12, q13, q14, q15] := by
    intro o3 o4 o5 o6 o7 o8 o9 o10 o11 o12 o13 o14 o15
    refine ⟨o3, o4, some (.int (c : Nat)), some (.int (max 1 (pcN t.length c) : Nat)), o7, o8, o9, o10, o11, o12, o13, o14, o15, ?_⟩
    refine (stp_set (d := .int (c : Nat)) (by
      rw [← hc]
      exact bin2 (K := C) (x := .int 1) (y := .int c0) rfl ((call3 (K := C) (x := .list (intL ns)) (y := .int (60 + (m : Int))) (z := .int 12) rfl (bin2 rfl rfl rfl) rfl).trans ec) rfl)).trans ?_
    simp only [setV_0, setV_s]
    refine (stp_set (d := .int (max 1 (pcN t.length c) : Nat)) (by simp (disch := first | assumption | omega | (simp; done) | (simp; omega)) only [getV_0, getV_s, setV_0, setV_s, ev_var, ev_cn, ev_gl, ev_bin, ev_neg, ev_inv, ev_an, ev_or, ev_cmp, ev_chn, ev_ch3, ev_ite, ev_tup, ev_lst, ev_ix, ev_sl, ev_rv, ev_call, ev_bl, ev_isi, ev_mt, recv_sset, recv_count, recv_index, recv_countT, recv_indexT, recv_join, recv_split, ev_lc, ev_lit, ev_sel, ev_dg, evan_1, evan_2, evor_1, evor_2, evs_nil, evs_cons, evo_non, evo_som, evc_non, evc_som, evi_ov, evi_rg, evi_en, evi_zp, rn_nil, rn_cons, rn1_setf, rn1_sett, trR_rt, trR_nx, ownK_list, rn1_own, rn1_unp, rn1_par, rn1_appf, rn1_appt, rn1_ret, rn1_retn, rn1_ifs, rn1_fr, rn1_wh, rn1_rs, rn1_tr, rn1_ex, rn1_skip, forR_nil, forR_cons, bindT_nm, bindT_tp, setAll_nil, setAll_cons, listV_0, listV_s, Cn_int, Cn_str, Cn_bl, Cn_non, Gc_cn, Gc_ws, someR_s, boolD_b, negD_i, add_i, sub_i, lt_i, le_i, gt_i, ge_i, tup_fit, len_l, len_t, abs_i, max_i, min_i, list_l, list_t, tuple_l, tuple_t, seqOf_l, seqOf_t, partD_n, partD_i, slD_l, slD_t, rvD_l, rvD_t, intsOf_ints, eq_i, ne_i, eq_ti, ne_ti, eq_li, ne_li, eq_ti0, ne_ti0, eq_li0, ne_li0, eq_l00, ne_l00, eq_t00, ne_t00, isNumD_i, res_rt, res_nx, res_xc, rg1, rg2, cutL_map, boolsOf_bools, isi_ii, isi_ib, isi_tt, isi_ll, ix_0t, ix_0l, ix_1t, ix_1l, ix_2t', ix_2l', ix_3t', ix_3l', ix_4t', ix_4l', ix_5t', ix_5l', ix_6t', ix_6l', int_b, flat_int, Res.ok_bind, Res.exc_bind, Res.stuck_bind, Res.fl_ok, Res.fl_exc, Res.fl_stuck, Fl.thn_nx, Fl.thn_rt, Fl.thn_xc, Fl.thn_stuck, calm_ok, if_true, if_false, ite_true, ite_false, decide_true, decide_false, Bool.not_true, Bool.not_false, Bool.false_eq_true, List.map_cons, List.map_nil, List.length_map, List.length_cons, List.length_nil, eq_self, reduceIte, List.replicate, List.append_nil, List.cons_append, List.nil_append, eL])).trans ?_
    simp only [setV_0, setV_s]
    have q1 := least_1 t.length c (by omega)
    have q2 := least_2 t.length c (by omega)
    have pl := pcN_le t.length c (by omega)
    have e1 := h_thinned.D t (max 1 (pcN t.length c)) ht (by omega) (by omega)
    have e2 : 1 < max 1 (pcN t.length c) → C i_thinned [.tuple (intL t), .int (((max 1 (pcN t.length c) : Nat) : Int) - 1)] = .ok (.list ((thZ t (max 1 (pcN t.length c) - 1)).map eP)) := fun z => by
      rw [show ((max 1 (pcN t.length c) : Nat) : Int) - 1 = ((max 1 (pcN t.length c) - 1 : Nat) : Int) by omega]
      exact h_thinned.D t (max 1 (pcN t.length c) - 1) ht (by omega) (by omega)
    have z1 : (((thZ t (max 1 (pcN t.length c))).map eP).length : Int) ≤ (c : Nat) := by rw [List.length_map, th_len]; omega
    have z2 : 1 < max 1 (pcN t.length c) → ((c : Nat) : Int) < (((thZ t (max 1 (pcN t.length c) - 1)).map eP).length : Int) := fun z => by rw [List.length_map, th_len]; have := q2 z; omega
    generalize (thZ t (max 1 (pcN t.length c))).map eP = A1 at e1 z1
    generalize (thZ t (max 1 (pcN t.length c) - 1)).map eP = A2 at e2 z2
    generalize max 1 (pcN t.length c) = L at e1 e2 z1 z2 ⊢
    have g1 : ¬ ((c : Nat) : Int) < (A1.length : Int) := by omega
    refine (stp_if0 (by simp (disch := first | assumption | omega | (simp; done) | (simp; omega)) only [getV_0, getV_s, setV_0, setV_s, ev_var, ev_cn, ev_gl, ev_bin, ev_neg, ev_inv, ev_an, ev_or, ev_cmp, ev_chn, ev_ch3, ev_ite, ev_tup, ev_lst, ev_ix, ev_sl, ev_rv, ev_call, ev_bl, ev_isi, ev_mt, recv_sset, recv_count, recv_index, recv_countT, recv_indexT, recv_join, recv_split, ev_lc, ev_lit, ev_sel, ev_dg, evan_1, evan_2, evor_1, evor_2, evs_nil, evs_cons, evo_non, evo_som, evc_non, evc_som, evi_ov, evi_rg, evi_en, evi_zp, rn_nil, rn_cons, rn1_setf, rn1_sett, trR_rt, trR_nx, ownK_list, rn1_own, rn1_unp, rn1_par, rn1_appf, rn1_appt, rn1_ret, rn1_retn, rn1_ifs, rn1_fr, rn1_wh, rn1_rs, rn1_tr, rn1_ex, rn1_skip, forR_nil, forR_cons, bindT_nm, bindT_tp, setAll_nil, setAll_cons, listV_0, listV_s, Cn_int, Cn_str, Cn_bl, Cn_non, Gc_cn, Gc_ws, someR_s, boolD_b, negD_i, add_i, sub_i, lt_i, le_i, gt_i, ge_i, tup_fit, len_l, len_t, abs_i, max_i, min_i, list_l, list_t, tuple_l, tuple_t, seqOf_l, seqOf_t, partD_n, partD_i, slD_l, slD_t, rvD_l, rvD_t, intsOf_ints, eq_i, ne_i, eq_ti, ne_ti, eq_li, ne_li, eq_ti0, ne_ti0, eq_li0, ne_li0, eq_l00, ne_l00, eq_t00, ne_t00, isNumD_i, res_rt, res_nx, res_xc, rg1, rg2, cutL_map, boolsOf_bools, isi_ii, isi_ib, isi_tt, isi_ll, ix_0t, ix_0l, ix_1t, ix_1l, ix_2t', ix_2l', ix_3t', ix_3l', ix_4t', ix_4l', ix_5t', ix_5l', ix_6t', ix_6l', int_b, flat_int, Res.ok_bind, Res.exc_bind, Res.stuck_bind, Res.fl_ok, Res.fl_exc, Res.fl_stuck, Fl.thn_nx, Fl.thn_rt, Fl.thn_xc, Fl.thn_stuck, calm_ok, if_true, if_false, ite_true, ite_false, decide_true, decide_false, Bool.not_true, Bool.not_false, Bool.false_eq_true, List.map_cons, List.map_nil, List.length_map, List.length_cons, List.length_nil, eq_self, reduceIte, List.replicate, List.append_nil, List.cons_append, List.nil_append, e1, g1])).trans ?_
    refine (stp_if0 ?_).trans ?_
    · by_cases z : 1 < L
      · have e2 := e2 z
        have g : ¬ ((A2.length : Int) ≤ ((c : Nat) : Int)) := by have := z2 z; omega
        have z' : (1 : Int) < (L : Nat) := by omega
        generalize ((L : Nat) : Int) = LL at e2 z'
        simp (disch := first | assumption | omega | (simp; done) | (simp; omega)) only [getV_0, getV_s, setV_0, setV_s, ev_var, ev_cn, ev_gl, ev_bin, ev_neg, ev_inv, ev_an, ev_or, ev_cmp, ev_chn, ev_ch3, ev_ite, ev_tup, ev_lst, ev_ix, ev_sl, ev_rv, ev_call, ev_bl, ev_isi, ev_mt, recv_sset, recv_count, recv_index, recv_countT, recv_indexT, recv_join, recv_split, ev_lc, ev_lit, ev_sel, ev_dg, evan_1, evan_2, evor_1, evor_2, evs_nil, evs_cons, evo_non, evo_som, evc_non, evc_som, evi_ov, evi_rg, evi_en, evi_zp, rn_nil, rn_cons, rn1_setf, rn1_sett, trR_rt, trR_nx, ownK_list, rn1_own, rn1_unp, rn1_par, rn1_appf, rn1_appt, rn1_ret, rn1_retn, rn1_ifs, rn1_fr, rn1_wh, rn1_rs, rn1_tr, rn1_ex, rn1_skip, forR_nil, forR_cons, bindT_nm, bindT_tp, setAll_nil, setAll_cons, listV_0, listV_s, Cn_int, Cn_str, Cn_bl, Cn_non, Gc_cn, Gc_ws, someR_s, boolD_b, negD_i, add_i, sub_i, lt_i, le_i, gt_i, ge_i, tup_fit, len_l, len_t, abs_i, max_i, min_i, list_l, list_t, tuple_l, tuple_t, seqOf_l, seqOf_t, partD_n, partD_i, slD_l, slD_t, rvD_l, rvD_t, intsOf_ints, eq_i, ne_i, eq_ti, ne_ti, eq_li, ne_li, eq_ti0, ne_ti0, eq_li0, ne_li0, eq_l00, ne_l00, eq_t00, ne_t00, isNumD_i, res_rt, res_nx, res_xc, rg1, rg2, cutL_map, boolsOf_bools, isi_ii, isi_ib, isi_tt, isi_ll, ix_0t, ix_0l, ix_1t, ix_1l, ix_2t', ix_2l', ix_3t', ix_3l', ix_4t', ix_4l', ix_5t', ix_5l', ix_6t', ix_6l', int_b, flat_int, Res.ok_bind, Res.exc_bind, Res.stuck_bind, Res.fl_ok, Res.fl_exc, Res.fl_stuck, Fl.thn_nx, Fl.thn_rt, Fl.thn_xc, Fl.thn_stuck, calm_ok, if_true, if_false, ite_true, ite_false, decide_true, decide_false, Bool.not_true, Bool.not_false, Bool.false_eq_true, List.map_cons, List.map_nil, List.length_map, List.length_cons, List.length_nil, eq_self, reduceIte, List.replicate, List.append_nil, List.cons_append, List.nil_append, e2, g, z']
      · have z' : ¬ (1 : Int) < (L : Nat) := by omega
        simp (disch := first | assumption | omega | (simp; done) | (simp; omega)) only [getV_0, getV_s, setV_0, setV_s, ev_var, ev_cn, ev_gl, ev_bin, ev_neg, ev_inv, ev_an, ev_or, ev_cmp, ev_chn, ev_ch3, ev_ite, ev_tup, ev_lst, ev_ix, ev_sl, ev_rv, ev_call, ev_bl, ev_isi, ev_mt, recv_sset, recv_count, recv_index, recv_countT, recv_indexT, recv_join, recv_split, ev_lc, ev_lit, ev_sel, ev_dg, evan_1, evan_2, evor_1, evor_2, evs_nil, evs_cons, evo_non, evo_som, evc_non, evc_som, evi_ov, evi_rg, evi_en, evi_zp, rn_nil, rn_cons, rn1_setf, rn1_sett, trR_rt, trR_nx, ownK_list, rn1_own, rn1_unp, rn1_par, rn1_appf, rn1_appt, rn1_ret, rn1_retn, rn1_ifs, rn1_fr, rn1_wh, rn1_rs, rn1_tr, rn1_ex, rn1_skip, forR_nil, forR_cons, bindT_nm, bindT_tp, setAll_nil, setAll_cons, listV_0, listV_s, Cn_int, Cn_str, Cn_bl, Cn_non, Gc_cn, Gc_ws, someR_s, boolD_b, negD_i, add_i, sub_i, lt_i, le_i, gt_i, ge_i, tup_fit, len_l, len_t, abs_i, max_i, min_i, list_l, list_t, tuple_l, tuple_t, seqOf_l, seqOf_t, partD_n, partD_i, slD_l, slD_t, rvD_l, rvD_t, intsOf_ints, eq_i, ne_i, eq_ti, ne_ti, eq_li, ne_li, eq_ti0, ne_ti0, eq_li0, ne_li0, eq_l00, ne_l00, eq_t00, ne_t00, isNumD_i, res_rt, res_nx, res_xc, rg1, rg2, cutL_map, boolsOf_bools, isi_ii, isi_ib, isi_tt, isi_ll, ix_0t, ix_0l, ix_1t, ix_1l, ix_2t', ix_2l', ix_3t', ix_3l', ix_4t', ix_4l', ix_5t', ix_5l', ix_6t', ix_6l', int_b, flat_int, Res.ok_bind, Res.exc_bind, Res.stuck_bind, Res.fl_ok, Res.fl_exc, Res.fl_stuck, Fl.thn_nx, Fl.thn_rt, Fl.thn_xc, Fl.thn_stuck, calm_ok, if_true, if_false, ite_true, ite_false, decide_true, decide_false, Bool.not_true, Bool.not_false, Bool.false_eq_true, List.map_cons, List.map_nil, List.length_map, List.length_cons, List.length_nil, eq_self, reduceIte, List.replicate, List.append_nil, List.cons_append, List.nil_append, z']
    rfl
  have hs : ∀ r, rn C hd (.cons (.set 3 false (.call i_thinned (.cons (.var 1) (.cons (.var 2) .nil)))) (.cons (.set 4 false (.call i_kept (.cons (.var 1) (.cons (.var 2) .nil)))) (.cons (.ifs (.or (.cons (.cmp .ne (.bl .len (.cons (.var 3) .nil)) (.bin .div (.bin .sub (.bin .add (.bl .len (.cons (.var 1) .nil)) (.var 2)) (.cn (.int 1))) (.var 2))) (.cons (.cmp .ne (.var 4) (.mt .ssp (.var 4) .nil)) .nil))) (.cons (.ret (.cn (.bl false))) .nil) .nil) (.cons (.fr (.tp [7, 8]) (.en (.var 3)) (b_law_l1 i_part i_span i_peaks)) r)))) [some (.list (intL ns)), some (.tuple (intL t)), some (.int (m : Nat)), o3, o4, o5, o6, o7, o8, o9, o10, o11, o12, o13, o14, o15] = rn C hd r [some (.list (intL ns)), some (.tuple (intL t)), some (.int (m : Nat)), some (.list ((thZ t m).map eP)), some (.list ((kpZ t m).map eP)), o5, o6, o7', o8', o9', o10, o11, o12', o13', o14, o15] := by
    intro r
    refine (stp_set (d := .list ((thZ t m).map eP)) (by simp (disch := first | assumption | omega | (simp; done) | (simp; omega)) only [getV_0, getV_s, setV_0, setV_s, ev_var, ev_cn, ev_gl, ev_bin, ev_neg, ev_inv, ev_an, ev_or, ev_cmp, ev_chn, ev_ch3, ev_ite, ev_tup, ev_lst, ev_ix, ev_sl, ev_rv, ev_call, ev_bl, ev_isi, ev_mt, recv_sset, recv_count, recv_index, recv_countT, recv_indexT, recv_join, recv_split, ev_lc, ev_lit, ev_sel, ev_dg, evan_1, evan_2, evor_1, evor_2, evs_nil, evs_cons, evo_non, evo_som, evc_non, evc_som, evi_ov, evi_rg, evi_en, evi_zp, rn_nil, rn_cons, rn1_setf, rn1_sett, trR_rt, trR_nx, ownK_list, rn1_own, rn1_unp, rn1_par, rn1_appf, rn1_appt, rn1_ret, rn1_retn, rn1_ifs, rn1_fr, rn1_wh, rn1_rs, rn1_tr, rn1_ex, rn1_skip, forR_nil, forR_cons, bindT_nm, bindT_tp, setAll_nil, setAll_cons, listV_0, listV_s, Cn_int, Cn_str, Cn_bl, Cn_non, Gc_cn, Gc_ws, someR_s, boolD_b, negD_i, add_i, sub_i, lt_i, le_i, gt_i, ge_i, tup_fit, len_l, len_t, abs_i, max_i, min_i, list_l, list_t, tuple_l, tuple_t, seqOf_l, seqOf_t, partD_n, partD_i, slD_l, slD_t, rvD_l, rvD_t, intsOf_ints, eq_i, ne_i, eq_ti, ne_ti, eq_li, ne_li, eq_ti0, ne_ti0, eq_li0, ne_li0, eq_l00, ne_l00, eq_t00, ne_t00, isNumD_i, res_rt, res_nx, res_xc, rg1, rg2, cutL_map, boolsOf_bools, isi_ii, isi_ib, isi_tt, isi_ll, ix_0t, ix_0l, ix_1t, ix_1l, ix_2t', ix_2l', ix_3t', ix_3l', ix_4t', ix_4l', ix_5t', ix_5l', ix_6t', ix_6l', int_b, flat_int, Res.ok_bind, Res.exc_bind, Res.stuck_bind, Res.fl_ok, Res.fl_exc, Res.fl_stuck, Fl.thn_nx, Fl.thn_rt, Fl.thn_xc, Fl.thn_stuck, calm_ok, if_true, if_false, ite_true, ite_false, decide_true, decide_false, Bool.not_true, Bool.not_false, Bool.false_eq_true, List.map_cons, List.map_nil, List.length_map, List.length_cons, List.length_nil, eq_self, reduceIte, List.replicate, List.append_nil, List.cons_append, List.nil_append, eT])).trans ?_
    simp only [setV_0, setV_s]
    refine (stp_set (d := .list ((kpZ t m).map eP)) (by
      generalize (thZ t m).map eP = PP
      simp (disch := first | assumption | omega | (simp; done) | (simp; omega)) only [getV_0, getV_s, setV_0, setV_s, ev_var, ev_cn, ev_gl, ev_bin, ev_neg, ev_inv, ev_an, ev_or, ev_cmp, ev_chn, ev_ch3, ev_ite, ev_tup, ev_lst, ev_ix, ev_sl, ev_rv, ev_call, ev_bl, ev_isi, ev_mt, recv_sset, recv_count, recv_index, recv_countT, recv_indexT, recv_join, recv_split, ev_lc, ev_lit, ev_sel, ev_dg, evan_1, evan_2, evor_1, evor_2, evs_nil, evs_cons, evo_non, evo_som, evc_non, evc_som, evi_ov, evi_rg, evi_en, evi_zp, rn_nil, rn_cons, rn1_setf, rn1_sett, trR_rt, trR_nx, ownK_list, rn1_own, rn1_unp, rn1_par, rn1_appf, rn1_appt, rn1_ret, rn1_retn, rn1_ifs, rn1_fr, rn1_wh, rn1_rs, rn1_tr, rn1_ex, rn1_skip, forR_nil, forR_cons, bindT_nm, bindT_tp, setAll_nil, setAll_cons, listV_0, listV_s, Cn_int, Cn_str, Cn_bl, Cn_non, Gc_cn, Gc_ws, someR_s, boolD_b, negD_i, add_i, sub_i, lt_i, le_i, gt_i, ge_i, tup_fit, len_l, len_t, abs_i, max_i, min_i, list_l, list_t, tuple_l, tuple_t, seqOf_l, seqOf_t, partD_n, partD_i, slD_l, slD_t, rvD_l, rvD_t, intsOf_ints, eq_i, ne_i, eq_ti, ne_ti, eq_li, ne_li, eq_ti0, ne_ti0, eq_li0, ne_li0, eq_l00, ne_l00, eq_t00, ne_t00, isNumD_i, res_rt, res_nx, res_xc, rg1, rg2, cutL_map, boolsOf_bools, isi_ii, isi_ib, isi_tt, isi_ll, ix_0t, ix_0l, ix_1t, ix_1l, ix_2t', ix_2l', ix_3t', ix_3l', ix_4t', ix_4l', ix_5t', ix_5l', ix_6t', ix_6l', int_b, flat_int, Res.ok_bind, Res.exc_bind, Res.stuck_bind, Res.fl_ok, Res.fl_exc, Res.fl_stuck, Fl.thn_nx, Fl.thn_rt, Fl.thn_xc, Fl.thn_stuck, calm_ok, if_true, if_false, ite_true, ite_false, decide_true, decide_false, Bool.not_true, Bool.not_false, Bool.false_eq_true, List.map_cons, List.map_nil, List.length_map, List.length_cons, List.length_nil, eq_self, reduceIte, List.replicate, List.append_nil, List.cons_append, List.nil_append, eK])).trans ?_
    simp only [setV_0, setV_s]
    refine (stp_if0 (or_ff (ev_cmp2 (x := .int (pcN t.length m : Nat)) (y := .int (pcN t.length m : Nat)) ?_ ?_ ((gd_int _).ne (by omega))) (ev_cmp2 (x := .list ((kpZ t m).map eP)) (y := .list ((kpZ t m).map eP)) rfl ?_ (gd_enc' encP (by omega) _)))).trans ?_
    · rw [← th]
      have : ((thZ t m).map eP).length = (thZ t m).length := List.length_map ..
      rw [← this]
      generalize (thZ t m).map eP = PP
      rfl
    · generalize (thZ t m).map eP = PP
      generalize (kpZ t m).map eP = KK
      refine bin2 (K := C) (x := .int ((t.length : Int) + (m : Int) - 1)) ?_ rfl d1
      simp (disch := first | assumption | omega | (simp; done) | (simp; omega)) only [getV_0, getV_s, setV_0, setV_s, ev_var, ev_cn, ev_gl, ev_bin, ev_neg, ev_inv, ev_an, ev_or, ev_cmp, ev_chn, ev_ch3, ev_ite, ev_tup, ev_lst, ev_ix, ev_sl, ev_rv, ev_call, ev_bl, ev_isi, ev_mt, recv_sset, recv_count, recv_index, recv_countT, recv_indexT, recv_join, recv_split, ev_lc, ev_lit, ev_sel, ev_dg, evan_1, evan_2, evor_1, evor_2, evs_nil, evs_cons, evo_non, evo_som, evc_non, evc_som, evi_ov, evi_rg, evi_en, evi_zp, rn_nil, rn_cons, rn1_setf, rn1_sett, trR_rt, trR_nx, ownK_list, rn1_own, rn1_unp, rn1_par, rn1_appf, rn1_appt, rn1_ret, rn1_retn, rn1_ifs, rn1_fr, rn1_wh, rn1_rs, rn1_tr, rn1_ex, rn1_skip, forR_nil, forR_cons, bindT_nm, bindT_tp, setAll_nil, setAll_cons, listV_0, listV_s, Cn_int, Cn_str, Cn_bl, Cn_non, Gc_cn, Gc_ws, someR_s, boolD_b, negD_i, add_i, sub_i, lt_i, le_i, gt_i, ge_i, tup_fit, len_l, len_t, abs_i, max_i, min_i, list_l, list_t, tuple_l, tuple_t, seqOf_l, seqOf_t, partD_n, partD_i, slD_l, slD_t, rvD_l, rvD_t, intsOf_ints, eq_i, ne_i, eq_ti, ne_ti, eq_li, ne_li, eq_ti0, ne_ti0, eq_li0, ne_li0, eq_l00, ne_l00, eq_t00, ne_t00, isNumD_i, res_rt, res_nx, res_xc, rg1, rg2, cutL_map, boolsOf_bools, isi_ii, isi_ib, isi_tt, isi_ll, ix_0t, ix_0l, ix_1t, ix_1l, ix_2t', ix_2l', ix_3t', ix_3l', ix_4t', ix_4l', ix_5t', ix_5l', ix_6t', ix_6l', int_b, flat_int, Res.ok_bind, Res.exc_bind, Res.stuck_bind, Res.fl_ok, Res.fl_exc, Res.fl_stuck, Fl.thn_nx, Fl.thn_rt, Fl.thn_xc, Fl.thn_stuck, calm_ok, if_true, if_false, ite_true, ite_false, decide_true, decide_false, Bool.not_true, Bool.not_false, Bool.false_eq_true, List.map_cons, List.map_nil, List.length_map, List.length_cons, List.length_nil, eq_self, reduceIte, List.replicate, List.append_nil, List.cons_append, List.nil_append, List.length_map]
    · exact eZ
    exact stp_for (ds := enumL 0 ((thZ t m).map eP)) rfl hf
  by_cases hn : t = []
  · obtain ⟨q3, q4, q5, q6, q7, q8, q9, q10, q11, q12, q13, q14, q15, h⟩ := fin (some (.list ((thZ t m).map eP))) (some (.list ((kpZ t m).map eP))) (o5) (o6) (o7') (o8') (o9') (o10) (o11) (o12') (o13') (o14) (o15)
    refine ⟨q3, q4, q5, q6, q7, q8, q9, q10, q11, q12, q13, q14, q15, ?_⟩
    unfold b_law_l3
    refine (hs _).trans ?_
    refine (stp_if0 (ev_cmp2 (x := .tuple []) (y := .tuple []) ?_ rfl ne_t00)).trans h
    rw [hn]; rfl
  · obtain ⟨p10, p11, h2⟩ := loop2 ns t m none none o5 o6 o7' o8' o9' o10 o11 o12' o13' o14 o15 ht hm hm2 hn
    obtain ⟨q3, q4, q5, q6, q7, q8, q9, q10, q11, q12, q13, q14, q15, h⟩ := fin (some (.list ((thZ t m).map eP))) (some (.list ((kpZ t m).map eP))) (o5) (o6) (o7') (o8') (o9') (p10) (p11) (o12') (o13') (o14) (o15)
    refine ⟨q3, q4, q5, q6, q7, q8, q9, q10, q11, q12, q13, q14, q15, ?_⟩
    unfold b_law_l3
    refine (hs _).trans ?_
    refine (stp_if1 (ev_cmp2 (x := .tuple (intL t)) (y := .tuple []) rfl rfl ?_)).trans ?_
    · rw [ne_ti0, decide_eq_true hn]
    · rw [h2]; exact h
theorem enum_len2 : ∀ (k : Nat) (xs : List PyData), (enumL k xs).length = xs.length
  | _, [] => rfl
  | k, _ :: r => by simp [enumL, enum_len2 (k + 1) r]
theorem law_ok : Law := by
  intro ns hns
  show runD (callF T 39) (hotF T) d_law [.list (intL ns)] = _
  obtain ⟨t, et, tl, tr⟩ := h__law_track ns 0 30 hns (by omega) (by omega) (by omega) (by omega)
  have ht : Tr t := ⟨by omega, fun x hx => by have := tr x hx; omega⟩
  have l := ht.1
  have eK := h_kept.D t 1 ht (by omega) (by omega)
  rw [kp_one t] at eK
  have hn0 : cmpD .ne (.list (enumL 0 (intL t))) (.list (enumL 0 (intL t))) = .ok (.bool false) := by
    rw [← kp_one t]
    exact gd_enc' encP (by omega) _
  refine runD_ok (C := callF T 39) (Hd := hotF T) (d := d_law) rfl ?_
  show rn C hd b_law [some (.list (intL ns)), none, none, none, none, none, none, none, none, none, none, none, none, none, none, none] = _
  unfold b_law
  refine (stp_set (d := .tuple (intL t)) (by simp (disch := first | assumption | omega | (simp; done) | (simp; omega)) only [getV_0, getV_s, setV_0, setV_s, ev_var, ev_cn, ev_gl, ev_bin, ev_neg, ev_inv, ev_an, ev_or, ev_cmp, ev_chn, ev_ch3, ev_ite, ev_tup, ev_lst, ev_ix, ev_sl, ev_rv, ev_call, ev_bl, ev_isi, ev_mt, recv_sset, recv_count, recv_index, recv_countT, recv_indexT, recv_join, recv_split, ev_lc, ev_lit, ev_sel, ev_dg, evan_1, evan_2, evor_1, evor_2, evs_nil, evs_cons, evo_non, evo_som, evc_non, evc_som, evi_ov, evi_rg, evi_en, evi_zp, rn_nil, rn_cons, rn1_setf, rn1_sett, trR_rt, trR_nx, ownK_list, rn1_own, rn1_unp, rn1_par, rn1_appf, rn1_appt, rn1_ret, rn1_retn, rn1_ifs, rn1_fr, rn1_wh, rn1_rs, rn1_tr, rn1_ex, rn1_skip, forR_nil, forR_cons, bindT_nm, bindT_tp, setAll_nil, setAll_cons, listV_0, listV_s, Cn_int, Cn_str, Cn_bl, Cn_non, Gc_cn, Gc_ws, someR_s, boolD_b, negD_i, add_i, sub_i, lt_i, le_i, gt_i, ge_i, tup_fit, len_l, len_t, abs_i, max_i, min_i, list_l, list_t, tuple_l, tuple_t, seqOf_l, seqOf_t, partD_n, partD_i, slD_l, slD_t, rvD_l, rvD_t, intsOf_ints, eq_i, ne_i, eq_ti, ne_ti, eq_li, ne_li, eq_ti0, ne_ti0, eq_li0, ne_li0, eq_l00, ne_l00, eq_t00, ne_t00, isNumD_i, res_rt, res_nx, res_xc, rg1, rg2, cutL_map, boolsOf_bools, isi_ii, isi_ib, isi_tt, isi_ll, ix_0t, ix_0l, ix_1t, ix_1l, ix_2t', ix_2l', ix_3t', ix_3l', ix_4t', ix_4l', ix_5t', ix_5l', ix_6t', ix_6l', int_b, flat_int, Res.ok_bind, Res.exc_bind, Res.stuck_bind, Res.fl_ok, Res.fl_exc, Res.fl_stuck, Fl.thn_nx, Fl.thn_rt, Fl.thn_xc, Fl.thn_stuck, calm_ok, if_true, if_false, ite_true, ite_false, decide_true, decide_false, Bool.not_true, Bool.not_false, Bool.false_eq_true, List.map_cons, List.map_nil, List.length_map, List.length_cons, List.length_nil, eq_self, reduceIte, List.replicate, List.append_nil, List.cons_append, List.nil_append, et])).trans ?_
  simp only [setV_0, setV_s]
  refine (stp_if0 (ev_cmp2 (x := .list (enumL 0 (intL t))) (y := .list (enumL 0 (intL t))) ?_ ?_ hn0)).trans ?_
  · exact eK
  · have : guardR (fitsL (enumL 0 (intL t)).length) (.list (enumL 0 (intL t))) = .ok (.list (enumL 0 (intL t))) := tup_fit _ _ (by rw [enum_len2, List.length_map]; omega)
    exact this
  obtain ⟨env1, hf, k, o3, o4, o5, o6, o7, o8, o9, o10, o11, o12, o13, o14, o15, rfl⟩ := forR_inv (e := fun k : Nat => PyData.int (k : Nat)) (t := .nm 2) (b := rn C hd (b_law_l3 i_thinned i_kept i_part i_span i_peaks i__law_drawn i_least_many)) (fun _ env => ∃ (k : Option PyData) (o3 o4 o5 o6 o7 o8 o9 o10 o11 o12 o13 o14 o15 : Option PyData), env = [some (.list (intL ns)), some (.tuple (intL t)), k, o3, o4, o5, o6, o7, o8, o9, o10, o11, o12, o13, o14, o15]) [1, 2, 3, 7, 30, 60] [] [some (.list (intL ns)), some (.tuple (intL t)), none, none, none, none, none, none, none, none, none, none, none, none, none, none] ⟨_, _, _, _, _, _, _, _, _, _, _, _, _, _, rfl⟩ (by
    rintro d m r env hx ⟨k, o3, o4, o5, o6, o7, o8, o9, o10, o11, o12, o13, o14, o15, rfl⟩
    have hm : m ∈ [1, 2, 3, 7, 30, 60] := by rw [hx]; simp
    have hm : 0 < m ∧ m ≤ 60 := by
      simp only [List.mem_cons, List.not_mem_nil, or_false] at hm
      omega
    obtain ⟨p3, p4, p5, p6, p7, p8, p9, p10, p11, p12, p13, p14, p15, h⟩ := loop3 ns t hns m o3 o4 o5 o6 o7 o8 o9 o10 o11 o12 o13 o14 o15 ht hm.1 hm.2
    exact ⟨_, _, rfl, h, _, _, _, _, _, _, _, _, _, _, _, _, _, _, rfl⟩)
  refine (stp_for (ds := [.int 1, .int 2, .int 3, .int 7, .int 30, .int 60]) rfl hf).trans ?_
  exact stp_ret rfl
end L

namespace L
open PySem PySem.Spec PyProof.Rows L2 Z
theorem ck : (fs.all fun f => f.chk G cs) = true := by kernel_rfl
theorem bi : AllB (fs.map Fd.sd) := ⟨fun _ _ _ _ _ _ us hl => match us, hl with | [_, _], _ => rfl, fun _ _ _ _ _ _ us hl => match us, hl with | [_, _, _], _ => rfl, fun _ _ _ _ _ _ us hl => match us, hl with | [_, _, _], _ => rfl, fun _ _ _ _ _ _ us hl => match us, hl with | [_, _, _], _ => rfl, fun _ _ _ _ _ _ us hl => match us, hl with | [_], _ => rfl, fun _ _ _ _ _ _ us hl => match us, hl with | [_], _ => rfl, fun _ _ _ _ _ _ us hl => match us, hl with | [_], _ => rfl, fun _ _ _ _ _ _ us hl => match us, hl with | [_], _ => rfl, fun _ _ _ _ _ _ us hl => match us, hl with | [_, _, _], _ => rfl, fun _ _ _ _ _ _ us hl => match us, hl with | [_, _], _ => rfl, fun _ _ _ _ _ _ us hl => match us, hl with | [_, _], _ => rfl, fun _ _ _ _ _ _ us hl => match us, hl with | [_, _], _ => rfl, fun _ _ _ _ _ _ us hl => match us, hl with | [_, _], _ => rfl, fun _ _ _ _ _ _ us hl => match us, hl with | [_], _ => rfl, fun _ _ _ _ _ _ us hl => match us, hl with | [_], _ => rfl, trivial⟩
theorem hc : (hs.all fun f => f.chk G) = true := by kernel_rfl
theorem hb : AllH hs := trivial
theorem hn : hotsB G hs := fun i y h e ne => by
  match i, e with
  | n + 0, e => cases e
def fa : List He.Fa := mkFa (fs.map Fd.sd) hs G cs
def fn : List He.DefD := mkFn (fs.map Fd.sd) hs
abbrev R : PySem.W.OpenRow := PySem.W.OpenLaw.row PySem.Challenge.rw_signcatches_k32_whole_kept
abbrev hk : PySem.W.Hook := hookZ 4 fa fn G
def ob (s : PySem.W.SharedT) : AlZ := obsZG 4 fa fn G (HandSHeadRun.getT s)
theorem ob_eq (s : PySem.W.SharedT) : ob s = hk.obs s.abs := obsZG_eq (HandSHeadRun.getT_eq s)
def loose : List Str := (["__name__", "CatchError", "NoTrack", "NoNumber", "NoPlace", "MOST_SAMPLES", "MOST_WORTH", "is_number", "is_sample", "is_track", "need_track", "span", "need_many", "thinned", "least_many", "peaks", "kept", "part", "_law_cell", "_law_drawn", "_law_track"] : List Str)
theorem run (w : World) : HandSHeadRun.RunEq R (PySem.W.view R.prog [25]) hk ob 4000 loose w := by
  intro os
  kernel_rfl
end L
open PySem PySem.W PySem.Calls PyProof.Rows
theorem L.holds (law : L.Law) : PySem.Challenge.rw_signcatches_k32_whole_kept.Holds := by
  w_on; o_law
  refine HandSHeadRun.head_any (r := OpenLaw.row PySem.Challenge.rw_signcatches_k32_whole_kept) (q := view (OpenLaw.row PySem.Challenge.rw_signcatches_k32_whole_kept).prog [25]) (H := L.hk) (ob := L.ob) (M := 4000) (loose := L.loose) (d := HandSHeadRun.topDef (OpenLaw.row PySem.Challenge.rw_signcatches_k32_whole_kept).prog 25) (kwd := []) L.ob_eq
    (by kernel_rfl) (fun s => by kernel_rfl) L.run (by kernel_rfl) (by kernel_rfl) (by kernel_rfl) (by rfl) (by first | assumption | decide +kernel) (by decide +kernel) ⟨rfl, rfl, rfl, rfl, rfl, by decide +kernel⟩ ?hw ?hc
  case hw => w_witness2
  case hc =>
    refine L2.walk_ofE (l := PySem.Challenge.rw_signcatches_k32_whole_kept) (n := 63) (k := L.depth + 1) (x := "script") (CX := L2.CX0) rfl (by decide) (by kernel_rfl) ⟨rfl, by decide, by decide⟩ ?F (fun _ _ _ _ z => z)
    intro w mg fa h Y G hmg0
    obtain ⟨K, KX, c⟩ := Y
    have hmg : mg ("law" : PySem.Str) = some (.ref fa) := by
      have e : (HandSHeadRun.topDef (OpenLaw.row PySem.Challenge.rw_signcatches_k32_whole_kept).prog 25).name = ("law" : PySem.Str) := by kernel_rfl
      rw [← e]
      exact hmg0
    obtain ⟨fd, sp, hb, hs, hF⟩ := Z.facts_of (P := (PySem.Challenge.rw_signcatches_k32_whole_kept).prog) (w := w) (L := L.f_law) (i := L.i_law) (n := L.depth) (M := 63) KX G c rfl L.ck rfl L.bi L.hc L.hb L.hn rfl rfl hmg rfl law
    exact ⟨K, fd, sp, KX, hb, hs, hF⟩
theorem PySem.Challenge.cw_signcatches_k32_whole_kept_holds : PySem.Challenge.rw_signcatches_k32_whole_kept.Holds := by
  exact L.holds L.law_ok
