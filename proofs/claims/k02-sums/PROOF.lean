import PyProof.Rows.All
import Wide.All
import OpenK.AllK
import Wide.FinOn
import HandS.ForMost
import HandS.TupLe
import PyProof.ReprRoads
import HandS.Wide
import HandS.Style
import HandS.IsInst
import HandS.Deep
import HandS.Exc
import HandS.ExcOwn
import HandS.WordsExc
import HandS.ExcCtx
import HandS.HotCalls
import HandS.Flow
import HandS.RaiseMore
import HandS.TupMul
import HandS.TupAny
import HandS.TryOnly
import HandS.More
import HandS.Iter
import HandS.Zip
import KE.GoesNew
import KE.GoesMore
import KE.GoesEnum
import HandS.Comp
import HandS.Defaults
import HandS.Rev
import HandS.Conv
import HandS.Dict
import HandS.SetFor
import HandS.Strs
import HandS.SortInts
import KE.KDictZip
import HandS.MapObj
import HandS.ExcValue
import HandS.HeadHook1
import HandS.ExcIs
import KE.KExcIs
import HandS.Ends
import HandS.Head0
import HandS.Head1
import HandS.Head2
import HandS.HeadEnd
import HandS.HeadHook2
import PyProof.ReprLen
import KE.KStateDown
import PySem.Challenge.RW_leaststretch_k02_sums
set_option Elab.async false
set_option linter.all false
set_option maxRecDepth 100000
set_option maxHeartbeats 4000000
/-! TrA: trees, the small language IR and what it means. Plain Lean. -/
namespace Tr
open PySem

/-- data -/
abbrev D := PyData
/-- what a name holds: data that stays, or a list of its own that may change -/
inductive O where
  | frz (d : D)
  | box (l : List O)
  /-- the script itself: read by places, cut, never more -/
  | scr (l : List Int)
  deriving Inhabited
mutual
def O.fz : O → D
  | .frz d => d
  | .box l => .list (fzs l)
  | .scr _ => .none
def fzs : List O → List D
  | [] => []
  | o :: l => o.fz :: fzs l
end
mutual
/-- no script within -/
def O.clean : O → Bool
  | .frz _ => true
  | .box l => cleans l
  | .scr _ => false
def cleans : List O → Bool
  | [] => true
  | o :: l => o.clean && cleans l
end
theorem fzs_eq : ∀ l : List O, fzs l = l.map O.fz
  | [] => rfl
  | o :: l => by simp only [fzs, List.map_cons, fzs_eq l]
abbrev Env := List (Option O)
/-- an own error: its class's name, its fields -/
structure Ex where
  cls : Str
  flds : List (Str × D)
inductive R (α : Type) where
  | ok (a : α) (ρ : Env)
  | exc (x : Ex) (ρ : Env)
  | bad
def R.bind {α β : Type} (r : R α) (f : α → Env → R β) : R β := match r with
  | .ok a ρ => f a ρ
  | .exc x ρ => .exc x ρ
  | .bad => .bad
@[simp] theorem R.bind_ok {α β : Type} (a : α) (ρ : Env) (f : α → Env → R β) : (R.ok a ρ).bind f = f a ρ := rfl
@[simp] theorem R.bind_exc {α β : Type} (x : Ex) (ρ : Env) (f : α → Env → R β) : (R.exc x ρ).bind f = .exc x ρ := rfl
/-- no error comes through -/
def R.calm {α : Type} (r : R α) : R α := match r with
  | .exc _ _ => .bad
  | r => r
@[simp] theorem R.calm_ok {α : Type} (a : α) (ρ : Env) : (R.ok a ρ).calm = .ok a ρ := rfl
@[simp] theorem R.calm_bad {α : Type} : (R.bad : R α).calm = .bad := rfl
@[simp] theorem R.bind_bad {α β : Type} (f : α → Env → R β) : (R.bad : R α).bind f = .bad := rfl
def R.of {α : Type} (o : Option α) (ρ : Env) : R α := match o with
  | some a => .ok a ρ
  | none => .bad
@[simp] theorem R.of_some {α : Type} (a : α) (ρ : Env) : R.of (some a) ρ = .ok a ρ := rfl
@[simp] theorem R.of_none {α : Type} (ρ : Env) : R.of (none : Option α) ρ = .bad := rfl
inductive Fl where
  | nx | brk | ct
  | ret (o : O)
/-- a def's answer: the value, what its by-name parameters hold behind it -/
inductive FR where
  | ok (o : O) (refs : Env)
  | exc (x : Ex) (refs : Env)
  | bad
/-- a def: which parameters go by name, what it answers -/
structure Fn where
  modes : List Bool
  run : List O → FR
structure Tab where
  fn : List Fn
  gl : List D

/-! ### operations on data -/
def line : Nat := 16777216
def truD : D → Option Bool
  | .none => some false
  | .bool b => some b
  | .int i => some (i != 0)
  | .str x => if x.length ≤ line then some ((x.length : Int) != 0) else none
  | .list l => some (!l.isEmpty)
  | .tuple l => some (!l.isEmpty)
  | .dict _ => none
inductive BOp where
  | sub | fdiv | mod | pow | shl | shr | band
  deriving DecidableEq
inductive COp where
  | eq | ne | lt | le | gt | ge | mem | nmem
  deriving DecidableEq
inductive B1 where
  | abs | int | bool | str | tuple | len | sum | all | any | max | min | repr
  deriving DecidableEq
inductive B2 where
  | max | min
  deriving DecidableEq
def addO : D → D → Option O
  | .int i, .int j => some (.frz (.int (i + j)))
  | .str x, .str y => if x.length + y.length ≤ line then some (.frz (.str (x ++ y))) else none
  | .tuple l, .tuple m => if l.length + m.length ≤ line then some (.frz (.tuple (l ++ m))) else none
  | .list l, .list m => if l.length + m.length ≤ line then some (.box ((l ++ m).map .frz)) else none
  | _, _ => none
def mulO : D → D → Option O
  | .int i, .int j => if i.natAbs.log2 + j.natAbs.log2 < 1000000 then some (.frz (.int (i * j))) else none
  | .list l, .int k => if k < 2 ^ 63 ∧ -(2 ^ 63) ≤ k ∧ l.length * k.toNat ≤ line then some (.box ((List.replicate k.toNat l).flatten.map .frz)) else none
  | .tuple l, .int k => if (((l = [] ∨ k ≤ 1) ∧ -(2 ^ 63) ≤ k ∧ k < 2 ^ 63) ∨ (l ≠ [] ∧ 2 ≤ k ∧ k ≤ 1000 ∧ l.length ≤ 1000)) then some (.frz (.tuple (List.replicate k.toNat l).flatten)) else none
  | _, _ => none
def opD : BOp → D → D → Option D
  | .sub, .int i, .int j => some (.int (i - j))
  | .fdiv, .int i, .int j => if j ≠ 0 ∧ j.natAbs.log2 < 9000 then some (.int (i.fdiv j)) else none
  | .mod, .int i, .int j => if j ≠ 0 then some (.int (i.fmod j)) else none
  | .pow, .int i, .int j => if 0 ≤ j ∧ j ≤ 1000000 ∧ i.natAbs < 2 ^ 64 then some (.int (i ^ j.toNat)) else none
  | .shl, .int i, .int j => if 0 ≤ j ∧ j ≤ 1000000 ∧ i.natAbs < 2 ^ 64 then some (.int (i * 2 ^ j.toNat)) else none
  | .shr, .int i, .int j => if 0 ≤ j then some (.int (i / 2 ^ j.toNat)) else none
  | .band, .int i, .int j => some (.int (Builtin.bitAnd i j))
  | _, _, _ => none
def negD : D → Option D
  | .int i => some (.int (-i))
  | _ => none
def notD (d : D) : Option D := (truD d).map fun b => .bool (!b)
/-- == may be asked -/
def eqOk (d e : D) : Bool := d.canLay0 && e.canLay0 && (decide (d.depth ≤ 64) || decide (e.depth ≤ 64))
def intsD : List D → Option (List Int)
  | [] => some []
  | .int i :: l => (intsD l).map fun r => i :: r
  | _ :: _ => none
def itemsD : D → Option (List D)
  | .list l => some l
  | .tuple l => some l
  | _ => none
def ltD : D → D → Option Bool
  | .int i, .int j => some (decide (i < j))
  | .str x, .str y => some (decide (x.cps.toList < y.cps.toList))
  | .tuple l, .tuple m => match intsD l, intsD m with
    | some a, some b => some (HT.lexLt a b)
    | _, _ => none
  | _, _ => none
def gtD : D → D → Option Bool
  | .int i, .int j => some (decide (j < i))
  | .str x, .str y => some (decide (y.cps.toList < x.cps.toList))
  | _, _ => none
def leD : D → D → Option Bool
  | .int i, .int j => some (decide (i ≤ j))
  | .tuple l, .tuple m => match intsD l, intsD m with
    | some a, some b => some (L2.lexLeI a b)
    | _, _ => none
  | _, _ => none
def geD : D → D → Option Bool
  | .int i, .int j => some (decide (j ≤ i))
  | _, _ => none
def memD (d : D) (ds : List D) : Bool := ds.any fun z => PyData.eqv z d
def memOk (d : D) (ds : List D) : Bool := SeqAt.shaped d && SeqAt.shaped (.list ds)
/-- == needs no look into the items: two texts, two lists of unlike lengths -/
def strs2 : D → D → Bool
  | .str _, .str _ => true
  | .list l, .list m => l.length != m.length
  | _, _ => false
def cmpD : COp → D → D → Option D
  | .eq, d, e => if strs2 d e || eqOk d e then some (.bool (PyData.eqv d e)) else none
  | .ne, d, e => if strs2 d e || eqOk d e then some (.bool (!PyData.eqv d e)) else none
  | .lt, d, e => (ltD d e).map .bool
  | .gt, d, e => (gtD d e).map .bool
  | .le, d, e => (leD d e).map .bool
  | .ge, d, e => (geD d e).map .bool
  | .mem, d, e => match itemsD e with
    | some l => if memOk d l then some (.bool (memD d l)) else none
    | none => none
  | .nmem, d, e => match itemsD e with
    | some l => if memOk d l then some (.bool (!memD d l)) else none
    | none => none
def boolsD : List D → Option (List Bool)
  | [] => some []
  | .bool b :: l => (boolsD l).map fun r => b :: r
  | _ :: _ => none
def maxL : Int → List Int → Int
  | m, [] => m
  | m, x :: l => maxL (if x > m then x else m) l
def minL : Int → List Int → Int
  | m, [] => m
  | m, x :: l => minL (if x < m then x else m) l
/-- its text may be asked for -/
def shownOk (d : D) : Bool := d.showable && decide (d.depth ≤ 60) && decide (d.shown.length ≤ line)
def b1D : B1 → D → Option D
  | .abs, .int i => some (.int (if i < 0 then -i else i))
  | .int, .int i => some (.int i)
  | .int, .bool b => some (.int (if b then 1 else 0))
  | .bool, .int i => some (.bool (i != 0))
  | .bool, .bool b => some (.bool b)
  | .str, .int i => if i.natAbs.log2 < 1920 then some (.str (toString i)) else none
  | .str, .str x => some (.str x)
  | .str, d => if shownOk d then some (.str d.shown) else none
  | .repr, d => if shownOk d then some (.str d.shown) else none
  | .tuple, .list l => some (.tuple l)
  | .tuple, .tuple l => some (.tuple l)
  | .len, .list l => some (.int l.length)
  | .len, .tuple l => some (.int l.length)
  | .len, .str x => if x.length ≤ line then some (.int x.length) else none
  | .sum, .list l => (intsD l).map fun r => .int r.sum
  | .all, .list l => (boolsD l).map fun r => .bool (r.all id)
  | .any, .list l => (boolsD l).map fun r => .bool (r.any id)
  | .max, .list l => match intsD l with
    | some (x :: r) => some (.int (maxL x r))
    | _ => none
  | .max, .tuple l => match intsD l with
    | some (x :: r) => some (.int (maxL x r))
    | _ => none
  | .min, .list l => match intsD l with
    | some (x :: r) => some (.int (minL x r))
    | _ => none
  | _, _ => none
def b2D : B2 → D → D → Option D
  | .max, .int i, .int j => some (.int (if j > i then j else i))
  | .min, .int i, .int j => some (.int (if j < i then j else i))
  | _, _, _ => none
/-- python's place: i, or from the end -/
def ixN (n : Nat) (i : Int) : Option Nat := if 0 ≤ i then (if i < n then some i.toNat else none) else if -(n : Int) ≤ i then some (i + n).toNat else none
def atD {α : Type} (l : List α) (i : Int) : Option α := (ixN l.length i).bind fun j => l[j]?
def ixD : D → D → Option D
  | .list l, .int i => atD l i
  | .tuple l, .int i => atD l i
  | .str x, .int i => if x.length ≤ line then (atD x.cps.toList i).map fun c => .str ⟨#[c]⟩ else none
  | _, _ => none
def sIx (n d : Nat) : Option Int → Nat := HT.sIx n d
def cutL {α : Type} (l : List α) (lo hi : Option Int) : List α := (l.drop (HT.sIx l.length 0 lo)).take (HT.sIx l.length l.length hi - HT.sIx l.length 0 lo)
def sliceO : D → Option Int → Option Int → Option O
  | .list l, lo, hi => some (.box ((cutL l lo hi).map .frz))
  | .tuple l, lo, hi => some (.frz (.tuple (cutL l lo hi)))
  | _, _, _ => none
def cutO : O → Option Int → Option Int → Option O
  | .frz d, lo, hi => sliceO d lo hi
  | .scr l, lo, hi => some (.box ((cutL l lo hi).map fun i => .frz (.int i)))
  | .box _, _, _ => none
def listO (d : D) : Option O := (itemsD d).map fun l => .box (l.map .frz)
/-- list(reversed(d)), d a list -/
def revO : D → Option O
  | .list l => if l.length ≤ line then some (.box (l.reverse.map .frz)) else none
  | _ => none
/-- d[::-1] -/
def revX : D → Option O
  | .list l => if l.length ≤ line then some (.box (l.reverse.map .frz)) else none
  | .tuple l => some (.frz (.tuple l.reverse))
  | _ => none
/-- rising, the same things -/
def isort (l : List Int) : List Int := l.mergeSort fun a b => decide (a ≤ b)
def intsF (l : List Int) : O := .box ((l.map fun i => (PyData.int i : D)).map .frz)
/-- len(set(d)) -/
def lsetD : D → Option D
  | .list l => (intsD l).bind fun r => if r.length < 4000 then some (.int (r.eraseDups.length : Nat)) else none
  | .tuple l => (intsD l).bind fun r => if r.length < 4000 then some (.int (r.eraseDups.length : Nat)) else none
  | _ => none
/-- sorted(d), d a list of whole numbers -/
def sortO : D → Option O
  | .list l => (intsD l).map fun r => intsF (isort r)
  | _ => none
/-- sorted(set(d)) -/
def sortSO : D → Option O
  | .list l => (intsD l).bind fun r => if r.length < 60 then some (intsF (isort r.eraseDups)) else none
  | .tuple l => (intsD l).bind fun r => if r.length < 60 then some (intsF (isort r.eraseDups)) else none
  | _ => none
/-- isinstance of data against a built-in class -/
inductive Kd where
  | int | bool | str | list | tuple | dict
  deriving DecidableEq
def isK : D → Kd → Bool
  | .bool _, .bool => true
  | .bool _, .int => true
  | .int _, .int => true
  | .str _, .str => true
  | .list _, .list => true
  | .tuple _, .tuple => true
  | .dict _, .dict => true
  | _, _ => false

/-! ### paths into what a name holds -/
def lookP : O → List D → Option O
  | o, [] => some o
  | .frz d, i :: is => match ixD d i with
    | some e => lookP (.frz e) is
    | none => none
  | .box l, .int i :: is => match atD l i with
    | some o => lookP o is
    | none => none
  | .box _, _ :: _ => none
  | .scr l, .int i :: is => match atD l i with
    | some k => lookP (.frz (.int k)) is
    | none => none
  | .scr _, _ :: _ => none
def modP {α : Type} (f : O → Option (α × O)) : O → List D → Option (α × O)
  | o, [] => f o
  | .box l, .int i :: is => match ixN l.length i with
    | none => none
    | some j => match l[j]? with
      | none => none
      | some o => match modP f o is with
        | none => none
        | some (a, o') => some (a, .box (l.set j o'))
  | _, _ :: _ => none
def storeF (i : D) (v : O) : O → Option (Unit × O)
  | .box l => match i with
    | .int k => match ixN l.length k with
      | some j => some ((), .box (l.set j v))
      | none => none
    | _ => none
  | _ => none
def appF (v : O) : O → Option (Unit × O)
  | .box l => if l.length < line then some ((), .box (l ++ [v])) else none
  | _ => none
def insF (k d : D) : O → Option (Unit × O)
  | .box l => match k with
    | .int i => if 0 ≤ i ∧ i ≤ l.length ∧ l.length < line then some ((), .box (l.take i.toNat ++ [.frz d] ++ l.drop i.toNat)) else none
    | _ => none
  | _ => none
def extF (ds : List D) : O → Option (Unit × O)
  | .box l => if l.length + ds.length ≤ line then some ((), .box (l ++ ds.map .frz)) else none
  | _ => none
def popF : O → Option (O × O)
  | .box l => match l[l.length - 1]? with
    | some o => some (o, .box l.dropLast)
    | none => none
  | _ => none
def popAtF (i : D) : O → Option (O × O)
  | .box l => match i with
    | .int k => if -(2 ^ 63) ≤ k ∧ k < 2 ^ 63 then match ixN l.length k with
      | some j => match l[j]? with
        | some o => some (o, .box (l.eraseIdx j))
        | none => none
      | none => none
      else none
    | _ => none
  | _ => none
def revF : O → Option (Unit × O)
  | .box l => some ((), .box l.reverse)
  | _ => none

/-! ### the language -/
/-- the second argument of is_kind: a number, or a name that holds one -/
inductive Ha where
  | int (m : Int)
  | v (j : Nat)
  deriving DecidableEq
/-- what a handler does: return is_kind(e, n); return is_kind(e, n) and str(x) == y -/
inductive Hd where
  | kind (h : Ha)
  | kindS (h : Ha) (k l : Nat)
  deriving DecidableEq
/-! quiet whole numbers: places -/
mutual
inductive Qx where
  | v (i : Nat)
  | int (i : Int)
  | add (a b : Qx) | sub (a b : Qx)
  | neg (a : Qx)
  | p (p : P)
inductive P where
  | v (s : Nat)
  | ix (p : P) (i : Qx)
end
mutual
inductive E where
  | v (i : Nat)
  | int (i : Int) | bl (b : Bool) | non | str (s : Str)
  | glob (k : Nat)
  | tup (es : Es)
  | dct (ks : List L2.Key) (es : Es)
  | ix (o i : E)
  | ix1 (s : Nat) (i : E)
  | pix (p : P)
  | plen (p : P)
  | ofF (f : F)
  | neg (a : E)
  | not (a : E)
  | op (o : BOp) (a b : E)
  | cmp (o : COp) (a b : E)
  | memS (n : Bool) (a : E) (s : Nat)
  | eqS (n : Bool) (s : Nat) (b : E)
  | chain (o p : COp) (a b c : E)
  | isN (n : Bool) (a : E)
  | isB (n : Bool) (a : E) (b : Bool)
  | and (a b : E) | or (a b : E)
  | ife (t : T) (a b : E)
  | b1 (f : B1) (a : E)
  | b2 (f : B2) (a b : E)
  | isi (a : E) (ks : List Kd)
  | lset (a : E)
  | tupRg (a : E)
inductive Es where
  | nil
  | cons (e : E) (es : Es)
inductive F where
  | ofE (e : E)
  | mv (i : Nat)
  | lst (fs : Fs)
  | add (a b : E) | mul (a b : E)
  | slice (o : E) (lo hi : Pt)
  | cut (s : Nat) (lo hi : Pt)
  | list (e : E)
  | rev (e : E)
  | listv (s : Nat)
  | lrg1 (a : E) | lrg2 (a b : E)
  | sort (a : E) | sortS (a : E) | revL (a : E)
  | lzip (a b : E)
  | lend (ss : List Nat) (f : F)
  | pick (fs : Fs) (i : E)
  | call (f : Nat) (as : As)
  | callL (f : Nat) (as : As)
  | comp (t : Tg) (it : I) (c : Ts) (e : F) (own : List Nat)
  | pop (s : Nat) | popAt (s : Nat) (i : E)
inductive Pt where
  | none
  | some (e : E)
inductive Fs where
  | nil
  | cons (f : F) (fs : Fs)
inductive As where
  | nil
  | e (a : E) (as : As)
  | r (s : Nat) (as : As)
  | b (s : Nat) (as : As)
inductive T where
  | cmp (o : COp) (a b : E)
  | memS (n : Bool) (a : E) (s : Nat)
  | eqS (n : Bool) (s : Nat) (b : E)
  | chain (o p : COp) (a b c : E)
  | isN (n : Bool) (a : E)
  | isB (n : Bool) (a : E) (b : Bool)
  | and (a b : T) | or (a b : T)
  | not (a : T)
  | lend (ss : List Nat) (t : T)
  | tru (e : E)
inductive Ts where
  | nil
  | one (t : T)
inductive I where
  | seq (e : E)
  | range1 (a : E) | range2 (a b : E)
  | enum (e : E)
  | zip (a b : E)
inductive Tg where
  | name (i : Nat)
  | tup (is : List Nat)
  | nest (ts : List (Nat ⊕ List Nat))
inductive S where
  | set (i : Nat) (f : F)
  | unpack (is : List Nat) (e : E)
  | par (i j : Nat) (a b : E)
  | par3 (i j k : Nat) (a b c : E)
  | insert (s : Nat) (i a : E)
  | store (s : Nat) (i : E) (f : F)
  | storeP (p : P) (i : Qx) (f : F)
  | append (s : Nat) (f : F)
  | extend (s : Nat) (e : E)
  | reverse (s : Nat)
  | expr (f : F)
  | aug (i : Nat) (e : E)
  | ite (t : T) (a b : Ss)
  | loop (t : Tg) (it : I) (b : Ss)
  | whl (t : T) (b : Ss)
  | ret (f : F) | retN
  | pass | brk | ct | never
  | raise (x z : Str)
  | tri (b : Ss) (i : Nat) (rows : List (Str × List Bool)) (h : Hd)
inductive Ss where
  | nil
  | cons (s : S) (ss : Ss)
end

/-! ### what it means -/
def putO (ρ : Env) (i : Nat) (o : O) : Env := ρ.set i (some o)
def rdV (i : Nat) (ρ : Env) : R D := match ρ[i]? with
  | some (some (.frz d)) => .ok d ρ
  | some (some (.box l)) => if cleans l then .ok (.list (fzs l)) (putO ρ i (.frz (.list (fzs l)))) else .bad
  | _ => .bad
def mvV (i : Nat) (ρ : Env) : R O := match ρ[i]? with
  | some (some (.frz d)) => .ok (.frz d) ρ
  | some (some (.box l)) => .ok (.box l) (ρ.set i none)
  | some (some (.scr l)) => .ok (.scr l) ρ
  | _ => .bad
def ldV (i : Nat) (ρ : Env) : Option O := match ρ[i]? with
  | some (some o) => some o
  | _ => none
def isBox (s : Nat) (ρ : Env) : Bool := match ρ[s]? with
  | some (some (.box _)) => true
  | _ => false
def rdP (s : Nat) (is : List D) (ρ : Env) : R D := match ldV s ρ with
  | some o => match lookP o is with
    | some (.frz d) => .ok d ρ
    | _ => .bad
  | none => .bad
def lenO : O → Option D
  | .frz d => b1D .len d
  | .box l => some (.int l.length)
  | .scr l => some (.int l.length)
def lenP (s : Nat) (is : List D) (ρ : Env) : R D := match ldV s ρ with
  | some o => match lookP o is with
    | some o' => R.of (lenO o') ρ
    | none => .bad
  | none => .bad
def mdP {α : Type} (f : O → Option (α × O)) (s : Nat) (is : List D) (ρ : Env) : R α := match ldV s ρ with
  | some o => match modP f o is with
    | some (a, o') => .ok a (putO ρ s o')
    | none => .bad
  | none => .bad
def Ha.of (ρ : Env) : Ha → Option Int
  | .int m => some m
  | .v j => match ldV j ρ with
    | some (.frz (.int n)) => some n
    | _ => none
def strEq (k l : Nat) (ρ : Env) : R D := ((rdV k ρ).bind fun d ρ => R.of (b1D .str d) ρ).bind fun d ρ => (rdV l ρ).bind fun e ρ => R.of (cmpD .eq d e) ρ
def Hd.sem (hv : Str → Int → Option Bool) : Hd → Ex → Env → R D
  | .kind h, x, ρ => R.of (((h.of ρ).bind (hv x.cls)).map .bool) ρ
  | .kindS h k l, x, ρ => match (h.of ρ).bind (hv x.cls) with
    | some true => strEq k l ρ
    | some false => .ok (.bool false) ρ
    | none => .bad
/-- by the error's class and a number: is it just this kind? -/
def hvOf (rows : List (Str × List Bool)) (y : Str) (n : Int) : Option Bool := (rows.lookup y).map fun bs => PyData.eqv (.list (bs.map PyData.bool)) (.list ((List.range 9).map fun (k : Nat) => PyData.bool (decide ((k : Int) = n))))
def okOf (rows : List (Str × List Bool)) (y : Str) : Bool := (rows.lookup y).isSome
/-- what the try means: ok y: an error of the class y is caught; hm y tells what the handler returns -/
def tryF (ok : Str → Bool) (hm : Ex → Env → R D) (i : Nat) (r : R Fl) : R Fl := match r with
  | .ok fl ρ => .ok fl ρ
  | .exc x ρ => if ok x.cls && decide (x.flds.length ≤ 1) && decide (i < ρ.length) then (hm x (ρ.set i none)).calm.bind fun d ρ => .ok (.ret (.frz d)) ρ else .bad
  | .bad => .bad
/-- the arguments: values, slots for what goes by name, slots that are lent -/
inductive Ag where
  | d (d : D)
  | r (s : Nat)
  | b (s : Nat)
def gather (ρ : Env) : List Ag → Option (List O)
  | [] => some []
  | .d d :: r => (gather ρ r).map fun l => .frz d :: l
  | .r i :: r => match ldV i ρ with
    | some o => (gather ρ r).map fun l => o :: l
    | none => none
  | .b i :: r => match ldV i ρ with
    | some (.frz d) => (gather ρ r).map fun l => .frz d :: l
    | some (.box m) => if cleans m then (gather ρ r).map fun l => .frz (.list (fzs m)) :: l else none
    | _ => none
def slotsR : List Ag → List Nat
  | [] => []
  | .r i :: r => i :: slotsR r
  | _ :: r => slotsR r
def slotsB : List Ag → List Nat
  | [] => []
  | .b i :: r => i :: slotsB r
  | _ :: r => slotsB r
def modesOf : List Ag → List Bool
  | [] => []
  | .r _ :: r => true :: modesOf r
  | _ :: r => false :: modesOf r
def putBack : List Nat → Env → Env → Env
  | i :: is, o :: os, ρ => putBack is os (ρ.set i o)
  | _, _, ρ => ρ
def fzAll : List Nat → Env → Env
  | [], ρ => ρ
  | i :: is, ρ => match ldV i ρ with
    | some (.box l) => fzAll is (putO ρ i (.frz (.list (fzs l))))
    | _ => fzAll is ρ
/-- nothing behind it lies in the heap -/
def plainO : O → Bool
  | .frz .none => true
  | .frz (.bool _) => true
  | .frz (.int _) => true
  | .frz (.str _) => true
  | _ => false
def callOk (as : List Ag) (fn : Fn) : Bool := decide (modesOf as = fn.modes) && decide (slotsR as).Nodup && (slotsB as).all fun i => !(slotsR as).contains i
def callF (Φ : Tab) (k : Nat) (as : List Ag) (ρ : Env) : R O := match Φ.fn[k]? with
  | none => .bad
  | some fn => match callOk as fn with
    | false => .bad
    | true => match gather ρ as with
      | none => .bad
      | some os => match fn.run os with
        | .ok o refs => if refs.length = (slotsR as).length then
            .ok o (if plainO o && (slotsR as).isEmpty then ρ else fzAll (slotsB as) (putBack (slotsR as) refs ρ)) else .bad
        | .exc x refs => if refs.length = (slotsR as).length then .exc x (fzAll (slotsB as) (putBack (slotsR as) refs ρ)) else .bad
        | .bad => .bad
mutual
/-- no list, no dict in it -/
def noL : D → Bool
  | .list _ => false
  | .dict _ => false
  | .tuple l => noLs l
  | _ => true
def noLs : List D → Bool
  | [] => true
  | d :: l => noL d && noLs l
end
def noLO : O → Bool
  | .frz d => noL d
  | _ => false
mutual
/-- no list, no dict in what stays of it -/
def noLB : O → Bool
  | .frz d => noL d
  | .box l => noLBs l
  | .scr _ => false
def noLBs : List O → Bool
  | [] => true
  | o :: l => noLB o && noLBs l
end
/-- no own list in sight -/
def dropO : Option O → Option O
  | some (.box _) => none
  | x => x
def dropB (ρ : Env) : Env := ρ.map dropO
/-- the lists at ss, as they are in ρ0, put as data that stays -/
def lendE : List Nat → Env → Env → Option Env
  | [], _, ρ => some ρ
  | s :: ss, ρ0, ρ => match ldV s ρ0 with
    | some (.frz _) => lendE ss ρ0 ρ
    | some (.box l) => if cleans l then lendE ss ρ0 (ρ.set s (some (.frz (.list (fzs l))))) else none
    | _ => none
/-- m asked where the lists at ss stay, all other own lists out of sight: behind it all is as ahead -/
def lendF {α : Type} (ss : List Nat) (m : Env → R α) (ok : α → Bool) (ρ : Env) : R α := (R.of (lendE ss ρ (dropB ρ)) ρ).bind fun ρ1 ρ => match m ρ1 with
  | .ok a _ => if ok a then .ok a ρ else .bad
  | _ => .bad
/-- one of a row of owned things -/
def pickO (l : List O) : D → Option O
  | .int i => atD l i
  | _ => none
/-- a call that tells nothing of what was lent: it stays as it was -/
def callLF (Φ : Tab) (k : Nat) (as : List Ag) (ρ : Env) : R O := match Φ.fn[k]? with
  | none => .bad
  | some fn => match callOk as fn with
    | false => .bad
    | true => match gather ρ as with
      | none => .bad
      | some os => match fn.run os with
        | .ok o _ => if noLO o && (slotsR as).isEmpty then .ok o ρ else .bad
        | _ => .bad
/-- what the parameters by name hold behind a body -/
def refsOf (ρ : Env) : List Bool → Nat → Env
  | [], _ => []
  | true :: m, i => (ρ[i]?).join :: refsOf ρ m (i + 1)
  | false :: m, i => refsOf ρ m (i + 1)
/-- a def of a body: n slots in all -/
def mkFn (n : Nat) (modes : List Bool) (body : Env → R Fl) : Fn := ⟨modes, fun os => if os.length = modes.length then match body (os.map some ++ List.replicate (n - os.length) none) with
  | .ok .nx ρ => .ok (.frz .none) (refsOf ρ modes 0)
  | .ok (.ret o) ρ => .ok o (refsOf ρ modes 0)
  | .ok _ _ => .bad
  | .exc x ρ => .exc x (refsOf ρ modes 0)
  | .bad => .bad else .bad⟩
def asgR (is : List Nat) (d : D) (ρ : Env) : Option Env := match itemsD d with
    | some l => if l.length = is.length then some ((is.zip l).foldl (fun r p => putO r p.1 (.frz p.2)) ρ) else none
    | none => none
/-- names and rows of names -/
def asgN : List (Nat ⊕ List Nat) → List D → Env → Option Env
  | [], [], ρ => some ρ
  | .inl i :: ts, d :: l, ρ => asgN ts l (putO ρ i (.frz d))
  | .inr is :: ts, d :: l, ρ => match asgR is d ρ with
    | some ρ => asgN ts l ρ
    | none => none
  | _, _, _ => none
def asgT : Tg → D → Env → Option Env
  | .name i, d, ρ => some (putO ρ i (.frz d))
  | .tup is, d, ρ => match itemsD d with
    | some l => if l.length = is.length then some ((is.zip l).foldl (fun r p => putO r p.1 (.frz p.2)) ρ) else none
    | none => none
  | .nest ts, d, ρ => match itemsD d with
    | some l => if l.length = ts.length then asgN ts l ρ else none
    | none => none
def wipeE (own : List Nat) (ρ : Env) : Env := match own with
  | [] => ρ
  | i :: r => (wipeE r ρ).set i none
def keepE (own : List Nat) (ρ0 ρ : Env) : Env := match own with
  | [] => ρ
  | i :: r => (keepE r ρ0 ρ).set i ((ρ0[i]?).join)
def loopL (asg : D → Env → Option Env) (body : Env → R Fl) : List D → Env → R Fl
  | [], ρ => .ok .nx ρ
  | d :: ds, ρ => match asg d ρ with
    | none => .bad
    | some ρ1 => match body ρ1 with
      | .ok .nx ρ2 => loopL asg body ds ρ2
      | .ok .ct ρ2 => loopL asg body ds ρ2
      | .ok .brk ρ2 => .ok .nx ρ2
      | .ok (.ret o) ρ2 => .ok (.ret o) ρ2
      | .exc x ρ2 => .exc x ρ2
      | .bad => .bad
def compL (own : List Nat) (asg : D → Env → Option Env) (tst : Env → R Bool) (elt : Env → R O) : List D → Env → R (List O)
  | [], ρ => .ok [] ρ
  | d :: ds, ρ => match asg d ρ with
    | none => .bad
    | some ρ1 => (tst ρ1).calm.bind fun b ρ2 =>
      if b then (elt ρ2).calm.bind fun o ρ3 => (compL own asg tst elt ds (wipeE own ρ3)).bind fun l ρ4 => .ok (o :: l) ρ4
      else compL own asg tst elt ds (wipeE own ρ2)
/-- a while, by fuel -/
def iterW (c : Env → R Bool) (b : Env → R Fl) : Nat → Env → Option (R Fl)
  | 0, _ => none
  | n + 1, ρ => match c ρ with
    | .ok true ρ1 => match b ρ1 with
      | .ok .nx ρ2 => iterW c b n ρ2
      | .ok .ct ρ2 => iterW c b n ρ2
      | .ok .brk ρ2 => some (.ok .nx ρ2)
      | .ok (.ret o) ρ2 => some (.ok (.ret o) ρ2)
      | .exc x ρ2 => some (.exc x ρ2)
      | .bad => some .bad
    | .ok false ρ1 => some (.ok .nx ρ1)
    | .exc x ρ1 => some (.exc x ρ1)
    | .bad => some .bad
open Classical in
noncomputable def whlS (c : Env → R Bool) (b : Env → R Fl) (ρ : Env) : R Fl :=
  if h : ∃ n r, iterW c b n ρ = some r then h.choose_spec.choose else .bad
theorem iterW_mono (c : Env → R Bool) (b : Env → R Fl) : ∀ (n : Nat) (ρ : Env) (r : R Fl), iterW c b n ρ = some r → iterW c b (n + 1) ρ = some r
  | 0, ρ, r, h => by simp [iterW] at h
  | n + 1, ρ, r, h => by
    unfold iterW at h ⊢
    cases hc : c ρ with
    | bad => rw [hc] at h; exact h
    | exc x ρ1 => rw [hc] at h; exact h
    | ok t ρ1 =>
      rw [hc] at h
      cases t with
      | false => exact h
      | true =>
        simp only at h ⊢
        cases hb : b ρ1 with
        | bad => rw [hb] at h; exact h
        | exc x ρ2 => rw [hb] at h; exact h
        | ok fl ρ2 =>
          rw [hb] at h
          cases fl with
          | nx => exact iterW_mono c b n ρ2 r h
          | ct => exact iterW_mono c b n ρ2 r h
          | brk => exact h
          | ret o => exact h
theorem iterW_le {c : Env → R Bool} {b : Env → R Fl} {n m : Nat} {ρ : Env} {r : R Fl} (h : iterW c b n ρ = some r) (hm : n ≤ m) : iterW c b m ρ = some r := by
  induction hm with
  | refl => exact h
  | step _ ih => exact iterW_mono c b _ ρ r ih
theorem whlS_eq {c : Env → R Bool} {b : Env → R Fl} {n : Nat} {ρ : Env} {r : R Fl} (h : iterW c b n ρ = some r) : whlS c b ρ = r := by
  unfold whlS
  have hx : ∃ n r, iterW c b n ρ = some r := ⟨n, r, h⟩
  rw [dif_pos hx]
  have q := hx.choose_spec.choose_spec
  have q1 := iterW_le q (Nat.le_max_left hx.choose n)
  have q2 := iterW_le h (Nat.le_max_right hx.choose n)
  rw [q1] at q2
  exact Option.some.inj q2
theorem whlS_iter {c : Env → R Bool} {b : Env → R Fl} {ρ : Env} (h : whlS c b ρ ≠ .bad) : ∃ n, iterW c b n ρ = some (whlS c b ρ) := by
  by_cases hx : ∃ n r, iterW c b n ρ = some r
  · obtain ⟨n, r, q⟩ := hx
    exact ⟨n, by rw [q, whlS_eq q]⟩
  · exfalso
    apply h
    unfold whlS
    rw [dif_neg hx]
theorem whlS_unfold (c : Env → R Bool) (b : Env → R Fl) (ρ : Env) : whlS c b ρ = match c ρ with
    | .ok true ρ1 => (match b ρ1 with
      | .ok .nx ρ2 => whlS c b ρ2
      | .ok .ct ρ2 => whlS c b ρ2
      | .ok .brk ρ2 => .ok .nx ρ2
      | .ok (.ret o) ρ2 => .ok (.ret o) ρ2
      | .exc x ρ2 => .exc x ρ2
      | .bad => .bad)
    | .ok false ρ1 => .ok .nx ρ1
    | .exc x ρ1 => .exc x ρ1
    | .bad => .bad := by
  have step : ∀ r, (∃ n, iterW c b (n + 1) ρ = some r) → whlS c b ρ = r := fun r ⟨n, h⟩ => whlS_eq h
  cases hc : c ρ with
  | bad => exact step _ ⟨0, by simp [iterW, hc]⟩
  | exc x ρ1 => exact step _ ⟨0, by simp [iterW, hc]⟩
  | ok t ρ1 =>
    cases t with
    | false => exact step _ ⟨0, by simp [iterW, hc]⟩
    | true =>
      cases hb : b ρ1 with
      | bad => exact step _ ⟨0, by simp [iterW, hc, hb]⟩
      | exc x ρ2 => exact step _ ⟨0, by simp [iterW, hc, hb]⟩
      | ok fl ρ2 =>
        cases fl with
        | brk => exact step _ ⟨0, by simp [iterW, hc, hb]⟩
        | ret o => exact step _ ⟨0, by simp [iterW, hc, hb]⟩
        | nx =>
          by_cases hx : ∃ n r, iterW c b n ρ2 = some r
          · obtain ⟨n, r, q⟩ := hx
            simp only [hb]
            rw [whlS_eq q]
            exact step _ ⟨n, by simp [iterW, hc, hb, q]⟩
          · have e2 : whlS c b ρ2 = .bad := by unfold whlS; rw [dif_neg hx]
            simp only [hb]
            rw [e2]
            unfold whlS
            rw [dif_neg]
            rintro ⟨n, r, q⟩
            cases n with
            | zero => simp [iterW] at q
            | succ n => exact hx ⟨n, r, by simpa [iterW, hc, hb] using q⟩
        | ct =>
          by_cases hx : ∃ n r, iterW c b n ρ2 = some r
          · obtain ⟨n, r, q⟩ := hx
            simp only [hb]
            rw [whlS_eq q]
            exact step _ ⟨n, by simp [iterW, hc, hb, q]⟩
          · have e2 : whlS c b ρ2 = .bad := by unfold whlS; rw [dif_neg hx]
            simp only [hb]
            rw [e2]
            unfold whlS
            rw [dif_neg]
            rintro ⟨n, r, q⟩
            cases n with
            | zero => simp [iterW] at q
            | succ n => exact hx ⟨n, r, by simpa [iterW, hc, hb] using q⟩
def pairsD : D → D → Option (List D)
  | .list l, .list m => some ((l.zip m).map fun p => .tuple [p.1, p.2])
  | .tuple l, .tuple m => some ((l.zip m).map fun p => .tuple [p.1, p.2])
  | .list l, .tuple m => some ((l.zip m).map fun p => .tuple [p.1, p.2])
  | .tuple l, .list m => some ((l.zip m).map fun p => .tuple [p.1, p.2])
  | _, _ => none
/-- list(zip(d, e)) -/
def lzipO (d e : D) : Option O := (pairsD d e).map fun l => .box (l.map .frz)
def enumFrom (n : Nat) : List D → List D
  | [] => []
  | d :: l => .tuple [.int n, d] :: enumFrom (n + 1) l
def rng (lo : Int) (n : Nat) : List D := (List.range n).map fun (k : Nat) => .int (lo + (k : Int))
def range1D : D → Option (List D)
  | .int j => if -(2 ^ 62) ≤ j ∧ j < 2 ^ 62 then some (rng 0 j.toNat) else none
  | _ => none
def range2D : D → D → Option (List D)
  | .int i, .int j => if -(2 ^ 62) ≤ i ∧ i < 2 ^ 62 ∧ -(2 ^ 62) ≤ j ∧ j < 2 ^ 62 then some (rng i (j - i).toNat) else none
  | _, _ => none
/-- list(the script) -/
def scrO : O → Option O
  | .scr l => some (.box (l.map fun i => .frz (.int i)))
  | _ => none
/-- tuple(range(..)) -/
def tupRgD : D → Option D
  | .int j => if -(2 ^ 62) ≤ j ∧ j ≤ 16777216 then some (.tuple (rng 0 j.toNat)) else none
  | _ => none
/-- list(range(..)) -/
def lrg1D : D → Option O
  | .int j => if -(2 ^ 62) ≤ j ∧ j ≤ 16777216 then some (.box ((rng 0 j.toNat).map .frz)) else none
  | _ => none
def lrg2D : D → D → Option O
  | .int i, .int j => if -(2 ^ 62) ≤ i ∧ i < 2 ^ 62 ∧ -(2 ^ 62) ≤ j ∧ j < 2 ^ 62 ∧ (j - i).toNat ≤ line then some (.box ((rng i (j - i).toNat).map .frz)) else none
  | _, _ => none
def keyD : L2.Key → D
  | .inl i => .int i
  | .inr x => .str x
def dctD (ks : List L2.Key) (l : List D) : Option D := if ks.Nodup ∧ ks.length ≤ 15 ∧ l.length = ks.length then some (.dict ((ks.map keyD).zip l)) else none
def partD : D → Option (Option Int)
  | .int i => some (some i)
  | _ => none
mutual
def Qx.sem : Qx → Env → Option Int
  | .v i, ρ => match ρ[i]? with
    | some (some (.frz (.int k))) => some k
    | _ => none
  | .int i, _ => some i
  | .add a b, ρ => match a.sem ρ, b.sem ρ with
    | some i, some j => some (i + j)
    | _, _ => none
  | .sub a b, ρ => match a.sem ρ, b.sem ρ with
    | some i, some j => some (i - j)
    | _, _ => none
  | .neg a, ρ => match a.sem ρ with
    | some i => some (-i)
    | none => none
  | .p p, ρ => match p.sem ρ with
    | some (s, l) => (match ldV s ρ with
      | some o => (match lookP o l with
        | some (.frz (.int k)) => some k
        | _ => none)
      | none => none)
    | none => none
def P.sem : P → Env → Option (Nat × List D)
  | .v s, _ => some (s, [])
  | .ix p q, ρ => match p.sem ρ, q.sem ρ with
    | some (s, l), some i => some (s, l ++ [.int i])
    | _, _ => none
end
def memO (n : Bool) (d : D) : O → Option Bool
  | .frz e => match itemsD e with
    | some l => if memOk d l then some (if n then !memD d l else memD d l) else none
    | none => none
  | .box l => if cleans l && memOk d (fzs l) then some (if n then !memD d (fzs l) else memD d (fzs l)) else none
  | .scr _ => none
def eqO (n : Bool) (o : O) (e : D) : Option D := if o.clean then cmpD (if n then .ne else .eq) o.fz e else none
def listD : D → Option (List D)
  | .list l => some l
  | _ => none
def isNoneD : D → Bool
  | .none => true
  | _ => false
def boolD : D → Option Bool
  | .bool b => some b
  | _ => none
mutual
noncomputable def E.sem (Φ : Tab) : E → Env → R D
  | .v i, ρ => rdV i ρ
  | .int i, ρ => .ok (.int i) ρ
  | .bl b, ρ => .ok (.bool b) ρ
  | .non, ρ => .ok .none ρ
  | .str s, ρ => .ok (.str s) ρ
  | .glob k, ρ => R.of Φ.gl[k]? ρ
  | .tup es, ρ => (es.sem Φ ρ).bind fun l ρ => if l.length ≤ line then .ok (.tuple l) ρ else .bad
  | .dct ks es, ρ => (es.sem Φ ρ).bind fun l ρ => R.of (dctD ks l) ρ
  | .ix o i, ρ => (o.sem Φ ρ).bind fun d ρ => (i.sem Φ ρ).bind fun k ρ => R.of (ixD d k) ρ
  | .ix1 s i, ρ => if (ldV s ρ).isSome then (i.sem Φ ρ).bind fun k ρ => rdP s [k] ρ else .bad
  | .pix p, ρ => (R.of (p.sem ρ) ρ).bind fun l ρ => rdP l.1 l.2 ρ
  | .plen p, ρ => (R.of (p.sem ρ) ρ).bind fun l ρ => lenP l.1 l.2 ρ
  | .ofF f, ρ => (f.sem Φ ρ).bind fun o ρ => if o.clean then .ok o.fz ρ else .bad
  | .neg a, ρ => (a.sem Φ ρ).bind fun d ρ => R.of (negD d) ρ
  | .not a, ρ => (a.sem Φ ρ).bind fun d ρ => R.of (notD d) ρ
  | .op o a b, ρ => (a.sem Φ ρ).bind fun d ρ => (b.sem Φ ρ).bind fun e ρ => R.of (opD o d e) ρ
  | .cmp o a b, ρ => (a.sem Φ ρ).bind fun d ρ => (b.sem Φ ρ).bind fun e ρ => R.of (cmpD o d e) ρ
  | .memS n a s, ρ => (a.sem Φ ρ).bind fun d ρ => R.of (((ldV s ρ).bind (memO n d)).map .bool) ρ
  | .eqS n s b, ρ => if (ldV s ρ).isSome then (b.sem Φ ρ).bind fun e ρ => R.of ((ldV s ρ).bind fun o => eqO n o e) ρ else .bad
  | .chain o p a b c, ρ => (a.sem Φ ρ).bind fun d ρ => (b.sem Φ ρ).bind fun e ρ => (R.of ((cmpD o d e).bind boolD) ρ).bind fun t ρ =>
      if t then (c.sem Φ ρ).bind fun f ρ => R.of (cmpD p e f) ρ else .ok (.bool false) ρ
  | .isN n a, ρ => (a.sem Φ ρ).bind fun d ρ => .ok (.bool (if n then !isNoneD d else isNoneD d)) ρ
  | .isB n a b, ρ => (a.sem Φ ρ).bind fun d ρ => R.of ((boolD d).map fun c => .bool (if n then c != b else c == b)) ρ
  | .and a b, ρ => (a.sem Φ ρ).bind fun d ρ => (R.of (boolD d) ρ).bind fun t ρ => if t then b.sem Φ ρ else .ok (.bool false) ρ
  | .or a b, ρ => (a.sem Φ ρ).bind fun d ρ => (R.of (boolD d) ρ).bind fun t ρ => if t then .ok (.bool true) ρ else b.sem Φ ρ
  | .ife t a b, ρ => (t.sem Φ ρ).bind fun c ρ => if c then a.sem Φ ρ else b.sem Φ ρ
  | .b1 f a, ρ => (a.sem Φ ρ).bind fun d ρ => R.of (b1D f d) ρ
  | .b2 f a b, ρ => (a.sem Φ ρ).bind fun d ρ => (b.sem Φ ρ).bind fun e ρ => R.of (b2D f d e) ρ
  | .isi a ks, ρ => (a.sem Φ ρ).bind fun d ρ => .ok (.bool (ks.any (isK d))) ρ
  | .lset a, ρ => (a.sem Φ ρ).bind fun d ρ => R.of (lsetD d) ρ
  | .tupRg a, ρ => (a.sem Φ ρ).bind fun d ρ => R.of (tupRgD d) ρ
noncomputable def Es.sem (Φ : Tab) : Es → Env → R (List D)
  | .nil, ρ => .ok [] ρ
  | .cons e es, ρ => (e.sem Φ ρ).bind fun d ρ => (es.sem Φ ρ).bind fun l ρ => .ok (d :: l) ρ
noncomputable def F.sem (Φ : Tab) : F → Env → R O
  | .ofE e, ρ => (e.sem Φ ρ).bind fun d ρ => .ok (.frz d) ρ
  | .mv i, ρ => mvV i ρ
  | .lst fs, ρ => (fs.sem Φ ρ).bind fun l ρ => if l.length ≤ line then .ok (.box l) ρ else .bad
  | .add a b, ρ => (a.sem Φ ρ).bind fun d ρ => (b.sem Φ ρ).bind fun e ρ => R.of (addO d e) ρ
  | .mul a b, ρ => (a.sem Φ ρ).bind fun d ρ => (b.sem Φ ρ).bind fun e ρ => R.of (mulO d e) ρ
  | .slice o lo hi, ρ => (o.sem Φ ρ).bind fun d ρ => (lo.sem Φ ρ).bind fun l ρ => (hi.sem Φ ρ).bind fun h ρ => R.of (sliceO d l h) ρ
  | .cut s lo hi, ρ => if (ldV s ρ).isSome then (lo.sem Φ ρ).bind fun l ρ => (hi.sem Φ ρ).bind fun h ρ => R.of ((ldV s ρ).bind fun o => cutO o l h) ρ else .bad
  | .list e, ρ => (e.sem Φ ρ).bind fun d ρ => R.of (listO d) ρ
  | .rev e, ρ => (e.sem Φ ρ).bind fun d ρ => R.of (revO d) ρ
  | .listv s, ρ => R.of ((ldV s ρ).bind scrO) ρ
  | .sort a, ρ => (a.sem Φ ρ).bind fun d ρ => R.of (sortO d) ρ
  | .sortS a, ρ => (a.sem Φ ρ).bind fun d ρ => R.of (sortSO d) ρ
  | .revL a, ρ => (a.sem Φ ρ).bind fun d ρ => R.of (revX d) ρ
  | .lend ss f, ρ => lendF ss (f.sem Φ) noLB ρ
  | .pick fs i, ρ => (fs.sem Φ ρ).bind fun l ρ => if l.length ≤ line then (i.sem Φ ρ).bind fun k ρ => R.of (pickO l k) ρ else .bad
  | .lzip a b, ρ => (a.sem Φ ρ).bind fun d ρ => (b.sem Φ ρ).bind fun e ρ => R.of (lzipO d e) ρ
  | .lrg1 a, ρ => (a.sem Φ ρ).bind fun d ρ => R.of (lrg1D d) ρ
  | .lrg2 a b, ρ => (a.sem Φ ρ).bind fun d ρ => (b.sem Φ ρ).bind fun e ρ => R.of (lrg2D d e) ρ
  | .call k as, ρ => (as.sem Φ ρ).bind fun l ρ => callF Φ k l ρ
  | .callL k as, ρ => (as.sem Φ ρ).bind fun l ρ => callLF Φ k l ρ
  | .comp t it c e own, ρ => (it.sem Φ ρ).bind fun ds ρ => (compL own (asgT t) (c.sem Φ) (e.sem Φ) ds (wipeE own ρ)).bind fun l ρ' => if l.length ≤ line then .ok (.box l) (keepE own ρ ρ') else .bad
  | .pop s, ρ => mdP popF s [] ρ
  | .popAt s i, ρ => if isBox s ρ then (i.sem Φ ρ).bind fun k ρ => mdP (popAtF k) s [] ρ else .bad
noncomputable def Pt.sem (Φ : Tab) : Pt → Env → R (Option Int)
  | .none, ρ => .ok Option.none ρ
  | .some e, ρ => (e.sem Φ ρ).bind fun d ρ => R.of (partD d) ρ
noncomputable def Fs.sem (Φ : Tab) : Fs → Env → R (List O)
  | .nil, ρ => .ok [] ρ
  | .cons f fs, ρ => (f.sem Φ ρ).bind fun o ρ => (fs.sem Φ ρ).bind fun l ρ => .ok (o :: l) ρ
noncomputable def As.sem (Φ : Tab) : As → Env → R (List Ag)
  | .nil, ρ => .ok [] ρ
  | .e a as, ρ => (a.sem Φ ρ).bind fun d ρ => (as.sem Φ ρ).bind fun l ρ => .ok (.d d :: l) ρ
  | .r s as, ρ => if (ldV s ρ).isSome then (as.sem Φ ρ).bind fun l ρ => .ok (.r s :: l) ρ else .bad
  | .b s as, ρ => if (ldV s ρ).isSome then (as.sem Φ ρ).bind fun l ρ => .ok (.b s :: l) ρ else .bad
noncomputable def T.sem (Φ : Tab) : T → Env → R Bool
  | .cmp o a b, ρ => (a.sem Φ ρ).bind fun d ρ => (b.sem Φ ρ).bind fun e ρ => R.of ((cmpD o d e).bind boolD) ρ
  | .memS n a s, ρ => (a.sem Φ ρ).bind fun d ρ => R.of ((ldV s ρ).bind (memO n d)) ρ
  | .eqS n s b, ρ => if (ldV s ρ).isSome then (b.sem Φ ρ).bind fun e ρ => R.of ((ldV s ρ).bind fun o => (eqO n o e).bind boolD) ρ else .bad
  | .chain o p a b c, ρ => (a.sem Φ ρ).bind fun d ρ => (b.sem Φ ρ).bind fun e ρ => (R.of ((cmpD o d e).bind boolD) ρ).bind fun t ρ =>
      if t then (c.sem Φ ρ).bind fun f ρ => R.of ((cmpD p e f).bind boolD) ρ else .ok false ρ
  | .isN n a, ρ => (a.sem Φ ρ).bind fun d ρ => .ok (if n then !isNoneD d else isNoneD d) ρ
  | .isB n a b, ρ => (a.sem Φ ρ).bind fun d ρ => R.of ((boolD d).map fun c => if n then c != b else c == b) ρ
  | .and a b, ρ => (a.sem Φ ρ).bind fun t ρ => if t then b.sem Φ ρ else .ok false ρ
  | .or a b, ρ => (a.sem Φ ρ).bind fun t ρ => if t then .ok true ρ else b.sem Φ ρ
  | .not a, ρ => (a.sem Φ ρ).bind fun t ρ => .ok (!t) ρ
  | .lend ss t, ρ => lendF ss (t.sem Φ) (fun _ => true) ρ
  | .tru e, ρ => (e.sem Φ ρ).bind fun d ρ => R.of (truD d) ρ
noncomputable def Ts.sem (Φ : Tab) : Ts → Env → R Bool
  | .nil, ρ => .ok true ρ
  | .one t, ρ => t.sem Φ ρ
noncomputable def I.sem (Φ : Tab) : I → Env → R (List D)
  | .seq e, ρ => (e.sem Φ ρ).bind fun d ρ => R.of (itemsD d) ρ
  | .range1 a, ρ => (a.sem Φ ρ).bind fun d ρ => R.of (range1D d) ρ
  | .range2 a b, ρ => (a.sem Φ ρ).bind fun d ρ => (b.sem Φ ρ).bind fun e ρ => R.of (range2D d e) ρ
  | .enum e, ρ => (e.sem Φ ρ).bind fun d ρ => R.of ((itemsD d).map (enumFrom 0)) ρ
  | .zip a b, ρ => (a.sem Φ ρ).bind fun d ρ => (b.sem Φ ρ).bind fun e ρ => R.of (pairsD d e) ρ
noncomputable def S.sem (Φ : Tab) : S → Env → R Fl
  | .set i f, ρ => (f.sem Φ ρ).bind fun o ρ => .ok .nx (putO ρ i o)
  | .unpack is e, ρ => (e.sem Φ ρ).bind fun d ρ => match asgT (.tup is) d ρ with
    | some ρ => .ok .nx ρ
    | none => .bad
  | .par i j a b, ρ => (a.sem Φ ρ).bind fun d ρ => (b.sem Φ ρ).bind fun e ρ => .ok .nx (putO (putO ρ i (.frz d)) j (.frz e))
  | .store s i f, ρ => (f.sem Φ ρ).bind fun o ρ => if isBox s ρ then (i.sem Φ ρ).bind fun k ρ => (mdP (storeF k o) s [] ρ).bind fun _ ρ => .ok .nx ρ else .bad
  | .storeP p q f, ρ => (f.sem Φ ρ).bind fun o ρ => (R.of (p.sem ρ) ρ).bind fun l ρ => (R.of (q.sem ρ) ρ).bind fun k ρ => (mdP (storeF (.int k) o) l.1 l.2 ρ).bind fun _ ρ => .ok .nx ρ
  | .par3 i j k a b c, ρ => (a.sem Φ ρ).bind fun d ρ => (b.sem Φ ρ).bind fun e ρ => (c.sem Φ ρ).bind fun f ρ => .ok .nx (putO (putO (putO ρ i (.frz d)) j (.frz e)) k (.frz f))
  | .insert s i a, ρ => if isBox s ρ then (i.sem Φ ρ).bind fun k ρ => (a.sem Φ ρ).bind fun d ρ => (mdP (insF k d) s [] ρ).bind fun _ ρ => .ok .nx ρ else .bad
  | .append s f, ρ => if isBox s ρ then (f.sem Φ ρ).bind fun o ρ => (mdP (appF o) s [] ρ).bind fun _ ρ => .ok .nx ρ else .bad
  | .extend s e, ρ => if isBox s ρ then (e.sem Φ ρ).bind fun d ρ => (R.of (listD d) ρ).bind fun ds ρ => (mdP (extF ds) s [] ρ).bind fun _ ρ => .ok .nx ρ else .bad
  | .reverse s, ρ => (mdP revF s [] ρ).bind fun _ ρ => .ok .nx ρ
  | .expr f, ρ => (f.sem Φ ρ).bind fun _ ρ => .ok .nx ρ
  | .aug i e, ρ => match ρ[i]? with
    | some (some (.frz (.int x))) => (e.sem Φ ρ).bind fun d ρ => match d with
      | .int y => .ok .nx (putO ρ i (.frz (.int (x + y))))
      | _ => .bad
    | _ => .bad
  | .ite t a b, ρ => (t.sem Φ ρ).bind fun c ρ => if c then a.sem Φ ρ else b.sem Φ ρ
  | .loop t it b, ρ => (it.sem Φ ρ).bind fun ds ρ => loopL (asgT t) (b.sem Φ) ds ρ
  | .whl t b, ρ => whlS (t.sem Φ) (b.sem Φ) ρ
  | .ret f, ρ => (f.sem Φ ρ).bind fun o ρ => .ok (.ret o) ρ
  | .retN, ρ => .ok (.ret (.frz .none)) ρ
  | .pass, ρ => .ok .nx ρ
  | .brk, ρ => .ok .brk ρ
  | .ct, ρ => .ok .ct ρ
  | .never, _ => .bad
  | .raise x _, ρ => .exc ⟨x, []⟩ ρ
  | .tri b i rows h, ρ => tryF (okOf rows) (h.sem (hvOf rows)) i (b.sem Φ ρ)
noncomputable def Ss.sem (Φ : Tab) : Ss → Env → R Fl
  | .nil, ρ => .ok .nx ρ
  | .cons s ss, ρ => (s.sem Φ ρ).bind fun fl ρ => match fl with
    | .nx => ss.sem Φ ρ
    | fl => .ok fl ρ
end
end Tr
set_option Elab.async false
set_option linter.all false
set_option maxRecDepth 100000
set_option maxHeartbeats 4000000
/-! TrB: how trees lie in the abstract heap; what stays and what is owned. -/
namespace Tr
open PySem PySem.Spec PyProof.Rows L2

/-- data that stays, in the part Hf of the heap that stays -/
inductive Rep (K : PySem.W.Frag) (H : Hp) : V → D → Prop
  | non : Rep K H .non .none
  | bl (b : Bool) : Rep K H (.bl b) (.bool b)
  | int (i : Int) : Rep K H (.int i) (.int i)
  | str (x : Str) : Rep K H (.str x) (.str x)
  | lst {a : Addr} {xs : List V} {l : List D} (h : H a = some (.lst xs)) (n : xs.length = l.length) (it : ∀ (i : Nat) (v : V) (d : D), xs[i]? = some v → l[i]? = some d → Rep K H v d) : Rep K H (.ref a) (.list l)
  | tup {a : Addr} {xs : List V} {l : List D} (h : SqT K H a xs) (n : xs.length = l.length) (it : ∀ (i : Nat) (v : V) (d : D), xs[i]? = some v → l[i]? = some d → Rep K H v d) : Rep K H (.ref a) (.tuple l)
  | dct {a : Addr} {kvs : List (Key × V)} {l : List (D × D)} (h : H a = some (.dK kvs)) (n : kvs.length = l.length) (ks : l.map (·.1) = kvs.map fun p => keyD p.1) (it : ∀ (i : Nat) (p : Key × V) (q : D × D), kvs[i]? = some p → l[i]? = some q → Rep K H p.2 q.2) : Rep K H (.ref a) (.dict l)
theorem Same.seqT {K : PySem.W.Frag} {H H' : Hp} {a : Addr} {xs : List V} (e : Same H H') (h : SqT K H a xs) : SqT K H' a xs := by
  rcases h with (h | ⟨o, h⟩) | h
  · exact .inl (.inl (e _ _ h))
  · exact .inl (.inr ⟨o, e _ _ h⟩)
  · exact .inr h
theorem Rep.mono {K : PySem.W.Frag} {H H' : Hp} (e : Same H H') {v : V} {d : D} (h : Rep K H v d) : Rep K H' v d := by
  induction h with
  | non => exact .non
  | bl b => exact .bl b
  | int i => exact .int i
  | str x => exact .str x
  | lst h n _ ih => exact .lst (e _ _ h) n ih
  | tup h n _ ih => exact .tup (Same.seqT e h) n ih
  | dct h n ks _ ih => exact .dct (e _ _ h) n ks ih

/-- what is owned: T bounds its addresses -/
inductive Own (K : PySem.W.Frag) (Hf H : Hp) : V → O → (Addr → Prop) → Prop
  | frz {v : V} {d : D} {T : Addr → Prop} (h : Rep K Hf v d) : Own K Hf H v (.frz d) T
  | box {a : Addr} {xs : List V} {l : List O} {T : Addr → Prop} (U : Nat → Addr → Prop) (h : H a = some (.lst xs)) (nf : Hf a = none) (ta : T a) (n : xs.length = l.length)
      (it : ∀ (i : Nat) (v : V) (o : O), xs[i]? = some v → l[i]? = some o → Own K Hf H v o (U i)) (dj : ∀ (i j : Nat) (b : Addr), i ≠ j → U i b → ¬ U j b) (sub : ∀ (i : Nat) (b : Addr), U i b → T b ∧ b ≠ a) : Own K Hf H (.ref a) (.box l) T
  | scr {a : Addr} {l : List Int} {T : Addr → Prop} (h : SqL K Hf a (l.map V.int)) : Own K Hf H (.ref a) (.scr l) T
theorem Own.wide {K : PySem.W.Frag} {Hf H : Hp} {v : V} {o : O} {T T' : Addr → Prop} (h : Own K Hf H v o T) (s : ∀ b, T b → T' b) : Own K Hf H v o T' := by
  cases h with
  | frz h => exact .frz h
  | box U h nf ta n it dj sub => exact .box U h nf (s _ ta) n it dj fun i b q => ⟨s b (sub i b q).1, (sub i b q).2⟩
  | scr h => exact .scr h
theorem Own.keep {K : PySem.W.Frag} {Hf H Hf' H' : Hp} (e : Same Hf Hf') {v : V} {o : O} {T : Addr → Prop} (h : Own K Hf H v o T) :
    (∀ b u, T b → H b = some u → H' b = some u) → (∀ b u, T b → H b = some u → Hf b = none → Hf' b = none) → Own K Hf' H' v o T := by
  induction h with
  | frz h => exact fun _ _ => .frz (h.mono e)
  | scr h => exact fun _ _ => .scr (Same.seq e h)
  | box U h nf ta n _ dj sub ih =>
    intro k1 k2
    exact .box U (k1 _ _ ta h) (k2 _ _ ta h nf) ta n (fun i v o e1 e2 => ih i v o e1 e2 (fun b u q => k1 b u (sub i b q).1) fun b u q => k2 b u (sub i b q).1) dj sub

/-- the step: what may have changed. F: what was owned, F': what is -/
structure Step (Hf H : Hp) (F : Addr → Prop) (Hf' H' : Hp) (F' : Addr → Prop) : Prop where
  mono : Same Hf Hf'
  dom : ∀ a u, Hf' a = some u → Hf a = some u ∨ H a = none ∨ F a
  frame : ∀ a u, ¬ F a → H a = some u → H' a = some u
  foot : ∀ a, F' a → F a ∨ H a = none
theorem Step.refl {Hf H : Hp} {F : Addr → Prop} : Step Hf H F Hf H F := ⟨fun _ _ h => h, fun _ _ h => .inl h, fun _ _ _ h => h, fun _ h => .inl h⟩
theorem Step.less {Hf H : Hp} {F F' : Addr → Prop} (h : ∀ a, F' a → F a) : Step Hf H F Hf H F' := ⟨fun _ _ h => h, fun _ _ h => .inl h, fun _ _ _ h => h, fun a q => .inl (h a q)⟩
theorem Step.old {Hf H Hf' H' : Hp} {F F' : Addr → Prop} (s : Step Hf H F Hf' H' F') {a : Addr} (h : H' a = none) : F a ∨ H a = none := by
  by_cases hf : F a
  · exact .inl hf
  · right
    cases q : H a with
    | none => rfl
    | some u => rw [s.frame a u hf q] at h; cases h
theorem Step.trans {Hf H Hf1 H1 Hf2 H2 : Hp} {F F1 F2 : Addr → Prop} (s : Step Hf H F Hf1 H1 F1) (t : Step Hf1 H1 F1 Hf2 H2 F2) : Step Hf H F Hf2 H2 F2 where
  mono := fun a u h => t.mono a u (s.mono a u h)
  dom := fun a u h => by
    rcases t.dom a u h with q | q | q
    · exact s.dom a u q
    · exact .inr ((s.old q).symm)
    · exact .inr ((s.foot a q).symm)
  frame := fun a u n h => t.frame a u (fun q => (s.foot a q).elim n fun z => by rw [h] at z; cases z) (s.frame a u n h)
  foot := fun a h => by
    rcases t.foot a h with q | q
    · exact s.foot a q
    · exact s.old q
/-- an owned thing beside is not touched -/
theorem Own.step {K : PySem.W.Frag} {Hf H Hf' H' : Hp} {F F' T : Addr → Prop} {v : V} {o : O} (s : Step Hf H F Hf' H' F') (h : Own K Hf H v o T) (d : ∀ b, T b → ¬ F b) : Own K Hf' H' v o T :=
  h.keep s.mono (fun b u t q => s.frame b u (d b t) q) fun b u t q n => by
    cases e : Hf' b with
    | none => rfl
    | some w =>
      rcases s.dom b w e with z | z | z
      · rw [n] at z; cases z
      · rw [q] at z; cases z
      · exact (d b t z).elim

def foot (U : Nat → Addr → Prop) : Addr → Prop := fun b => ∃ i, U i b
/-- the names' slots σ hold what ρ says; U: what each owns -/
structure Rel (K : PySem.W.Frag) (Hf H : Hp) (ρ : Env) (σ : L2.St) (U : Nat → Addr → Prop) : Prop where
  sub : Same Hf H
  len : ρ.length = σ.length
  own : ∀ (i : Nat) (o : O), ρ[i]? = some (some o) → ∃ v, σ[i]? = some (some v) ∧ Own K Hf H v o (U i)
  dj : ∀ (i j : Nat) (b : Addr), i ≠ j → U i b → ¬ U j b
  alive : ∀ (i : Nat) (b : Addr), U i b → H b ≠ none
section
variable {K : PySem.W.Frag} {Hf H Hf' H' : Hp} {ρ ρ' : Env} {σ : L2.St} {U U' : Nat → Addr → Prop} {v : V} {o : O} {d : D} {T : Addr → Prop} {i : Nat}
def updU (U : Nat → Addr → Prop) (i : Nat) (T : Addr → Prop) : Nat → Addr → Prop := fun j => if j = i then T else U j
theorem updU_same : updU U i T i = T := by unfold updU; rw [if_pos rfl]
theorem updU_ne {j : Nat} (h : j ≠ i) : updU U i T j = U j := by unfold updU; rw [if_neg h]
theorem updU_dj (dj : ∀ (i j : Nat) (b : Addr), i ≠ j → U i b → ¬ U j b) (h : ∀ b, T b → ¬ ∃ j, j ≠ i ∧ U j b) : ∀ (j k : Nat) (b : Addr), j ≠ k → updU U i T j b → ¬ updU U i T k b := by
  intro j k b hne h1 h2
  by_cases hj : j = i
  · subst hj
    rw [updU_same] at h1
    rw [updU_ne (Ne.symm hne)] at h2
    exact h b h1 ⟨k, Ne.symm hne, h2⟩
  · rw [updU_ne hj] at h1
    by_cases hk : k = i
    · subst hk
      rw [updU_same] at h2
      exact h b h2 ⟨j, hj, h1⟩
    · rw [updU_ne hk] at h2
      exact dj j k b hne h1 h2
theorem updU_alive (al : ∀ (i : Nat) (b : Addr), U i b → H b ≠ none) (h : ∀ b, T b → H b ≠ none) : ∀ (j : Nat) (b : Addr), updU U i T j b → H b ≠ none := fun j b q => by
  by_cases e : j = i
  · subst e; rw [updU_same] at q; exact h b q
  · rw [updU_ne e] at q; exact al j b q
theorem set_get {α : Type} {l : List α} {i j : Nat} {x y : α} (h : (l.set i x)[j]? = some y) : (j = i ∧ y = x) ∨ (j ≠ i ∧ l[j]? = some y) := by
  by_cases e : i = j
  · subst e
    left
    by_cases hl : i < l.length
    · rw [List.getElem?_set_self hl] at h
      exact ⟨rfl, (Option.some.inj h).symm⟩
    · rw [List.getElem?_eq_none (by rw [List.length_set]; omega)] at h
      cases h
  · right
    rw [List.getElem?_set_ne e] at h
    exact ⟨Ne.symm e, h⟩
/-- a slot of the environment and of the values is set -/
theorem Rel.put (R : Rel K Hf H ρ σ U) (h : Own K Hf H v o T) (t : ∀ b, T b → ¬ ∃ j, j ≠ i ∧ U j b) (al : ∀ b, T b → H b ≠ none) : Rel K Hf H (ρ.set i (some o)) (σ.set i (some v)) (updU U i T) := by
  refine ⟨R.sub, by rw [List.length_set, List.length_set, R.len], fun j o' e => ?_, updU_dj R.dj t, updU_alive R.alive al⟩
  rcases set_get e with ⟨rfl, e1⟩ | ⟨ne, e2⟩
  · cases e1
    have hi : j < σ.length := by
      have q := (List.getElem?_eq_some_iff.mp e).1
      rw [List.length_set, R.len] at q
      exact q
    exact ⟨v, List.getElem?_set_self hi, by rw [updU_same]; exact h⟩
  · obtain ⟨w, h1, h2⟩ := R.own j o' e2
    exact ⟨w, by rw [List.getElem?_set_ne (Ne.symm ne)]; exact h1, by rw [updU_ne ne]; exact h2⟩
/-- only what ρ says of a slot is changed -/
theorem Rel.re (R : Rel K Hf H ρ σ U) (hv : σ[i]? = some (some v)) (h : Own K Hf H v o T) (t : ∀ b, T b → ¬ ∃ j, j ≠ i ∧ U j b) (al : ∀ b, T b → H b ≠ none) : Rel K Hf H (ρ.set i (some o)) σ (updU U i T) := by
  refine ⟨R.sub, by rw [List.length_set, R.len], fun j o' e => ?_, updU_dj R.dj t, updU_alive R.alive al⟩
  rcases set_get e with ⟨rfl, e1⟩ | ⟨ne, e⟩
  · cases e1
    exact ⟨v, hv, by rw [updU_same]; exact h⟩
  · obtain ⟨w, h1, h2⟩ := R.own j o' e
    exact ⟨w, h1, by rw [updU_ne ne]; exact h2⟩
/-- a slot is forgotten (it owns T' or nothing any more) -/
theorem Rel.drop (R : Rel K Hf H ρ σ U) (i : Nat) : Rel K Hf H (ρ.set i none) σ (updU U i fun _ => False) := by
  refine ⟨R.sub, by rw [List.length_set, R.len], fun j o' e => ?_, updU_dj R.dj fun _ q => q.elim, updU_alive R.alive fun _ q => q.elim⟩
  rcases set_get e with ⟨rfl, e1⟩ | ⟨ne, e⟩
  · cases e1
  · obtain ⟨w, h1, h2⟩ := R.own j o' e
    exact ⟨w, h1, by rw [updU_ne ne]; exact h2⟩
theorem foot_updU (h : ∀ b, T b → foot U b) : ∀ b, foot (updU U i T) b → foot U b := fun b ⟨j, q⟩ => by
  by_cases e : j = i
  · subst e; rw [updU_same] at q; exact h b q
  · rw [updU_ne e] at q; exact ⟨j, q⟩

/-! ### a new object -/
theorem upd_mono {H : Hp} {p : Addr} {o : HO} (h : H p = none) : Same H (upd H p o) := fun b u q => by rw [upd_ne (ne_of_none q h)]; exact q
theorem Own.upd {p : Addr} {o' : HO} (hn : H p = none) (h : Own K Hf H v o T) : Own K Hf (L2.upd H p o') v o T :=
  h.keep (fun _ _ q => q) (fun b u _ q => by rw [upd_ne (ne_of_none q hn)]; exact q) fun _ _ _ _ q => q
theorem Own.updB {p : Addr} {o' : HO} (sub : Same Hf H) (hn : H p = none) (h : Own K Hf H v o T) : Own K (L2.upd Hf p o') (L2.upd H p o') v o T :=
  h.keep (upd_mono (sub.free hn)) (fun b u _ q => by rw [upd_ne (ne_of_none q hn)]; exact q) fun b u _ q n => by rw [upd_ne (ne_of_none q hn)]; exact n
theorem Rel.new {p : Addr} {o' : HO} (R : Rel K Hf H ρ σ U) (hn : H p = none) : Rel K Hf (L2.upd H p o') ρ σ U :=
  ⟨fun a u q => upd_mono hn a u (R.sub a u q), R.len, fun i o e => let ⟨v, h1, h2⟩ := R.own i o e; ⟨v, h1, h2.upd hn⟩, R.dj, fun i b q z => by
    by_cases e : b = p
    · subst e; exact R.alive i b q hn
    · rw [upd_ne e] at z; exact R.alive i b q z⟩
theorem Rel.newF {p : Addr} {o' : HO} (R : Rel K Hf H ρ σ U) (hn : H p = none) : Rel K (L2.upd Hf p o') (L2.upd H p o') ρ σ U :=
  ⟨fun a u q => by
    by_cases e : a = p
    · subst e; rw [upd_same] at q ⊢; exact q
    · rw [upd_ne e] at q ⊢; exact R.sub a u q, R.len, fun i o e => let ⟨v, h1, h2⟩ := R.own i o e; ⟨v, h1, h2.updB R.sub hn⟩, R.dj, fun i b q z => by
    by_cases e : b = p
    · subst e; exact R.alive i b q hn
    · rw [upd_ne e] at z; exact R.alive i b q z⟩
theorem Step.new {p : Addr} {o' : HO} {F : Addr → Prop} (hn : H p = none) : Step Hf H F Hf (L2.upd H p o') F :=
  ⟨fun _ _ q => q, fun _ _ q => .inl q, fun a u _ q => upd_mono hn a u q, fun _ q => .inl q⟩
theorem Step.newF {p : Addr} {o' : HO} {F : Addr → Prop} (sub : Same Hf H) (hn : H p = none) : Step Hf H F (L2.upd Hf p o') (L2.upd H p o') F :=
  ⟨upd_mono (sub.free hn), fun a u q => by
    by_cases e : a = p
    · subst e; exact .inr (.inl hn)
    · rw [upd_ne e] at q; exact .inl q, fun a u _ q => upd_mono hn a u q, fun _ q => .inl q⟩

/-! ### freezing: what was owned stays from now on -/
def join (Hf H : Hp) (T : Addr → Prop) [DecidablePred T] : Hp := fun a => if T a then H a else Hf a
open Classical in
noncomputable def joinC (Hf H : Hp) (T : Addr → Prop) : Hp := fun a => if T a then H a else Hf a
theorem joinC_in (h : T a) : joinC Hf H T a = H a := by unfold joinC; rw [if_pos h]
theorem joinC_out (h : ¬ T a) : joinC Hf H T a = Hf a := by unfold joinC; rw [if_neg h]
theorem joinC_same (sub : Same Hf H) : Same Hf (joinC Hf H T) := fun a u h => by
  by_cases t : T a
  · rw [joinC_in t]; exact sub a u h
  · rw [joinC_out t]; exact h
theorem joinC_sub (sub : Same Hf H) : Same (joinC Hf H T) H := fun a u h => by
  by_cases t : T a
  · rw [joinC_in t] at h; exact h
  · rw [joinC_out t] at h; exact sub a u h
theorem Rep.many {l : List O} {xs : List V} (n : xs.length = l.length) (it : ∀ (i : Nat) (v : V) (o : O), xs[i]? = some v → l[i]? = some o → Rep K Hf v o.fz) : ∀ (i : Nat) (v : V) (d : D), xs[i]? = some v → (fzs l)[i]? = some d → Rep K Hf v d := by
  intro i v d h1 h2
  rw [fzs_eq, List.getElem?_map] at h2
  cases e : l[i]? with
  | none => rw [e] at h2; cases h2
  | some o =>
    rw [e] at h2
    cases h2
    exact it i v o h1 e
theorem clean_get : ∀ {l : List O} {i : Nat} {o : O}, cleans l = true → l[i]? = some o → o.clean = true
  | [], i, o, _, e => by simp at e
  | x :: l, 0, o, h, e => by
    have e' : x = o := by simpa using e
    subst e'
    simp only [cleans, Bool.and_eq_true] at h
    exact h.1
  | x :: l, i + 1, o, h, e => by
    simp only [cleans, Bool.and_eq_true] at h
    exact clean_get (i := i) h.2 (by simpa using e)
theorem Own.fz (sub : Same Hf H) (h : Own K Hf H v o T) : o.clean = true → ∀ {T' : Addr → Prop}, (∀ b, T b → T' b) → Rep K (joinC Hf H T') v o.fz := by
  induction h with
  | frz h => exact fun _ _ _ => h.mono (joinC_same sub)
  | scr h => exact fun c => by simp [O.clean] at c
  | @box a xs l T U h nf ta n it dj sb ih =>
    intro c T' s
    simp only [O.clean] at c
    refine .lst (xs := xs) (by rw [joinC_in (s _ ta)]; exact h) (by rw [fzs_eq, List.length_map]; exact n) (Rep.many n fun i v o e1 e2 => ih i v o e1 e2 (clean_get c e2) fun b q => s b (sb i b q).1)
/-- the frozen part grows by T -/
theorem Step.fz (sub : Same Hf H) {F F' : Addr → Prop} (t : ∀ b, T b → F b) (f : ∀ b, F' b → F b) : Step Hf H F (joinC Hf H T) H F' :=
  ⟨joinC_same sub, fun a u h => by
    by_cases q : T a
    · exact .inr (.inr (t a q))
    · rw [joinC_out q] at h; exact .inl h, fun _ _ _ h => h, fun a q => .inl (f a q)⟩
theorem Step.fzT {Hf1 H1 : Hp} {F F1 : Addr → Prop} (S : Step Hf H F Hf1 H1 F1) (sub : Same Hf1 H1) (t : ∀ b, T b → F b ∨ H b = none) : Step Hf H F (joinC Hf1 H1 T) H1 F1 :=
  ⟨fun a u h => joinC_same sub a u (S.mono a u h), fun a u h => by
    by_cases q : T a
    · exact .inr ((t a q).symm)
    · rw [joinC_out q] at h; exact S.dom a u h, S.frame, S.foot⟩
theorem Own.other {T' : Addr → Prop} (sub : Same Hf H) (h : Own K Hf H v o T) (d : ∀ b, T b → ¬ T' b) : Own K (joinC Hf H T') H v o T :=
  h.keep (joinC_same sub) (fun _ _ _ q => q) fun b u t _ n => by rw [joinC_out (d b t)]; exact n
/-- T (owned by nothing of ρ) is frozen -/
theorem Rel.fz (R : Rel K Hf H ρ σ U) (d : ∀ b, T b → ¬ foot U b) : Rel K (joinC Hf H T) H ρ σ U :=
  ⟨joinC_sub R.sub, R.len, fun i o e => by
    obtain ⟨v, h1, h2⟩ := R.own i o e
    exact ⟨v, h1, h2.other R.sub fun b q t => d b t ⟨i, q⟩⟩, R.dj, R.alive⟩
/-- the slot i is frozen -/
theorem Rel.fzAt (R : Rel K Hf H ρ σ U) (e : ρ[i]? = some (some o)) (c : o.clean = true) : ∃ v, σ[i]? = some (some v) ∧ Rep K (joinC Hf H (U i)) v o.fz ∧
    Rel K (joinC Hf H (U i)) H (putO ρ i (.frz o.fz)) σ (updU U i fun _ => False) ∧ Step Hf H (foot U) (joinC Hf H (U i)) H (foot (updU U i fun _ => False)) := by
  obtain ⟨v, h1, h2⟩ := R.own i o e
  have r := h2.fz R.sub c (T' := U i) fun b q => q
  refine ⟨v, h1, r, ?_, Step.fz R.sub (fun b q => ⟨i, q⟩) (foot_updU fun b q => q.elim)⟩
  have R1 := R.drop i
  have R2 : Rel K (joinC Hf H (U i)) H (ρ.set i none) σ (updU U i fun _ => False) := R1.fz fun b q ⟨j, z⟩ => by
    by_cases hj : j = i
    · subst hj; rw [updU_same] at z; exact z
    · rw [updU_ne hj] at z; exact R.dj j i b hj z q
  have R3 := R2.re (i := i) h1 (.frz (T := fun _ => False) r) (fun _ q => q.elim) fun _ q => q.elim
  have e2 : (ρ.set i none).set i (some (.frz o.fz)) = putO ρ i (.frz o.fz) := List.set_set ..
  have e3 : updU (updU U i fun _ => False) i (fun _ => False) = updU U i fun _ => False := by
    funext j
    unfold updU
    split <;> rfl
  rw [e2, e3] at R3
  exact R3
end
end Tr
set_option Elab.async false
set_option linter.all false
set_option maxRecDepth 100000
set_option maxHeartbeats 4000000
/-! TrC: the readings that say «means the same», and the rules for expressions. -/
namespace L2
open PySem PySem.Spec PyProof.Rows
theorem PE.weak {X : Cx} {e : Expr} {t t' : TE} (h : PE X e t) (w : ∀ σ H Q, t' σ H Q → t σ H Q) : PE X e t' := ⟨fun pins s σ H Q I q => h.run pins s σ H Q I (w σ H Q q)⟩
theorem PT.weak {X : Cx} {e : Expr} {t t' : TT} (h : PT X e t) (w : ∀ σ H Q, t' σ H Q → t σ H Q) : PT X e t' := ⟨fun pins s σ H Q I q => h.run pins s σ H Q I (w σ H Q q)⟩
theorem PW.weak {X : Cx} {e : Expr} {t t' : TT} (h : PW X e t) (w : ∀ σ H Q, t' σ H Q → t σ H Q) : PW X e t' := ⟨fun wh pins s σ H Q I q => h.run wh pins s σ H Q I (w σ H Q q)⟩
theorem PA.weak {X : Cx} {e : List Expr} {t t' : TA} (h : PA X e t) (w : ∀ σ H Q, t' σ H Q → t σ H Q) : PA X e t' := ⟨fun pos pins s σ H Q I q => h.run pos pins s σ H Q I (w σ H Q q)⟩
theorem PS.weak {X : Cx} {e : Stmt} {t t' : TS} (h : PS X e t) (w : ∀ D σ H, t' D σ H → t D σ H) : PS X e t' := ⟨fun pins s σ H D I q => h.run pins s σ H D I (w D σ H q)⟩
theorem PSs.weak {X : Cx} {e : List Stmt} {t t' : TS} (h : PSs X e t) (w : ∀ D σ H, t' D σ H → t D σ H) : PSs X e t' := ⟨fun pins s σ H D I q => h.run pins s σ H D I (w D σ H q)⟩
theorem PO.weak {X : Cx} {e : Option Expr} {t t' : TO} (h : PO X e t) (w : ∀ σ H Q, t' σ H Q → t σ H Q) : PO X e t' := ⟨fun pins s σ H Q I q => h.run pins s σ H Q I (w σ H Q q)⟩
end L2
namespace Tr
open PySem PySem.Spec PyProof.Rows L2

abbrev UU := Nat → Addr → Prop
/-- an own error as it lies: its class at C, its fields in the dict d -/
def ExR (K : PySem.W.Frag) (ct : Str → Option Addr) (Hf H : Hp) (x : Ex) (cls : Value) (d : Option Addr) : Prop :=
  ∃ C, ct x.cls = some C ∧ cls = .ref C ∧ (x.flds = [] → d = none) ∧ ∀ f dd, x.flds = [(f, dd)] → ∃ a v, d = some a ∧ H a = some (.xd [(f, v)]) ∧ Rep K Hf v dd
def EW (K : PySem.W.Frag) (ct : Str → Option Addr) (W : WX) (σ : L2.St) (x : Ex) (ρ : Env) (Hf H : Hp) (U : UU) : Prop :=
  ∀ cls d, ExR K ct Hf H x cls d → W cls d σ H
def Post {α : Type} (K : PySem.W.Frag) (σ : L2.St) (Hf H : Hp) (U : UU) (E : Ex → Env → Hp → Hp → UU → Prop) (k : α → Env → Hp → Hp → UU → Prop) (r : R α) : Prop := match r with
  | .ok a ρ' => ∀ Hf' H' U', Rel K Hf' H' ρ' σ U' → Step Hf H (foot U) Hf' H' (foot U') → k a ρ' Hf' H' U'
  | .exc x ρ' => ∀ Hf' H' U', Rel K Hf' H' ρ' σ U' → Step Hf H (foot U) Hf' H' (foot U') → E x ρ' Hf' H' U'
  | .bad => False
section
variable {α β : Type} {K : PySem.W.Frag} {σ : L2.St} {Hf H : Hp} {U : UU} {E : Ex → Env → Hp → Hp → UU → Prop} {k k' : α → Env → Hp → Hp → UU → Prop} {kb : β → Env → Hp → Hp → UU → Prop} {r : R α} {f : α → Env → R β} {ρ : Env}
theorem Post.mono (h : Post K σ Hf H U E k r) (m : ∀ a ρ' Hf' H' U', r = .ok a ρ' → Rel K Hf' H' ρ' σ U' → Step Hf H (foot U) Hf' H' (foot U') → k a ρ' Hf' H' U' → k' a ρ' Hf' H' U') : Post K σ Hf H U E k' r := by
  cases r with
  | bad => exact h
  | exc x ρ' => exact h
  | ok a ρ' => exact fun Hf' H' U' R S => m a ρ' Hf' H' U' rfl R S (h Hf' H' U' R S)
theorem Post.bnd (h : Post K σ Hf H U E kb (r.bind f)) : Post K σ Hf H U E (fun a ρ1 Hf1 H1 U1 => Post K σ Hf1 H1 U1 E kb (f a ρ1)) r := by
  cases r with
  | bad => exact h
  | exc x ρ' => exact h
  | ok a ρ1 =>
    intro Hf1 H1 U1 R1 S1
    have h : Post K σ Hf H U E kb (f a ρ1) := h
    show Post K σ Hf1 H1 U1 E kb (f a ρ1)
    cases e : f a ρ1 with
    | bad => rw [e] at h; exact h
    | exc x ρ2 => rw [e] at h; exact fun Hf2 H2 U2 R2 S2 => h Hf2 H2 U2 R2 (S1.trans S2)
    | ok b ρ2 => rw [e] at h; exact fun Hf2 H2 U2 R2 S2 => h Hf2 H2 U2 R2 (S1.trans S2)
/-- .. still from the start -/
theorem Post.bnd0 (h : Post K σ Hf H U E kb (r.bind f)) : Post K σ Hf H U E (fun a ρ1 _ _ _ => Post K σ Hf H U E kb (f a ρ1)) r := by
  cases r with
  | bad => exact h
  | exc x ρ' => exact h
  | ok a ρ1 => exact fun Hf1 H1 U1 R1 S1 => h
theorem Post.then0 (h : Post K σ Hf H U E kb (r.bind f)) (m : ∀ a ρ1 Hf1 H1 U1, Rel K Hf1 H1 ρ1 σ U1 → Step Hf H (foot U) Hf1 H1 (foot U1) → Post K σ Hf H U E kb (f a ρ1) → k a ρ1 Hf1 H1 U1) : Post K σ Hf H U E k r :=
  h.bnd0.mono fun a ρ1 Hf1 H1 U1 _ R1 S1 q => m a ρ1 Hf1 H1 U1 R1 S1 q
/-- both at once -/
theorem Post.then (h : Post K σ Hf H U E kb (r.bind f)) (m : ∀ a ρ1 Hf1 H1 U1, Rel K Hf1 H1 ρ1 σ U1 → Step Hf H (foot U) Hf1 H1 (foot U1) → Post K σ Hf1 H1 U1 E kb (f a ρ1) → k a ρ1 Hf1 H1 U1) : Post K σ Hf H U E k r :=
  h.bnd.mono fun a ρ1 Hf1 H1 U1 _ R1 S1 q => m a ρ1 Hf1 H1 U1 R1 S1 q
/-- an answer that is there -/
theorem Post.of {o : Option α} (h : Post K σ Hf H U E k (R.of o ρ)) (R : Rel K Hf H ρ σ U) : ∃ a, o = some a ∧ k a ρ Hf H U := by
  cases o with
  | none => exact h.elim
  | some a => exact ⟨a, rfl, h Hf H U R Step.refl⟩
theorem Post.ok {a : α} (h : Post K σ Hf H U E k (.ok a ρ)) (R : Rel K Hf H ρ σ U) : k a ρ Hf H U := h Hf H U R Step.refl
end

def tE (K : PySem.W.Frag) (ct : Str → Option Addr) (W : WX) (m : Env → R D) : TE := fun σ H Q => ∃ Hf ρ U, Rel K Hf H ρ σ U ∧ Post K σ Hf H U (EW K ct W σ) (fun d _ Hf' H' _ => ∀ v, Rep K Hf' v d → Q v H') (m ρ)
def tT (K : PySem.W.Frag) (ct : Str → Option Addr) (W : WX) (m : Env → R Bool) : TT := fun σ H Q => ∃ Hf ρ U, Rel K Hf H ρ σ U ∧ Post K σ Hf H U (EW K ct W σ) (fun b _ _ H' _ => Q b H') (m ρ)
def tEs (K : PySem.W.Frag) (ct : Str → Option Addr) (W : WX) (m : Env → R (List D)) : TA := fun σ H Q => ∃ Hf ρ U, Rel K Hf H ρ σ U ∧
  Post K σ Hf H U (EW K ct W σ) (fun l _ Hf' H' _ => ∀ vs : List V, vs.length = l.length → (∀ (i : Nat) v d, vs[i]? = some v → l[i]? = some d → Rep K Hf' v d) → Q vs H') (m ρ)
def tF (K : PySem.W.Frag) (ct : Str → Option Addr) (W : WX) (m : Env → R O) : TE := fun σ H Q => ∃ Hf ρ U, Rel K Hf H ρ σ U ∧
  Post K σ Hf H U (EW K ct W σ) (fun o _ Hf' H' U' => ∀ v T, Own K Hf' H' v o T → (∀ b, T b → ¬ foot U' b ∧ H' b ≠ none ∧ (foot U b ∨ H b = none)) → Q v H') (m ρ)
/-- a row of owned things, apart from each other -/
structure Owns (K : PySem.W.Frag) (Hf H : Hp) (vs : List V) (os : List O) (Y : UU) : Prop where
  len : vs.length = os.length
  own : ∀ (i : Nat) v o, vs[i]? = some v → os[i]? = some o → Own K Hf H v o (Y i)
  dj : ∀ (i j : Nat) b, i ≠ j → Y i b → ¬ Y j b
def tFs (K : PySem.W.Frag) (ct : Str → Option Addr) (W : WX) (m : Env → R (List O)) : TA := fun σ H Q => ∃ Hf ρ U, Rel K Hf H ρ σ U ∧
  Post K σ Hf H U (EW K ct W σ) (fun os _ Hf' H' U' => ∀ vs Y, Owns K Hf' H' vs os Y → (∀ i b, Y i b → ¬ foot U' b ∧ H' b ≠ none ∧ (foot U b ∨ H b = none)) → Q vs H') (m ρ)

section
variable {X : Cx} {ct : Str → Option Addr} {W : WX} {a b c : Expr} {ma mb mc : Env → R D} {pos : Pos}
/-- two values, one after the other -/
theorem two {K : PySem.W.Frag} {σ : L2.St} {H : Hp} {Q : VK} {R2' : V → V → Hp → Prop} {g : D → D → Env → R D}
    (h : tE K ct W (fun ρ => (ma ρ).bind fun d ρ => (mb ρ).bind fun e ρ => g d e ρ) σ H Q)
    (m : ∀ d e ρ Hf' H' U' x y, Rel K Hf' H' ρ σ U' → Rep K Hf' x d → Rep K Hf' y e → Post K σ Hf' H' U' (EW K ct W σ) (fun d _ Hf' H' _ => ∀ v, Rep K Hf' v d → Q v H') (g d e ρ) → R2' x y H') :
    tE K ct W ma σ H fun x H1 => tE K ct W mb σ H1 fun y H2 => R2' x y H2 := by
  obtain ⟨Hf, ρ, U, R, p⟩ := h
  refine ⟨Hf, ρ, U, R, p.then fun d ρ1 Hf1 H1 U1 R1 S1 p1 x rx => ⟨Hf1, ρ1, U1, R1, p1.then fun e ρ2 Hf2 H2 U2 R2 S2 p2 y ry => ?_⟩⟩
  exact m d e ρ2 Hf2 H2 U2 x y R2 (rx.mono S2.mono) ry p2
/-- .. by an option -/
theorem twoO {K : PySem.W.Frag} {σ : L2.St} {H : Hp} {Q : VK} {R2' : V → V → Hp → Prop} {g : D → D → Option D}
    (h : tE K ct W (fun ρ => (ma ρ).bind fun d ρ => (mb ρ).bind fun e ρ => R.of (g d e) ρ) σ H Q)
    (m : ∀ d e r Hf' H' x y, Rep K Hf' x d → Rep K Hf' y e → g d e = some r → Same Hf' H' → (∀ v, Rep K Hf' v r → Q v H') → R2' x y H') :
    tE K ct W ma σ H fun x H1 => tE K ct W mb σ H1 fun y H2 => R2' x y H2 :=
  two h fun d e ρ Hf' H' U' x y R rx ry p => by
    obtain ⟨r, e1, q⟩ := p.of R
    exact m d e r Hf' H' x y rx ry e1 R.sub q
theorem oneO {K : PySem.W.Frag} {σ : L2.St} {H : Hp} {Q : VK} {R1' : V → Hp → Prop} {g : D → Option D}
    (h : tE K ct W (fun ρ => (ma ρ).bind fun d ρ => R.of (g d) ρ) σ H Q)
    (m : ∀ d r Hf' H' x, Rep K Hf' x d → g d = some r → Same Hf' H' → (∀ v, Rep K Hf' v r → Q v H') → R1' x H') : tE K ct W ma σ H R1' := by
  obtain ⟨Hf, ρ, U, R, p⟩ := h
  refine ⟨Hf, ρ, U, R, p.then fun d ρ1 Hf1 H1 U1 R1 S1 p1 x rx => ?_⟩
  obtain ⟨r, e1, q⟩ := p1.of R1
  exact m d r Hf1 H1 x rx e1 R1.sub q

/-! ### ints -/
theorem Rep.int_of {K : PySem.W.Frag} {H : Hp} {x : V} {i : Int} (h : Rep K H x (.int i)) : x = .int i := by cases h; rfl
theorem Rep.bool_of {K : PySem.W.Frag} {H : Hp} {x : V} {i : Bool} (h : Rep K H x (.bool i)) : x = .bl i := by cases h; rfl
theorem Rep.str_of {K : PySem.W.Frag} {H : Hp} {x : V} {i : Str} (h : Rep K H x (.str i)) : x = .str i := by cases h; rfl
theorem Rep.none_of {K : PySem.W.Frag} {H : Hp} {x : V} (h : Rep K H x .none) : x = .non := by cases h; rfl
def CDivX (i j : Int) : Prop := j ≠ 0 ∧ j.natAbs.log2 < 9000
theorem op_fdivX : OpR X (binaryOp .FloorDiv) (rI CDivX fun i j => .int (i.fdiv j)) := opI fun _ _ _ _ _ _ _ hc q => floordiv_int hc.1 q (.inl (PyProof.noPylong_of_log2 hc.2))
def bopOp : BOp → Operator
  | .sub => .Sub | .fdiv => .FloorDiv | .mod => .Mod | .pow => .Pow | .shl => .LShift | .shr => .RShift | .band => .BitAnd
theorem e_op (o : BOp) (ha : PE X a (tE X.K ct W ma)) (hb : PE X b (tE X.K ct W mb)) :
    PE X (.BinOp a (bopOp o) b pos) (tE X.K ct W fun ρ => (ma ρ).bind fun d ρ => (mb ρ).bind fun e ρ => R.of (opD o d e) ρ) := by
  cases o with
  | sub =>
    refine (pe_op op_sub ha hb).weak fun σ H Q h => twoO h fun d e r Hf' H' x y rx ry e1 _ q => ?_
    unfold opD at e1
    split at e1 <;> first | cases e1 | skip
    all_goals first | exact ⟨_, _, rx.int_of, ry.int_of, q _ (.int _)⟩ | contradiction
  | fdiv =>
    refine (pe_op op_fdivX ha hb).weak fun σ H Q h => twoO h fun d e r Hf' H' x y rx ry e1 _ q => ?_
    unfold opD at e1
    split at e1 <;> first | contradiction | skip
    split at e1 <;> first | contradiction | skip
    rename_i hc
    cases e1
    exact ⟨_, _, rx.int_of, ry.int_of, hc, q _ (.int _)⟩
  | mod =>
    refine (pe_op op_modN ha hb).weak fun σ H Q h => twoO h fun d e r Hf' H' x y rx ry e1 _ q => ?_
    unfold opD at e1
    split at e1 <;> first | contradiction | skip
    split at e1 <;> first | contradiction | skip
    rename_i hc
    cases e1
    exact ⟨_, _, rx.int_of, ry.int_of, hc, q _ (.int _)⟩
  | pow =>
    refine (pe_op op_pow ha hb).weak fun σ H Q h => twoO h fun d e r Hf' H' x y rx ry e1 _ q => ?_
    unfold opD at e1
    split at e1 <;> first | contradiction | skip
    split at e1 <;> first | contradiction | skip
    rename_i hc
    cases e1
    exact ⟨_, _, rx.int_of, ry.int_of, hc, q _ (.int _)⟩
  | shl =>
    refine (pe_op op_shl ha hb).weak fun σ H Q h => twoO h fun d e r Hf' H' x y rx ry e1 _ q => ?_
    unfold opD at e1
    split at e1 <;> first | contradiction | skip
    split at e1 <;> first | contradiction | skip
    rename_i hc
    cases e1
    exact ⟨_, _, rx.int_of, ry.int_of, hc, q _ (.int _)⟩
  | shr =>
    refine (pe_op op_shr ha hb).weak fun σ H Q h => twoO h fun d e r Hf' H' x y rx ry e1 _ q => ?_
    unfold opD at e1
    split at e1 <;> first | contradiction | skip
    split at e1 <;> first | contradiction | skip
    rename_i hc
    cases e1
    exact ⟨_, _, rx.int_of, ry.int_of, hc, q _ (.int _)⟩
  | band =>
    refine (pe_op op_and ha hb).weak fun σ H Q h => twoO h fun d e r Hf' H' x y rx ry e1 _ q => ?_
    unfold opD at e1
    split at e1 <;> first | contradiction | skip
    cases e1
    exact ⟨_, _, rx.int_of, ry.int_of, q _ (.int _)⟩
theorem e_neg (ha : PE X a (tE X.K ct W ma)) : PE X (.UnaryOp .USub a pos) (tE X.K ct W fun ρ => (ma ρ).bind fun d ρ => R.of (negD d) ρ) := by
  refine (pe_un un_neg ha).weak fun σ H Q h => oneO h fun d r Hf' H' x rx e1 _ q => ?_
  unfold negD at e1
  split at e1 <;> first | contradiction | skip
  cases e1
  exact ⟨_, rx.int_of, q _ (.int _)⟩
end
end Tr
set_option Elab.async false
set_option linter.all false
set_option maxRecDepth 100000
set_option maxHeartbeats 4000000
/-! TrC2: comparisons, truth, built-ins. -/
namespace Tr
open PySem PySem.Spec PyProof.Rows L2

theorem line_eq : sizeLine = line := by decide
/-! ### data read -/
theorem Own.rep {K : PySem.W.Frag} {Hf H : Hp} {v : V} {o : O} {T : Addr → Prop} (h : Own K Hf H v o T) (sub : Same Hf H) : o.clean = true → Rep K H v o.fz := by
  induction h with
  | frz h => exact fun _ => h.mono sub
  | scr h => exact fun c => by simp [O.clean] at c
  | box U h nf ta n it dj sb ih =>
    intro c
    simp only [O.clean] at c
    exact .lst h (by rw [fzs_eq, List.length_map]; exact n) (Rep.many n fun i v o e1 e2 => ih i v o e1 e2 (clean_get c e2))
theorem dpAll_of {K : PySem.W.Frag} {H : Hp} : ∀ {xs : List V} {l : List D}, xs.length = l.length → (∀ (i : Nat) v d, xs[i]? = some v → l[i]? = some d → Dp K H v d) → DpAll K H xs l
  | [], [], _, _ => .nil
  | v :: xs, d :: l, n, h => .cons (h 0 v d rfl rfl) (dpAll_of (by simpa using n) fun i v d e1 e2 => h (i + 1) v d (by simpa using e1) (by simpa using e2))
  | [], _ :: _, n, _ => by simp at n
  | _ :: _, [], n, _ => by simp at n
theorem canAll_get : ∀ {l : List D} {i : Nat} {d : D}, PyData.canLayAll0 l = true → l[i]? = some d → d.canLay0 = true
  | [], i, d, _, e => by simp at e
  | x :: l, 0, d, h, e => by
    have e' : x = d := by simpa using e
    subst e'
    simp only [PyData.canLayAll0, Bool.and_eq_true] at h
    exact h.1
  | x :: l, i + 1, d, h, e => by
    simp only [PyData.canLayAll0, Bool.and_eq_true] at h
    exact canAll_get (i := i) h.2 (by simpa using e)
theorem Rep.dp {K : PySem.W.Frag} {H : Hp} {v : V} {d : D} (h : Rep K H v d) : d.canLay0 = true → Dp K H v d := by
  induction h with
  | non => exact fun _ => .non
  | bl b => exact fun _ => .bl b
  | int i => exact fun _ => .int i
  | str x => exact fun _ => .str x
  | lst h n _ ih =>
    intro c
    simp only [PyData.canLay0] at c
    exact .lst (SqL.of h) (dpAll_of n fun i v d e1 e2 => ih i v d e1 e2 (canAll_get c e2))
  | tup h n _ ih =>
    intro c
    simp only [PyData.canLay0] at c
    exact .tup h (dpAll_of n fun i v d e1 e2 => ih i v d e1 e2 (canAll_get c e2))
  | dct h n ks _ ih =>
    intro c
    simp only [PyData.canLay0] at c
    cases c
/-- what it reads as in the state: no row of it lies where the modules are kept -/
theorem Rep.reads {X : Cx} {pins : List (Addr × Obj)} {σ : L2.St} {H : Hp} {s : Shared} (I : Inv X pins σ H s) (hsys : ∃ o, X.K.lookup sysModules = some o ∧ o.cls = .type "dict") {x : V} {d : D} (h : Rep X.K H x d) :
    ∀ u, RelV x u → ∃ as, Reads s.heap u d as ∧ sysModules ∉ as := by
  obtain ⟨os, es, cs⟩ := hsys
  have gs : s.heap.get? sysModules = some os := I.kIn _ _ es
  have all : ∀ {xs : List V} {l : List D} {us : List Value}, xs.length = l.length → (∀ (i : Nat) v d, xs[i]? = some v → l[i]? = some d → ∀ u, RelV v u → ∃ as, Reads s.heap u d as ∧ sysModules ∉ as) → Vals xs us → ∃ as, ReadsAll s.heap us l as ∧ sysModules ∉ as := by
    intro xs
    induction xs with
    | nil =>
      intro l us n _ r
      cases l with
      | nil => cases r; exact ⟨[], .nil, by simp⟩
      | cons _ _ => simp at n
    | cons v xs ih =>
      intro l us n k r
      cases l with
      | nil => simp at n
      | cons d l =>
        cases r with
        | cons r1 r2 =>
          obtain ⟨as, h1, h2⟩ := k 0 v d rfl rfl _ r1
          obtain ⟨bs, h3, h4⟩ := ih (by simpa using n) (fun i v d e1 e2 => k (i + 1) v d (by simpa using e1) (by simpa using e2)) r2
          exact ⟨as ++ bs, .cons h1 h3, fun q => (List.mem_append.mp q).elim h2 h4⟩
  have pairs : ∀ {kvs : List (Key × V)} {l : List (D × D)} {vs : List (Key × Value)} {es : List DictEntry}, kvs.length = l.length → l.map (·.1) = kvs.map (fun p => keyD p.1) → (∀ (i : Nat) (p : Key × V) (q : D × D), kvs[i]? = some p → l[i]? = some q → ∀ u, RelV p.2 u → ∃ as, Reads s.heap u q.2 as ∧ sysModules ∉ as) →
      KV kvs vs → Pairs (mixKind X.prog X.w) es vs → ∃ as bs, ReadsAll s.heap (es.map (·.key)) (l.map (·.1)) as ∧ ReadsAll s.heap (es.map (·.val)) (l.map (·.2)) bs ∧ sysModules ∉ as ∧ sysModules ∉ bs := by
    intro kvs
    induction kvs with
    | nil =>
      intro l vs es n hk _ r p
      cases l with
      | nil =>
        cases r
        cases p
        exact ⟨[], [], .nil, .nil, by simp, by simp⟩
      | cons _ _ => simp at n
    | cons p kvs ih =>
      intro l vs es n hk k r pr
      cases l with
      | nil => simp at n
      | cons q l =>
        cases r with
        | cons r1 r2 =>
          cases pr with
          | @cons e kv es2 vs2 p1 p2 p3 =>
            simp only [List.map_cons, List.cons.injEq] at hk
            obtain ⟨as, h1, h2⟩ := k 0 p q rfl rfl _ r1.2
            obtain ⟨as2, bs2, h3, h4, h5, h6⟩ := ih (by simpa using n) hk.2 (fun i v d e1 e2 => k (i + 1) v d (by simpa using e1) (by simpa using e2)) r2 p3
            have hkey : Reads s.heap e.key q.1 [] := by
              rw [hk.1, r1.1]
              rcases keyIs_shape p1 with ⟨i, t, e1, e2⟩ | ⟨x, t, e1, e2⟩
              · rw [e1, e2]; exact .int i t
              · rw [e1, e2]; exact .str x t
            exact ⟨[] ++ as2, as ++ bs2, .cons hkey h3, .cons (show Reads s.heap e.val q.2 as by rw [p2]; exact h1) h4, by simpa using h5, fun q => (List.mem_append.mp q).elim h2 h6⟩
  induction h with
  | non => intro u r; cases r; exact ⟨[], .none, by simp⟩
  | bl b => intro u r; cases r; exact ⟨[], .bool b, by simp⟩
  | int i => intro u r; obtain ⟨t, rfl⟩ := r; exact ⟨[], .int i t, by simp⟩
  | str x => intro u r; obtain ⟨t, rfl⟩ := r; exact ⟨[], .str x t, by simp⟩
  | lst h n _ ih =>
    intro u r
    rename_i a xs l _
    have ru : u = Value.ref a := r
    subst ru
    obtain ⟨_, its, m, r2, e⟩ := (show ObjOk X.prog X.w H s.heap a (.lst xs) from I.hok a _ h)
    obtain ⟨as, h1, h2⟩ := all n ih r2
    exact ⟨a :: as, .list e rfl rfl (by simpa using h1), fun q => by
      rcases List.mem_cons.mp q with q | q
      · rw [← q, gs] at e
        cases e
        injection cs with z
        exact absurd z (by decide)
      · exact h2 q⟩
  | tup h n _ ih =>
    intro u r
    rename_i a xs l _
    have ru : u = Value.ref a := r
    subst ru
    obtain ⟨its, r2, ⟨o, e1, e2, m, e3⟩, _⟩ := I.tuple h
    obtain ⟨as, h1, h2⟩ := all n ih r2
    exact ⟨as, .tuple e1 (by simpa using e2) (by simpa using e3) (by simpa using h1), h2⟩
  | dct h n ks _ ih =>
    intro u r
    rename_i a kvs l _
    have ru : u = Value.ref a := r
    subst ru
    obtain ⟨_, ne, vs, kv, o, es2, ep, e1, e2, e3, _, pr, _⟩ := (show ObjOk X.prog X.w H s.heap a (.dK kvs) from I.hok a _ h)
    obtain ⟨as, bs, h1, h2, h3, h4⟩ := pairs n ks ih kv pr
    exact ⟨a :: as ++ bs, .dict e1 e2.1 e3 h1 h2, fun q => by
      rcases List.mem_append.mp q with q | q
      · rcases List.mem_cons.mp q with q | q
        · rw [← q] at ne
          simp at ne
        · exact h3 q
      · exact h4 q⟩
theorem Rep.items {K : PySem.W.Frag} {H : Hp} {x : V} {d : D} {l : List D} (h : Rep K H x d) (e : itemsD d = some l) :
    ∃ a xs, x = .ref a ∧ (SqL K H a xs ∨ SqT K H a xs) ∧ xs.length = l.length ∧ (∀ (i : Nat) v d, xs[i]? = some v → l[i]? = some d → Rep K H v d) ∧ (d = .list l ∧ SqL K H a xs ∨ d = .tuple l ∧ SqT K H a xs) := by
  cases h <;> simp only [itemsD, Option.some.injEq, reduceCtorEq] at e
  case lst a xs l' h n it => subst e; exact ⟨a, xs, rfl, .inl (SqL.of h), n, it, .inl ⟨rfl, SqL.of h⟩⟩
  case tup a xs l' h n it => subst e; exact ⟨a, xs, rfl, .inr h, n, it, .inr ⟨rfl, h⟩⟩
theorem Rep.ints {K : PySem.W.Frag} {H : Hp} : ∀ {l : List D} {xs : List V} {ns : List Int}, xs.length = l.length → (∀ (i : Nat) v d, xs[i]? = some v → l[i]? = some d → Rep K H v d) → intsD l = some ns → xs = ns.map V.int
  | [], [], ns, _, _, e => by
    simp only [intsD, Option.some.injEq] at e
    subst e
    rfl
  | [], _ :: _, _, n, _, _ => by simp at n
  | _ :: _, [], _, n, _, _ => by simp at n
  | d :: l, x :: xs, ns, n, h, e => by
    have r := h 0 x d rfl rfl
    cases r <;> simp only [intsD, reduceCtorEq] at e
    case int i =>
      cases q : intsD l with
      | none => rw [q] at e; simp at e
      | some r =>
        rw [q] at e
        simp only [Option.map_some, Option.some.injEq] at e
        subst e
        have := Rep.ints (l := l) (xs := xs) (ns := r) (by simpa using n) (fun i v d e1 e2 => h (i + 1) v d (by simpa using e1) (by simpa using e2)) q
        rw [this]
        rfl

theorem lexLe_at (a b : List Int) : ∀ (k i : Nat), i + k = min a.length b.length →
    Ob.lexAt (fun j => decide (a.getD j 0 = b.getD j 0)) (fun j => decide (a.getD j 0 ≤ b.getD j 0)) (decide (a.length ≤ b.length)) i k = lexLeI (a.drop i) (b.drop i)
  | 0, i, h => by
    rw [Ob.lexAt_zero]
    by_cases q : a.length ≤ b.length
    · rw [decide_eq_true q, List.drop_eq_nil_of_le (as := a) (by omega)]
      cases b.drop i <;> rfl
    · rw [decide_eq_false q, List.drop_eq_nil_of_le (as := b) (by omega)]
      have hl : i < a.length := by omega
      rw [List.drop_eq_getElem_cons hl]
      rfl
  | k + 1, i, h => by
    have h1 : i < a.length := by omega
    have h2 : i < b.length := by omega
    rw [Ob.lexAt_succ, lexLe_at a b k (i + 1) (by omega), List.drop_eq_getElem_cons h1, List.drop_eq_getElem_cons h2]
    have e1 : a.getD i 0 = a[i] := by simp [List.getD, h1]
    have e2 : b.getD i 0 = b[i] := by simp [List.getD, h2]
    rw [e1, e2]
    simp only [lexLeI, decide_eq_true_eq]
theorem lexLe_all (a b : List Int) : Ob.lexAt (fun j => decide (a.getD j 0 = b.getD j 0)) (fun j => decide (a.getD j 0 ≤ b.getD j 0)) (decide (a.length ≤ b.length)) 0 (min a.length b.length) = lexLeI a b := by
  have h := lexLe_at a b (min a.length b.length) 0 (by omega)
  simpa using h
def copOp : COp → CmpOp
  | .eq => .Eq | .ne => .NotEq | .lt => .Lt | .le => .LtE | .gt => .Gt | .ge => .GtE | .mem => .In | .nmem => .NotIn
/-- what a comparison asks, by data -/
def rCmp (K : PySem.W.Frag) (o : COp) : R2 := fun x y H Q => ∃ d e r, Rep K H x d ∧ Rep K H y e ∧ cmpD o d e = some (.bool r) ∧ Q (.bl r) H
theorem room_of_ok {A : Around} {d e : D} (hu : A.units + 65 < cLine) (h : decide (d.depth ≤ 64) = true ∨ decide (e.depth ≤ 64) = true) : A.units + min d.depth e.depth < cLine := by
  have h1 := Nat.min_le_left d.depth e.depth
  have h2 := Nat.min_le_right d.depth e.depth
  rcases h with h | h
  · have := of_decide_eq_true h; omega
  · have := of_decide_eq_true h; omega
section
variable {X : Cx}
theorem strs2_of {d e : D} (h : strs2 d e = true) : (∃ x y, d = .str x ∧ e = .str y) ∨ ∃ l m, d = .list l ∧ e = .list m ∧ l.length ≠ m.length := by
  unfold strs2 at h
  split at h
  · exact .inl ⟨_, _, rfl, rfl⟩
  · exact .inr ⟨_, _, rfl, rfl, by simpa using h⟩
  · cases h
/-- two lists of unlike lengths, in the state -/
theorem unlike_lists {X : Cx} {pins : List (Addr × Obj)} {σ : L2.St} {H : Hp} {s : Shared} (I : Inv X pins σ H s) {x y : V} {u v : Value} {l m : List D} (hd : Rep X.K H x (.list l)) (he : Rep X.K H y (.list m)) (rx : RelV x v) (ry : RelV y u) (hl : l.length ≠ m.length) :
    ∃ (a b : Addr) (i1 i2 : Array Value), v = .ref a ∧ u = .ref b ∧ s.heap.IsList a i1 ∧ s.heap.IsList b i2 ∧ (i1.size != i2.size) = true := by
  cases hd with
  | lst h1 n1 _ =>
    cases he with
    | lst h2 n2 _ =>
      obtain ⟨i1, r1, p1, _⟩ := I.list (SqL.of h1)
      obtain ⟨i2, r2, p2, _⟩ := I.list (SqL.of h2)
      refine ⟨_, _, _, _, rx, ry, p1.isList, p2.isList, ?_⟩
      have e1 := r1.length
      have e2 := r2.length
      simp
      omega
theorem op_cmp (hu : X.A.units + 65 < cLine) : ∀ o : COp, OpR X (compareOp (copOp o)) (rCmp X.K o)
  | .eq => by
    intro pins s σ H x y v u Q I rx ry h
    obtain ⟨d, e, r, hd, he, c, q⟩ := h
    simp only [cmpD] at c
    split at c <;> first | contradiction | skip
    rename_i ok
    cases c
    rw [Bool.or_eq_true] at ok
    rcases ok with ok | ok
    · rcases strs2_of ok with ⟨x', y', rfl, rfl⟩ | ⟨l, m, rfl, rfl, hl⟩
      · cases hd
        cases he
        exact op_eq pins s σ H _ _ v u Q I rx ry ⟨rfl, by rw [dec_str]; exact q⟩
      · obtain ⟨a, b, i1, i2, rfl, rfl, h1, h2, h3⟩ := unlike_lists I hd he rx ry hl
        have ev : PyData.eqv (.list l) (.list m) = false := SeqAt.eqvAll_other_length hl
        rw [ev] at q
        exact SeqAt.RcAt.lists_lengths h1 h2 h3 (by omega) _ _ _ _ ⟨.bl _, H, I, rfl, q⟩
    simp only [eqOk, Bool.and_eq_true, Bool.or_eq_true] at ok
    obtain ⟨as, r1⟩ := Dp.reads I d x v (hd.dp ok.1.1) rx
    obtain ⟨bs, r2⟩ := Dp.reads I e y u (he.dp ok.1.2) ry
    exact SeqAt.compareEq_reads r1 r2 ok.1.1 ok.1.2 (room_of_ok hu ok.2) ⟨.bl _, H, I, rfl, q⟩
  | .ne => by
    intro pins s σ H x y v u Q I rx ry h
    obtain ⟨d, e, r, hd, he, c, q⟩ := h
    simp only [cmpD] at c
    split at c <;> first | contradiction | skip
    rename_i ok
    cases c
    rw [Bool.or_eq_true] at ok
    rcases ok with ok | ok
    · rcases strs2_of ok with ⟨x', y', rfl, rfl⟩ | ⟨l, m, rfl, rfl, hl⟩
      · cases hd
        cases he
        exact op_ne pins s σ H _ _ v u Q I rx ry ⟨rfl, by rw [dec_str]; exact q⟩
      · obtain ⟨a, b, i1, i2, rfl, rfl, h1, h2, h3⟩ := unlike_lists I hd he rx ry hl
        have ev : PyData.eqv (.list l) (.list m) = false := SeqAt.eqvAll_other_length hl
        rw [ev] at q
        exact SeqAt.RcNeAt.lists_lengths h1 h2 h3 (by omega) _ _ _ _ ⟨.bl _, H, I, rfl, q⟩
    simp only [eqOk, Bool.and_eq_true, Bool.or_eq_true] at ok
    obtain ⟨as, r1⟩ := Dp.reads I d x v (hd.dp ok.1.1) rx
    obtain ⟨bs, r2⟩ := Dp.reads I e y u (he.dp ok.1.2) ry
    exact SeqAt.compareNe_reads r1 r2 ok.1.1 ok.1.2 (room_of_ok hu ok.2) ⟨.bl _, H, I, rfl, q⟩
  | .lt => by
    intro pins s σ H x y v u Q I rx ry h
    obtain ⟨d, e, r, hd, he, c, q⟩ := h
    simp only [cmpD] at c
    cases g : ltD d e with
    | none => rw [g] at c; simp at c
    | some k =>
      rw [g] at c
      simp only [Option.map_some, Option.some.injEq, PyData.bool.injEq] at c
      subst c
      unfold ltD at g
      split at g <;> first | contradiction | skip
      · cases g
        exact op_lt pins s σ H x y v u Q I rx ry ⟨_, _, hd.int_of, he.int_of, q⟩
      · cases g
        exact op_lt_str pins s σ H x y v u Q I rx ry ⟨_, _, hd.str_of, he.str_of, q⟩
      · split at g <;> first | contradiction | skip
        rename_i l m _ _ a b e1 e2
        cases g
        obtain ⟨p, xs, rfl, _, n1, i1, w1⟩ := hd.items (l := l) rfl
        obtain ⟨p', ys, rfl, _, n2, i2, w2⟩ := he.items (l := m) rfl
        have z1 := Rep.ints n1 i1 e1
        have z2 := Rep.ints n2 i2 e2
        subst z1 z2
        have t1 : SqT X.K H p (a.map V.int) := by rcases w1 with w | w; · cases w.1
                                                  · exact w.2
        have t2 : SqT X.K H p' (b.map V.int) := by rcases w2 with w | w; · cases w.1
                                                   · exact w.2
        exact op_ltT (by omega) pins s σ H _ _ v u Q I rx ry ⟨_, _, a, b, rfl, rfl, t1, t2, q⟩
  | .gt => by
    intro pins s σ H x y v u Q I rx ry h
    obtain ⟨d, e, r, hd, he, c, q⟩ := h
    simp only [cmpD] at c
    cases g : gtD d e with
    | none => rw [g] at c; simp at c
    | some k =>
      rw [g] at c
      simp only [Option.map_some, Option.some.injEq, PyData.bool.injEq] at c
      subst c
      unfold gtD at g
      split at g <;> first | contradiction | skip
      · cases g
        exact op_gt pins s σ H x y v u Q I rx ry ⟨_, _, hd.int_of, he.int_of, q⟩
      · cases g
        exact op_gt_str pins s σ H x y v u Q I rx ry ⟨_, _, hd.str_of, he.str_of, q⟩
  | .le => by
    intro pins s σ H x y v u Q I rx ry h
    obtain ⟨d, e, r, hd, he, c, q⟩ := h
    simp only [cmpD] at c
    cases g : leD d e with
    | none => rw [g] at c; simp at c
    | some k =>
      rw [g] at c
      simp only [Option.map_some, Option.some.injEq, PyData.bool.injEq] at c
      subst c
      unfold leD at g
      split at g <;> first | contradiction | skip
      · cases g
        exact op_le pins s σ H x y v u Q I rx ry ⟨_, _, hd.int_of, he.int_of, q⟩
      · split at g <;> first | contradiction | skip
        rename_i l m _ _ a b e1 e2
        cases g
        obtain ⟨p, xs, rfl, _, n1, i1, w1⟩ := hd.items (l := l) rfl
        obtain ⟨p', ys, rfl, _, n2, i2, w2⟩ := he.items (l := m) rfl
        have z1 := Rep.ints n1 i1 e1
        have z2 := Rep.ints n2 i2 e2
        subst z1 z2
        have t1 : SqT X.K H p (a.map V.int) := by rcases w1 with w | w; · cases w.1
                                                  · exact w.2
        have t2 : SqT X.K H p' (b.map V.int) := by rcases w2 with w | w; · cases w.1
                                                   · exact w.2
        exact op_leT (by omega) pins s σ H _ _ v u Q I rx ry ⟨_, _, a, b, rfl, rfl, t1, t2, by rw [lexLe_all]; exact q⟩
  | .ge => by
    intro pins s σ H x y v u Q I rx ry h
    obtain ⟨d, e, r, hd, he, c, q⟩ := h
    simp only [cmpD] at c
    cases g : geD d e with
    | none => rw [g] at c; simp at c
    | some k =>
      rw [g] at c
      simp only [Option.map_some, Option.some.injEq, PyData.bool.injEq] at c
      subst c
      unfold geD at g
      split at g <;> first | contradiction | skip
      cases g
      exact op_ge pins s σ H x y v u Q I rx ry ⟨_, _, hd.int_of, he.int_of, q⟩
  | .mem => by
    intro pins s σ H x y v u Q I rx ry h
    obtain ⟨d, e, r, hd, he, c, q⟩ := h
    simp only [cmpD] at c
    split at c <;> first | contradiction | skip
    rename_i l el
    split at c <;> first | contradiction | skip
    rename_i ok
    cases c
    simp only [memOk, Bool.and_eq_true] at ok
    obtain ⟨p, ys, rfl, _, n, it, w⟩ := he.items el
    obtain ⟨bs, r2⟩ := Dp.reads I d x v (hd.dp (SeqAt.canLay_of_shaped ok.1)) rx
    have cl : PyData.canLayAll0 l = true := by simpa [PyData.canLay0] using SeqAt.canLay_of_shaped ok.2
    rcases w with ⟨rfl, w⟩ | ⟨rfl, w⟩
    · obtain ⟨as, r1⟩ := Dp.reads I _ _ u (he.dp (SeqAt.canLay_of_shaped ok.2)) ry
      exact SeqAt.in_list_reads r1 r2 cl (SeqAt.canLay_of_shaped ok.1) (PyProof.Rows.room_in_shaped ok.1 hu) ⟨.bl _, H, I, rfl, q⟩
    · obtain ⟨as, r1⟩ := Dp.reads I _ _ u (he.dp (by simpa [PyData.canLay0] using cl)) ry
      exact SeqAt.in_tuple_reads r1 r2 cl (SeqAt.canLay_of_shaped ok.1) (PyProof.Rows.room_in_shaped ok.1 hu) ⟨.bl _, H, I, rfl, q⟩
  | .nmem => by
    intro pins s σ H x y v u Q I rx ry h
    obtain ⟨d, e, r, hd, he, c, q⟩ := h
    simp only [cmpD] at c
    split at c <;> first | contradiction | skip
    rename_i l el
    split at c <;> first | contradiction | skip
    rename_i ok
    cases c
    simp only [memOk, Bool.and_eq_true] at ok
    obtain ⟨p, ys, rfl, _, n, it, w⟩ := he.items el
    obtain ⟨bs, r2⟩ := Dp.reads I d x v (hd.dp (SeqAt.canLay_of_shaped ok.1)) rx
    have cl : PyData.canLayAll0 l = true := by simpa [PyData.canLay0] using SeqAt.canLay_of_shaped ok.2
    rcases w with ⟨rfl, w⟩ | ⟨rfl, w⟩
    · obtain ⟨as, r1⟩ := Dp.reads I _ _ u (he.dp (SeqAt.canLay_of_shaped ok.2)) ry
      exact SeqAt.notIn_list_reads r1 r2 cl (SeqAt.canLay_of_shaped ok.1) (PyProof.Rows.room_in_shaped ok.1 hu) ⟨.bl _, H, I, rfl, q⟩
    · obtain ⟨as, r1⟩ := Dp.reads I _ _ u (he.dp (by simpa [PyData.canLay0] using cl)) ry
      exact SeqAt.notIn_tuple_reads r1 r2 cl (SeqAt.canLay_of_shaped ok.1) (PyProof.Rows.room_in_shaped ok.1 hu) ⟨.bl _, H, I, rfl, q⟩
end
theorem cmpD_bool {o : COp} {d e r : D} (h : cmpD o d e = some r) : ∃ b, r = .bool b := by
  cases o <;> simp only [cmpD] at h
  all_goals first
    | (split at h <;> first | (cases h; exact ⟨_, rfl⟩) | contradiction)
    | (rw [Option.map_eq_some_iff] at h; obtain ⟨b, _, h⟩ := h; exact ⟨b, h.symm⟩)
    | (split at h <;> first | contradiction | (split at h <;> first | (cases h; exact ⟨_, rfl⟩) | contradiction))
section
variable {X : Cx} {ct : Str → Option Addr} {W : WX} {a b c : Expr} {ma mb mc : Env → R D} {pos : Pos}
theorem e_cmp (hu : X.A.units + 65 < cLine) (o : COp) (ha : PE X a (tE X.K ct W ma)) (hb : PE X b (tE X.K ct W mb)) (hm : behindInMarks (copOp o) b = false) :
    PE X (.Compare a [copOp o] [b] pos) (tE X.K ct W fun ρ => (ma ρ).bind fun d ρ => (mb ρ).bind fun e ρ => R.of (cmpD o d e) ρ) :=
  (pe_cmpR (op_cmp hu o) ha hb hm).weak fun σ H Q h => twoO h fun d e r Hf' H' x y rx ry e1 sub q => by
    obtain ⟨k, rfl⟩ := cmpD_bool e1
    exact ⟨d, e, k, rx.mono sub, ry.mono sub, e1, q _ (.bl k)⟩
/-- two values, a truth -/
theorem twoB {K : PySem.W.Frag} {σ : L2.St} {H : Hp} {Q : Bool → Hp → Prop} {R2' : V → V → Hp → Prop} {g : D → D → Option Bool}
    (h : tT K ct W (fun ρ => (ma ρ).bind fun d ρ => (mb ρ).bind fun e ρ => R.of (g d e) ρ) σ H Q)
    (m : ∀ d e r Hf' H' x y, Rep K Hf' x d → Rep K Hf' y e → g d e = some r → Same Hf' H' → Q r H' → R2' x y H') :
    tE K ct W ma σ H fun x H1 => tE K ct W mb σ H1 fun y H2 => R2' x y H2 := by
  obtain ⟨Hf, ρ, U, R, p⟩ := h
  refine ⟨Hf, ρ, U, R, p.then fun d ρ1 Hf1 H1 U1 R1 S1 p1 x rx => ⟨Hf1, ρ1, U1, R1, p1.then fun e ρ2 Hf2 H2 U2 R2 S2 p2 y ry => ?_⟩⟩
  obtain ⟨r, e1, q⟩ := p2.of R2
  exact m d e r Hf2 H2 x y (rx.mono S2.mono) ry e1 R2.sub q
theorem boolD_of {r : D} {o : Option D} {k : Bool} (h : o.bind boolD = some k) : o = some (.bool k) := by
  cases o with
  | none => cases h
  | some r =>
    simp only [Option.bind_some] at h
    unfold boolD at h
    split at h
    · cases h; rfl
    · cases h
theorem t_cmp (hu : X.A.units + 65 < cLine) (o : COp) (ha : PE X a (tE X.K ct W ma)) (hb : PE X b (tE X.K ct W mb)) (hm : behindInMarks (copOp o) b = false) :
    PT X (.Compare a [copOp o] [b] pos) (tT X.K ct W fun ρ => (ma ρ).bind fun d ρ => (mb ρ).bind fun e ρ => R.of ((cmpD o d e).bind boolD) ρ) :=
  (pt_cmpR (op_cmp hu o) ha hb hm).weak fun σ H Q h => twoB h fun d e r Hf' H' x y rx ry e1 sub q =>
    ⟨d, e, r, rx.mono sub, ry.mono sub, boolD_of (r := .none) e1, r, rfl, q⟩
/-- in a list that stands in a slot -/
theorem memO_cmp {n : Bool} {d : D} {o : O} {r : Bool} (h : memO n d o = some r) : o.clean = true ∧ cmpD (if n then .nmem else .mem) d o.fz = some (.bool r) := by
  cases o with
  | scr l => cases h
  | frz e =>
    simp only [memO] at h
    cases e2 : itemsD e with
    | none => rw [e2] at h; cases h
    | some l =>
      rw [e2] at h
      dsimp only at h
      split at h <;> first | contradiction | skip
      rename_i ok
      cases h
      cases n <;> simp [cmpD, O.fz, O.clean, e2, ok]
  | box l =>
    simp only [memO] at h
    split at h <;> first | contradiction | skip
    rename_i ok
    simp only [Bool.and_eq_true] at ok
    cases h
    cases n <;> simp [cmpD, O.fz, O.clean, itemsD, ok]
theorem mem_slot {K : PySem.W.Frag} {s : Nat} {σ : L2.St} {H : Hp} {n : Bool} {g : Env → R Bool} {Q : VK} (h : ∃ Hf ρ U, Rel K Hf H ρ σ U ∧ Post K σ Hf H U (EW K ct W σ) (fun r _ _ H' _ => Q (.bl r) H') ((ma ρ).bind fun d ρ => R.of ((ldV s ρ).bind (memO n d)) ρ)) :
    tE K ct W ma σ H fun x H1 => tVar s σ H1 fun y H2 => rCmp K (if n then .nmem else .mem) x y H2 Q := by
  obtain ⟨Hf, ρ, U, R, p⟩ := h
  refine ⟨Hf, ρ, U, R, p.then fun d ρ1 Hf1 H1 U1 R1 S1 p1 x rx => ?_⟩
  obtain ⟨r, e1, q⟩ := p1.of R1
  cases e : ldV s ρ1 with
  | none => rw [e] at e1; cases e1
  | some o =>
    rw [e] at e1
    have es : ρ1[s]? = some (some o) := by
      unfold ldV at e
      split at e
      · cases e; assumption
      · cases e
    obtain ⟨y, hy, ow⟩ := R1.own s o es
    obtain ⟨cl, e3⟩ := memO_cmp e1
    exact ⟨y, hy, d, o.fz, r, rx.mono R1.sub, ow.rep R1.sub cl, e3, q⟩
def memOp (n : Bool) : CmpOp := if n then .NotIn else .In
theorem e_memS (hu : X.A.units + 65 < cLine) {n : Bool} {s : Nat} (ha : PE X a (tE X.K ct W ma)) (hb : PE X b (tVar s)) (hm : behindInMarks (memOp n) b = false) :
    PE X (.Compare a [memOp n] [b] pos) (tE X.K ct W fun ρ => (ma ρ).bind fun d ρ => R.of (((ldV s ρ).bind (memO n d)).map .bool) ρ) := by
  have ho : OpR X (compareOp (memOp n)) (rCmp X.K (if n then .nmem else .mem)) := by
    cases n with
    | true => exact op_cmp hu .nmem
    | false => exact op_cmp hu .mem
  refine (pe_cmpR ho ha hb hm).weak fun σ H Q h => mem_slot (g := fun _ => .bad) ?_
  obtain ⟨Hf, ρ, U, R0, p⟩ := h
  refine ⟨Hf, ρ, U, R0, ?_⟩
  dsimp only at p ⊢
  cases e : ma ρ with
  | bad => rw [e] at p; exact p
  | exc x ρ1 => rw [e] at p; exact p
  | ok d ρ1 =>
    rw [e] at p
    simp only [R.bind_ok] at p ⊢
    cases e2 : (ldV s ρ1).bind (memO n d) with
    | none => rw [e2] at p; exact p
    | some r => rw [e2] at p; exact fun Hf' H' U' R' S' => p Hf' H' U' R' S' _ (.bl r)
theorem t_memS (hu : X.A.units + 65 < cLine) {n : Bool} {s : Nat} (ha : PE X a (tE X.K ct W ma)) (hb : PE X b (tVar s)) (hm : behindInMarks (memOp n) b = false) :
    PT X (.Compare a [memOp n] [b] pos) (tT X.K ct W fun ρ => (ma ρ).bind fun d ρ => R.of ((ldV s ρ).bind (memO n d)) ρ) := by
  have ho : OpR X (compareOp (memOp n)) (rCmp X.K (if n then .nmem else .mem)) := by
    cases n with
    | true => exact op_cmp hu .nmem
    | false => exact op_cmp hu .mem
  refine (pt_cmpR ho ha hb hm).weak fun σ H Q h => ?_
  have h2 : ∃ Hf ρ U, Rel X.K Hf H ρ σ U ∧ Post X.K σ Hf H U (EW X.K ct W σ) (fun (r : Bool) _ _ H' _ => (fun (v : V) H' => ∃ k, v = V.bl k ∧ Q k H') (V.bl r) H') ((ma ρ).bind fun d ρ => R.of ((ldV s ρ).bind (memO n d)) ρ) := by
    obtain ⟨Hf, ρ, U, R, p⟩ := h
    exact ⟨Hf, ρ, U, R, p.mono fun r _ _ H' _ _ _ _ q => ⟨r, rfl, q⟩⟩
  exact mem_slot (g := fun _ => .bad) h2

/-- a name's list looked at, not frozen, against a value -/
theorem eq_slot {K : PySem.W.Frag} {s : Nat} {σ : L2.St} {H : Hp} {n : Bool} {Q : VK} {mr : Env → R D} (hr : mr = fun ρ => if (ldV s ρ).isSome then (mb ρ).bind fun e ρ => R.of ((ldV s ρ).bind fun o => eqO n o e) ρ else .bad)
    (h : ∃ Hf ρ U, Rel K Hf H ρ σ U ∧ Post K σ Hf H U (EW K ct W σ) (fun r _ _ H' _ => ∀ k, r = .bool k → Q (.bl k) H') (mr ρ)) :
    tVar s σ H fun x H1 => tE K ct W mb σ H1 fun y H2 => rCmp K (if n then .ne else .eq) x y H2 Q := by
  subst hr
  obtain ⟨Hf, ρ, U, R0, p⟩ := h
  dsimp only at p
  split at p <;> first | exact p.elim | skip
  rename_i hsm
  cases eo : ldV s ρ with
  | none => rw [eo] at hsm; cases hsm
  | some o0 =>
    have es0 : ρ[s]? = some (some o0) := by
      unfold ldV at eo
      split at eo
      · cases eo; assumption
      · cases eo
    obtain ⟨v, hv, _⟩ := R0.own s o0 es0
    refine ⟨v, hv, Hf, ρ, U, R0, p.then fun e ρ1 Hf1 H1 U1 R1 S1 p1 y ry => ?_⟩
    obtain ⟨r, e1, q⟩ := p1.of R1
    cases e : ldV s ρ1 with
    | none => rw [e] at e1; cases e1
    | some o =>
      rw [e] at e1
      have es : ρ1[s]? = some (some o) := by
        unfold ldV at e
        split at e
        · cases e; assumption
        · cases e
      obtain ⟨y', hy, ow⟩ := R1.own s o es
      rw [hv] at hy
      cases hy
      have e2 : eqO n o _ = some r := e1
      unfold eqO at e2
      split at e2 <;> first | contradiction | skip
      rename_i cl
      obtain ⟨b, rfl⟩ := cmpD_bool e2
      exact ⟨o.fz, _, b, ow.rep R1.sub cl, ry.mono R1.sub, e2, q b rfl⟩
def eqOp (n : Bool) : CmpOp := if n then .NotEq else .Eq
theorem e_eqS (hu : X.A.units + 65 < cLine) {n : Bool} {s : Nat} (ha : PE X a (tVar s)) (hb : PE X b (tE X.K ct W mb)) (hm : behindInMarks (eqOp n) b = false) :
    PE X (.Compare a [eqOp n] [b] pos) (tE X.K ct W fun ρ => if (ldV s ρ).isSome then (mb ρ).bind fun e ρ => R.of ((ldV s ρ).bind fun o => eqO n o e) ρ else .bad) := by
  have ho : OpR X (compareOp (eqOp n)) (rCmp X.K (if n then .ne else .eq)) := by
    cases n with
    | true => exact op_cmp hu .ne
    | false => exact op_cmp hu .eq
  refine (pe_cmpR ho ha hb hm).weak fun σ H Q h => eq_slot rfl ?_
  obtain ⟨Hf, ρ, U, R0, p⟩ := h
  exact ⟨Hf, ρ, U, R0, p.mono fun r _ _ H' _ _ _ _ q k hk => by subst hk; exact q _ (.bl k)⟩
theorem t_eqS (hu : X.A.units + 65 < cLine) {n : Bool} {s : Nat} (ha : PE X a (tVar s)) (hb : PE X b (tE X.K ct W mb)) (hm : behindInMarks (eqOp n) b = false) :
    PT X (.Compare a [eqOp n] [b] pos) (tT X.K ct W fun ρ => if (ldV s ρ).isSome then (mb ρ).bind fun e ρ => R.of ((ldV s ρ).bind fun o => (eqO n o e).bind boolD) ρ else .bad) := by
  have ho : OpR X (compareOp (eqOp n)) (rCmp X.K (if n then .ne else .eq)) := by
    cases n with
    | true => exact op_cmp hu .ne
    | false => exact op_cmp hu .eq
  refine (pt_cmpR ho ha hb hm).weak fun σ H Q h => eq_slot rfl ?_
  obtain ⟨Hf, ρ, U, R0, p⟩ := h
  refine ⟨Hf, ρ, U, R0, ?_⟩
  dsimp only at p ⊢
  split at p <;> first | exact p.elim | skip
  rename_i hsm
  rw [if_pos hsm]
  cases e : mb ρ with
  | bad => rw [e] at p; exact p
  | exc x ρ1 => rw [e] at p; exact p
  | ok d ρ1 =>
    rw [e] at p
    simp only [R.bind_ok] at p ⊢
    cases e2 : ldV s ρ1 with
    | none => rw [e2] at p; exact p
    | some o =>
      rw [e2] at p
      cases e3 : eqO n o d with
      | none => simp only [Option.bind_some, e3, Option.bind_none] at p; exact p.elim
      | some r =>
        simp only [Option.bind_some, e3] at p ⊢
        intro Hf' H' U' R' S' k hk
        subst hk
        exact ⟨k, rfl, p Hf' H' U' R' S'⟩

/-! ### chains -/
theorem chain_sem {K : PySem.W.Frag} {σ : L2.St} {H : Hp} {Q : VK} {o p : COp} (h : tE K ct W (fun ρ => (ma ρ).bind fun d ρ => (mb ρ).bind fun e ρ => (R.of ((cmpD o d e).bind boolD) ρ).bind fun t ρ =>
      if t then (mc ρ).bind fun f ρ => R.of (cmpD p e f) ρ else .ok (.bool false) ρ) σ H Q) : tChain (rCmp K o) (rCmp K p) (tE K ct W ma) (tE K ct W mb) (tE K ct W mc) σ H Q := by
  refine two h fun d e ρ Hf' H' U' x y R rx ry pp => ?_
  have q1 := pp.bnd
  obtain ⟨k, e1, q⟩ := q1.of R
  refine ⟨d, e, k, rx.mono R.sub, ry.mono R.sub, boolD_of (r := .none) e1, k, rfl, ?_⟩
  cases k with
  | false =>
    simp only [Bool.false_eq_true, if_false] at q ⊢
    exact q.ok R _ (.bl false)
  | true =>
    simp only [if_true] at q ⊢
    refine ⟨Hf', ρ, U', R, q.then fun f ρ2 Hf2 H2 U2 R2 S2 p2 z rz => ?_⟩
    obtain ⟨r, e2, q2⟩ := p2.of R2
    obtain ⟨j, rfl⟩ := cmpD_bool e2
    exact ⟨e, f, j, (ry.mono S2.mono).mono R2.sub, rz.mono R2.sub, e2, q2 _ (.bl j)⟩
theorem e_chain (hu : X.A.units + 65 < cLine) (o p : COp) (ha : PE X a (tE X.K ct W ma)) (hb : PE X b (tE X.K ct W mb)) (hc : PE X c (tE X.K ct W mc)) (hm : lastMarks [copOp o, copOp p] [b, c] = false) :
    PE X (.Compare a [copOp o, copOp p] [b, c] pos) (tE X.K ct W fun ρ => (ma ρ).bind fun d ρ => (mb ρ).bind fun e ρ => (R.of ((cmpD o d e).bind boolD) ρ).bind fun t ρ =>
      if t then (mc ρ).bind fun f ρ => R.of (cmpD p e f) ρ else .ok (.bool false) ρ) :=
  (pe_chain (op_cmp hu o) (op_cmp hu p) ha hb hc hm).weak fun σ H Q h => chain_sem h
theorem t_chain (hu : X.A.units + 65 < cLine) (o p : COp) (ha : PE X a (tE X.K ct W ma)) (hb : PE X b (tE X.K ct W mb)) (hc : PE X c (tE X.K ct W mc)) (hm : lastMarks [copOp o, copOp p] [b, c] = false) :
    PT X (.Compare a [copOp o, copOp p] [b, c] pos) (tT X.K ct W fun ρ => (ma ρ).bind fun d ρ => (mb ρ).bind fun e ρ => (R.of ((cmpD o d e).bind boolD) ρ).bind fun t ρ =>
      if t then (mc ρ).bind fun f ρ => R.of ((cmpD p e f).bind boolD) ρ else .ok false ρ) := by
  refine (pt_chain (op_cmp hu o) (op_cmp hu p) ha hb hc hm).weak fun σ H Q h => chain_sem (Q := fun v H' => ∃ k, v = .bl k ∧ Q k H') ?_
  obtain ⟨Hf, ρ, U, R0, p1⟩ := h
  refine ⟨Hf, ρ, U, R0, ?_⟩
  revert p1
  dsimp only
  cases ma ρ with
  | bad => exact fun h => h
  | exc x ρ1 => exact fun h => h
  | ok d ρ1 =>
    simp only [R.bind_ok]
    cases mb ρ1 with
    | bad => exact fun h => h
    | exc x ρ2 => exact fun h => h
    | ok e ρ2 =>
      simp only [R.bind_ok]
      cases (cmpD o d e).bind boolD with
      | none => exact fun h => h
      | some t =>
        simp only [R.of_some, R.bind_ok]
        cases t with
        | false => exact fun h Hf' H' U' R' S' v rv => ⟨false, rv.bool_of, h Hf' H' U' R' S'⟩
        | true =>
          simp only [if_true]
          cases mc ρ2 with
          | bad => exact fun h => h
          | exc x ρ3 => exact fun h => h
          | ok f ρ3 =>
            simp only [R.bind_ok]
            cases e2 : cmpD p e f with
            | none => exact fun h => h
            | some r =>
              obtain ⟨j, rfl⟩ := cmpD_bool e2
              exact fun h Hf' H' U' R' S' v rv => ⟨j, rv.bool_of, h Hf' H' U' R' S'⟩

/-! ### is -/
theorem isN_dec {K : PySem.W.Frag} {H : Hp} {x : V} {d : D} (h : Rep K H x d) : decide (x = V.non) = isNoneD d := by
  cases h <;> simp [isNoneD]
theorem e_isN {n : Bool} {j : Nat} {p2 : Pos} (ha : PE X a (tE X.K ct W ma)) : PE X (.Compare a [if n then .IsNot else .Is] [.Constant .none j p2] pos) (tE X.K ct W fun ρ => (ma ρ).bind fun d ρ => .ok (.bool (if n then !isNoneD d else isNoneD d)) ρ) := by
  cases n with
  | true =>
    refine (pe_cmp (pc_notN ha)).weak fun σ H Q h => ?_
    obtain ⟨Hf, ρ, U, R, p⟩ := h
    refine ⟨Hf, ρ, U, R, p.then fun d ρ1 Hf1 H1 U1 R1 S1 p1 x rx => ?_⟩
    have q := p1.ok R1 _ (.bl _)
    show Q (.bl (!decide (x = V.non))) H1
    rw [isN_dec rx]
    exact q
  | false =>
    refine (pe_cmp (pc_isN ha)).weak fun σ H Q h => ?_
    obtain ⟨Hf, ρ, U, R, p⟩ := h
    refine ⟨Hf, ρ, U, R, p.then fun d ρ1 Hf1 H1 U1 R1 S1 p1 x rx => ?_⟩
    have q := p1.ok R1 _ (.bl _)
    show Q (.bl (decide (x = V.non))) H1
    rw [isN_dec rx]
    exact q
theorem t_isN {n : Bool} {j : Nat} {p2 : Pos} (ha : PE X a (tE X.K ct W ma)) : PT X (.Compare a [if n then .IsNot else .Is] [.Constant .none j p2] pos) (tT X.K ct W fun ρ => (ma ρ).bind fun d ρ => .ok (if n then !isNoneD d else isNoneD d) ρ) := by
  cases n with
  | true =>
    refine (pt_cmp (pc_notN ha)).weak fun σ H Q h => ?_
    obtain ⟨Hf, ρ, U, R, p⟩ := h
    refine ⟨Hf, ρ, U, R, p.then fun d ρ1 Hf1 H1 U1 R1 S1 p1 x rx => ⟨_, rfl, ?_⟩⟩
    rw [isN_dec rx]
    exact p1.ok R1
  | false =>
    refine (pt_cmp (pc_isN ha)).weak fun σ H Q h => ?_
    obtain ⟨Hf, ρ, U, R, p⟩ := h
    refine ⟨Hf, ρ, U, R, p.then fun d ρ1 Hf1 H1 U1 R1 S1 p1 x rx => ⟨_, rfl, ?_⟩⟩
    rw [isN_dec rx]
    exact p1.ok R1
theorem oneB {K : PySem.W.Frag} {σ : L2.St} {H : Hp} {Q : Bool → Hp → Prop} {R1' : V → Hp → Prop} {g : D → Option Bool}
    (h : tT K ct W (fun ρ => (ma ρ).bind fun d ρ => R.of (g d) ρ) σ H Q)
    (m : ∀ d r Hf' H' x, Rep K Hf' x d → g d = some r → Same Hf' H' → Q r H' → R1' x H') : tE K ct W ma σ H R1' := by
  obtain ⟨Hf, ρ, U, R, p⟩ := h
  refine ⟨Hf, ρ, U, R, p.then fun d ρ1 Hf1 H1 U1 R1 S1 p1 x rx => ?_⟩
  obtain ⟨r, e1, q⟩ := p1.of R1
  exact m d r Hf1 H1 x rx e1 R1.sub q
theorem boolD_rep {K : PySem.W.Frag} {H : Hp} {x : V} {d : D} {c : Bool} (h : Rep K H x d) (e : boolD d = some c) : x = .bl c := by
  unfold boolD at e
  split at e
  · cases e; exact h.bool_of
  · cases e
theorem dec_b {b c : Bool} : decide (c = b) = (c == b) := by cases b <;> cases c <;> rfl
theorem e_isB {n b' : Bool} {j : Nat} {p2 : Pos} (ha : PE X a (tE X.K ct W ma)) : PE X (.Compare a [if n then .IsNot else .Is] [.Constant (.bool b') j p2] pos) (tE X.K ct W fun ρ => (ma ρ).bind fun d ρ => R.of ((boolD d).map fun c => .bool (if n then c != b' else c == b')) ρ) := by
  cases n with
  | true =>
    refine (pe_cmpR op_notBl ha pe_bl (nomark _)).weak fun σ H Q h => oneO (g := fun d => (boolD d).map fun c => .bool (c != b')) h fun d r Hf' H' x rx e1 _ q => ?_
    rw [Option.map_eq_some_iff] at e1
    obtain ⟨c, e2, rfl⟩ := e1
    refine ⟨c, b', boolD_rep rx e2, rfl, ?_⟩
    rw [dec_b]
    exact q _ (.bl _)
  | false =>
    refine (pe_cmpR op_isBl ha pe_bl (nomark _)).weak fun σ H Q h => oneO (g := fun d => (boolD d).map fun c => .bool (c == b')) h fun d r Hf' H' x rx e1 _ q => ?_
    rw [Option.map_eq_some_iff] at e1
    obtain ⟨c, e2, rfl⟩ := e1
    refine ⟨c, b', boolD_rep rx e2, rfl, ?_⟩
    rw [dec_b]
    exact q _ (.bl _)
theorem t_isB {n b' : Bool} {j : Nat} {p2 : Pos} (ha : PE X a (tE X.K ct W ma)) : PT X (.Compare a [if n then .IsNot else .Is] [.Constant (.bool b') j p2] pos) (tT X.K ct W fun ρ => (ma ρ).bind fun d ρ => R.of ((boolD d).map fun c => if n then c != b' else c == b') ρ) := by
  cases n with
  | true =>
    refine (pt_cmpR op_notBl ha pe_bl (nomark _)).weak fun σ H Q h => oneB (g := fun d => (boolD d).map fun c => (c != b')) h fun d r Hf' H' x rx e1 _ q => ?_
    rw [Option.map_eq_some_iff] at e1
    obtain ⟨c, e2, rfl⟩ := e1
    refine ⟨c, b', boolD_rep rx e2, rfl, _, rfl, ?_⟩
    rw [dec_b]
    exact q
  | false =>
    refine (pt_cmpR op_isBl ha pe_bl (nomark _)).weak fun σ H Q h => oneB (g := fun d => (boolD d).map fun c => (c == b')) h fun d r Hf' H' x rx e1 _ q => ?_
    rw [Option.map_eq_some_iff] at e1
    obtain ⟨c, e2, rfl⟩ := e1
    refine ⟨c, b', boolD_rep rx e2, rfl, _, rfl, ?_⟩
    rw [dec_b]
    exact q

/-! ### truth -/
theorem truD_ok {K : PySem.W.Frag} {H : Hp} {x : V} {d : D} {k : Bool} (h : Rep K H x d) (e : truD d = some k) : TruV K x H k := by
  cases h <;> simp only [truD, Option.some.injEq] at e
  case non => exact e.symm
  case bl b => exact e.symm
  case int i => exact e.symm
  case str y =>
    split at e <;> first | contradiction | skip
    rename_i hy
    exact ⟨by rw [line_eq]; exact hy, (Option.some.inj e).symm⟩
  case lst a xs l h n it =>
    refine .inl ⟨xs, SqL.of h, ?_⟩
    rw [← e]
    cases xs <;> cases l <;> simp_all
  case tup a xs l h n it =>
    refine .inr (.inl ⟨xs, h, ?_⟩)
    rw [← e]
    cases xs <;> cases l <;> simp_all
  case dct => cases e
theorem e_not (ha : PE X a (tE X.K ct W ma)) : PE X (.UnaryOp .Not a pos) (tE X.K ct W fun ρ => (ma ρ).bind fun d ρ => R.of (notD d) ρ) := by
  refine (pe_notT ha).weak fun σ H Q h => oneO h fun d r Hf' H' x rx e1 sub q => ?_
  unfold notD at e1
  rw [Option.map_eq_some_iff] at e1
  obtain ⟨k, e2, rfl⟩ := e1
  exact ⟨k, truD_ok (rx.mono sub) e2, q _ (.bl _)⟩
theorem t_tru (ha : PE X a (tE X.K ct W ma)) (he : ∀ whole, isTrue a X.env whole = (do let v ← whole; standAt a.pos; holding [v] (truthy v))) : PT X a (tT X.K ct W fun ρ => (ma ρ).bind fun d ρ => R.of (truD d) ρ) :=
  (pt_truth ha he).weak fun σ H Q h => oneB h fun d r Hf' H' x rx e1 sub q => ⟨r, truD_ok (rx.mono sub) e1, q⟩
theorem e_and {rest : List Expr} (ha : PE X a (tE X.K ct W ma)) (hb : PE X (.BoolOp .And (b :: rest) pos) (tE X.K ct W mb)) :
    PE X (.BoolOp .And (a :: b :: rest) pos) (tE X.K ct W fun ρ => (ma ρ).bind fun d ρ => (R.of (boolD d) ρ).bind fun t ρ => if t then mb ρ else .ok (.bool false) ρ) := by
  refine (pe_and ha hb).weak fun σ H Q h => ?_
  obtain ⟨Hf, ρ, U, R, p⟩ := h
  refine ⟨Hf, ρ, U, R, p.then fun d ρ1 Hf1 H1 U1 R1 S1 p1 x rx => ?_⟩
  obtain ⟨k, e1, q⟩ := p1.bnd.of R1
  refine ⟨k, boolD_rep rx e1, ?_⟩
  cases k with
  | true => simp only [if_true] at q ⊢; exact ⟨Hf1, ρ1, U1, R1, q⟩
  | false => simp only [Bool.false_eq_true, if_false] at q ⊢; exact q.ok R1 _ (.bl _)
theorem e_or {rest : List Expr} (ha : PE X a (tE X.K ct W ma)) (hb : PE X (.BoolOp .Or (b :: rest) pos) (tE X.K ct W mb)) :
    PE X (.BoolOp .Or (a :: b :: rest) pos) (tE X.K ct W fun ρ => (ma ρ).bind fun d ρ => (R.of (boolD d) ρ).bind fun t ρ => if t then .ok (.bool true) ρ else mb ρ) := by
  refine (pe_or ha hb).weak fun σ H Q h => ?_
  obtain ⟨Hf, ρ, U, R, p⟩ := h
  refine ⟨Hf, ρ, U, R, p.then fun d ρ1 Hf1 H1 U1 R1 S1 p1 x rx => ?_⟩
  obtain ⟨k, e1, q⟩ := p1.bnd.of R1
  refine ⟨k, boolD_rep rx e1, ?_⟩
  cases k with
  | false => simp only [Bool.false_eq_true, if_false] at q ⊢; exact ⟨Hf1, ρ1, U1, R1, q⟩
  | true => simp only [if_true] at q ⊢; exact q.ok R1 _ (.bl _)
variable {na nb : Env → R Bool}
theorem t_and {rest : List Expr} (ha : PT X a (tT X.K ct W na)) (hb : PW X (.BoolOp .And (b :: rest) pos) (tT X.K ct W nb)) :
    PW X (.BoolOp .And (a :: b :: rest) pos) (tT X.K ct W fun ρ => (na ρ).bind fun t ρ => if t then nb ρ else .ok false ρ) := by
  refine (pw_and ha hb).weak fun σ H Q h => ?_
  obtain ⟨Hf, ρ, U, R, p⟩ := h
  refine ⟨Hf, ρ, U, R, p.then fun k ρ1 Hf1 H1 U1 R1 S1 q => ?_⟩
  cases k with
  | true => simp only [if_true] at q ⊢; exact ⟨Hf1, ρ1, U1, R1, q⟩
  | false => simp only [Bool.false_eq_true, if_false] at q ⊢; exact q.ok R1
theorem t_or {rest : List Expr} (ha : PT X a (tT X.K ct W na)) (hb : PW X (.BoolOp .Or (b :: rest) pos) (tT X.K ct W nb)) :
    PW X (.BoolOp .Or (a :: b :: rest) pos) (tT X.K ct W fun ρ => (na ρ).bind fun t ρ => if t then .ok true ρ else nb ρ) := by
  refine (pw_or ha hb).weak fun σ H Q h => ?_
  obtain ⟨Hf, ρ, U, R, p⟩ := h
  refine ⟨Hf, ρ, U, R, p.then fun k ρ1 Hf1 H1 U1 R1 S1 q => ?_⟩
  cases k with
  | false => simp only [Bool.false_eq_true, if_false] at q ⊢; exact ⟨Hf1, ρ1, U1, R1, q⟩
  | true => simp only [if_true] at q ⊢; exact q.ok R1
theorem t_not (ha : PT X a (tT X.K ct W na)) : PT X (.UnaryOp .Not a pos) (tT X.K ct W fun ρ => (na ρ).bind fun t ρ => .ok (!t) ρ) := by
  refine (pt_not ha).weak fun σ H Q h => ?_
  obtain ⟨Hf, ρ, U, R, p⟩ := h
  exact ⟨Hf, ρ, U, R, p.then fun k ρ1 Hf1 H1 U1 R1 S1 q => q.ok R1⟩
theorem e_ife (hc : PT X c (tT X.K ct W na)) (ha : PE X a (tE X.K ct W ma)) (hb : PE X b (tE X.K ct W mb)) : PE X (.IfExp c a b pos) (tE X.K ct W fun ρ => (na ρ).bind fun t ρ => if t then ma ρ else mb ρ) := by
  refine (pe_ifExp hc ha hb).weak fun σ H Q h => ?_
  obtain ⟨Hf, ρ, U, R, p⟩ := h
  refine ⟨Hf, ρ, U, R, p.then fun k ρ1 Hf1 H1 U1 R1 S1 q => ?_⟩
  cases k with
  | false => simp only [Bool.false_eq_true, if_false] at q ⊢; exact ⟨Hf1, ρ1, U1, R1, q⟩
  | true => simp only [if_true] at q ⊢; exact ⟨Hf1, ρ1, U1, R1, q⟩
end
end Tr
set_option Elab.async false
set_option linter.all false
set_option maxRecDepth 100000
set_option maxHeartbeats 4000000
/-! TrC3: names, constants, displays, subscripts, paths, built-ins. -/
namespace Tr
open PySem PySem.Spec PyProof.Rows L2

section
variable {X : Cx} {ct : Str → Option Addr} {W : WX} {a b c : Expr} {ma mb mc : Env → R D} {pos : Pos}

/-! ### names, constants -/
theorem v_sem {K : PySem.W.Frag} {σ : L2.St} {H : Hp} {Q : VK} {i : Nat} (h : tE K ct W (rdV i) σ H Q) : tVar i σ H Q := by
  obtain ⟨Hf, ρ, U, R0, p⟩ := h
  unfold rdV at p
  split at p
  · rename_i d e
    obtain ⟨v, h1, h2⟩ := R0.own i _ e
    cases h2 with
    | frz r => exact ⟨v, h1, p.ok R0 v r⟩
  · rename_i l e
    split at p
    · rename_i cl
      obtain ⟨v, h1, r, R1, S1⟩ := R0.fzAt e (by simpa [O.clean] using cl)
      exact ⟨v, h1, p _ _ _ R1 S1 v r⟩
    · exact p.elim
  · exact p.elim
theorem e_v {i : Nat} (h : PE X a (tVar i)) : PE X a (tE X.K ct W (rdV i)) := h.weak fun σ H Q q => v_sem q
theorem const_sem {K : PySem.W.Frag} {σ : L2.St} {H : Hp} {Q : VK} {d : D} {v : V} (r : ∀ H, Rep K H v d) (h : tE K ct W (fun ρ => .ok d ρ) σ H Q) : tC v σ H Q := by
  obtain ⟨Hf, ρ, U, R0, p⟩ := h
  exact p.ok R0 v (r _)
theorem e_int {i j} : PE X (.Constant (.int i) j pos) (tE X.K ct W fun ρ => .ok (.int i) ρ) := pe_int.weak fun σ H Q q => const_sem (fun _ => .int i) q
theorem e_bl {i j} : PE X (.Constant (.bool i) j pos) (tE X.K ct W fun ρ => .ok (.bool i) ρ) := pe_bl.weak fun σ H Q q => const_sem (fun _ => .bl i) q
theorem e_non {j} : PE X (.Constant .none j pos) (tE X.K ct W fun ρ => .ok .none ρ) := pe_non.weak fun σ H Q q => const_sem (fun _ => .non) q
theorem e_str {x j} : PE X (.Constant (.str x) j pos) (tE X.K ct W fun ρ => .ok (.str x) ρ) := pe_str.weak fun σ H Q q => const_sem (fun _ => .str x) q
theorem e_glob {x : Str} {v : V} {u : Value} {d : D} {Φ : Tab} {k : Nat} (hg : Gl X x) (hm : X.mg x = some u) (r : RelV v u) (hr : ∀ H, Rep X.K H v d) (hk : Φ.gl[k]? = some d) (hd : (x == ("__debug__" : Str)) = false) :
    PE X (.Name x pos) (tE X.K ct W fun ρ => R.of Φ.gl[k]? ρ) := by
  rw [hk]
  exact (pe_glob hg hm r hd).weak fun σ H Q q => const_sem hr q

/-! ### argument lists, displays -/
theorem a_nil : PA X [] (tEs X.K ct W fun ρ => .ok [] ρ) := pa_nil.weak fun σ H Q q => by
  obtain ⟨Hf, ρ, U, R0, p⟩ := q
  exact p.ok R0 [] rfl fun i v d e => by simp at e
def notStar : Expr → Bool
  | .Starred _ _ => false
  | _ => true
theorem starEach_cons {e : Expr} {es : List Expr} {env : PySem.Env} (h : notStar e = true) : starEach (e :: es) env = (false, eval e env) :: starEach es env := by
  cases e <;> first | rfl | (simp [notStar] at h)
theorem a_cons {es : List Expr} {mm : Env → R (List D)} (ha : PE X a (tE X.K ct W ma)) (hr : PA X es (tEs X.K ct W mm)) (hs : notStar a = true) :
    PA X (a :: es) (tEs X.K ct W fun ρ => (ma ρ).bind fun d ρ => (mm ρ).bind fun l ρ => .ok (d :: l) ρ) := by
  refine (pa_cons ha hr (starEach_cons hs)).weak fun σ H Q q => ?_
  obtain ⟨Hf, ρ, U, R0, p⟩ := q
  refine ⟨Hf, ρ, U, R0, p.then fun d ρ1 Hf1 H1 U1 R1 S1 p1 x rx => ⟨Hf1, ρ1, U1, R1, p1.then fun l ρ2 Hf2 H2 U2 R2 S2 p2 vs n it => ?_⟩⟩
  refine p2.ok R2 (x :: vs) (by simp [n]) fun i v d' e1 e2 => ?_
  cases i with
  | zero =>
    have e1' : x = v := by simpa using e1
    have e2' : d = d' := by simpa using e2
    subst e1' e2'
    exact rx.mono S2.mono
  | succ i => exact it i v d' (by simpa using e1) (by simpa using e2)
theorem e_tup {es : List Expr} {k : Nat} {mm : Env → R (List D)} (h : PA X es (tEs X.K ct W mm)) : PE X (.Tuple es k pos) (tE X.K ct W fun ρ => (mm ρ).bind fun l ρ => if l.length ≤ line then .ok (.tuple l) ρ else .bad) := by
  refine (pe_tup h).weak fun σ H Q q => ?_
  obtain ⟨Hf, ρ, U, R0, p⟩ := q
  refine ⟨Hf, ρ, U, R0, p.then fun l ρ1 Hf1 H1 U1 R1 S1 p1 vs n it => ?_⟩
  split at p1
  · rename_i hl
    refine ⟨by rw [n, line_eq]; exact hl, fun z hz => ?_⟩
    have m := upd_mono (H := Hf1) (p := z) (o := .tup vs) (R1.sub.free hz)
    exact p1 _ _ _ (R1.newF (o' := .tup vs) hz) (Step.newF R1.sub hz) (.ref z) (.tup (SqT.of upd_same) n fun i v d e1 e2 => (it i v d e1 e2).mono m)
  · exact p1.elim
variable {mf mg' : Env → R O}
theorem fs_nil : PA X [] (tFs X.K ct W fun ρ => .ok [] ρ) := pa_nil.weak fun σ H Q q => by
  obtain ⟨Hf, ρ, U, R0, p⟩ := q
  exact p.ok R0 [] (fun _ _ => False) ⟨rfl, fun i v d e => by simp at e, fun _ _ _ _ q => q.elim⟩ fun _ _ q => q.elim
theorem fs_cons {es : List Expr} {mm : Env → R (List O)} (ha : PE X a (tF X.K ct W mf)) (hr : PA X es (tFs X.K ct W mm)) (hs : notStar a = true) :
    PA X (a :: es) (tFs X.K ct W fun ρ => (mf ρ).bind fun d ρ => (mm ρ).bind fun l ρ => .ok (d :: l) ρ) := by
  refine (pa_cons ha hr (starEach_cons hs)).weak fun σ H Q q => ?_
  obtain ⟨Hf, ρ, U, R0, p⟩ := q
  refine ⟨Hf, ρ, U, R0, p.then fun o ρ1 Hf1 H1 U1 R1 S1 p1 x T ox tx => ⟨Hf1, ρ1, U1, R1, p1.then fun l ρ2 Hf2 H2 U2 R2 S2 p2 vs Y oy ty => ?_⟩⟩
  have ox2 := ox.step S2 fun b q => (tx b q).1
  have al2 : ∀ b, T b → H2 b ≠ none := fun b q z => by
    rcases S2.old z with w | w
    · exact (tx b q).1 w
    · exact (tx b q).2.1 w
  have nf2 : ∀ b, T b → ¬ foot U2 b := fun b q z => by
    rcases S2.foot b z with w | w
    · exact (tx b q).1 w
    · exact (tx b q).2.1 w
  refine p2.ok R2 (x :: vs) (fun i => match i with | 0 => T | i + 1 => Y i) ⟨by simp [oy.len], fun i v o' e1 e2 => ?_, fun i j b hne h1 h2 => ?_⟩ fun i b q => ?_
  · cases i with
    | zero =>
      have e1' : x = v := by simpa using e1
      have e2' : o = o' := by simpa using e2
      subst e1' e2'
      exact ox2
    | succ i => exact oy.own i v o' (by simpa using e1) (by simpa using e2)
  · cases i with
    | zero =>
      cases j with
      | zero => exact hne rfl
      | succ j =>
        rcases (ty j b h2).2.2 with w | w
        · exact (tx b h1).1 w
        · exact (tx b h1).2.1 w
    | succ i =>
      cases j with
      | zero =>
        rcases (ty i b h1).2.2 with w | w
        · exact (tx b h2).1 w
        · exact (tx b h2).2.1 w
      | succ j => exact oy.dj i j b (by omega) h1 h2
  · cases i with
    | zero => exact ⟨nf2 b q, al2 b q, (tx b q).2.2⟩
    | succ i =>
      refine ⟨(ty i b q).1, (ty i b q).2.1, ?_⟩
      rcases (ty i b q).2.2 with w | w
      · exact S1.foot b w
      · exact S1.old w
/-- a new list of owned items -/
theorem box_new {K : PySem.W.Frag} {Hf H : Hp} {vs : List V} {os : List O} {Y : UU} {z : Addr} (oy : Owns K Hf H vs os Y) (sub : Same Hf H) (hz : H z = none) (al : ∀ i b, Y i b → H b ≠ none) :
    Own K Hf (upd H z (.lst vs)) (.ref z) (.box os) (fun b => b = z ∨ ∃ i, Y i b) :=
  .box Y upd_same (sub.free hz) (.inl rfl) oy.len (fun i v o e1 e2 => (oy.own i v o e1 e2).upd hz) oy.dj fun i b q => ⟨.inr ⟨i, q⟩, fun e => al i b q (e ▸ hz)⟩
theorem upd_alive {H : Hp} {z b : Addr} {o : HO} (h : H b ≠ none) : upd H z o b ≠ none := fun q => by
  by_cases e : b = z
  · subst e; rw [upd_same] at q; cases q
  · rw [upd_ne e] at q; exact h q
theorem f_lst {es : List Expr} {mm : Env → R (List O)} (h : PA X es (tFs X.K ct W mm)) : PE X (.List es pos) (tF X.K ct W fun ρ => (mm ρ).bind fun l ρ => if l.length ≤ line then .ok (.box l) ρ else .bad) := by
  refine (pe_lst h).weak fun σ H Q q => ?_
  obtain ⟨Hf, ρ, U, R0, p⟩ := q
  refine ⟨Hf, ρ, U, R0, p.then fun l ρ1 Hf1 H1 U1 R1 S1 p1 vs Y oy ty => ?_⟩
  split at p1
  · rename_i hl
    refine ⟨by rw [oy.len, line_eq]; exact hl, fun z hz => ?_⟩
    refine p1 _ _ _ (R1.new (o' := .lst vs) hz) (Step.new hz) (.ref z) _ (box_new oy R1.sub hz fun i b q => (ty i b q).2.1) fun b q => ?_
    rcases q with rfl | ⟨i, q⟩
    · refine ⟨fun ⟨j, w⟩ => R1.alive j _ w hz, (fun w => by rw [upd_same] at w; cases w), ?_⟩
      rcases S1.old hz with w | w
      · exact .inl w
      · exact .inr w
    · exact ⟨(ty i b q).1, upd_alive (ty i b q).2.1, (ty i b q).2.2⟩
  · exact p1.elim
/-- frozen items in a new list -/
theorem owns_frz {K : PySem.W.Frag} {Hf H : Hp} {vs : List V} {l : List D} (n : vs.length = l.length) (it : ∀ (i : Nat) v d, vs[i]? = some v → l[i]? = some d → Rep K Hf v d) : Owns K Hf H vs (l.map .frz) (fun _ _ => False) :=
  ⟨by rw [List.length_map]; exact n, fun i v o e1 e2 => by
    rw [List.getElem?_map] at e2
    cases e : l[i]? with
    | none => rw [e] at e2; cases e2
    | some d =>
      rw [e] at e2
      cases e2
      exact .frz (it i v d e1 e), fun _ _ _ _ q => q.elim⟩
theorem box_frz {K : PySem.W.Frag} {Hf H : Hp} {vs : List V} {l : List D} {z : Addr} (n : vs.length = l.length) (it : ∀ (i : Nat) v d, vs[i]? = some v → l[i]? = some d → Rep K Hf v d) (sub : Same Hf H) (hz : H z = none) :
    Own K Hf (upd H z (.lst vs)) (.ref z) (.box (l.map .frz)) (fun b => b = z) := by
  have h := box_new (owns_frz n it) sub hz fun _ _ q => q.elim
  exact h.wide fun b q => q.elim id fun ⟨_, q⟩ => q.elim
/-- what is asked of a new list that nothing else owns -/
theorem new_own {K : PySem.W.Frag} {σ : L2.St} {H Hf1 H1 : Hp} {U U1 : UU} {ρ1 : Env} {Hf : Hp} {z : Addr} {o : HO} (R1 : Rel K Hf1 H1 ρ1 σ U1) (S1 : Step Hf H (foot U) Hf1 H1 (foot U1)) (hz : H1 z = none) : ∀ b, b = z → ¬ foot U1 b ∧ upd H1 z o b ≠ none ∧ (foot U b ∨ H b = none) := by
  rintro b rfl
  refine ⟨fun ⟨j, w⟩ => R1.alive j _ w hz, (fun w => by rw [upd_same] at w; cases w), ?_⟩
  rcases S1.old hz with w | w
  · exact .inl w
  · exact .inr w

/-! ### from data to what may be owned, and back -/
theorem f_ofE (ha : PE X a (tE X.K ct W ma)) : PE X a (tF X.K ct W fun ρ => (ma ρ).bind fun d ρ => .ok (.frz d) ρ) := ha.weak fun σ H Q q => by
  obtain ⟨Hf, ρ, U, R0, p⟩ := q
  exact ⟨Hf, ρ, U, R0, p.then fun d ρ1 Hf1 H1 U1 R1 S1 p1 x rx => p1.ok R1 x (fun _ => False) (.frz rx) fun _ q => q.elim⟩
theorem e_ofF (ha : PE X a (tF X.K ct W mf)) : PE X a (tE X.K ct W fun ρ => (mf ρ).bind fun o ρ => if o.clean then .ok o.fz ρ else .bad) := ha.weak fun σ H Q q => by
  obtain ⟨Hf, ρ, U, R0, p⟩ := q
  refine ⟨Hf, ρ, U, R0, p.then0 fun o ρ1 Hf1 H1 U1 R1 S1 p1 x T ox tx => ?_⟩
  split at p1
  · rename_i cl
    exact p1 _ _ _ (R1.fz fun b q => (tx b q).1) (S1.fzT R1.sub fun b q => (tx b q).2.2) x (ox.fz R1.sub cl fun _ q => q)
  · exact p1.elim
end
end Tr
set_option Elab.async false
set_option linter.all false
set_option maxRecDepth 100000
set_option maxHeartbeats 4000000
/-! TrC4: subscripts, paths, slices, + and * of rows, built-ins. -/
namespace Tr
open PySem PySem.Spec PyProof.Rows L2

theorem atD_get {α : Type} {l : List α} {i : Int} {d : α} (h : atD l i = some d) : ∃ j, ixN l.length i = some j ∧ l[j]? = some d := by
  unfold atD at h
  cases e : ixN l.length i with
  | none => rw [e] at h; cases h
  | some j => rw [e] at h; exact ⟨j, rfl, h⟩
theorem ixN_same : ∀ n i, Tr.ixN n i = L2.ixN n i := fun _ _ => rfl
theorem atI_of {α : Type} {xs : List α} {n : Nat} {i : Int} {j : Nat} {v : α} (hn : xs.length = n) (h : Tr.ixN n i = some j) (e : xs[j]? = some v) : atI xs i = some v := by
  unfold atI
  rw [hn, ← ixN_same, h]
  exact e
theorem get_of {xs : List V} {l : List D} {j : Nat} {d : D} (n : xs.length = l.length) (e : l[j]? = some d) : ∃ v, xs[j]? = some v := by
  obtain ⟨h, _⟩ := List.getElem?_eq_some_iff.mp e
  exact ⟨xs[j]'(by omega), List.getElem?_eq_getElem _⟩
/-- d[k] of data that stays -/
theorem Rep.ix {K : PySem.W.Frag} {Hf H : Hp} {x y : V} {d k e : D} (hd : Rep K Hf x d) (hk : Rep K Hf y k) (sub : Same Hf H) (h : ixD d k = some e) : ∃ v, Rep K Hf v e ∧ ∀ Q : VK, Q v H → rIx K x y H Q := by
  cases hd <;> cases hk <;> simp only [ixD, reduceCtorEq] at h
  case lst.int a xs l hl n it i =>
    obtain ⟨j, e1, e2⟩ := atD_get h
    obtain ⟨v, ev⟩ := get_of n e2
    exact ⟨v, it j v e ev e2, fun Q q => .inl ⟨a, xs, i, v, rfl, rfl, SqL.of (sub _ _ hl), atI_of n e1 ev, q⟩⟩
  case tup.int a xs l hl n it i =>
    obtain ⟨j, e1, e2⟩ := atD_get h
    obtain ⟨v, ev⟩ := get_of n e2
    exact ⟨v, it j v e ev e2, fun Q q => .inr (.inl ⟨a, xs, i, v, rfl, rfl, Same.seqT sub hl, atI_of n e1 ev, q⟩)⟩
  case str.int s i =>
    split at h <;> first | contradiction | skip
    rename_i hs
    rw [Option.map_eq_some_iff] at h
    obtain ⟨c, e1, rfl⟩ := h
    obtain ⟨j, e2, e3⟩ := atD_get e1
    exact ⟨_, .str _, fun Q q => .inr (.inr ⟨s, i, c, rfl, rfl, by rw [line_eq]; exact hs, atI_of rfl e2 e3, q⟩)⟩
def notSlice : Expr → Bool
  | .Slice _ _ _ _ => false
  | _ => true
theorem plainIx_of {b : Expr} (h : notSlice b = true) : PlainIx b := fun o i => by
  cases b <;> first | rfl | (simp [notSlice] at h)
section
variable {X : Cx} {ct : Str → Option Addr} {W : WX} {a b c : Expr} {ma mb mc : Env → R D} {pos : Pos} {mf : Env → R O}
theorem e_ix (ha : PE X a (tE X.K ct W ma)) (hb : PE X b (tE X.K ct W mb)) (hs : notSlice b = true) : PE X (.Subscript a b pos) (tE X.K ct W fun ρ => (ma ρ).bind fun d ρ => (mb ρ).bind fun e ρ => R.of (ixD d e) ρ) := by
  refine (pe_ix ix_seq ha hb (plainIx_of hs)).weak fun σ H Q h => twoO h fun d e r Hf' H' x y rx ry e1 sub q => ?_
  obtain ⟨v, rv, w⟩ := rx.ix ry sub e1
  exact w Q (q v rv)

/-! ### paths -/
theorem look_app {o : O} : ∀ {l : List D} {m : List D}, lookP o (l ++ m) = (lookP o l).bind fun o' => lookP o' m := by
  intro l
  induction l generalizing o with
  | nil => intro m; cases m <;> rfl
  | cons d l ih =>
    intro m
    cases o with
    | frz e =>
      simp only [List.cons_append, lookP]
      cases ixD e d with
      | none => rfl
      | some e' => exact ih
    | box bs =>
      cases d <;> simp only [List.cons_append, lookP] <;> try rfl
      rename_i i
      cases atD bs i with
      | none => rfl
      | some o' => exact ih
    | scr bs =>
      cases d <;> simp only [List.cons_append, lookP] <;> try rfl
      rename_i i
      cases atD bs i with
      | none => rfl
      | some o' => exact ih
/-- one step down a path -/
theorem Own.look {K : PySem.W.Frag} {Hf H : Hp} {x y : V} {o o' : O} {T : Addr → Prop} {k : D} (h : Own K Hf H x o T) (hk : Rep K Hf y k) (sub : Same Hf H) (e : lookP o [k] = some o') : ∃ v T', Own K Hf H v o' T' ∧ (∀ b, T' b → T b) ∧ ∀ Q : VK, Q v H → rIx K x y H Q := by
  cases h with
  | frz h =>
    simp only [lookP] at e
    cases e1 : ixD _ k with
    | none => rw [e1] at e; cases e
    | some d =>
      rw [e1] at e
      cases e
      obtain ⟨v, rv, w⟩ := h.ix hk sub e1
      exact ⟨v, fun _ => False, .frz rv, fun _ q => q.elim, w⟩
  | @box a xs l T U h nf ta n it dj sb =>
    cases hk <;> simp only [lookP, reduceCtorEq] at e
    rename_i i
    cases e1 : atD l i with
    | none => rw [e1] at e; cases e
    | some o1 =>
      rw [e1] at e
      cases e
      obtain ⟨j, e2, e3⟩ := atD_get e1
      obtain ⟨hj, _⟩ := List.getElem?_eq_some_iff.mp e3
      have ev : xs[j]? = some (xs[j]'(by omega)) := List.getElem?_eq_getElem _
      exact ⟨_, U j, it j _ o' ev e3, fun b q => (sb j b q).1, fun Q q => .inl ⟨a, xs, i, _, rfl, rfl, SqL.of h, atI_of n e2 ev, q⟩⟩
  | @scr a l T h =>
    cases hk <;> simp only [lookP, reduceCtorEq] at e
    rename_i i
    cases e1 : atD l i with
    | none => rw [e1] at e; cases e
    | some k =>
      rw [e1] at e
      cases e
      obtain ⟨j, e2, e3⟩ := atD_get e1
      exact ⟨.int k, fun _ => False, .frz (.int k), fun _ q => q.elim, fun Q q => .inl ⟨a, _, i, _, rfl, rfl, Same.seq sub h, atI_of (List.length_map _) e2 (by rw [List.getElem?_map, e3]; rfl), q⟩⟩
theorem ldV_of {s : Nat} {ρ : Env} {o : O} (e : ldV s ρ = some o) : ρ[s]? = some (some o) := by
  unfold ldV at e
  split at e
  · cases e; assumption
  · cases e
theorem some_of {α : Type} {o : Option α} (h : o.isSome = true) : ∃ a, o = some a := by
  cases o with
  | none => cases h
  | some a => exact ⟨a, rfl⟩
/-- quiet whole numbers -/
def tQ (K : PySem.W.Frag) (q : Qx) : TE := fun σ H Q => ∃ Hf ρ U, Rel K Hf H ρ σ U ∧ ∃ i, q.sem ρ = some i ∧ Q (.int i) H
theorem q_v {i : Nat} (h : PE X a (tVar i)) : PE X a (tQ X.K (.v i)) := h.weak fun σ H Q q => by
  obtain ⟨Hf, ρ, U, R0, k, e, q⟩ := q
  simp only [Qx.sem] at e
  split at e
  · rename_i k' e2
    cases e
    obtain ⟨v, h1, h2⟩ := R0.own i _ e2
    cases h2 with
    | frz r =>
      rw [r.int_of] at h1
      exact ⟨_, h1, q⟩
  · cases e
theorem q_int {i : Int} {j} : PE X (.Constant (.int i) j pos) (tQ X.K (.int i)) := pe_int.weak fun σ H Q q => by
  obtain ⟨Hf, ρ, U, R0, k, e, q⟩ := q
  cases e
  exact q
theorem q_add {p q : Qx} (ha : PE X a (tQ X.K p)) (hb : PE X b (tQ X.K q)) : PE X (.BinOp a .Add b pos) (tQ X.K (.add p q)) := (pe_op op_add ha hb).weak fun σ H Q h => by
  obtain ⟨Hf, ρ, U, R0, k, e, h⟩ := h
  simp only [Qx.sem] at e
  cases e1 : p.sem ρ with
  | none => rw [e1] at e; cases e
  | some i =>
    cases e2 : q.sem ρ with
    | none => rw [e1, e2] at e; cases e
    | some j =>
      rw [e1, e2] at e
      cases e
      exact ⟨Hf, ρ, U, R0, i, e1, Hf, ρ, U, R0, j, e2, i, j, rfl, rfl, h⟩
theorem q_sub {p q : Qx} (ha : PE X a (tQ X.K p)) (hb : PE X b (tQ X.K q)) : PE X (.BinOp a .Sub b pos) (tQ X.K (.sub p q)) := (pe_op op_sub ha hb).weak fun σ H Q h => by
  obtain ⟨Hf, ρ, U, R0, k, e, h⟩ := h
  simp only [Qx.sem] at e
  cases e1 : p.sem ρ with
  | none => rw [e1] at e; cases e
  | some i =>
    cases e2 : q.sem ρ with
    | none => rw [e1, e2] at e; cases e
    | some j =>
      rw [e1, e2] at e
      cases e
      exact ⟨Hf, ρ, U, R0, i, e1, Hf, ρ, U, R0, j, e2, i, j, rfl, rfl, h⟩
theorem q_neg {p : Qx} (ha : PE X a (tQ X.K p)) : PE X (.UnaryOp .USub a pos) (tQ X.K (.neg p)) := (pe_un un_neg ha).weak fun σ H Q h => by
  obtain ⟨Hf, ρ, U, R0, k, e, h⟩ := h
  simp only [Qx.sem] at e
  cases e1 : p.sem ρ with
  | none => rw [e1] at e; cases e
  | some i =>
    rw [e1] at e
    cases e
    exact ⟨Hf, ρ, U, R0, i, e1, i, rfl, h⟩
/-- what stands at a path -/
def tP (K : PySem.W.Frag) (p : P) : TE := fun σ H Q => ∃ Hf ρ U, Rel K Hf H ρ σ U ∧ ∃ s l o o', p.sem ρ = some (s, l) ∧ ldV s ρ = some o ∧ lookP o l = some o' ∧ ∀ v T, Own K Hf H v o' T → (∀ b, T b → U s b) → Q v H
theorem p_v {s : Nat} (h : PE X a (tVar s)) : PE X a (tP X.K (.v s)) := h.weak fun σ H Q q => by
  obtain ⟨Hf, ρ, U, R0, s', l, o, o', e1, e2, e3, q⟩ := q
  cases e1
  cases e3
  obtain ⟨v, h1, h2⟩ := R0.own _ _ (ldV_of e2)
  exact ⟨v, h1, q v _ h2 fun _ q => q⟩
theorem p_ix {p : P} {i : Qx} (ha : PE X a (tP X.K p)) (hb : PE X b (tQ X.K i)) (hs : notSlice b = true) : PE X (.Subscript a b pos) (tP X.K (.ix p i)) := (pe_ix ix_seq ha hb (plainIx_of hs)).weak fun σ H Q q => by
  obtain ⟨Hf, ρ, U, R0, s, l, o, o', e1, e2, e3, q⟩ := q
  simp only [P.sem] at e1
  split at e1
  · rename_i s' l' k ep ek
    cases e1
    rw [look_app] at e3
    cases e4 : lookP o l' with
    | none => rw [e4] at e3; cases e3
    | some o1 =>
      rw [e4] at e3
      refine ⟨Hf, ρ, U, R0, s, l', o, o1, ep, e2, e4, fun v T ov tv => ⟨Hf, ρ, U, R0, k, ek, ?_⟩⟩
      obtain ⟨w, T', ow, tw, rd⟩ := ov.look (.int k) R0.sub e3
      exact rd Q (q w T' ow fun b z => tv b (tw b z))
  · cases e1
/-- a whole number at a path -/
theorem q_p {p : P} (ha : PE X a (tP X.K p)) : PE X a (tQ X.K (.p p)) := ha.weak fun σ H Q q => by
  obtain ⟨Hf, ρ, U, R0, k, e, q⟩ := q
  simp only [Qx.sem] at e
  split at e
  · rename_i s l ep
    split at e
    · rename_i o eo
      split at e
      · rename_i k' ek
        cases e
        refine ⟨Hf, ρ, U, R0, s, l, o, _, ep, eo, ek, fun v T ov _ => ?_⟩
        cases ov with
        | frz r =>
          rw [r.int_of]
          exact q
      · cases e
    · cases e
  · cases e
theorem e_pix {p : P} (ha : PE X a (tP X.K p)) : PE X a (tE X.K ct W fun ρ => (R.of (p.sem ρ) ρ).bind fun l ρ => rdP l.1 l.2 ρ) := ha.weak fun σ H Q q => by
  obtain ⟨Hf, ρ, U, R0, q⟩ := q
  obtain ⟨⟨s, l⟩, e1, q⟩ := q.bnd.of R0
  simp only [rdP] at q
  split at q
  · rename_i o eo
    split at q
    · rename_i d ed
      refine ⟨Hf, ρ, U, R0, s, l, o, .frz d, e1, eo, ed, fun v T ov _ => ?_⟩
      cases ov with
      | frz r => exact q.ok R0 v r
    · exact q.elim
  · exact q.elim
theorem e_ix1 {s : Nat} (ha : PE X a (tVar s)) (hb : PE X b (tE X.K ct W mb)) (hs : notSlice b = true) : PE X (.Subscript a b pos) (tE X.K ct W fun ρ => if (ldV s ρ).isSome then (mb ρ).bind fun k ρ => rdP s [k] ρ else .bad) := by
  refine (pe_ix ix_seq ha hb (plainIx_of hs)).weak fun σ H Q q => ?_
  obtain ⟨Hf, ρ, U, R0, q⟩ := q
  dsimp only at q
  split at q
  · rename_i hsm
    obtain ⟨o, eo⟩ := some_of hsm
    obtain ⟨v, h1, _⟩ := R0.own _ _ (ldV_of eo)
    refine ⟨v, h1, Hf, ρ, U, R0, q.then fun k ρ1 Hf1 H1 U1 R1 S1 p1 y ry => ?_⟩
    simp only [rdP] at p1
    split at p1
    · rename_i o1 eo1
      split at p1
      · rename_i d ed
        obtain ⟨v1, h2, ov⟩ := R1.own _ _ (ldV_of eo1)
        rw [h1] at h2
        cases h2
        obtain ⟨w, T', ow, _, rd⟩ := ov.look ry R1.sub ed
        cases ow with
        | frz r => exact rd Q (p1.ok R1 w r)
      · exact p1.elim
    · exact p1.elim
  · exact q.elim

/-! ### built-ins by name -/
/-- a built-in's name in this scope -/
structure Blt (X : Cx) (x : Str) : Prop where
  gl : Gl X x
  no : X.mg x = none
theorem back_nil {pos : Pos} {env : PySem.Env} : (backTo pos (starEach [] env)).any (·.1) = false := rfl
theorem back_one {pos : Pos} {env : PySem.Env} {e : Expr} (h : notStar e = true) : (backTo pos (starEach [e] env)).any (·.1) = false := by
  rw [starEach_cons h]
  rfl
theorem one_sem {K : PySem.W.Frag} {σ : L2.St} {H : Hp} {Q : VK} {g : D → Option D} {r : List V → Hp → VK → Prop} (h : tE K ct W (fun ρ => (ma ρ).bind fun d ρ => R.of (g d) ρ) σ H Q)
    (m : ∀ d e Hf' H' ρ' U' x, Rel K Hf' H' ρ' σ U' → Rep K Hf' x d → g d = some e → (∀ Hf'' H'' U'', Rel K Hf'' H'' ρ' σ U'' → Step Hf' H' (foot U') Hf'' H'' (foot U'') → ∀ v, Rep K Hf'' v e → Q v H'') → r [x] H' Q) : tCB r (tCons (tE K ct W ma) tNil) σ H Q := by
  obtain ⟨Hf, ρ, U, R0, p⟩ := h
  refine ⟨Hf, ρ, U, R0, p.then fun d ρ1 Hf1 H1 U1 R1 S1 p1 x rx => ?_⟩
  obtain ⟨e, e1, _⟩ := p1.of R1
  rw [e1] at p1
  exact m d e Hf1 H1 ρ1 U1 x R1 rx e1 p1
theorem len_of {xs : List V} {l : List D} (n : xs.length = l.length) : (xs.length : Int) = l.length := by rw [n]
def b1Name : B1 → Str
  | .abs => "abs" | .int => "int" | .bool => "bool" | .str => "str" | .tuple => "tuple" | .len => "len" | .sum => "sum" | .all => "all" | .any => "any" | .max => "max" | .min => "min" | .repr => "repr"
theorem bools_of {K : PySem.W.Frag} {H : Hp} : ∀ {l : List D} {xs : List V} {bs : List Bool}, xs.length = l.length → (∀ (i : Nat) v d, xs[i]? = some v → l[i]? = some d → Rep K H v d) → boolsD l = some bs → xs = bs.map V.bl
  | [], [], bs, _, _, e => by
    simp only [boolsD, Option.some.injEq] at e
    subst e
    rfl
  | [], _ :: _, _, n, _, _ => by simp at n
  | _ :: _, [], _, n, _, _ => by simp at n
  | d :: l, x :: xs, bs, n, h, e => by
    have r := h 0 x d rfl rfl
    cases r <;> simp only [boolsD, reduceCtorEq] at e
    case bl i =>
      cases q : boolsD l with
      | none => rw [q] at e; simp at e
      | some r =>
        rw [q] at e
        simp only [Option.map_some, Option.some.injEq] at e
        subst e
        have := bools_of (l := l) (xs := xs) (bs := r) (by simpa using n) (fun i v d e1 e2 => h (i + 1) v d (by simpa using e1) (by simpa using e2)) q
        rw [this]
        rfl
theorem maxL_is : ∀ (l : List Int) (x : Int), maxL x l ∈ x :: l ∧ ∀ y ∈ x :: l, y ≤ maxL x l
  | [], x => ⟨by simp [maxL], by simp [maxL]⟩
  | z :: l, x => by
    simp only [maxL]
    by_cases h : z > x
    · rw [if_pos h]
      obtain ⟨h1, h2⟩ := maxL_is l z
      refine ⟨?_, fun y hy => ?_⟩
      · rcases List.mem_cons.mp h1 with e | e
        · rw [e]; simp
        · exact List.mem_cons_of_mem _ (List.mem_cons_of_mem _ e)
      · rcases List.mem_cons.mp hy with e | e
        · have := h2 z List.mem_cons_self; omega
        · exact h2 y e
    · rw [if_neg h]
      obtain ⟨h1, h2⟩ := maxL_is l x
      refine ⟨?_, fun y hy => ?_⟩
      · rcases List.mem_cons.mp h1 with e | e
        · rw [e]; exact List.mem_cons_self
        · exact List.mem_cons_of_mem _ (List.mem_cons_of_mem _ e)
      · rcases List.mem_cons.mp hy with e | e
        · rw [e]; exact h2 x List.mem_cons_self
        · rcases List.mem_cons.mp e with e | e
          · have := h2 x List.mem_cons_self; omega
          · exact h2 y (List.mem_cons_of_mem _ e)
theorem minL_is : ∀ (l : List Int) (x : Int), minL x l ∈ x :: l ∧ ∀ y ∈ x :: l, minL x l ≤ y
  | [], x => ⟨by simp [minL], by simp [minL]⟩
  | z :: l, x => by
    simp only [minL]
    by_cases h : z < x
    · rw [if_pos h]
      obtain ⟨h1, h2⟩ := minL_is l z
      refine ⟨?_, fun y hy => ?_⟩
      · rcases List.mem_cons.mp h1 with e | e
        · rw [e]; simp
        · exact List.mem_cons_of_mem _ (List.mem_cons_of_mem _ e)
      · rcases List.mem_cons.mp hy with e | e
        · have := h2 z List.mem_cons_self; omega
        · exact h2 y e
    · rw [if_neg h]
      obtain ⟨h1, h2⟩ := minL_is l x
      refine ⟨?_, fun y hy => ?_⟩
      · rcases List.mem_cons.mp h1 with e | e
        · rw [e]; exact List.mem_cons_self
        · exact List.mem_cons_of_mem _ (List.mem_cons_of_mem _ e)
      · rcases List.mem_cons.mp hy with e | e
        · rw [e]; exact h2 x List.mem_cons_self
        · rcases List.mem_cons.mp e with e | e
          · have := h2 x List.mem_cons_self; omega
          · exact h2 y (List.mem_cons_of_mem _ e)
theorem list_ints {K : PySem.W.Frag} {Hf H : Hp} {x : V} {l : List D} {ns : List Int} (h : Rep K Hf x (.list l)) (sub : Same Hf H) (e : intsD l = some ns) : ∃ a, x = .ref a ∧ SqL K H a (ns.map V.int) := by
  cases h with
  | lst h n it =>
    have := Rep.ints n it e
    subst this
    exact ⟨_, rfl, SqL.of (sub _ _ h)⟩
theorem tuple_ints {K : PySem.W.Frag} {Hf H : Hp} {x : V} {l : List D} {ns : List Int} (h : Rep K Hf x (.tuple l)) (sub : Same Hf H) (e : intsD l = some ns) : ∃ a, x = .ref a ∧ SqT K H a (ns.map V.int) := by
  cases h with
  | tup h n it =>
    have := Rep.ints n it e
    subst this
    exact ⟨_, rfl, Same.seqT sub h⟩
/-- max(t), t a tuple of whole numbers -/
def rMaxT (K : PySem.W.Frag) : List V → Hp → VK → Prop := fun vs H Q => ∃ (a : Addr) (ns : List Int), vs = [V.ref a] ∧ SqT K H a (ns.map V.int) ∧ 0 < ns.length ∧ ∀ m, m ∈ ns → (∀ y, y ∈ ns → y ≤ m) → Q (.int m) H
theorem cr_maxT (hc : X.calm = true) : CallR X (.builtin "max") (rMaxT X.K) := by
  intro pins s σ H vs us Q I r h
  obtain ⟨a, ns, rfl, hs, hne, q⟩ := h
  obtain ⟨its, rv, hl, _⟩ := I.tuple hs
  rw [Vals.ref1 r]
  have hn : its.toArray.size = ns.length := by rw [List.size_toArray, ← rv.length, List.length_map]
  have hv : ∀ (i : Nat) (v : Value), its.toArray[i]? = some v → ∃ t, v = .int (ns.getD i 0) t := fun i v e => PyProof.Rows.IntsAre.int_at rv.ints i v (by simpa using e)
  have lt : a < s.heap.objs.size := by obtain ⟨o, ho, _⟩ := id hl; exact Heap.lt_size ho
  refine call_max_walk (wpAny_pyIter_tuple hl ⟨_, _, _, _, _, _, _, rfl, Walks.tuple (A := X.A.in1) (I.ok.hd hc) _ a (Nat.ne_of_lt lt) its.toArray, ⟨⟨_, Heap.get?_push_size _ rfl, rfl, rfl⟩, hl.push _⟩, fun b hb => ?_, by omega, CmpOf.ints_gt (fun i => ns.getD i 0) hv, fun v h' tk hP hk => ?_⟩)
  · show b < (s.heap.push _).objs.size
    rw [Heap.size_push]
    rcases List.mem_cons.mp hb with e | e
    · rw [e]; exact Nat.lt_succ_self _
    · rw [List.mem_singleton.mp e]; exact Nat.lt_succ_of_lt lt
  · obtain ⟨t, rfl⟩ := hv _ v hP
    obtain ⟨h1, h2⟩ := argBest_gt (fun i => ns.getD i 0) (its.toArray.size - 1)
    refine ⟨.int _, H, I.kept (fun b o e => hk b o (fun q => ?_) (Heap.get?_push_of_some _ e)), ⟨_, rfl⟩, q _ ?_ fun y hy => ?_⟩
    · have := Heap.lt_size e
      rw [List.mem_singleton.mp q] at this
      exact Nat.lt_irrefl _ this
    · rw [List.getD_eq_getElem?_getD, List.getElem?_eq_getElem (by omega)]
      exact List.getElem_mem _
    · obtain ⟨j, hj, rfl⟩ := List.getElem_of_mem hy
      have := h2 j (by omega)
      rw [List.getD_eq_getElem?_getD, List.getElem?_eq_getElem hj] at this
      exact this
theorem shown_split {d : D} (h : shownOk d = true) : d.showable = true ∧ d.depth ≤ 60 ∧ d.shown.length ≤ sizeLine := by
  unfold shownOk at h
  simp only [Bool.and_eq_true, decide_eq_true_eq] at h
  rw [line_eq]
  exact ⟨h.1.1, h.1.2, h.2⟩
abbrev SysOk (K : PySem.W.Frag) : Prop := ∃ o, K.lookup sysModules = some o ∧ o.cls = .type "dict"
def isStr : D → Bool
  | .str _ => true
  | _ => false
/-- str(x), x no text -/
def rShow (K : PySem.W.Frag) : List V → Hp → VK → Prop := fun xs H Q => ∃ (x : V) (d : D), xs = [x] ∧ Rep K H x d ∧ isStr d = false ∧ shownOk d = true ∧ Q (.str d.shown) H
/-- repr(x) -/
def rRepr (K : PySem.W.Frag) : List V → Hp → VK → Prop := fun xs H Q => ∃ (x : V) (d : D), xs = [x] ∧ Rep K H x d ∧ shownOk d = true ∧ Q (.str d.shown) H
theorem cr_strD (hg : X.A.guards = some []) (hu : X.A.units + 65 < cLine) (hsys : SysOk X.K) : CallR X (.type "str") (rShow X.K) := by
  intro pins s σ H xs us Q I r h
  obtain ⟨x, d, rfl, rd, hns, ok, q⟩ := h
  obtain ⟨u, rfl, rv⟩ := vals1 r
  obtain ⟨c2, c3, c4⟩ := shown_split ok
  obtain ⟨as, rr, hm⟩ := rd.reads I hsys u rv
  cases rd with
  | non => cases rv; exact PySem.P.str_of_none ⟨.str _, H, I.tok _, ⟨_, rfl⟩, q⟩
  | bl b => cases rv; exact PySem.P.str_of_bool ⟨.str _, H, I.tok _, ⟨_, rfl⟩, by cases b <;> exact q⟩
  | int i =>
    obtain ⟨t, rfl⟩ := rv
    exact PySem.P.str_of_int (by simpa [PyData.showable] using c2) ⟨.str _, H, I.tok _, ⟨_, rfl⟩, q⟩
  | str x => cases hns
  | lst h n it =>
    cases (show u = Value.ref _ from rv)
    exact str_of_reads rr c2 (fun _ => hm) hg (by omega) (fun _ _ e => e) (fun h' u tk hk => ⟨.str _, H, I.kept hk, ⟨u, rfl⟩, q⟩) c4
  | tup h n it =>
    cases (show u = Value.ref _ from rv)
    exact str_of_reads rr c2 (fun _ => hm) hg (by omega) (fun _ _ e => e) (fun h' u tk hk => ⟨.str _, H, I.kept hk, ⟨u, rfl⟩, q⟩) c4
  | dct h n ks it =>
    cases (show u = Value.ref _ from rv)
    exact str_of_reads rr c2 (fun _ => hm) hg (by omega) (fun _ _ e => e) (fun h' u tk hk => ⟨.str _, H, I.kept hk, ⟨u, rfl⟩, q⟩) c4
theorem cr_reprD (hg : X.A.guards = some []) (hu : X.A.units + 65 < cLine) (hsys : SysOk X.K) : CallR X (.builtin "repr") (rRepr X.K) := by
  intro pins s σ H xs us Q I r h
  have I0 := I
  have r0 := r
  obtain ⟨x, d, rfl, rd, ok, q⟩ := h
  obtain ⟨u, rfl, rv⟩ := vals1 r
  obtain ⟨c2, c3, c4⟩ := shown_split ok
  obtain ⟨as, rr, hm⟩ := rd.reads I hsys u rv
  cases rd with
  | non => cases rv; exact PySem.P.repr_of_none ⟨.str _, H, I.tok _, ⟨_, rfl⟩, q⟩
  | bl b => cases rv; exact PySem.P.repr_of_bool ⟨.str _, H, I.tok _, ⟨_, rfl⟩, by cases b <;> exact q⟩
  | int i => exact SkE.call_repr_int pins s σ H _ _ Q I0 r0 ⟨i, rfl, by simpa [PyData.showable] using c2, q⟩
  | str x =>
    obtain ⟨t, rfl⟩ := rv
    exact PySem.P.repr_of_str ⟨.str _, H, I.tok _, ⟨_, rfl⟩, q⟩ c4
  | lst h n it =>
    cases (show u = Value.ref _ from rv)
    exact repr_of_reads' rr c2 (fun _ => hm) hg (by omega) (fun _ _ e => e) (fun h' u tk hk => ⟨.str _, H, I.kept hk, ⟨u, rfl⟩, q⟩) c4
  | tup h n it =>
    cases (show u = Value.ref _ from rv)
    exact repr_of_reads' rr c2 (fun _ => hm) hg (by omega) (fun _ _ e => e) (fun h' u tk hk => ⟨.str _, H, I.kept hk, ⟨u, rfl⟩, q⟩) c4
  | dct h n ks it =>
    cases (show u = Value.ref _ from rv)
    exact repr_of_reads' rr c2 (fun _ => hm) hg (by omega) (fun _ _ e => e) (fun h' u tk hk => ⟨.str _, H, I.kept hk, ⟨u, rfl⟩, q⟩) c4
theorem e_b1 (hg : X.A.guards = some []) (hu : X.A.units + 65 < cLine) (hsys : SysOk X.K) (hc : X.calm = true) {f : B1} {p : Pos} (bl : Blt X (b1Name f)) (ha : PE X a (tE X.K ct W ma)) (hs : notStar a = true) :
    PE X (.Call (.Name (b1Name f) p) [a] [] pos) (tE X.K ct W fun ρ => (ma ρ).bind fun d ρ => R.of (b1D f d) ρ) := by
  have P1 : PA X [a] (tCons (tE X.K ct W ma) tNil) := pa_cons ha pa_nil (starEach_cons hs)
  have S1 : starEach [a] X.env = (false, eval a X.env) :: starEach [] X.env := starEach_cons hs
  cases f with
  | abs =>
    refine (pe_callB call_abs bl.gl bl.no (by decide +kernel) P1 (by decide) (by decide) S1 back_nil).weak fun σ H Q h => one_sem h fun d e Hf' H' ρ' U' x R0 rx e1 q => ?_
    cases rx <;> simp only [b1D, reduceCtorEq, Option.some.injEq] at e1
    subst e1
    exact ⟨_, rfl, q _ _ _ R0 Step.refl _ (.int _)⟩
  | int =>
    refine (pe_callTy call_int1 bl.gl bl.no (by decide +kernel) P1 (by decide) (by decide) S1 back_nil).weak fun σ H Q h => one_sem h fun d e Hf' H' ρ' U' x R0 rx e1 q => ?_
    cases rx <;> simp only [b1D, reduceCtorEq, Option.some.injEq] at e1
    · subst e1; exact .inr ⟨_, rfl, q _ _ _ R0 Step.refl _ (.int _)⟩
    · subst e1; exact .inl ⟨_, rfl, q _ _ _ R0 Step.refl _ (.int _)⟩
  | bool =>
    refine (pe_callTy call_bool1 bl.gl bl.no (by decide +kernel) P1 (by decide) (by decide) S1 back_nil).weak fun σ H Q h => one_sem h fun d e Hf' H' ρ' U' x R0 rx e1 q => ?_
    cases rx <;> simp only [b1D, reduceCtorEq, Option.some.injEq] at e1
    · subst e1; exact .inr ⟨_, rfl, q _ _ _ R0 Step.refl _ (.bl _)⟩
    · subst e1; exact .inl ⟨_, rfl, q _ _ _ R0 Step.refl _ (.bl _)⟩
  | str =>
    refine (pe_callTy ((SkE.call_str_str).or (cr_strD hg hu hsys)) bl.gl bl.no (by decide +kernel) P1 (by decide) (by decide) S1 back_nil).weak fun σ H Q h => one_sem h fun d e Hf' H' ρ' U' x R0 rx e1 q => ?_
    have rm := rx.mono R0.sub
    cases rx <;> simp only [b1D, Option.some.injEq] at e1
    case str x =>
      subst e1
      exact .inl ⟨_, rfl, q _ _ _ R0 Step.refl _ (.str _)⟩
    case int i =>
      split at e1 <;> first | contradiction | skip
      rename_i hl
      cases e1
      refine .inr ⟨_, _, rfl, rm, rfl, ?_, q _ _ _ R0 Step.refl _ (.str _)⟩
      unfold shownOk
      simp only [PyData.showable, PyData.depth, PyData.shown, Bool.and_eq_true]
      exact ⟨⟨decide_eq_true hl, rfl⟩, decide_eq_true (by rw [← line_eq]; exact int_text_fits hl)⟩
    all_goals
      split at e1 <;> first | contradiction | skip
      rename_i hl
      cases e1
      exact .inr ⟨_, _, rfl, rm, rfl, hl, q _ _ _ R0 Step.refl _ (.str _)⟩
  | repr =>
    refine (pe_callB (cr_reprD hg hu hsys) bl.gl bl.no (by decide +kernel) P1 (by decide) (by decide) S1 back_nil).weak fun σ H Q h => one_sem h fun d e Hf' H' ρ' U' x R0 rx e1 q => ?_
    have rm := rx.mono R0.sub
    simp only [b1D] at e1
    split at e1 <;> first | contradiction | skip
    rename_i hl
    cases e1
    exact ⟨_, _, rfl, rm, hl, q _ _ _ R0 Step.refl _ (.str _)⟩
  | tuple =>
    refine (pe_callTy call_tuple_of bl.gl bl.no (by decide +kernel) P1 (by decide) (by decide) S1 back_nil).weak fun σ H Q h => one_sem h fun d e Hf' H' ρ' U' x R0 rx e1 q => ?_
    cases rx <;> simp only [b1D, reduceCtorEq, Option.some.injEq] at e1
    case lst a xs l h n it =>
      subst e1
      refine ⟨a, xs, rfl, .inl ⟨SqL.of (R0.sub _ _ h), fun z hz => ?_⟩⟩
      have m := upd_mono (H := Hf') (p := z) (o := .tup xs) (R0.sub.free hz)
      exact q _ _ _ (R0.newF (o' := .tup xs) hz) (Step.newF R0.sub hz) _ (.tup (SqT.of upd_same) n fun i v d e1 e2 => (it i v d e1 e2).mono m)
    case tup a xs l h n it =>
      subst e1
      exact ⟨a, xs, rfl, .inr ⟨Same.seqT R0.sub h, q _ _ _ R0 Step.refl _ (.tup h n it)⟩⟩
  | len =>
    refine (pe_callB (call_len_seq.or call_len_str) bl.gl bl.no PySem.boot_len P1 (by decide) (by decide) S1 back_nil).weak fun σ H Q h => one_sem h fun d e Hf' H' ρ' U' x R0 rx e1 q => ?_
    cases rx <;> simp only [b1D, reduceCtorEq, Option.some.injEq] at e1
    case str y =>
      split at e1 <;> first | contradiction | skip
      rename_i hl
      cases e1
      exact .inr ⟨_, rfl, by rw [line_eq]; exact hl, q _ _ _ R0 Step.refl _ (.int _)⟩
    case lst a xs l h n it =>
      subst e1
      refine .inl ⟨a, xs, rfl, .inl (SqL.of (R0.sub _ _ h)), ?_⟩
      rw [len_of n]
      exact q _ _ _ R0 Step.refl _ (.int _)
    case tup a xs l h n it =>
      subst e1
      refine .inl ⟨a, xs, rfl, .inr (Same.seqT R0.sub h), ?_⟩
      rw [len_of n]
      exact q _ _ _ R0 Step.refl _ (.int _)
  | sum =>
    refine (pe_callB (cr_sum hc) bl.gl bl.no (by decide +kernel) P1 (by decide) (by decide) S1 back_nil).weak fun σ H Q h => one_sem h fun d e Hf' H' ρ' U' x R0 rx e1 q => ?_
    cases d <;> simp only [b1D, reduceCtorEq] at e1
    rw [Option.map_eq_some_iff] at e1
    obtain ⟨ns, e2, rfl⟩ := e1
    obtain ⟨a, rfl, sq⟩ := list_ints rx R0.sub e2
    exact ⟨a, ns, rfl, sq, q _ _ _ R0 Step.refl _ (.int _)⟩
  | max =>
    refine (pe_callB ((cr_max hc).or (cr_maxT hc)) bl.gl bl.no (by decide +kernel) P1 (by decide) (by decide) S1 back_nil).weak fun σ H Q h => one_sem h fun d e Hf' H' ρ' U' x R0 rx e1 q => ?_
    cases d <;> simp only [b1D, reduceCtorEq] at e1
    all_goals
      split at e1 <;> first | contradiction | skip
      rename_i z r e2
      cases e1
      obtain ⟨g1, g2⟩ := maxL_is r z
      have e3 : ∀ m, m ∈ z :: r → (∀ y, y ∈ z :: r → y ≤ m) → m = maxL z r := fun m h1 h2 => Int.le_antisymm (g2 m h1) (h2 _ g1)
    · obtain ⟨a, rfl, sq⟩ := list_ints rx R0.sub e2
      refine .inl ⟨a, _, rfl, sq, by simp, fun m h1 h2 => ?_⟩
      rw [e3 m h1 h2]
      exact q _ _ _ R0 Step.refl _ (.int _)
    · obtain ⟨a, rfl, sq⟩ := tuple_ints rx R0.sub e2
      refine .inr ⟨a, _, rfl, sq, by simp, fun m h1 h2 => ?_⟩
      rw [e3 m h1 h2]
      exact q _ _ _ R0 Step.refl _ (.int _)
  | min =>
    refine (pe_callB (cr_min hc) bl.gl bl.no (by decide +kernel) P1 (by decide) (by decide) S1 back_nil).weak fun σ H Q h => one_sem h fun d e Hf' H' ρ' U' x R0 rx e1 q => ?_
    cases d <;> simp only [b1D, reduceCtorEq] at e1
    split at e1 <;> first | contradiction | skip
    rename_i z r e2
    cases e1
    obtain ⟨a, rfl, sq⟩ := list_ints rx R0.sub e2
    refine ⟨a, _, rfl, sq, by simp, fun m h1 h2 => ?_⟩
    obtain ⟨g1, g2⟩ := minL_is r z
    have e3 : m = minL z r := Int.le_antisymm (h2 _ g1) (g2 m h1)
    rw [e3]
    exact q _ _ _ R0 Step.refl _ (.int _)
  | all =>
    refine (pe_callB (cr_all hc) bl.gl bl.no (by decide +kernel) P1 (by decide) (by decide) S1 back_nil).weak fun σ H Q h => one_sem h fun d e Hf' H' ρ' U' x R0 rx e1 q => ?_
    cases rx <;> simp only [b1D, reduceCtorEq] at e1
    rename_i a xs l h n it
    rw [Option.map_eq_some_iff] at e1
    obtain ⟨bs, e2, rfl⟩ := e1
    have := bools_of n it e2
    subst this
    exact ⟨a, bs, rfl, SqL.of (R0.sub _ _ h), q _ _ _ R0 Step.refl _ (.bl _)⟩
  | any =>
    refine (pe_callB (cr_any hc) bl.gl bl.no (by decide +kernel) P1 (by decide) (by decide) S1 back_nil).weak fun σ H Q h => one_sem h fun d e Hf' H' ρ' U' x R0 rx e1 q => ?_
    cases rx <;> simp only [b1D, reduceCtorEq] at e1
    rename_i a xs l h n it
    rw [Option.map_eq_some_iff] at e1
    obtain ⟨bs, e2, rfl⟩ := e1
    have := bools_of n it e2
    subst this
    exact ⟨a, bs, rfl, SqL.of (R0.sub _ _ h), q _ _ _ R0 Step.refl _ (.bl _)⟩
end
end Tr
set_option Elab.async false
set_option linter.all false
set_option maxRecDepth 100000
set_option maxHeartbeats 4000000
/-! TrC4b: a tuple times 1, 0 or less, an empty one times any number. -/
namespace Tr
open PySem PySem.Spec PyProof.Rows L2
theorem tuple_mul1 (l : Addr) (items : Array Value) (n : Nat) (dd : Option Addr) (sl : Array (Option Value)) (x : Int) (u : Tok) (c0 : (decide (x < -(2 ^ 63)) || decide (x ≥ 2 ^ 63)) = false) (c1 : (items.isEmpty || x == 1) = true) :
    Meets (Builtin.«tuple.__mul__» ⟨[.ref l, .int x u], []⟩) (fun _ R s => s.heap.get? l = some { cls := .type "tuple", dict := dd, data := .seq items n, slots := sl } ∧ R (.ok (.ret (Value.ref l))) s) :=
  .of_wp fun prog w A R s h => by
    obtain ⟨hp, g, d, tk, os⟩ := s
    obtain ⟨hl, h⟩ := h
    have f1 := AutoSeq1.idx_int
    wp_walk using wpAny_loadPart' hl
    repeat (first
      | (refine wpAny_ite_false (decide_eq_false (by rw [c0]; exact Bool.false_ne_true)) ?_; wp_walk using wpAny_loadPart' hl)
      | (refine wpAny_ite_true (decide_eq_true c1) ?_; wp_walk using wpAny_loadPart' hl))
    exact ⟨_, rfl, h⟩
theorem tuple_mul0 (l : Addr) (items : Array Value) (n : Nat) (dd : Option Addr) (sl : Array (Option Value)) (x : Int) (u : Tok) (c0 : (decide (x < -(2 ^ 63)) || decide (x ≥ 2 ^ 63)) = false) (c1 : (items.isEmpty || x == 1) = false) (c2 : (decide (x ≤ 0) || items.isEmpty) = true) :
    Meets (Builtin.«tuple.__mul__» ⟨[.ref l, .int x u], []⟩) (fun _ R s => s.heap.get? l = some { cls := .type "tuple", dict := dd, data := .seq items n, slots := sl } ∧
      R (.ok (.ret (Value.ref s.heap.objs.size))) { s with heap := s.heap.push { cls := Value.type "tuple", data := Data.seq #[] }, toks := s.toks }) :=
  .of_wp fun prog w A R s h => by
    obtain ⟨hp, g, d, tk, os⟩ := s
    obtain ⟨hl, h⟩ := h
    have f1 := AutoSeq1.idx_int
    wp_walk using wpAny_loadPart' hl
    repeat (first
      | (refine wpAny_ite_false (decide_eq_false (by rw [c0]; exact Bool.false_ne_true)) ?_; wp_walk using wpAny_loadPart' hl)
      | (refine wpAny_ite_false (decide_eq_false (by rw [c1]; exact Bool.false_ne_true)) ?_; wp_walk using wpAny_loadPart' hl)
      | (refine wpAny_ite_true (decide_eq_true c2) ?_; wp_walk using wpAny_loadPart' hl))
    exact ⟨_, rfl, h⟩
def rRepT1 (K : PySem.W.Frag) : R2 := fun x y H Q => ∃ l k xs, x = .ref l ∧ y = .int k ∧ SqT K H l xs ∧ (xs = [] ∨ k ≤ 1) ∧ -(2 ^ 63) ≤ k ∧ k < 2 ^ 63 ∧ ((xs = [] ∨ k = 1) → Q (.ref l) H) ∧ ((xs ≠ [] ∧ k ≤ 0) → ∀ p, H p = none → Q (.ref p) (upd H p (.tup [])))
theorem op_repT1 {X : Cx} : OpR X (binaryOp .Mult) (rRepT1 X.K) := by
  intro pins s σ H x y v u Q I rx ry h
  obtain ⟨l, k, xs, rfl, rfl, hT, hsm, b0, b1, q1, q0⟩ := h
  cases rx
  obtain ⟨t, rfl⟩ := ry
  obtain ⟨its, r, ⟨⟨cls, dd, data, sl⟩, ho, hc, n, hd⟩, hs⟩ := I.tuple hT
  simp only at hc hd
  subst hc hd
  have c0 : (decide (k < -(2 ^ 63)) || decide (k ≥ 2 ^ 63)) = false := by
    rw [Bool.or_eq_false_iff]
    exact ⟨decide_eq_false (by omega), decide_eq_false (by omega)⟩
  have emp : its.toArray.isEmpty = xs.isEmpty := by
    cases r <;> simp
  by_cases h1 : xs = [] ∨ k = 1
  · have c1 : (its.toArray.isEmpty || k == 1) = true := by
      rw [emp]
      rcases h1 with rfl | rfl <;> simp
    refine wpAny_binaryOp_repeat_ref (T := "tuple") (U := "int") (by decide) ⟨_, ho, rfl⟩ (fun s' => typeIs_int s' k t) noFill_tuple_mul F.fills_int_mul F.slot_int_rmul repeat_tuple F.slot_int_index.lookup
      (call_meets F.slot_int_rmul (typeIs_int s k t) F.entry_int_rmul (F.args_int_rmul_2 _ _) (int_rmul_tuple k t l its.toArray n dd sl)
        ⟨ho, rfl, ⟨_, ho, rfl⟩, call_meets F.slot_tuple_mul ⟨_, ho, rfl⟩ F.entry_tuple_mul (F.args_tuple_mul_2 _ _) (tuple_mul1 l its.toArray n dd sl k t c0 c1) ⟨ho, ?_⟩⟩)
    exact ⟨.ref l, H, I, rfl, q1 h1⟩
  · have hne : xs ≠ [] := fun e => h1 (.inl e)
    have hk : k ≤ 0 := by
      have h2 : k ≤ 1 := hsm.resolve_left hne
      have h3 : k ≠ 1 := fun e => h1 (.inr e)
      omega
    have e0 : xs.isEmpty = false := by cases xs <;> simp at hne ⊢
    have c1 : (its.toArray.isEmpty || k == 1) = false := by
      rw [emp, e0, Bool.false_or]
      exact beq_eq_false_iff_ne.mpr (by omega)
    have c2 : (decide (k ≤ 0) || its.toArray.isEmpty) = true := by simp [hk]
    refine wpAny_binaryOp_repeat_ref (T := "tuple") (U := "int") (by decide) ⟨_, ho, rfl⟩ (fun s' => typeIs_int s' k t) noFill_tuple_mul F.fills_int_mul F.slot_int_rmul repeat_tuple F.slot_int_index.lookup
      (call_meets F.slot_int_rmul (typeIs_int s k t) F.entry_int_rmul (F.args_int_rmul_2 _ _) (int_rmul_tuple k t l its.toArray n dd sl)
        ⟨ho, rfl, ⟨_, ho, rfl⟩, call_meets F.slot_tuple_mul ⟨_, ho, rfl⟩ F.entry_tuple_mul (F.args_tuple_mul_2 _ _) (tuple_mul0 l its.toArray n dd sl k t c0 c1 c2) ⟨ho, ?_⟩⟩)
    refine ⟨.ref s.heap.objs.size, _, I.laid (t' := s.toks) (o := .tup []) (fun b ob q => Heap.get?_push_of_some _ q) (Nat.le_refl _) ?_, rfl, q0 ⟨hne, hk⟩ _ (I.hok.fresh (Nat.le_refl _))⟩
    exact ⟨by simp, [], .nil, IsTup.new _ _⟩
end Tr
set_option Elab.async false
set_option linter.all false
set_option maxRecDepth 100000
set_option maxHeartbeats 4000000
/-! TrC5: more built-ins, new lists. -/
namespace Tr
open PySem PySem.Spec PyProof.Rows L2

section
variable {X : Cx} {ct : Str → Option Addr} {W : WX} {a b c : Expr} {ma mb mc : Env → R D} {pos : Pos} {mf : Env → R O}
/-- len of what stands at a path -/
theorem e_plen {p : P} {pp : Pos} (bl : Blt X "len") (ha : PE X a (tP X.K p)) (hs : notStar a = true) : PE X (.Call (.Name "len" pp) [a] [] pos) (tE X.K ct W fun ρ => (R.of (p.sem ρ) ρ).bind fun l ρ => lenP l.1 l.2 ρ) := by
  refine (pe_callB (call_len_seq.or call_len_str) bl.gl bl.no PySem.boot_len (pa_cons ha pa_nil (starEach_cons hs)) (by decide) (by decide) (starEach_cons hs) back_nil).weak fun σ H Q q => ?_
  obtain ⟨Hf, ρ, U, R0, q⟩ := q
  obtain ⟨⟨s, l⟩, e1, q⟩ := q.bnd.of R0
  simp only [lenP] at q
  split at q
  · rename_i o eo
    split at q
    · rename_i o' ed
      obtain ⟨d, e2, q⟩ := q.of R0
      refine ⟨Hf, ρ, U, R0, s, l, o, o', e1, eo, ed, fun v T ov _ => ?_⟩
      cases ov with
      | frz r =>
        simp only [lenO] at e2
        cases r <;> simp only [b1D, reduceCtorEq, Option.some.injEq] at e2
        case str y =>
          split at e2 <;> first | contradiction | skip
          rename_i hl
          cases e2
          exact .inr ⟨_, rfl, by rw [line_eq]; exact hl, q _ (.int _)⟩
        case lst a xs l h n it =>
          subst e2
          refine .inl ⟨a, xs, rfl, .inl (SqL.of (R0.sub _ _ h)), ?_⟩
          rw [len_of n]
          exact q _ (.int _)
        case tup a xs l h n it =>
          subst e2
          refine .inl ⟨a, xs, rfl, .inr (Same.seqT R0.sub h), ?_⟩
          rw [len_of n]
          exact q _ (.int _)
      | @box a xs l T U h nf ta n it dj sb =>
        simp only [lenO, Option.some.injEq] at e2
        subst e2
        refine .inl ⟨a, xs, rfl, .inl (SqL.of h), ?_⟩
        rw [show (xs.length : Int) = l.length by rw [n]]
        exact q _ (.int _)
      | @scr a l T h =>
        simp only [lenO, Option.some.injEq] at e2
        subst e2
        refine .inl ⟨a, _, rfl, .inl (Same.seq R0.sub h), ?_⟩
        rw [List.length_map]
        exact q _ (.int _)
    · exact q.elim
  · exact q.elim
def b2Name : B2 → Str
  | .max => "max" | .min => "min"
theorem e_b2 (hc : X.calm = true) {f : B2} {p : Pos} (bl : Blt X (b2Name f)) (ha : PE X a (tE X.K ct W ma)) (hb : PE X b (tE X.K ct W mb)) (hs : notStar a = true) (hs2 : notStar b = true) :
    PE X (.Call (.Name (b2Name f) p) [a, b] [] pos) (tE X.K ct W fun ρ => (ma ρ).bind fun d ρ => (mb ρ).bind fun e ρ => R.of (b2D f d e) ρ) := by
  have P1 : PA X [a, b] (tCons (tE X.K ct W ma) (tCons (tE X.K ct W mb) tNil)) := pa_cons ha (pa_cons hb pa_nil (starEach_cons hs2)) (starEach_cons hs)
  cases f with
  | max =>
    refine (pe_callB (call_max2 hc) bl.gl bl.no (by decide +kernel) P1 (by decide) (by decide) (starEach_cons hs) (back_one hs2)).weak fun σ H Q h => twoO (R2' := fun x y H' => ∃ i j, [x, y] = [.int i, .int j] ∧ Q (.int (if j > i then j else i)) H') h fun d e r Hf' H' x y rx ry e1 _ q => ?_
    cases rx <;> cases ry <;> simp only [b2D, reduceCtorEq, Option.some.injEq] at e1
    subst e1
    exact ⟨_, _, rfl, q _ (.int _)⟩
  | min =>
    refine (pe_callB (call_min2 hc) bl.gl bl.no (by decide +kernel) P1 (by decide) (by decide) (starEach_cons hs) (back_one hs2)).weak fun σ H Q h => twoO (R2' := fun x y H' => ∃ i j, [x, y] = [.int i, .int j] ∧ Q (.int (if j < i then j else i)) H') h fun d e r Hf' H' x y rx ry e1 _ q => ?_
    cases rx <;> cases ry <;> simp only [b2D, reduceCtorEq, Option.some.injEq] at e1
    subst e1
    exact ⟨_, _, rfl, q _ (.int _)⟩

/-! ### isinstance against built-in classes -/
def kdName : Kd → String
  | .int => "int" | .bool => "bool" | .str => "str" | .list => "list" | .tuple => "tuple" | .dict => "dict"
def kdStr (k : Kd) : Str := Str.ofString (kdName k)
def tyName : D → String
  | .none => "NoneType" | .bool _ => "bool" | .int _ => "int" | .str _ => "str" | .list _ => "list" | .tuple _ => "tuple" | .dict _ => "dict"
theorem kit_isK (d : D) (k : Kd) : kitB (tyName d) (kdName k) = some (isK d k) := by
  cases d <;> cases k <;> simp only [tyName, kdName, isK] <;> decide +kernel
theorem Rep.ty {K : PySem.W.Frag} {Hf H : Hp} {x : V} {d : D} (h : Rep K Hf x d) (sub : Same Hf H) : TyX K H x (.type (tyName d)) := by
  cases h with
  | non => exact .base .non
  | bl b => exact .base (.bl b)
  | int i => exact .base (.int i)
  | str x => exact .base (.str x)
  | lst h n it => exact .base (.lst (sub _ _ h))
  | tup h n it =>
    rcases h with (h | ⟨o, h⟩) | ⟨o, its, n', hk, hc, _⟩
    · exact .base (.tup (sub _ _ h))
    · exact .fTuple (sub _ _ h)
    · exact .kTuple hk hc
  | dct h n ks it => exact .base (.dK (sub _ _ h))
theorem kitAny_ks {K : PySem.W.Frag} {d : D} : ∀ ks : List Kd, PySem.W.kitAny K (.type (tyName d)) (ks.map fun k => Value.type (kdName k)) = some (ks.any (isK d))
  | [] => kitAny_nil
  | k :: ks => by
    rw [List.map_cons, List.any_cons]
    refine kitAny_cons (kit_ty (kit_isK d k)) (fun e => ?_) (fun e => by rw [e]; rfl)
    rw [e, kitAny_ks ks]
    rfl
theorem paired_ks : ∀ ks : List Kd, Paired ClsV (ks.map fun k => V.ty (kdName k)) (ks.map fun k => Value.type (kdName k))
  | [] => .nil
  | k :: ks => .cons (.ty _) (paired_ks ks)
theorem boot_kd (k : Kd) : bootBuiltins (kdStr k) = some (.type (kdName k)) := by cases k <;> decide +kernel
theorem pe_kd {k : Kd} {p : Pos} (bl : Blt X (kdStr k)) : PE X (.Name (kdStr k) p) (tC (.ty (kdName k))) := by
  cases k <;> exact pe_bltn bl.gl bl.no (by decide +kernel) rfl (by decide +kernel) (by decide +kernel)
/-- isinstance(a, T) -/
theorem e_isi1 {p p2 : Pos} {k : Kd} (bl : Blt X "isinstance") (bk : Blt X (kdStr k)) (ha : PE X a (tE X.K ct W ma)) (hs : notStar a = true) :
    PE X (.Call (.Name "isinstance" p) [a, .Name (kdStr k) p2] [] pos) (tE X.K ct W fun ρ => (ma ρ).bind fun d ρ => .ok (.bool ([k].any (isK d))) ρ) := by
  refine (pe_callB call_isi bl.gl bl.no (by decide +kernel) (pa_cons ha (pa_cons (pe_kd bk) pa_nil rfl) (starEach_cons hs)) (by decide) (by decide) (starEach_cons hs) (back_one rfl)).weak fun σ H Q h => ?_
  obtain ⟨Hf, ρ, U, R0, p⟩ := h
  refine ⟨Hf, ρ, U, R0, p.then fun d ρ1 Hf1 H1 U1 R1 S1 p1 x rx => ?_⟩
  refine ⟨x, _, _, _, isK d k, rfl, .ty _, rx.ty R1.sub, kit_ty (kit_isK d k), ?_⟩
  have q := p1.ok R1 _ (.bl _)
  simpa using q
/-- a row of classes -/
structure KdRow (X : Cx) (ks : List Kd) (es : List Expr) : Prop where
  pa : PA X es (fun _ H Q => Q (ks.map fun k => V.ty (kdName k)) H)
theorem kr_nil : KdRow X [] [] := ⟨pa_nil⟩
theorem kr_cons {k : Kd} {ks : List Kd} {es : List Expr} {p : Pos} (bk : Blt X (kdStr k)) (h : KdRow X ks es) : KdRow X (k :: ks) (.Name (kdStr k) p :: es) :=
  ⟨(pa_cons (pe_kd bk) h.pa rfl).weak fun σ H Q q => q⟩
theorem e_isi {p p2 : Pos} {k0 : Nat} {ks : List Kd} {es : List Expr} (bl : Blt X "isinstance") (hk : KdRow X ks es) (hn : ks.length ≤ line) (ha : PE X a (tE X.K ct W ma)) (hs : notStar a = true) :
    PE X (.Call (.Name "isinstance" p) [a, .Tuple es k0 p2] [] pos) (tE X.K ct W fun ρ => (ma ρ).bind fun d ρ => .ok (.bool (ks.any (isK d))) ρ) := by
  refine (pe_callB call_isiT bl.gl bl.no (by decide +kernel) (pa_cons ha (pa_cons (pe_tup hk.pa) pa_nil rfl) (starEach_cons hs)) (by decide) (by decide) (starEach_cons hs) (back_one rfl)).weak fun σ H Q h => ?_
  obtain ⟨Hf, ρ, U, R0, p⟩ := h
  refine ⟨Hf, ρ, U, R0, p.then fun d ρ1 Hf1 H1 U1 R1 S1 p1 x rx => ⟨by rw [List.length_map, line_eq]; exact hn, fun z hz => ?_⟩⟩
  refine ⟨x, z, _, _, _, _, rfl, upd_same, paired_ks ks, (rx.mono (upd_mono (R1.sub.free hz))).ty (R1.newF (o' := .tup _) hz).sub, kitAny_ks ks, ?_⟩
  exact p1 _ _ _ (R1.newF (o' := .tup (ks.map fun k => V.ty (kdName k))) hz) (Step.newF R1.sub hz) _ (.bl _)

/-! ### what a name holds goes on -/
theorem f_mv {i : Nat} (h : PE X a (tVar i)) : PE X a (tF X.K ct W (mvV i)) := h.weak fun σ H Q q => by
  obtain ⟨Hf, ρ, U, R0, p⟩ := q
  unfold mvV at p
  split at p
  · rename_i d e
    obtain ⟨v, h1, h2⟩ := R0.own i _ e
    cases h2 with
    | frz r => exact ⟨v, h1, p.ok R0 v (fun _ => False) (.frz r) fun _ q => q.elim⟩
  · rename_i l e
    obtain ⟨v, h1, h2⟩ := R0.own i _ e
    refine ⟨v, h1, p _ _ _ (R0.drop i) (Step.less (foot_updU fun _ q => q.elim)) v (U i) h2 fun b q => ⟨fun ⟨j, w⟩ => ?_, R0.alive i b q, .inl ⟨i, q⟩⟩⟩
    by_cases hj : j = i
    · subst hj; rw [updU_same] at w; exact w
    · rw [updU_ne hj] at w; exact R0.dj j i b hj w q
  · rename_i l e
    obtain ⟨v, h1, h2⟩ := R0.own i _ e
    cases h2 with
    | scr r => exact ⟨_, h1, p.ok R0 _ (fun _ => False) (.scr r) fun _ q => q.elim⟩
  · exact p.elim

/-! ### + and * -/
abbrev kF (K : PySem.W.Frag) (H : Hp) (U : UU) (Q : VK) : O → Env → Hp → Hp → UU → Prop := fun o _ Hf' H' U' => ∀ v T, Own K Hf' H' v o T → (∀ b, T b → ¬ foot U' b ∧ H' b ≠ none ∧ (foot U b ∨ H b = none)) → Q v H'
/-- a new list of frozen items that is asked for -/
theorem new_post {K : PySem.W.Frag} {σ : L2.St} {Hf H Hf1 H1 : Hp} {U U1 : UU} {ρ1 : Env} {Q : VK} {l : List D} {xs : List V} {z : Addr} {E : Ex → Env → Hp → Hp → UU → Prop}
    (p : Post K σ Hf1 H1 U1 E (kF K H U Q) (R.ok (.box (l.map .frz)) ρ1))
    (R1 : Rel K Hf1 H1 ρ1 σ U1) (S1 : Step Hf H (foot U) Hf1 H1 (foot U1)) (n : xs.length = l.length) (it : ∀ (i : Nat) v d, xs[i]? = some v → l[i]? = some d → Rep K Hf1 v d) (hz : H1 z = none) : Q (.ref z) (upd H1 z (.lst xs)) :=
  p _ _ _ (R1.new (o' := .lst xs) hz) (Step.new hz) (.ref z) _ (box_frz n it R1.sub hz) (new_own R1 S1 hz)
/-- a new tuple -/
theorem tup_post {K : PySem.W.Frag} {σ : L2.St} {H Hf1 H1 : Hp} {U U1 : UU} {ρ1 : Env} {Q : VK} {l : List D} {xs : List V} {z : Addr} {E : Ex → Env → Hp → Hp → UU → Prop}
    (p : Post K σ Hf1 H1 U1 E (kF K H U Q) (R.ok (.frz (.tuple l)) ρ1))
    (R1 : Rel K Hf1 H1 ρ1 σ U1) (n : xs.length = l.length) (it : ∀ (i : Nat) v d, xs[i]? = some v → l[i]? = some d → Rep K Hf1 v d) (hz : H1 z = none) : Q (.ref z) (upd H1 z (.tup xs)) :=
  have m := upd_mono (H := Hf1) (p := z) (o := .tup xs) (R1.sub.free hz)
  p _ _ _ (R1.newF (o' := .tup xs) hz) (Step.newF R1.sub hz) (.ref z) (fun _ => False) (.frz (.tup (SqT.of upd_same) n fun i v d e1 e2 => (it i v d e1 e2).mono m)) fun _ q => q.elim
theorem frz_post {K : PySem.W.Frag} {σ : L2.St} {H Hf1 H1 : Hp} {U U1 : UU} {ρ1 : Env} {Q : VK} {d : D} {v : V} {E : Ex → Env → Hp → Hp → UU → Prop}
    (p : Post K σ Hf1 H1 U1 E (kF K H U Q) (R.ok (.frz d) ρ1)) (R1 : Rel K Hf1 H1 ρ1 σ U1) (r : Rep K Hf1 v d) : Q v H1 :=
  p.ok R1 v (fun _ => False) (.frz r) fun _ q => q.elim
theorem app_it {K : PySem.W.Frag} {Hf : Hp} {xs ys : List V} {l m : List D} (n : xs.length = l.length) (it : ∀ (i : Nat) v d, xs[i]? = some v → l[i]? = some d → Rep K Hf v d) (it2 : ∀ (i : Nat) v d, ys[i]? = some v → m[i]? = some d → Rep K Hf v d) :
    ∀ (i : Nat) v d, (xs ++ ys)[i]? = some v → (l ++ m)[i]? = some d → Rep K Hf v d := by
  intro i v d e1 e2
  by_cases h : i < l.length
  · rw [List.getElem?_append_left (by omega)] at e1
    rw [List.getElem?_append_left h] at e2
    exact it i v d e1 e2
  · rw [List.getElem?_append_right (by omega)] at e1
    rw [List.getElem?_append_right (by omega)] at e2
    rw [n] at e1
    exact it2 _ v d e1 e2
/-- two values for an owned one -/
theorem twoF {K : PySem.W.Frag} {σ : L2.St} {H : Hp} {Q : VK} {R2' : V → V → Hp → Prop} {g : D → D → Option O}
    (h : tF K ct W (fun ρ => (ma ρ).bind fun d ρ => (mb ρ).bind fun e ρ => R.of (g d e) ρ) σ H Q)
    (m : ∀ d e o Hf H U ρ' Hf' H' U' x y, Rel K Hf' H' ρ' σ U' → Step Hf H (foot U) Hf' H' (foot U') → Rep K Hf' x d → Rep K Hf' y e → g d e = some o → Post K σ Hf' H' U' (EW K ct W σ) (kF K H U Q) (R.ok o ρ') → R2' x y H') :
    tE K ct W ma σ H fun x H1 => tE K ct W mb σ H1 fun y H2 => R2' x y H2 := by
  obtain ⟨Hf, ρ, U, R0, p⟩ := h
  refine ⟨Hf, ρ, U, R0, p.then fun d ρ1 Hf1 H1 U1 R1 S1 p1 x rx => ⟨Hf1, ρ1, U1, R1, p1.then fun e ρ2 Hf2 H2 U2 R2 S2 p2 y ry => ?_⟩⟩
  obtain ⟨o, e1, _⟩ := p2.of R2
  rw [e1] at p2
  exact m d e o Hf H U ρ2 Hf2 H2 U2 x y R2 (S1.trans S2) (rx.mono S2.mono) ry e1 p2
theorem f_add (ha : PE X a (tE X.K ct W ma)) (hb : PE X b (tE X.K ct W mb)) : PE X (.BinOp a .Add b pos) (tF X.K ct W fun ρ => (ma ρ).bind fun d ρ => (mb ρ).bind fun e ρ => R.of (addO d e) ρ) := by
  refine (pe_op (op_add.or (op_add_str.or (op_catA.or op_cat))) ha hb).weak fun σ H Q h => twoF h fun d e o Hf H U ρ' Hf' H' U' x y R1 S1 rx ry e1 p => ?_
  cases rx <;> cases ry <;> simp only [addO, reduceCtorEq, Option.some.injEq] at e1
  case int.int i j => subst e1; exact .inl ⟨i, j, rfl, rfl, frz_post p R1 (.int _)⟩
  case str.str i j =>
    split at e1 <;> first | contradiction | skip
    rename_i hl
    cases e1
    exact .inr (.inl ⟨i, j, rfl, rfl, by rw [line_eq]; exact hl, frz_post p R1 (.str _)⟩)
  case lst.lst a xs l h n it a2 ys m h2 n2 it2 =>
    split at e1 <;> first | contradiction | skip
    rename_i hl
    cases e1
    exact .inr (.inr (.inr ⟨a, a2, xs, ys, rfl, rfl, R1.sub _ _ h, R1.sub _ _ h2, by rw [n, n2, line_eq]; exact hl, fun z hz => new_post p R1 S1 (by simp [n, n2]) (app_it n it it2) hz⟩))
  case tup.tup a xs l h n it a2 ys m h2 n2 it2 =>
    split at e1 <;> first | contradiction | skip
    rename_i hl
    cases e1
    refine .inr (.inr (.inl ⟨a, a2, xs, ys, rfl, rfl, Same.seqT R1.sub h, Same.seqT R1.sub h2, by rw [n, n2, line_eq]; exact hl, fun e0 => ?_, fun _ e0 => ?_, fun _ _ z hz => tup_post p R1 (by simp [n, n2]) (app_it n it it2) hz⟩))
    · subst e0
      have el : l = [] := List.eq_nil_of_length_eq_zero (by simpa using n.symm)
      subst el
      exact frz_post p R1 (.tup h2 n2 it2)
    · subst e0
      have el : m = [] := List.eq_nil_of_length_eq_zero (by simpa using n2.symm)
      subst el
      rw [List.append_nil] at p
      exact frz_post p R1 (.tup h n it)
theorem rep_it {K : PySem.W.Frag} {Hf : Hp} {xs : List V} {l : List D} (n : xs.length = l.length) (it : ∀ (i : Nat) v d, xs[i]? = some v → l[i]? = some d → Rep K Hf v d) : ∀ k : Nat,
    (List.replicate k xs).flatten.length = (List.replicate k l).flatten.length ∧ ∀ (i : Nat) v d, (List.replicate k xs).flatten[i]? = some v → (List.replicate k l).flatten[i]? = some d → Rep K Hf v d
  | 0 => ⟨rfl, fun i v d e => by simp at e⟩
  | k + 1 => by
    obtain ⟨h1, h2⟩ := rep_it n it k
    simp only [List.replicate_succ, List.flatten_cons]
    exact ⟨by simp [n, h1], app_it n it h2⟩
theorem f_mul (ha : PE X a (tE X.K ct W ma)) (hb : PE X b (tE X.K ct W mb)) : PE X (.BinOp a .Mult b pos) (tF X.K ct W fun ρ => (ma ρ).bind fun d ρ => (mb ρ).bind fun e ρ => R.of (mulO d e) ρ) := by
  refine (pe_op (op_mulW.or (op_rep.or (op_repT.or op_repT1))) ha hb).weak fun σ H Q h => twoF h fun d e o Hf H U ρ' Hf' H' U' x y R1 S1 rx ry e1 p => ?_
  cases rx <;> cases ry <;> simp only [mulO, reduceCtorEq] at e1
  case int.int i j =>
    split at e1 <;> first | contradiction | skip
    rename_i hl
    cases e1
    exact .inl ⟨i, j, rfl, rfl, hl, frz_post p R1 (.int _)⟩
  case lst.int a xs l h n it k =>
    split at e1 <;> first | contradiction | skip
    rename_i hl
    cases e1
    obtain ⟨g1, g2⟩ := rep_it n it k.toNat
    exact .inr (.inl ⟨a, k, xs, rfl, rfl, R1.sub _ _ h, hl.2.1, hl.1, by rw [n, line_eq]; exact hl.2.2, fun z hz => new_post p R1 S1 g1 g2 hz⟩)
  case tup.int a xs l h n it k =>
    split at e1 <;> first | contradiction | skip
    rename_i hl
    cases e1
    obtain ⟨g1, g2⟩ := rep_it n it k.toNat
    by_cases hs : (l = [] ∨ k ≤ 1) ∧ -(2 ^ 63) ≤ k ∧ k < 2 ^ 63
    · have ne : ∀ {α β : Type} {xs : List α} {l : List β}, xs.length = l.length → (xs = [] ↔ l = []) := fun n => by
        constructor
        · intro e; exact List.eq_nil_of_length_eq_zero (by rw [← n, e]; rfl)
        · intro e; exact List.eq_nil_of_length_eq_zero (by rw [n, e]; rfl)
      refine .inr (.inr (.inr ⟨a, k, xs, rfl, rfl, Same.seqT R1.sub h, hs.1.imp (ne n).mpr id, hs.2.1, hs.2.2, fun h1 => ?_, fun h0 z hz => ?_⟩))
      · have el : (List.replicate k.toNat l).flatten = l := by
          rcases h1 with h1 | h1
          · rw [(ne n).mp h1]; simp
          · rw [h1]; simp
        rw [el] at p
        exact frz_post p R1 (.tup h n it)
      · have el : (List.replicate k.toNat l).flatten = [] := by
          rw [show k.toNat = 0 by omega]; rfl
        rw [el] at p
        exact tup_post (xs := []) p R1 rfl (fun i v d e => by simp at e) hz
    · have hl := hl.resolve_left hs
      exact .inr (.inr (.inl ⟨a, k, xs, rfl, rfl, Same.seqT R1.sub h, fun e0 => hl.1 (List.eq_nil_of_length_eq_zero (by rw [← n, e0]; rfl)), hl.2.1, hl.2.2.1, by rw [n]; exact hl.2.2.2, fun z hz => tup_post p R1 g1 g2 hz⟩))

/-! ### list(x), slices -/
theorem oneF {K : PySem.W.Frag} {σ : L2.St} {H : Hp} {Q : VK} {R1' : V → Hp → Prop} {g : D → Option O}
    (h : tF K ct W (fun ρ => (ma ρ).bind fun d ρ => R.of (g d) ρ) σ H Q)
    (m : ∀ d o Hf H U ρ' Hf' H' U' x, Rel K Hf' H' ρ' σ U' → Step Hf H (foot U) Hf' H' (foot U') → Rep K Hf' x d → g d = some o → Post K σ Hf' H' U' (EW K ct W σ) (kF K H U Q) (R.ok o ρ') → R1' x H') : tE K ct W ma σ H R1' := by
  obtain ⟨Hf, ρ, U, R0, p⟩ := h
  refine ⟨Hf, ρ, U, R0, p.then fun d ρ1 Hf1 H1 U1 R1 S1 p1 x rx => ?_⟩
  obtain ⟨o, e1, _⟩ := p1.of R1
  rw [e1] at p1
  exact m d o Hf H U ρ1 Hf1 H1 U1 x R1 S1 rx e1 p1
theorem f_list {p : Pos} (bl : Blt X "list") (ha : PE X a (tE X.K ct W ma)) (hs : notStar a = true) : PE X (.Call (.Name "list" p) [a] [] pos) (tF X.K ct W fun ρ => (ma ρ).bind fun d ρ => R.of (listO d) ρ) := by
  refine (pe_callTy call_list_of bl.gl bl.no (by decide +kernel) (pa_cons ha pa_nil (starEach_cons hs)) (by decide) (by decide) (starEach_cons hs) back_nil).weak fun σ H Q h =>
    oneF (R1' := fun x H' => ∃ p ys, [x] = [.ref p] ∧ (SqL X.K H' p ys ∨ SqT X.K H' p ys) ∧ ∀ l, H' l = none → Q (.ref l) (upd H' l (.lst ys))) h fun d o Hf H U ρ' Hf' H' U' x R1 S1 rx e1 p => ?_
  unfold listO at e1
  rw [Option.map_eq_some_iff] at e1
  obtain ⟨l, e2, rfl⟩ := e1
  obtain ⟨a, xs, rfl, sq, n, it, _⟩ := rx.items e2
  refine ⟨a, xs, rfl, ?_, fun z hz => new_post p R1 S1 n it hz⟩
  rcases sq with sq | sq
  · exact .inl (Same.seq R1.sub sq)
  · exact .inr (Same.seqT R1.sub sq)
/-- a part of a slice: nothing, or one value -/
def tPt (K : PySem.W.Frag) (ct : Str → Option Addr) (W : WX) (m : Env → R (Option Int)) : TO := fun σ H Q => ∃ Hf ρ U, Rel K Hf H ρ σ U ∧ Post K σ Hf H U (EW K ct W σ) (fun i _ _ H' _ => Q i H') (m ρ)
theorem part_none : PO X none (tPt X.K ct W fun ρ => .ok none ρ) := po_none.weak fun σ H Q q => by
  obtain ⟨Hf, ρ, U, R0, p⟩ := q
  exact p.ok R0
theorem part_some (ha : PE X a (tE X.K ct W ma)) : PO X (some a) (tPt X.K ct W fun ρ => (ma ρ).bind fun d ρ => R.of (partD d) ρ) := (po_some ha).weak fun σ H Q q => by
  obtain ⟨Hf, ρ, U, R0, p⟩ := q
  refine ⟨Hf, ρ, U, R0, p.then fun d ρ1 Hf1 H1 U1 R1 S1 p1 x rx => ?_⟩
  obtain ⟨i, e, q⟩ := p1.of R1
  cases rx <;> simp only [partD, reduceCtorEq, Option.some.injEq] at e
  subst e
  exact ⟨_, rfl, q⟩
theorem cut_len {xs : List V} {l : List D} (n : xs.length = l.length) (lo hi : Option Int) : (cutV xs lo hi).length = (cutL l lo hi).length := by
  unfold cutV cutL
  rw [List.length_take, List.length_take, List.length_drop, List.length_drop, n]
theorem cut_get {α : Type} {l : List α} {lo hi : Option Int} {i : Nat} {d : α} (e : (cutL l lo hi)[i]? = some d) : l[HT.sIx l.length 0 lo + i]? = some d := by
  unfold cutL at e
  rw [List.getElem?_take] at e
  split at e
  · rwa [List.getElem?_drop] at e
  · cases e
theorem cut_it {K : PySem.W.Frag} {Hf : Hp} {xs : List V} {l : List D} (n : xs.length = l.length) (it : ∀ (i : Nat) v d, xs[i]? = some v → l[i]? = some d → Rep K Hf v d) (lo hi : Option Int) :
    ∀ (i : Nat) v d, (cutV xs lo hi)[i]? = some v → (cutL l lo hi)[i]? = some d → Rep K Hf v d := fun i v d e1 e2 => by
  have h1 := cut_get (l := xs) e1
  have h2 := cut_get e2
  rw [n] at h1
  exact it _ v d h1 h2
theorem cut_whole {l : List D} {lo hi : Option Int} (h : HT.sIx l.length 0 lo = 0 ∧ HT.sIx l.length l.length hi = l.length) : cutL l lo hi = l := by
  unfold cutL
  rw [h.1, h.2]
  simp
theorem f_slice {lo hi : Option Expr} {ml mh : Env → R (Option Int)} {p2 : Pos} (ha : PE X a (tE X.K ct W ma)) (hl : PO X lo (tPt X.K ct W ml)) (hh : PO X hi (tPt X.K ct W mh)) :
    PE X (.Subscript a (.Slice lo hi none p2) pos) (tF X.K ct W fun ρ => (ma ρ).bind fun d ρ => (ml ρ).bind fun l ρ => (mh ρ).bind fun h ρ => R.of (sliceO d l h) ρ) := by
  refine (pe_slice (sl_list.or sl_tupA) ha hl hh).weak fun σ H Q q => ?_
  obtain ⟨Hf, ρ, U, R0, p⟩ := q
  refine ⟨Hf, ρ, U, R0, p.then fun d ρ1 Hf1 H1 U1 R1 S1 p1 x rx => ⟨Hf1, ρ1, U1, R1, p1.then fun l ρ2 Hf2 H2 U2 R2 S2 p2 => ⟨Hf2, ρ2, U2, R2, p2.then fun h ρ3 Hf3 H3 U3 R3 S3 p3 => ?_⟩⟩⟩
  obtain ⟨o, e1, _⟩ := p3.of R3
  rw [e1] at p3
  have r3 := (rx.mono S2.mono).mono S3.mono
  have S03 := (S1.trans S2).trans S3
  cases r3 <;> simp only [sliceO, reduceCtorEq, Option.some.injEq] at e1
  case lst a xs m hx n it =>
    subst e1
    exact .inl ⟨a, xs, rfl, SqL.of (R3.sub _ _ hx), fun z hz => new_post p3 R3 S03 (cut_len n l h) (cut_it n it l h) hz⟩
  case tup a xs m hx n it =>
    subst e1
    refine .inr ⟨a, xs, rfl, Same.seqT R3.sub hx, fun w => ?_, fun _ z hz => tup_post p3 R3 (cut_len n l h) (cut_it n it l h) hz⟩
    rw [cut_whole (by rw [← n]; exact w)] at p3
    exact frz_post p3 R3 (.tup hx n it)
theorem scr_cut (l : List Int) (lo hi : Option Int) : cutV (l.map V.int) lo hi = (cutL l lo hi).map V.int := by
  unfold cutV cutL
  rw [List.length_map, List.map_take, List.map_drop]
/-- a slice of what a name holds: data, or the script -/
theorem f_cut {s : Nat} {lo hi : Option Expr} {ml mh : Env → R (Option Int)} {p2 : Pos} (ha : PE X a (tVar s)) (hl : PO X lo (tPt X.K ct W ml)) (hh : PO X hi (tPt X.K ct W mh)) :
    PE X (.Subscript a (.Slice lo hi none p2) pos) (tF X.K ct W fun ρ => if (ldV s ρ).isSome then (ml ρ).bind fun l ρ => (mh ρ).bind fun h ρ => R.of ((ldV s ρ).bind fun o => cutO o l h) ρ else .bad) := by
  refine (pe_slice (sl_list.or sl_tupA) ha hl hh).weak fun σ H Q q => ?_
  obtain ⟨Hf, ρ, U, R0, p⟩ := q
  dsimp only at p
  split at p
  · rename_i hsm
    obtain ⟨o0, eo0⟩ := some_of hsm
    obtain ⟨v, h1, _⟩ := R0.own _ _ (ldV_of eo0)
    refine ⟨v, h1, Hf, ρ, U, R0, p.then fun l ρ2 Hf2 H2 U2 R2 S2 p2 => ⟨Hf2, ρ2, U2, R2, p2.then fun h ρ3 Hf3 H3 U3 R3 S3 p3 => ?_⟩⟩
    have S03 := S2.trans S3
    obtain ⟨o', e1, _⟩ := p3.of R3
    rw [e1] at p3
    cases eo : ldV s ρ3 with
    | none => rw [eo] at e1; cases e1
    | some o =>
      rw [eo] at e1
      simp only [Option.bind_some] at e1
      obtain ⟨v', h2, ov⟩ := R3.own _ _ (ldV_of eo)
      rw [h1] at h2
      cases h2
      cases ov with
      | box => simp only [cutO, reduceCtorEq] at e1
      | @scr a m T hs =>
        simp only [cutO, Option.some.injEq] at e1
        subst e1
        refine .inl ⟨a, _, rfl, Same.seq R3.sub hs, fun z hz => ?_⟩
        rw [scr_cut]
        have p4 : Post X.K σ Hf3 H3 U3 (EW X.K ct W σ) (kF X.K H U Q) (R.ok (.box (((cutL m l h).map fun i => PyData.int i).map .frz)) ρ3) := by
          rw [List.map_map]
          exact p3
        refine new_post p4 R3 S03 (by simp) (fun i v d e1 e2 => ?_) hz
        rw [List.getElem?_map] at e1 e2
        cases e : (cutL m l h)[i]? with
        | none => rw [e] at e1; cases e1
        | some k => rw [e] at e1 e2; cases e1; cases e2; exact .int k
      | frz r3 =>
        simp only [cutO] at e1
        cases r3 <;> simp only [sliceO, reduceCtorEq, Option.some.injEq] at e1
        case lst a xs m hx n it h1 =>
          subst e1
          exact .inl ⟨_, xs, rfl, SqL.of (R3.sub _ _ hx), fun z hz => new_post p3 R3 S03 (cut_len n l h) (cut_it n it l h) hz⟩
        case tup a xs m hx n it h1 =>
          subst e1
          refine .inr ⟨_, xs, rfl, Same.seqT R3.sub hx, fun w => ?_, fun _ z hz => tup_post p3 R3 (cut_len n l h) (cut_it n it l h) hz⟩
          rw [cut_whole (by rw [← n]; exact w)] at p3
          exact frz_post p3 R3 (.tup hx n it)
  · exact p.elim
end
end Tr
set_option Elab.async false
set_option linter.all false
set_option maxRecDepth 100000
set_option maxHeartbeats 4000000
/-! TrC6: statements; lists that change. -/
namespace Tr
open PySem PySem.Spec PyProof.Rows L2

/-- what is wanted behind a statement, by how it ends; (H, U): where it began -/
def kS (K : PySem.W.Frag) (D : Ends) (H : Hp) (U : UU) (fl : Fl) (σ' : L2.St) (Hf' H' : Hp) (U' : UU) : Prop := match fl with
  | .nx => D.nx σ' H'
  | .brk => D.bk σ' H'
  | .ct => D.ct σ' H'
  | .ret o => ∀ v T, Own K Hf' H' v o T → (∀ b, T b → ¬ foot U' b ∧ H' b ≠ none ∧ (foot U b ∨ H b = none)) → D.rt v H'
abbrev Fix := Nat → Prop
/-- what the fixed slots hold stays -/
def Kept (fx : Fix) (σ σ' : L2.St) : Prop := σ'.length = σ.length ∧ ∀ i, fx i → σ'[i]? = σ[i]?
theorem Kept.refl {fx : Fix} {σ : L2.St} : Kept fx σ σ := ⟨rfl, fun _ _ => rfl⟩
theorem Kept.trans {fx : Fix} {σ σ1 σ2 : L2.St} (a : Kept fx σ σ1) (b : Kept fx σ1 σ2) : Kept fx σ σ2 := ⟨b.1.trans a.1, fun i h => (b.2 i h).trans (a.2 i h)⟩
theorem Kept.set {fx : Fix} {σ : L2.St} {i : Nat} {v : Option V} (h : ¬ fx i) : Kept fx σ (σ.set i v) := ⟨List.length_set, fun j hj => List.getElem?_set_ne (fun e => by subst e; exact h hj)⟩
def PostS (K : PySem.W.Frag) (ct : Str → Option Addr) (W : WX) (fx : Fix) (σ : L2.St) (Hf H : Hp) (U : UU) (D : Ends) (r : R Fl) : Prop := match r with
  | .ok fl ρ' => ∀ σ' Hf' H' U', Kept fx σ σ' → Rel K Hf' H' ρ' σ' U' → Step Hf H (foot U) Hf' H' (foot U') → kS K D H U fl σ' Hf' H' U'
  | .exc x ρ' => ∀ σ' Hf' H' U', Kept fx σ σ' → Rel K Hf' H' ρ' σ' U' → Step Hf H (foot U) Hf' H' (foot U') → EW K ct W σ' x ρ' Hf' H' U'
  | .bad => False
def tS (K : PySem.W.Frag) (ct : Str → Option Addr) (W : WX) (fx : Fix) (m : Env → R Fl) : TS := fun D σ H => ∃ Hf ρ U, Rel K Hf H ρ σ U ∧ PostS K ct W fx σ Hf H U D (m ρ)
section
variable {K : PySem.W.Frag} {ct : Str → Option Addr} {W : WX} {fx : Fix} {σ σ1 : L2.St} {Hf H Hf1 H1 : Hp} {U U1 : UU} {D : Ends} {r : R Fl}
theorem PostS.from (h : PostS K ct W fx σ Hf H U D r) (k : Kept fx σ σ1) (S : Step Hf H (foot U) Hf1 H1 (foot U1)) : PostS K ct W fx σ1 Hf1 H1 U1 D r := by
  cases r with
  | bad => exact h
  | exc x ρ' => exact fun σ' Hf' H' U' k' R' S' => h σ' Hf' H' U' (k.trans k') R' (S.trans S')
  | ok fl ρ' =>
    intro σ' Hf' H' U' k' R' S'
    have q := h σ' Hf' H' U' (k.trans k') R' (S.trans S')
    cases fl with
    | nx => exact q
    | brk => exact q
    | ct => exact q
    | ret o =>
      intro v T ov tv
      refine q v T ov fun b tb => ⟨(tv b tb).1, (tv b tb).2.1, ?_⟩
      rcases (tv b tb).2.2 with w | w
      · exact S.foot b w
      · exact S.old w
/-- an expression ahead: its own reading -/
theorem PostS.bndE {α : Type} {m : R α} {f : α → Env → R Fl} {k : α → Env → Hp → Hp → UU → Prop} (h : PostS K ct W fx σ Hf H U D (m.bind f))
    (g : ∀ a ρ1 Hf1 H1 U1, Rel K Hf1 H1 ρ1 σ U1 → Step Hf H (foot U) Hf1 H1 (foot U1) → PostS K ct W fx σ Hf H U D (f a ρ1) → k a ρ1 Hf1 H1 U1) : Post K σ Hf H U (EW K ct W σ) k m := by
  cases m with
  | bad => exact h
  | exc x ρ' => exact fun Hf' H' U' R' S' => h σ Hf' H' U' Kept.refl R' S'
  | ok a ρ1 => exact fun Hf1 H1 U1 R1 S1 => g a ρ1 Hf1 H1 U1 R1 S1 h
end
/-- .. that begins later -/
theorem PostS.bndE2 {K : PySem.W.Frag} {ct : Str → Option Addr} {W : WX} {fx : Fix} {σ : L2.St} {Hf H Hf1 H1 : Hp} {U U1 : UU} {D : Ends} {α : Type} {m : R α} {f : α → Env → R Fl} {k : α → Env → Hp → Hp → UU → Prop} (h : PostS K ct W fx σ Hf H U D (m.bind f)) (S : Step Hf H (foot U) Hf1 H1 (foot U1))
    (g : ∀ a ρ2 Hf2 H2 U2, Rel K Hf2 H2 ρ2 σ U2 → Step Hf1 H1 (foot U1) Hf2 H2 (foot U2) → PostS K ct W fx σ Hf H U D (f a ρ2) → k a ρ2 Hf2 H2 U2) : Post K σ Hf1 H1 U1 (EW K ct W σ) k m := by
  cases m with
  | bad => exact h
  | exc x ρ' => exact fun Hf' H' U' R' S' => h σ Hf' H' U' Kept.refl R' (S.trans S')
  | ok a ρ1 => exact fun Hf2 H2 U2 R2 S2 => g a ρ1 Hf2 H2 U2 R2 S2 h
section
variable {X : Cx} {ct : Str → Option Addr} {W : WX} {fx : Fix} {a b c e : Expr} {ma mb mc : Env → R D} {mf : Env → R O} {pos : Pos} {st : Stmt} {rest : List Stmt} {ms mt : Env → R Fl}
theorem ss_nil : PSs X [] (tS X.K ct W fx fun ρ => .ok .nx ρ) := pss_nil.weak fun D σ H h => by
  obtain ⟨Hf, ρ, U, R0, p⟩ := h
  exact p σ Hf H U Kept.refl R0 Step.refl
theorem ss_cons (h1 : PS X st (tS X.K ct W fx ms)) (h2 : PSs X rest (tS X.K ct W fx mt)) : PSs X (st :: rest) (tS X.K ct W fx fun ρ => (ms ρ).bind fun fl ρ => match fl with
    | .nx => mt ρ
    | fl => .ok fl ρ) := (pss_cons h1 h2).weak fun D σ H h => by
  obtain ⟨Hf, ρ, U, R0, p⟩ := h
  refine ⟨Hf, ρ, U, R0, ?_⟩
  dsimp only at p
  cases em : ms ρ with
  | bad => rw [em] at p; exact p
  | exc x ρ1 => rw [em] at p; exact p
  | ok fl ρ1 =>
    rw [em] at p
    cases fl with
    | nx => exact fun σ' Hf' H' U' k' R' S' => ⟨Hf', ρ1, U', R', PostS.from p k' S'⟩
    | brk => exact p
    | ct => exact p
    | ret o => exact p
theorem s_pass : PS X (.Pass pos) (tS X.K ct W fx fun ρ => .ok .nx ρ) := ps_pass.weak fun D σ H h => by
  obtain ⟨Hf, ρ, U, R0, p⟩ := h
  exact p σ Hf H U Kept.refl R0 Step.refl
theorem s_brk : PS X (.Break pos) (tS X.K ct W fx fun ρ => .ok .brk ρ) := ps_break.weak fun D σ H h => by
  obtain ⟨Hf, ρ, U, R0, p⟩ := h
  exact p σ Hf H U Kept.refl R0 Step.refl
theorem s_ct : PS X (.Continue pos) (tS X.K ct W fx fun ρ => .ok .ct ρ) := ps_continue.weak fun D σ H h => by
  obtain ⟨Hf, ρ, U, R0, p⟩ := h
  exact p σ Hf H U Kept.refl R0 Step.refl
theorem s_never : PS X st (tS X.K ct W fx fun ρ => .bad) := ps_never.weak fun D σ H h => by
  obtain ⟨Hf, ρ, U, R0, p⟩ := h
  exact p
theorem s_ret (h : PE X e (tF X.K ct W mf)) : PS X (.Return (some e) pos) (tS X.K ct W fx fun ρ => (mf ρ).bind fun o ρ => .ok (.ret o) ρ) := (ps_ret h).weak fun D σ H h => by
  obtain ⟨Hf, ρ, U, R0, p⟩ := h
  exact ⟨Hf, ρ, U, R0, p.bndE fun o ρ1 Hf1 H1 U1 R1 S1 q => q σ Hf1 H1 U1 Kept.refl R1 S1⟩
theorem s_retN : PS X (.Return none pos) (tS X.K ct W fx fun ρ => .ok (.ret (.frz .none)) ρ) := ps_retN.weak fun D σ H h => by
  obtain ⟨Hf, ρ, U, R0, p⟩ := h
  exact p σ Hf H U Kept.refl R0 Step.refl .non (fun _ => False) (.frz .non) fun _ q => q.elim
theorem s_if {nt : Env → R Bool} {ba bb : List Stmt} (hc : PT X c (tT X.K ct W nt)) (ha : PSs X ba (tS X.K ct W fx ms)) (hb : PSs X bb (tS X.K ct W fx mt)) :
    PS X (.If c ba bb pos) (tS X.K ct W fx fun ρ => (nt ρ).bind fun t ρ => if t then ms ρ else mt ρ) := (ps_if hc ha hb).weak fun D σ H h => by
  obtain ⟨Hf, ρ, U, R0, p⟩ := h
  refine ⟨Hf, ρ, U, R0, p.bndE fun t ρ1 Hf1 H1 U1 R1 S1 q => ?_⟩
  cases t with
  | true => simp only [if_true] at q ⊢; exact ⟨Hf1, ρ1, U1, R1, q.from Kept.refl S1⟩
  | false => simp only [Bool.false_eq_true, if_false] at q ⊢; exact ⟨Hf1, ρ1, U1, R1, q.from Kept.refl S1⟩
/-- a slot takes an owned thing: the step from the start -/
theorem take_step {K : PySem.W.Frag} {σ : L2.St} {Hf H Hf1 H1 : Hp} {U U1 : UU} {ρ1 : Env} {v : V} {o : O} {T : Addr → Prop} {i : Nat} (R1 : Rel K Hf1 H1 ρ1 σ U1) (S1 : Step Hf H (foot U) Hf1 H1 (foot U1)) (ov : Own K Hf1 H1 v o T)
    (tv : ∀ b, T b → ¬ foot U1 b ∧ H1 b ≠ none ∧ (foot U b ∨ H b = none)) : Rel K Hf1 H1 (putO ρ1 i o) (σ.set i (some v)) (updU U1 i T) ∧ Step Hf H (foot U) Hf1 H1 (foot (updU U1 i T)) := by
  refine ⟨R1.put ov (fun b tb ⟨j, _, w⟩ => (tv b tb).1 ⟨j, w⟩) fun b tb => (tv b tb).2.1, S1.mono, S1.dom, S1.frame, fun b ⟨j, q⟩ => ?_⟩
  by_cases e : j = i
  · subst e; rw [updU_same] at q; exact (tv b q).2.2
  · rw [updU_ne e] at q; exact S1.foot b ⟨j, q⟩
theorem s_set {i : Nat} {x : Str} {pos' : Pos} (hN : X.N.Nodup) (hi : X.N[i]? = some x) (hx : Loc X.env.scope x) (he : PE X e (tF X.K ct W mf)) (hs : swapsWith e (some (.Name x pos')) pos.line X.env = pure false) (hf : X.fn x = true ∨ X.env.scope.names.lookup x = some .local) (nf : ¬ fx i) :
    PS X (.Assign [.Name x pos'] e pos) (tS X.K ct W fx fun ρ => (mf ρ).bind fun o ρ => .ok .nx (putO ρ i o)) := (ps_set hN hi hx he hs hf).weak fun D σ H h => by
  obtain ⟨Hf, ρ, U, R0, p⟩ := h
  refine ⟨Hf, ρ, U, R0, p.bndE fun o ρ1 Hf1 H1 U1 R1 S1 q v T ov tv => ?_⟩
  obtain ⟨R2, S2⟩ := take_step (i := i) R1 S1 ov tv
  exact q _ Hf1 H1 _ (Kept.set nf) R2 S2
theorem s_expr (he : PE X e (tF X.K ct W mf)) (hs : swapsWith e none pos.line X.env = pure false) : PS X (.Expr e pos) (tS X.K ct W fx fun ρ => (mf ρ).bind fun _ ρ => .ok .nx ρ) := (ps_expr he hs).weak fun D σ H h => by
  obtain ⟨Hf, ρ, U, R0, p⟩ := h
  exact ⟨Hf, ρ, U, R0, p.bndE fun o ρ1 Hf1 H1 U1 R1 S1 q v T ov tv => q σ Hf1 H1 U1 Kept.refl R1 S1⟩
theorem s_par {i j : Nat} {x y : Str} {px py pt : Pos} {kt k2 pt2} (hc : X.calm = true) (hN : X.N.Nodup) (hi : X.N[i]? = some x) (hj : X.N[j]? = some y) (hij : i ≠ j)
    (hx : X.env.scope.names.lookup x = some .local) (hy : X.env.scope.names.lookup y = some .local) (ha : PE X a (tE X.K ct W ma)) (hb : PE X b (tE X.K ct W mb)) (sa : notStar a = true) (sb : notStar b = true)
    (hw : swappedStores [.Tuple [.Name x px, .Name y py] kt pt] (.Tuple [a, b] k2 pt2) X.env = pure (some [x, y])) (ni : ¬ fx i) (nj : ¬ fx j) :
    PS X (.Assign [.Tuple [.Name x px, .Name y py] kt pt] (.Tuple [a, b] k2 pt2) pos) (tS X.K ct W fx fun ρ => (ma ρ).bind fun d ρ => (mb ρ).bind fun e ρ => .ok .nx (putO (putO ρ i (.frz d)) j (.frz e))) :=
  (ps_par hc hN hi hj hij hx hy (pa_cons ha (pa_cons hb pa_nil (starEach_cons sb)) (starEach_cons sa)) hw).weak fun D σ H h => by
  obtain ⟨Hf, ρ, U, R0, p⟩ := h
  refine ⟨Hf, ρ, U, R0, p.bndE fun d ρ1 Hf1 H1 U1 R1 S1 p1 v rv => ⟨Hf1, ρ1, U1, R1, (p1.from Kept.refl S1).bndE fun e ρ2 Hf2 H2 U2 R2 S2 p2 w rw' => ⟨v, w, rfl, ?_⟩⟩⟩
  obtain ⟨R3, S3⟩ := take_step (i := i) R2 S2 (.frz (T := fun _ => False) (rv.mono S2.mono)) fun _ q => q.elim
  have R4 := R3.put (i := j) (.frz (T := fun _ => False) rw') (fun _ q => q.elim) fun _ q => q.elim
  exact p2 _ Hf2 H2 _ ((Kept.set ni).trans (Kept.set nj)) R4 ⟨S3.mono, S3.dom, S3.frame, fun b ⟨l, q⟩ => by
    by_cases e : l = j
    · subst e; rw [updU_same] at q; exact q.elim
    · rw [updU_ne e] at q; exact S3.foot b ⟨l, q⟩⟩

theorem s_par3 {i j l : Nat} {x y z : Str} {px py pz pt : Pos} {kt k2 pt2} (hc : X.calm = true) (hN : X.N.Nodup) (hi : X.N[i]? = some x) (hj : X.N[j]? = some y) (hl : X.N[l]? = some z) (hij : i ≠ j) (hil : i ≠ l) (hjl : j ≠ l)
    (hx : X.env.scope.names.lookup x = some .local) (hy : X.env.scope.names.lookup y = some .local) (hz : X.env.scope.names.lookup z = some .local) (ha : PE X a (tE X.K ct W ma)) (hb : PE X b (tE X.K ct W mb)) (hcc : PE X c (tE X.K ct W mc)) (sa : notStar a = true) (sb : notStar b = true) (sc : notStar c = true)
    (hw : swappedStores [.Tuple [.Name x px, .Name y py, .Name z pz] kt pt] (.Tuple [a, b, c] k2 pt2) X.env = pure (some [x, y, z])) (ni : ¬ fx i) (nj : ¬ fx j) (nl : ¬ fx l) :
    PS X (.Assign [.Tuple [.Name x px, .Name y py, .Name z pz] kt pt] (.Tuple [a, b, c] k2 pt2) pos) (tS X.K ct W fx fun ρ => (ma ρ).bind fun d ρ => (mb ρ).bind fun e ρ => (mc ρ).bind fun f ρ => .ok .nx (putO (putO (putO ρ i (.frz d)) j (.frz e)) l (.frz f))) :=
  (ps_par3 hc hN hi hj hl hij hil hjl hx hy hz (pa_cons ha (pa_cons hb (pa_cons hcc pa_nil (starEach_cons sc)) (starEach_cons sb)) (starEach_cons sa)) hw).weak fun D σ H h => by
  obtain ⟨Hf, ρ, U, R0, p⟩ := h
  refine ⟨Hf, ρ, U, R0, p.bndE fun d ρ1 Hf1 H1 U1 R1 S1 p1 v rv => ⟨Hf1, ρ1, U1, R1, (p1.from Kept.refl S1).bndE fun e ρ2 Hf2 H2 U2 R2 S2 p2 w rw' => ⟨Hf2, ρ2, U2, R2, (p2.from Kept.refl S2).bndE fun f ρ3 Hf3 H3 U3 R3 S3 p3 u ru => ⟨v, w, u, rfl, ?_⟩⟩⟩⟩
  obtain ⟨R4, S4⟩ := take_step (i := i) R3 S3 (.frz (T := fun _ => False) ((rv.mono S2.mono).mono S3.mono)) fun _ q => q.elim
  have R5 := R4.put (i := j) (.frz (T := fun _ => False) (rw'.mono S3.mono)) (fun _ q => q.elim) fun _ q => q.elim
  have R6 := R5.put (i := l) (.frz (T := fun _ => False) ru) (fun _ q => q.elim) fun _ q => q.elim
  exact p3 _ Hf3 H3 _ (((Kept.set ni).trans (Kept.set nj)).trans (Kept.set nl)) R6 ⟨S4.mono, S4.dom, S4.frame, fun b ⟨m, q⟩ => by
    by_cases e : m = l
    · subst e; rw [updU_same] at q; exact q.elim
    · rw [updU_ne e] at q
      by_cases e2 : m = j
      · subst e2; rw [updU_same] at q; exact q.elim
      · rw [updU_ne e2] at q; exact S4.foot b ⟨m, q⟩⟩

/-! ### targets that take a row apart -/
/-- names in a row -/
inductive NameRow (X : Cx) (fx : Fix) : List Nat → List Expr → Prop where
  | nil : NameRow X fx [] []
  | cons {i : Nat} {x : Str} {p : Pos} {is : List Nat} {es : List Expr} (hi : X.N[i]? = some x) (hx : Loc X.env.scope x) (hf : X.fn x = true ∨ X.env.scope.names.lookup x = some .local) (nf : ¬ fx i) (r : NameRow X fx is es) : NameRow X fx (i :: is) (.Name x p :: es)
def gRow : List Nat → TGs
  | [] => gNil
  | i :: is => gCons (gName i) (gRow is)
theorem NameRow.pgs (hN : X.N.Nodup) {is : List Nat} {es : List Expr} (h : NameRow X fx is es) : PGs X es (gRow is) := by
  induction h with
  | nil => exact pgs_nil
  | cons hi hx hf nf r ih => exact pgs_cons (pg_name hN hi hx hf) ih rfl
theorem NameRow.len {is : List Nat} {es : List Expr} (h : NameRow X fx is es) : (assignEach es X.env).length = is.length := by
  induction h with
  | nil => rfl
  | cons hi hx hf nf r ih => exact congrArg Nat.succ ih
theorem NameRow.noStar {is : List Nat} {es : List Expr} (h : NameRow X fx is es) : (assignEach es X.env).findIdx? (·.1) = none := by
  induction h with
  | nil => rfl
  | cons hi hx hf nf r ih =>
    show (( (false, _) :: assignEach _ X.env) : List (Bool × (Value → Sem Unit))).findIdx? (·.1) = none
    rw [List.findIdx?_cons, ih]
    rfl
theorem NameRow.free {is : List Nat} {es : List Expr} (h : NameRow X fx is es) : ∀ i ∈ is, ¬ fx i := by
  induction h with
  | nil => exact fun _ q => nomatch q
  | cons hi hx hf nf r ih => exact fun i q => (List.mem_cons.mp q).elim (fun e => e ▸ nf) (ih i)
/-- a tuple or a list -/
def gAny (K : PySem.W.Frag) (n : Nat) (t : TGs) : TG := fun v σ H Q => ∃ a xs, v = .ref a ∧ (SqL K H a xs ∨ SqT K H a xs) ∧ xs.length = n ∧ t xs σ H Q
theorem pg_any {es : List Expr} {k : Nat} {t : TGs} {n : Nat} (hc : X.calm = true) (h : PGs X es t) (hn : (assignEach es X.env).length = n) (hst : (assignEach es X.env).findIdx? (·.1) = none) : PG X (.Tuple es k pos) (gAny X.K n t) := by
  refine ⟨fun pins s σ H v u Q I r hw => ?_⟩
  obtain ⟨a, xs, e1, hq, hl, hw⟩ := hw
  rcases hq with hq | hq
  · exact (pg_lst hc h hn hst).run pins s σ H v u Q I r ⟨a, xs, e1, hq, hl, hw⟩
  · exact (pg_tup hc h hn hst).run pins s σ H v u Q I r ⟨a, xs, e1, hq, hl, hw⟩
/-- frozen items go to their slots -/
theorem row_put {K : PySem.W.Frag} {Hf H : Hp} {Q : L2.St → Hp → Prop} : ∀ {is : List Nat} {l : List D} {xs : List V} {σ : L2.St} {ρ : Env} {U : UU}, xs.length = is.length → xs.length = l.length → (∀ (i : Nat) v d, xs[i]? = some v → l[i]? = some d → Rep K Hf v d) →
    Rel K Hf H ρ σ U → (∀ i ∈ is, ¬ fx i) → (∀ σ' U', Kept fx σ σ' → Rel K Hf H ((is.zip l).foldl (fun r p => putO r p.1 (.frz p.2)) ρ) σ' U' → (∀ b, foot U' b → foot U b) → (∀ ns, (∀ i ∈ is, i ∈ ns) → wipe σ' ns = wipe σ ns) → Q σ' H) → gRow is xs σ H Q
  | [], [], [], σ, ρ, U, _, _, _, R0, _, q => ⟨rfl, q σ U Kept.refl R0 (fun _ h => h) fun _ _ => rfl⟩
  | [], _, _ :: _, _, _, _, n, _, _, _, _, _ => by simp at n
  | [], _ :: _, [], _, _, _, _, n, _, _, _, _ => by simp at n
  | _ :: _, _, [], _, _, _, n, _, _, _, _, _ => by simp at n
  | _ :: _, [], _ :: _, _, _, _, _, n, _, _, _, _ => by simp at n
  | i :: is, d :: l, x :: xs, σ, ρ, U, n1, n2, it, R0, nf, q => by
    refine ⟨x, xs, rfl, ?_⟩
    show gRow is xs (σ.set i (some x)) H Q
    have R1 := R0.put (i := i) (.frz (T := fun _ => False) (it 0 x d rfl rfl)) (fun _ q => q.elim) fun _ q => q.elim
    refine row_put (is := is) (l := l) (xs := xs) (by simpa using n1) (by simpa using n2) (fun j v d' e1 e2 => it (j + 1) v d' (by simpa using e1) (by simpa using e2)) R1 (fun j hj => nf j (List.mem_cons_of_mem _ hj)) fun σ' U' k' R' fu wp => ?_
    refine q σ' U' ((Kept.set (nf i List.mem_cons_self)).trans k') R' (fun b hb => foot_updU (fun _ q => q.elim) b (fu b hb)) fun ns hns => ?_
    rw [wp ns fun j hj => hns j (List.mem_cons_of_mem _ hj)]
    exact wipe_set (hns i List.mem_cons_self)
where
  wipe_set {σ : L2.St} {i : Nat} {v : Option V} : ∀ {ns : List Nat}, i ∈ ns → wipe (σ.set i v) ns = wipe σ ns := by
    intro ns h
    induction ns with
    | nil => cases h
    | cons j r ih =>
      show (wipe (σ.set i v) r).set j none = (wipe σ r).set j none
      by_cases e : i ∈ r
      · rw [ih e]
      · have e2 : i = j := by rcases List.mem_cons.mp h with e3 | e3; exact e3; exact absurd e3 e
        subst e2
        have : ∀ (r : List Nat) (τ : L2.St), (wipe (τ.set i v) r).set i none = (wipe τ r).set i none := by
          intro r
          induction r with
          | nil => intro τ; exact List.set_set ..
          | cons k r ih2 =>
            intro τ
            show ((wipe (τ.set i v) r).set k none).set i none = ((wipe τ r).set k none).set i none
            by_cases ek : k = i
            · subst ek
              rw [List.set_set, List.set_set, ih2]
            · rw [List.set_comm _ _ ek, ih2, ← List.set_comm _ _ ek]
        exact this r σ
end
end Tr
set_option Elab.async false
set_option linter.all false
set_option maxRecDepth 100000
set_option maxHeartbeats 4000000
/-! TrC7: lists that change: append, extend, reverse, pop, stores. -/
namespace Tr
open PySem PySem.Spec PyProof.Rows L2

section
variable {K : PySem.W.Frag} {Hf H : Hp} {ρ : Env} {σ : L2.St} {U : UU} {v : V} {o : O} {T : Addr → Prop}
theorem own_chg {a : Addr} {u : HO} (ne : ∀ b, T b → b ≠ a) (h : Own K Hf H v o T) : Own K Hf (upd H a u) v o T :=
  h.keep (fun _ _ q => q) (fun b w t q => by rw [upd_ne (ne b t)]; exact q) fun _ _ _ _ n => n
theorem sub_chg {a : Addr} {u : HO} (sub : Same Hf H) (nf : Hf a = none) : Same Hf (upd H a u) := fun b w q => by
  rw [upd_ne (ne_of_none q nf)]
  exact sub b w q
/-- a slot's own list (or one within it) has changed -/
theorem rel_chg {s : Nat} {a : Addr} {u : HO} {T' : Addr → Prop} (R : Rel K Hf H ρ σ U) (hv : σ[s]? = some (some v)) (ua : U s a) (nf : Hf a = none) (h : Own K Hf (upd H a u) v o T') (t : ∀ b, T' b → U s b ∨ (¬ foot U b ∧ H b ≠ none)) :
    Rel K Hf (upd H a u) (putO ρ s o) σ (updU U s T') := by
  refine ⟨sub_chg R.sub nf, by rw [putO, List.length_set, R.len], fun j o' e => ?_, updU_dj R.dj fun b tb ⟨j, hj, w⟩ => ?_, updU_alive (fun i b q => upd_alive (R.alive i b q)) fun b tb => ?_⟩
  · rcases set_get e with ⟨rfl, e1⟩ | ⟨ne, e1⟩
    · cases e1
      exact ⟨v, hv, by rw [updU_same]; exact h⟩
    · obtain ⟨w, h1, h2⟩ := R.own j o' e1
      exact ⟨w, h1, by rw [updU_ne ne]; exact own_chg (fun b tb e => R.dj j s b ne tb (e ▸ ua)) h2⟩
  · rcases t b tb with z | z
    · exact R.dj j s b hj w z
    · exact z.1 ⟨j, w⟩
  · rcases t b tb with z | z
    · exact upd_alive (R.alive s b z)
    · exact upd_alive z.2
theorem step_chg {s : Nat} {a : Addr} {u : HO} {T' : Addr → Prop} {Hf0 H0 : Hp} {U0 : UU} (S : Step Hf0 H0 (foot U0) Hf H (foot U)) (ua : U s a) (t : ∀ b, T' b → U s b ∨ (foot U0 b ∨ H0 b = none)) : Step Hf0 H0 (foot U0) Hf (upd H a u) (foot (updU U s T')) :=
  ⟨S.mono, S.dom, fun b w n q => by
    have e : b ≠ a := fun e => by
      rcases S.foot b (e ▸ ⟨s, ua⟩) with z | z
      · exact n z
      · rw [q] at z; cases z
    rw [upd_ne e]
    exact S.frame b w n q, fun b ⟨j, q⟩ => by
    by_cases e : j = s
    · subst e
      rw [updU_same] at q
      rcases t b q with z | z
      · exact S.foot b ⟨j, z⟩
      · exact z
    · rw [updU_ne e] at q; exact S.foot b ⟨j, q⟩⟩
/-- a box, opened -/
theorem own_open {l : List O} (h : Own K Hf H v (.box l) T) : ∃ a xs Y, v = .ref a ∧ H a = some (.lst xs) ∧ Hf a = none ∧ T a ∧ Owns K Hf H xs l Y ∧ ∀ i b, Y i b → T b ∧ b ≠ a := by
  cases h with
  | box U h nf ta n it dj sb => exact ⟨_, _, U, rfl, h, nf, ta, ⟨n, it, dj⟩, sb⟩
/-- a box, closed again over changed items -/
theorem owns_close {a : Addr} {xs : List V} {l : List O} {Y : UU} {T' : Addr → Prop} (h : Owns K Hf H xs l Y) (nf : Hf a = none) (ta : T' a) (sb : ∀ i b, Y i b → T' b ∧ b ≠ a) : Own K Hf (upd H a (.lst xs)) (.ref a) (.box l) T' :=
  .box Y upd_same nf ta h.len (fun i v o e1 e2 => own_chg (fun b t => (sb i b t).2) (h.own i v o e1 e2)) h.dj sb
end
theorem isBox_of {s : Nat} {ρ : Env} (h : isBox s ρ = true) : ∃ l, ρ[s]? = some (some (.box l)) := by
  unfold isBox at h
  split at h
  · rename_i l e; exact ⟨l, e⟩
  · cases h
theorem mdP_of {α : Type} {f : O → Option (α × O)} {s : Nat} {is : List D} {ρ : Env} {a : α} {ρ' : Env} (h : mdP f s is ρ = .ok a ρ') : ∃ o o', ldV s ρ = some o ∧ modP f o is = some (a, o') ∧ ρ' = putO ρ s o' := by
  unfold mdP at h
  split at h
  · rename_i o e
    split at h
    · rename_i a' o' e2
      cases h
      exact ⟨o, o', e, e2, rfl⟩
    · cases h
  · cases h
section
variable {X : Cx} {ct : Str → Option Addr} {W : WX} {fx : Fix} {a b c e : Expr} {ma mb mc : Env → R D} {mf : Env → R O} {pos apos cpos : Pos} {es : List Expr}
theorem few_one {e : Expr} (h : notStar e = true) : ((backTo cpos (starEach [e] X.env)).all (fun x => !x.1) && (backToKw cpos (keywordEach [] X.env)).all (fun x => x.1.isSome)
      && decide (([e] : List Expr).length + ([] : List Keyword).length + (if ([] : List Keyword).isEmpty then 0 else 1) < 30)) = true := by
  rw [starEach_cons h]
  rfl
/-- no call stands ahead of the dot: a name -/
theorem base_name {x m : Str} {p : Pos} : attributeBase (.Name x p) m X.env (eval (.Name x p) X.env) = eval (.Name x p) X.env := rfl
/-- the post of a mdP at a slot, met -/
theorem mdP_post {α : Type} {K : PySem.W.Frag} {σ : L2.St} {Hf H : Hp} {U : UU} {E : Ex → Env → Hp → Hp → UU → Prop} {k : α → Env → Hp → Hp → UU → Prop} {f : O → Option (α × O)} {s : Nat} {is : List D} {ρ : Env}
    (h : Post K σ Hf H U E k (mdP f s is ρ)) : ∃ r o o', ldV s ρ = some o ∧ modP f o is = some (r, o') ∧ Post K σ Hf H U E k (.ok r (putO ρ s o')) := by
  cases e : mdP f s is ρ with
  | bad => rw [e] at h; exact h.elim
  | exc x ρ' =>
    exfalso
    unfold mdP at e
    split at e
    · split at e <;> cases e
    · cases e
  | ok r ρ' =>
    obtain ⟨o, o', e1, e2, e3⟩ := mdP_of e
    subst e3
    exact ⟨r, o, o', e1, e2, by rw [e] at h; exact h⟩
theorem modP_nil {α : Type} {f : O → Option (α × O)} {o : O} : modP f o [] = f o := by cases o <;> rfl
theorem app_cond {K : PySem.W.Frag} {Hf H : Hp} {xs : List V} {l : List O} {Y : UU} {x : V} {o : O} {T : Addr → Prop} (h : Owns K Hf H xs l Y) (ho : Own K Hf H x o T) (d : ∀ i b, Y i b → ¬ T b) : Owns K Hf H (xs ++ [x]) (l ++ [o]) (fun i => if i < l.length then Y i else if i = l.length then T else fun _ => False) := by
  refine ⟨by simp [h.len], fun i v o' e1 e2 => ?_, fun i j b hne h1 h2 => ?_⟩
  · by_cases hi : i < l.length
    · rw [if_pos hi]
      rw [List.getElem?_append_left (by rw [h.len]; exact hi)] at e1
      rw [List.getElem?_append_left hi] at e2
      exact h.own i v o' e1 e2
    · rw [if_neg hi]
      rw [List.getElem?_append_right (by rw [h.len]; omega)] at e1
      rw [List.getElem?_append_right (by omega)] at e2
      rw [h.len] at e1
      cases q : i - l.length with
      | zero =>
        rw [q] at e1 e2
        cases e1
        cases e2
        rw [if_pos (by omega)]
        exact ho
      | succ n => rw [q] at e1; simp at e1
  · by_cases hi : i < l.length
    · rw [if_pos hi] at h1
      by_cases hj : j < l.length
      · rw [if_pos hj] at h2; exact h.dj i j b hne h1 h2
      · rw [if_neg hj] at h2
        by_cases hj2 : j = l.length
        · rw [if_pos hj2] at h2; exact d i b h1 h2
        · rw [if_neg hj2] at h2; exact h2
    · rw [if_neg hi] at h1
      by_cases hi2 : i = l.length
      · rw [if_pos hi2] at h1
        by_cases hj : j < l.length
        · rw [if_pos hj] at h2; exact d j b h2 h1
        · rw [if_neg hj, if_neg (by omega)] at h2; exact h2
      · rw [if_neg hi2] at h1; exact h1
/-- x.append(e) -/
theorem s_append {s : Nat} (ha : PE X a (tVar s)) (he : PE X e (tF X.K ct W mf)) (hb : attributeBase a "append" X.env (eval a X.env) = eval a X.env) (hl : (apos.endLine == cpos.line) = true) (hs : notStar e = true) :
    PS X (.Expr (.Call (.Attribute a "append" apos) [e] [] cpos) pos) (tS X.K ct W fx fun ρ => if isBox s ρ then (mf ρ).bind fun o ρ => (mdP (appF o) s [] ρ).bind fun _ ρ => .ok .nx ρ else .bad) :=
  (ps_expr (pe_bm PySem.F.plainAttrs_list PySem.F.slot_list_append PySem.F.type_list_append mt_append ha (pa_cons he pa_nil (starEach_cons hs)) hb (few_one hs) hl (starEach_cons hs) back_nil) rfl).weak fun D σ H h => by
  obtain ⟨Hf, ρ, U, R0, p⟩ := h
  dsimp only at p
  split at p <;> first | exact p.elim | skip
  rename_i hbx
  obtain ⟨l0, e0⟩ := isBox_of hbx
  obtain ⟨v, hv, ov⟩ := R0.own _ _ e0
  obtain ⟨ad, xs0, Y0, rfl, ha0, nf0, ta0, _, _⟩ := own_open ov
  refine ⟨.ref ad, hv, .inl ⟨rfl, _, SqL.of ha0⟩, Hf, ρ, U, R0, p.bndE fun o ρ1 Hf1 H1 U1 R1 S1 p1 x T ox tx => ?_⟩
  have p2 := (p1.from Kept.refl Step.refl).bndE (k := fun _ ρ' Hf' H' U' => PostS X.K ct W fx σ Hf H U D (.ok .nx ρ')) fun _ ρ' Hf' H' U' _ _ q => q
  cases e : mdP (appF o) s [] ρ1 with
  | bad => rw [e] at p1; exact p1.elim
  | exc x ρ' =>
    exfalso
    unfold mdP at e
    split at e
    · split at e <;> cases e
    · cases e
  | ok r ρ2 =>
    obtain ⟨oo, o', e1, e2, e3⟩ := mdP_of e
    subst e3
    rw [e] at p1
    rw [modP_nil] at e2
    cases oo <;> simp only [appF, reduceCtorEq] at e2
    rename_i l
    split at e2 <;> first | contradiction | skip
    rename_i hlen
    cases e2
    obtain ⟨v1, hv1, ov1⟩ := R1.own _ _ (ldV_of e1)
    rw [hv] at hv1
    cases hv1
    obtain ⟨ad', xs, Y, ead, ha1, nf1, ta1, oy, sb⟩ := own_open ov1
    cases ead
    refine ⟨ad, xs, x, rfl, rfl, ha1, by rw [oy.len, line_eq]; exact hlen, ?_⟩
    have own2 := owns_close (a := ad) (T' := fun b => U1 s b ∨ T b) (app_cond oy ox fun i b yb tb => (tx b tb).1 ⟨s, (sb i b yb).1⟩) nf1 (.inl ta1) fun i b q => by
      by_cases hi : i < l.length
      · rw [if_pos hi] at q; exact ⟨.inl (sb i b q).1, (sb i b q).2⟩
      · rw [if_neg hi] at q
        by_cases hi2 : i = l.length
        · rw [if_pos hi2] at q; exact ⟨.inr q, fun e => (tx b q).1 (e ▸ ⟨s, ta1⟩)⟩
        · rw [if_neg hi2] at q; exact q.elim
    refine p1 σ Hf1 _ _ Kept.refl (rel_chg R1 hv ta1 nf1 own2 fun b q => ?_) (step_chg S1 ta1 fun b q => ?_)
    · rcases q with q | q
      · exact .inl q
      · exact .inr ⟨(tx b q).1, (tx b q).2.1⟩
    · rcases q with q | q
      · exact .inl q
      · exact .inr (tx b q).2.2
end
end Tr
set_option Elab.async false
set_option linter.all false
set_option maxRecDepth 100000
set_option maxHeartbeats 4000000
/-! TrC8: lists that change, further; += ; rows taken apart. -/
namespace Tr
open PySem PySem.Spec PyProof.Rows L2
theorem mdP_case {α : Type} {f : O → Option (α × O)} {s : Nat} {is : List D} {ρ : Env} : mdP f s is ρ = .bad ∨ ∃ r o o', ldV s ρ = some o ∧ modP f o is = some (r, o') ∧ mdP f s is ρ = .ok r (putO ρ s o') := by
  unfold mdP
  cases e : ldV s ρ with
  | none => exact .inl rfl
  | some o =>
    cases e2 : modP f o is with
    | none => exact .inl (by simp [e2])
    | some p => exact .inr ⟨p.1, o, p.2, rfl, e2, by simp [e2]⟩
section
variable {X : Cx} {ct : Str → Option Addr} {W : WX} {fx : Fix} {a b c e : Expr} {ma mb mc : Env → R D} {mf : Env → R O} {pos apos cpos : Pos} {es : List Expr}
/-- x.extend(e) -/
theorem s_extend {s : Nat} (ha : PE X a (tVar s)) (he : PE X e (tE X.K ct W ma)) (hb : attributeBase a "extend" X.env (eval a X.env) = eval a X.env) (hl : (apos.endLine == cpos.line) = true) (hs : notStar e = true) :
    PS X (.Expr (.Call (.Attribute a "extend" apos) [e] [] cpos) pos) (tS X.K ct W fx fun ρ => if isBox s ρ then (ma ρ).bind fun d ρ => (R.of (listD d) ρ).bind fun ds ρ => (mdP (extF ds) s [] ρ).bind fun _ ρ => .ok .nx ρ else .bad) :=
  (ps_expr (pe_bm PySem.F.plainAttrs_list PySem.F.slot_list_extend PySem.F.type_list_extend mt_extend ha (pa_cons he pa_nil (starEach_cons hs)) hb (few_one hs) hl (starEach_cons hs) back_nil) rfl).weak fun D σ H h => by
  obtain ⟨Hf, ρ, U, R0, p⟩ := h
  dsimp only at p
  split at p <;> first | exact p.elim | skip
  rename_i hbx
  obtain ⟨l0, e0⟩ := isBox_of hbx
  obtain ⟨v, hv, ov⟩ := R0.own _ _ e0
  obtain ⟨ad, xs0, Y0, rfl, ha0, nf0, ta0, _, _⟩ := own_open ov
  refine ⟨.ref ad, hv, .inl ⟨rfl, _, SqL.of ha0⟩, Hf, ρ, U, R0, p.bndE fun d ρ1 Hf1 H1 U1 R1 S1 p1 x rx => ?_⟩
  cases d <;> simp only [listD, R.of_none, R.bind_bad, R.of_some, R.bind_ok] at p1 <;> first | exact p1.elim | skip
  rename_i ds
  rcases mdP_case (f := extF ds) (s := s) (is := []) (ρ := ρ1) with e | ⟨r, oo, o', e1, e2, e⟩
  · rw [e] at p1; exact p1.elim
  rw [e] at p1
  rw [modP_nil] at e2
  cases oo <;> simp only [extF, reduceCtorEq] at e2
  rename_i l
  split at e2 <;> first | contradiction | skip
  rename_i hlen
  cases e2
  obtain ⟨v1, hv1, ov1⟩ := R1.own _ _ (ldV_of e1)
  rw [hv] at hv1
  cases hv1
  obtain ⟨ad', xs, Y, ead, ha1, nf1, ta1, oy, sb⟩ := own_open ov1
  cases ead
  cases rx with
  | @lst b zs _ hz n it =>
    refine ⟨ad, b, xs, zs, rfl, rfl, ha1, R1.sub _ _ hz, by rw [oy.len, n, line_eq]; exact hlen, ?_⟩
    have oz : Owns X.K Hf1 H1 (xs ++ zs) (l ++ ds.map .frz) (fun i => if i < l.length then Y i else fun _ => False) := by
      have of := owns_frz (H := H1) n it
      refine ⟨by simp [oy.len, n], fun i v o e1 e2 => ?_, fun i j b hne h1 h2 => ?_⟩
      · by_cases hi : i < l.length
        · rw [if_pos hi]
          rw [List.getElem?_append_left (by rw [oy.len]; exact hi)] at e1
          rw [List.getElem?_append_left hi] at e2
          exact oy.own i v o e1 e2
        · rw [if_neg hi]
          rw [List.getElem?_append_right (by rw [oy.len]; omega)] at e1
          rw [List.getElem?_append_right (by omega)] at e2
          rw [oy.len] at e1
          exact of.own _ v o e1 e2
      · by_cases hi : i < l.length
        · rw [if_pos hi] at h1
          by_cases hj : j < l.length
          · rw [if_pos hj] at h2; exact oy.dj i j b hne h1 h2
          · rw [if_neg hj] at h2; exact h2
        · rw [if_neg hi] at h1; exact h1
    have own2 := owns_close (a := ad) (T' := U1 s) oz nf1 ta1 fun i b q => by
      by_cases hi : i < l.length
      · rw [if_pos hi] at q; exact sb i b q
      · rw [if_neg hi] at q; exact q.elim
    exact p1 σ Hf1 _ _ Kept.refl (rel_chg R1 hv ta1 nf1 own2 fun b q => .inl q) (step_chg S1 ta1 fun b q => .inl q)
theorem few_none : (backTo cpos (starEach [] X.env)).all (fun x => !x.1) = true := rfl
/-- x.reverse() -/
theorem s_reverse {s : Nat} (ha : PE X a (tVar s)) (hb : attributeBase a "reverse" X.env (eval a X.env) = eval a X.env) (hl : (apos.endLine == cpos.line) = true) :
    PS X (.Expr (.Call (.Attribute a "reverse" apos) [] [] cpos) pos) (tS X.K ct W fx fun ρ => (mdP revF s [] ρ).bind fun _ ρ => .ok .nx ρ) :=
  (ps_expr (pe_bm0 PySem.F.plainAttrs_list PySem.F.slot_list_reverse PySem.F.type_list_reverse mt_reverse ha hb hl) rfl).weak fun D σ H h => by
  obtain ⟨Hf, ρ, U, R0, p1⟩ := h
  dsimp only at p1
  rcases mdP_case (f := revF) (s := s) (is := []) (ρ := ρ) with e | ⟨r, oo, o', e1, e2, e⟩
  · rw [e] at p1; exact p1.elim
  rw [e] at p1
  rw [modP_nil] at e2
  cases oo <;> simp only [revF, reduceCtorEq] at e2
  rename_i l
  cases e2
  obtain ⟨v, hv, ov⟩ := R0.own _ _ (ldV_of e1)
  obtain ⟨ad, xs, Y, rfl, ha0, nf0, ta0, oy, sb⟩ := own_open ov
  refine ⟨.ref ad, hv, .inl ⟨rfl, _, SqL.of ha0⟩, ad, xs, rfl, rfl, ha0, ?_⟩
  have oz : Owns X.K Hf H xs.reverse l.reverse (fun i => if i < l.length then Y (l.length - 1 - i) else fun _ => False) := by
    refine ⟨by simp [oy.len], fun i v o e1 e2 => ?_, fun i j b hne h1 h2 => ?_⟩
    · have hi : i < l.length := by
        have := (List.getElem?_eq_some_iff.mp e2).1
        simpa using this
      rw [if_pos hi]
      rw [List.getElem?_reverse (by rw [oy.len]; exact hi), oy.len] at e1
      rw [List.getElem?_reverse hi] at e2
      exact oy.own _ v o e1 e2
    · by_cases hi : i < l.length
      · rw [if_pos hi] at h1
        by_cases hj : j < l.length
        · rw [if_pos hj] at h2; exact oy.dj _ _ b (by omega) h1 h2
        · rw [if_neg hj] at h2; exact h2
      · rw [if_neg hi] at h1; exact h1
  have own2 := owns_close (a := ad) (T' := U s) oz nf0 ta0 fun i b q => by
    by_cases hi : i < l.length
    · rw [if_pos hi] at q; exact sb _ b q
    · rw [if_neg hi] at q; exact q.elim
  exact p1 σ Hf _ _ Kept.refl (rel_chg R0 hv ta0 nf0 own2 fun b q => .inl q) (step_chg Step.refl ta0 fun b q => .inl q)
/-- x.pop() -/
theorem f_pop {s : Nat} (ha : PE X a (tVar s)) (hb : attributeBase a "pop" X.env (eval a X.env) = eval a X.env) (hl : (apos.endLine == cpos.line) = true) :
    PE X (.Call (.Attribute a "pop" apos) [] [] cpos) (tF X.K ct W fun ρ => mdP popF s [] ρ) :=
  (pe_bm0 PySem.F.plainAttrs_list PySem.F.slot_list_pop PySem.F.type_list_pop mt_pop ha hb hl).weak fun σ H Q h => by
  obtain ⟨Hf, ρ, U, R0, p1⟩ := h
  dsimp only at p1
  rcases mdP_case (f := popF) (s := s) (is := []) (ρ := ρ) with e | ⟨r, oo, o', e1, e2, e⟩
  · rw [e] at p1; exact p1.elim
  rw [e] at p1
  rw [modP_nil] at e2
  cases oo <;> simp only [popF, reduceCtorEq] at e2
  rename_i l
  split at e2 <;> first | contradiction | skip
  rename_i o eo
  cases e2
  obtain ⟨v, hv, ov⟩ := R0.own _ _ (ldV_of e1)
  obtain ⟨ad, xs, Y, rfl, ha0, nf0, ta0, oy, sb⟩ := own_open ov
  obtain ⟨hlt, _⟩ := List.getElem?_eq_some_iff.mp eo
  have ey : xs[xs.length - 1]? = some (xs[xs.length - 1]'(by have := oy.len; omega)) := List.getElem?_eq_getElem _
  refine ⟨.ref ad, hv, .inl ⟨rfl, _, SqL.of ha0⟩, ad, xs, _, rfl, rfl, ha0, ey, ?_⟩
  have oz : Owns X.K Hf H xs.dropLast l.dropLast (fun i => if i < l.length - 1 then Y i else fun _ => False) := by
    refine ⟨by simp [oy.len], fun i v o' e1 e2 => ?_, fun i j b hne h1 h2 => ?_⟩
    · have hi : i < l.length - 1 := by
        have := (List.getElem?_eq_some_iff.mp e2).1
        simpa using this
      rw [if_pos hi]
      rw [List.dropLast_eq_take, List.getElem?_take_of_lt (by rw [oy.len]; exact hi)] at e1
      rw [List.dropLast_eq_take, List.getElem?_take_of_lt hi] at e2
      exact oy.own i v o' e1 e2
    · by_cases hi : i < l.length - 1
      · rw [if_pos hi] at h1
        by_cases hj : j < l.length - 1
        · rw [if_pos hj] at h2; exact oy.dj _ _ b hne h1 h2
        · rw [if_neg hj] at h2; exact h2
      · rw [if_neg hi] at h1; exact h1
  have own2 := owns_close (a := ad) (T' := fun b => U s b ∧ ¬ Y (l.length - 1) b) oz nf0 ⟨ta0, fun q => (sb _ _ q).2 rfl⟩ fun i b q => by
    by_cases hi : i < l.length - 1
    · rw [if_pos hi] at q; exact ⟨⟨(sb _ b q).1, oy.dj i _ b (by omega) q⟩, (sb _ b q).2⟩
    · rw [if_neg hi] at q; exact q.elim
  have R2 := rel_chg R0 hv ta0 nf0 own2 fun b q => .inl q.1
  have S2 := step_chg (T' := fun b => U s b ∧ ¬ Y (l.length - 1) b) (u := .lst xs.dropLast) (Step.refl (Hf := Hf) (H := H) (F := foot U)) ta0 fun b q => .inl q.1
  have ox := oy.own (l.length - 1) _ _ (by rw [← oy.len]; exact ey) eo
  refine p1 Hf _ _ R2 S2 _ (Y (l.length - 1)) (own_chg (fun b t => (sb _ b t).2) ox) fun b tb => ⟨fun ⟨j, w⟩ => ?_, upd_alive (R0.alive s b (sb _ b tb).1), .inl ⟨s, (sb _ b tb).1⟩⟩
  by_cases hj : j = s
  · subst hj; rw [updU_same] at w; exact w.2 tb
  · rw [updU_ne hj] at w; exact R0.dj j s b hj w (sb _ b tb).1
theorem seq_of_ixN {n : Nat} {i : Int} {j : Nat} (h : Tr.ixN n i = some j) : seqIndex? i n = some j := (L2.ixN_seq (by rw [← ixN_same]; exact h)).1
/-- x.pop(e) -/
theorem f_popAt {s : Nat} (ha : PE X a (tVar s)) (he : PE X e (tE X.K ct W ma)) (hb : attributeBase a "pop" X.env (eval a X.env) = eval a X.env) (hl : (apos.endLine == cpos.line) = true) (hs : notStar e = true) :
    PE X (.Call (.Attribute a "pop" apos) [e] [] cpos) (tF X.K ct W fun ρ => if isBox s ρ then (ma ρ).bind fun k ρ => mdP (popAtF k) s [] ρ else .bad) :=
  (pe_bm PySem.F.plainAttrs_list PySem.F.slot_list_pop PySem.F.type_list_pop mt_popAt ha (pa_cons he pa_nil (starEach_cons hs)) hb (few_one hs) hl (starEach_cons hs) back_nil).weak fun σ H Q h => by
  obtain ⟨Hf0, ρ0, U0, R00, p⟩ := h
  dsimp only at p
  split at p <;> first | exact p.elim | skip
  rename_i hbx
  obtain ⟨l0, e0⟩ := isBox_of hbx
  obtain ⟨v, hv, ov⟩ := R00.own _ _ e0
  obtain ⟨ad, xs0, Y0, rfl, ha0', nf0', ta0', _, _⟩ := own_open ov
  refine ⟨.ref ad, hv, .inl ⟨rfl, _, SqL.of ha0'⟩, Hf0, ρ0, U0, R00, p.then0 fun d ρ Hf H1 U R0 S1 p1 x rx => ?_⟩
  rcases mdP_case (f := popAtF d) (s := s) (is := []) (ρ := ρ) with e | ⟨r, oo, o', e1, e2, e⟩
  · rw [e] at p1; exact p1.elim
  rw [e] at p1
  rw [modP_nil] at e2
  cases oo <;> simp only [popAtF, reduceCtorEq] at e2
  rename_i l
  cases d <;> simp only [reduceCtorEq] at e2
  rename_i k
  split at e2 <;> first | contradiction | skip
  rename_i hk
  split at e2 <;> first | contradiction | skip
  rename_i j ej
  split at e2 <;> first | contradiction | skip
  rename_i o eo
  cases e2
  have ex := rx.int_of
  subst ex
  obtain ⟨v, hv', ov⟩ := R0.own _ _ (ldV_of e1)
  rw [hv] at hv'
  cases hv'
  obtain ⟨ad', xs, Y, ead, ha0, nf0, ta0, oy, sb⟩ := own_open ov
  cases ead
  obtain ⟨hlt, _⟩ := List.getElem?_eq_some_iff.mp eo
  have ey : xs[j]? = some (xs[j]'(by have := oy.len; omega)) := List.getElem?_eq_getElem _
  refine ⟨ad, xs, k, j, _, rfl, rfl, ha0, hk.1, hk.2, by rw [oy.len]; exact seq_of_ixN ej, ey, ?_⟩
  have sh : ∀ i, (if i < j then i else i + 1) ≠ j := fun i => by split <;> omega
  have oz : Owns X.K Hf H1 (xs.eraseIdx j) (l.eraseIdx j) (fun i => Y (if i < j then i else i + 1)) := by
    refine ⟨by rw [List.length_eraseIdx, List.length_eraseIdx, oy.len], fun i v o' e1 e2 => ?_, fun i i' b hne h1 h2 => ?_⟩
    · rw [List.getElem?_eraseIdx] at e1 e2
      by_cases hi : i < j
      · rw [if_pos hi] at e1 e2 ⊢; exact oy.own i v o' e1 e2
      · rw [if_neg hi] at e1 e2 ⊢; exact oy.own (i + 1) v o' e1 e2
    · refine oy.dj _ _ b ?_ h1 h2
      by_cases hi : i < j <;> by_cases hi' : i' < j <;> simp only [hi, hi', if_true, if_false] <;> omega
  have own2 := owns_close (a := ad) (T' := fun b => U s b ∧ ¬ Y j b) oz nf0 ⟨ta0, fun q => (sb _ _ q).2 rfl⟩ fun i b q => ⟨⟨(sb _ b q).1, oy.dj _ _ b (sh i) q⟩, (sb _ b q).2⟩
  have R2 := rel_chg R0 hv ta0 nf0 own2 fun b q => .inl q.1
  have S2 := step_chg (T' := fun b => U s b ∧ ¬ Y j b) (u := .lst (xs.eraseIdx j)) S1 ta0 fun b q => .inl q.1
  have ox := oy.own j _ _ ey eo
  refine p1 Hf _ _ R2 S2 _ (Y j) (own_chg (fun b t => (sb _ b t).2) ox) fun b tb => ⟨fun ⟨i, w⟩ => ?_, upd_alive (R0.alive s b (sb _ b tb).1), S1.foot b ⟨s, (sb _ b tb).1⟩⟩
  by_cases hj : i = s
  · subst hj; rw [updU_same] at w; exact w.2 tb
  · rw [updU_ne hj] at w; exact R0.dj i s b hj w (sb _ b tb).1
theorem ins_get {α : Type} {l : List α} {k : Nat} {y : α} (hk : k ≤ l.length) (i : Nat) : (l.take k ++ [y] ++ l.drop k)[i]? = if i < k then l[i]? else if i = k then some y else l[i - 1]? := by
  have h1 : (l.take k).length = k := by rw [List.length_take]; omega
  by_cases h : i < k
  · rw [if_pos h, List.append_assoc, List.getElem?_append_left (by omega), List.getElem?_take, if_pos h]
  · rw [if_neg h, List.append_assoc, List.getElem?_append_right (by omega), h1]
    by_cases h2 : i = k
    · rw [if_pos h2, h2, Nat.sub_self]; rfl
    · rw [if_neg h2, List.getElem?_append_right (by simp; omega), List.getElem?_drop]
      congr 1
      simp
      omega
theorem ins_cond {K : PySem.W.Frag} {Hf H : Hp} {xs : List V} {l : List O} {Y : UU} {x : V} {o : O} {k : Nat} (h : Owns K Hf H xs l Y) (hk : k ≤ l.length) (ho : Own K Hf H x o (fun _ => False)) :
    Owns K Hf H (xs.take k ++ [x] ++ xs.drop k) (l.take k ++ [o] ++ l.drop k) (fun i => if i < k then Y i else if i = k then (fun _ => False) else Y (i - 1)) := by
  refine ⟨by simp [h.len], fun i v o' e1 e2 => ?_, fun i j b hne h1 h2 => ?_⟩
  · rw [ins_get (by rw [h.len]; exact hk)] at e1
    rw [ins_get hk] at e2
    by_cases hi : i < k
    · rw [if_pos hi] at e1 e2 ⊢; exact h.own i v o' e1 e2
    · rw [if_neg hi] at e1 e2 ⊢
      by_cases h2 : i = k
      · rw [if_pos h2] at e1 e2 ⊢; cases e1; cases e2; exact ho
      · rw [if_neg h2] at e1 e2 ⊢; exact h.own (i - 1) v o' e1 e2
  · have sh : ∀ i, ¬ i < k → i ≠ k → k < i := fun i a b => by omega
    by_cases hi : i < k
    · rw [if_pos hi] at h1
      by_cases hj : j < k
      · rw [if_pos hj] at h2; exact h.dj i j b hne h1 h2
      · rw [if_neg hj] at h2
        by_cases hj2 : j = k
        · rw [if_pos hj2] at h2; exact h2
        · rw [if_neg hj2] at h2; exact h.dj i (j - 1) b (by omega) h1 h2
    · rw [if_neg hi] at h1
      by_cases hi2 : i = k
      · rw [if_pos hi2] at h1; exact h1
      · rw [if_neg hi2] at h1
        by_cases hj : j < k
        · rw [if_pos hj] at h2; exact h.dj (i - 1) j b (by omega) h1 h2
        · rw [if_neg hj] at h2
          by_cases hj2 : j = k
          · rw [if_pos hj2] at h2; exact h2
          · rw [if_neg hj2] at h2; exact h.dj (i - 1) (j - 1) b (by omega) h1 h2
theorem few_two {e e' : Expr} {cpos : Pos} {X : Cx} (h : notStar e = true) (h' : notStar e' = true) : ((backTo cpos (starEach [e, e'] X.env)).all (fun x => !x.1) && (backToKw cpos (keywordEach [] X.env)).all (fun x => x.1.isSome)
      && decide (([e, e'] : List Expr).length + ([] : List Keyword).length + (if ([] : List Keyword).isEmpty then 0 else 1) < 30)) = true := by
  rw [starEach_cons h, starEach_cons h']
  rfl
/-- x.insert(i, e) -/
theorem s_insert {s : Nat} (ha : PE X a (tVar s)) (hi : PE X b (tE X.K ct W ma)) (he : PE X e (tE X.K ct W mb)) (hb : attributeBase a "insert" X.env (eval a X.env) = eval a X.env) (hl : (apos.endLine == cpos.line) = true) (hs : notStar b = true) (hs2 : notStar e = true) :
    PS X (.Expr (.Call (.Attribute a "insert" apos) [b, e] [] cpos) pos) (tS X.K ct W fx fun ρ => if isBox s ρ then (ma ρ).bind fun k ρ => (mb ρ).bind fun d ρ => (mdP (insF k d) s [] ρ).bind fun _ ρ => .ok .nx ρ else .bad) :=
  (ps_expr (pe_bm PySem.F.plainAttrs_list PySem.F.slot_list_insert PySem.F.type_list_insert mt_insert ha (pa_cons hi (pa_cons he pa_nil (starEach_cons hs2)) (starEach_cons hs)) hb (few_two hs hs2) hl (starEach_cons hs) (by rw [starEach_cons hs2]; rfl)) rfl).weak fun D σ H h => by
  obtain ⟨Hf, ρ, U, R0, p⟩ := h
  dsimp only at p
  split at p <;> first | exact p.elim | skip
  rename_i hbx
  obtain ⟨l0, e0⟩ := isBox_of hbx
  obtain ⟨v, hv, ov⟩ := R0.own _ _ e0
  obtain ⟨ad, xs0, Y0, rfl, ha0, nf0, ta0, _, _⟩ := own_open ov
  refine ⟨.ref ad, hv, .inl ⟨rfl, _, SqL.of ha0⟩, Hf, ρ, U, R0, p.bndE fun k ρ1 Hf1 H1 U1 R1 S1 p1 y ry => ⟨Hf1, ρ1, U1, R1, (p1.from Kept.refl S1).bndE fun d ρ2 Hf2 H2 U2 R2 S2 p2 x rx => ?_⟩⟩
  rcases mdP_case (f := insF k d) (s := s) (is := []) (ρ := ρ2) with e | ⟨r, oo, o', e1, e2, e⟩
  · rw [e] at p2; exact p2.elim
  rw [e] at p2
  rw [modP_nil] at e2
  cases oo <;> simp only [insF, reduceCtorEq] at e2
  rename_i l
  cases k <;> simp only [reduceCtorEq] at e2
  rename_i k
  split at e2 <;> first | contradiction | skip
  rename_i hk
  cases e2
  have ey := ry.int_of
  subst ey
  obtain ⟨v1, hv1, ov1⟩ := R2.own _ _ (ldV_of e1)
  rw [hv] at hv1
  cases hv1
  obtain ⟨ad', xs, Y, ead, ha1, nf1, ta1, oy, sb⟩ := own_open ov1
  cases ead
  refine ⟨ad, xs, k, x, rfl, rfl, ha1, by rw [oy.len, line_eq]; exact hk.2.2, hk.1, by have := hk.2.1; have := hk.2.2; rw [← line_eq] at *; have : sizeLine = 16777216 := rfl; omega, ?_⟩
  have own2 := owns_close (a := ad) (T' := fun b => U2 s b) (ins_cond (k := k.toNat) oy (by omega) (.frz rx)) nf1 ta1 fun i b q => by
    by_cases hi : i < k.toNat
    · rw [if_pos hi] at q; exact sb i b q
    · rw [if_neg hi] at q
      by_cases hi2 : i = k.toNat
      · rw [if_pos hi2] at q; exact q.elim
      · rw [if_neg hi2] at q; exact sb (i - 1) b q
  exact p2 σ Hf2 _ _ Kept.refl (rel_chg R2 hv ta1 nf1 own2 fun b q => .inl q) (step_chg S2 ta1 fun b q => .inl q)
/-- x += e, whole numbers -/
theorem s_aug {i : Nat} {x : Str} {pos' : Pos} (hN : X.N.Nodup) (hi : X.N[i]? = some x) (hx : Loc X.env.scope x) (he : PE X e (tE X.K ct W ma)) (hf : X.fn x = true ∨ X.env.scope.names.lookup x = some .local) (nf : ¬ fx i) :
    PS X (.AugAssign (.Name x pos') .Add e pos) (tS X.K ct W fx fun ρ => match ρ[i]? with
    | some (some (.frz (.int x))) => (ma ρ).bind fun d ρ => match d with
      | .int y => .ok .nx (putO ρ i (.frz (.int (x + y))))
      | _ => .bad
    | _ => .bad) := (ps_aug hN hi hx he ip_add hf).weak fun D σ H h => by
  obtain ⟨Hf, ρ, U, R0, p⟩ := h
  dsimp only at p
  split at p <;> first | exact p.elim | skip
  rename_i k ek
  obtain ⟨v, hv, ov⟩ := R0.own _ _ ek
  cases ov with
  | frz rv =>
    have ev := rv.int_of
    subst ev
    refine ⟨_, hv, Hf, ρ, U, R0, p.bndE fun d ρ1 Hf1 H1 U1 R1 S1 p1 y ry => ?_⟩
    cases ry <;> first | exact p1.elim | skip
    rename_i j
    obtain ⟨R2, S2⟩ := take_step (i := i) R1 S1 (.frz (T := fun _ => False) (.int (k + j))) fun _ q => q.elim
    exact ⟨k, j, rfl, rfl, p1 _ Hf1 H1 _ (Kept.set nf) R2 S2⟩
/-- a, b = e -/
theorem s_unpack {is : List Nat} {ns : List Expr} {k0 : Nat} {tp : Pos} (hc : X.calm = true) (hN : X.N.Nodup) (hr : NameRow X fx is ns) (he : PE X e (tE X.K ct W ma)) (hw : swappedStores [.Tuple ns k0 tp] e X.env = pure none) :
    PS X (.Assign [.Tuple ns k0 tp] e pos) (tS X.K ct W fx fun ρ => (ma ρ).bind fun d ρ => match asgT (.tup is) d ρ with
    | some ρ => .ok .nx ρ
    | none => .bad) := (ps_asg he (pg_any hc (hr.pgs hN) hr.len hr.noStar) (by cases e <;> rfl) hw rfl).weak fun D σ H h => by
  obtain ⟨Hf, ρ, U, R0, p⟩ := h
  refine ⟨Hf, ρ, U, R0, p.bndE fun d ρ1 Hf1 H1 U1 R1 S1 p1 x rx => ?_⟩
  simp only [asgT] at p1
  cases ed : itemsD d with
  | none => rw [ed] at p1; exact p1.elim
  | some l =>
    rw [ed] at p1
    dsimp only at p1
    split at p1
    · rename_i ρ2 e2
      split at e2 <;> first | contradiction | skip
      rename_i hlen
      cases e2
      obtain ⟨a, xs, rfl, sq, n, it, _⟩ := rx.items ed
      refine ⟨a, xs, rfl, ?_, by omega, row_put (by omega) n it R1 hr.free fun σ' U' k' R' fu _ => p1 σ' Hf1 H1 U' k' R' ⟨S1.mono, S1.dom, S1.frame, fun b q => S1.foot b (fu b q)⟩⟩
      rcases sq with sq | sq
      · exact .inl (Same.seq R1.sub sq)
      · exact .inr (Same.seqT R1.sub sq)
    · exact p1.elim
end
end Tr
set_option Elab.async false
set_option linter.all false
set_option maxRecDepth 100000
set_option maxHeartbeats 4000000
/-! TrC9: stores into lists, also into lists within lists. -/
namespace Tr
open PySem PySem.Spec PyProof.Rows L2

/-- down boxes alone: from v along places to w -/
inductive BoxP (H : Hp) : V → List D → V → Prop where
  | nil {v : V} : BoxP H v [] v
  | cons {a : Addr} {xs : List V} {i : Int} {j : Nat} {w v' : V} {is : List D} (h : H a = some (.lst xs)) (hj : L2.ixN xs.length i = some j) (hw : xs[j]? = some w) (r : BoxP H w is v') : BoxP H (.ref a) (.int i :: is) v'
theorem BoxP.snoc {H : Hp} {v v1 w : V} {is : List D} {a : Addr} {xs : List V} {i : Int} {j : Nat} (h : BoxP H v is v1) (e : v1 = .ref a) (ha : H a = some (.lst xs)) (hj : L2.ixN xs.length i = some j) (hw : xs[j]? = some w) : BoxP H v (is ++ [.int i]) w := by
  induction h with
  | nil => subst e; exact .cons ha hj hw .nil
  | cons h2 hj2 hw2 r ih => exact .cons h2 hj2 hw2 (ih e)
theorem BoxP.inj {H : Hp} {v w w' : V} {is : List D} (h : BoxP H v is w) (h' : BoxP H v is w') : w = w' := by
  induction h with
  | nil => cases h'; rfl
  | cons h2 hj2 hw2 r ih =>
    cases h' with
    | cons h3 hj3 hw3 r3 =>
      rw [h2] at h3
      cases h3
      rw [hj2] at hj3
      cases hj3
      rw [hw2] at hw3
      cases hw3
      exact ih r3
section
variable {K : PySem.W.Frag} {Hf H : Hp} {ρ : Env} {σ : L2.St} {U : UU}
theorem look_frz : ∀ {is : List D} {d : D} {o : O}, lookP (.frz d) is = some o → ∃ e, o = .frz e
  | [], d, o, h => by
    simp only [lookP, Option.some.injEq] at h
    exact ⟨d, h.symm⟩
  | k :: is, d, o, h => by
    simp only [lookP] at h
    split at h <;> first | contradiction | skip
    exact look_frz h
theorem own_path : ∀ {is : List D} {v v' : V} {o o1 : O} {T : Addr → Prop}, Own K Hf H v o T → BoxP H v is v' → (∃ l, o1 = .box l) → lookP o is = some o1 → ∃ T', Own K Hf H v' o1 T'
  | [], v, v', o, o1, T, h, p, _, e => by
    cases p
    cases o <;> simp only [lookP, Option.some.injEq] at e <;> subst e <;> exact ⟨T, h⟩
  | d :: is, v, v', o, o1, T, h, p, bx, e => by
    cases p with
    | @cons a xs i j w _ _ ha hj hw r =>
      cases h with
      | frz hr =>
        exfalso
        obtain ⟨l, rfl⟩ := bx
        obtain ⟨_, q⟩ := look_frz e
        cases q
      | @box _ ys l0 _ U0 h2 nf ta n it dj sb =>
        rw [ha] at h2
        cases h2
        simp only [lookP] at e
        cases e1 : atD l0 i with
        | none => rw [e1] at e; cases e
        | some o2 =>
          rw [e1] at e
          obtain ⟨j', e2, e3⟩ := atD_get e1
          rw [ixN_same, ← n, hj] at e2
          cases e2
          exact own_path (it j w o2 hw e3) r bx e
      | @scr _ l0 _ hs =>
        exfalso
        simp only [lookP] at e
        split at e <;> first | contradiction | skip
        obtain ⟨l, rfl⟩ := bx
        cases is with
        | nil => simp [lookP] at e
        | cons d2 is => simp [lookP, ixD] at e
theorem own_mod {α : Type} {f : O → Option (α × O)} (hf : ∀ o r, f o = some r → ∃ l, o = .box l) : ∀ (is : List D) (v : V) (o : O) (T : Addr → Prop) (r : α) (o' : O), Own K Hf H v o T → modP f o is = some (r, o') →
    ∃ (a : Addr) (xs : List V) (l : List O) (Y : UU) (T0 : Addr → Prop) (l1 : O), BoxP H v is (.ref a) ∧ H a = some (.lst xs) ∧ Hf a = none ∧ T a ∧ Owns K Hf H xs l Y ∧ T0 a ∧ (∀ i b, Y i b → T0 b ∧ b ≠ a) ∧ (∀ b, T0 b → T b) ∧ f (.box l) = some (r, l1) ∧
      ∀ (xs' : List V) (T1 N : Addr → Prop), (∀ b, N b → ¬ T b) → Own K Hf (upd H a (.lst xs')) (.ref a) l1 T1 → (∀ b, T1 b → T0 b ∨ N b) → Own K Hf (upd H a (.lst xs')) v o' (fun b => T b ∨ N b)
  | [], v, o, T, r, o', h, e => by
    rw [modP_nil] at e
    obtain ⟨l, rfl⟩ := hf _ _ e
    obtain ⟨a, xs, Y, rfl, ha, nf, ta, oy, sb⟩ := own_open h
    exact ⟨a, xs, l, Y, T, o', .nil, ha, nf, ta, oy, ta, sb, fun _ q => q, e, fun xs' T1 N _ ow tw => ow.wide tw⟩
  | d :: is, v, o, T, r, o', h, e => by
    cases o with
    | frz => simp [modP] at e
    | scr => simp [modP] at e
    | box l0 =>
      cases d <;> simp only [modP, reduceCtorEq] at e
      rename_i i
      split at e <;> first | contradiction | skip
      rename_i j ej
      split at e <;> first | contradiction | skip
      rename_i o1 eo
      split at e <;> first | contradiction | skip
      rename_i r1 o1' em
      cases e
      obtain ⟨a0, xs0, U0, rfl, ha0, nf0, ta0, oy0, sb0⟩ := own_open h
      obtain ⟨hlt, _⟩ := List.getElem?_eq_some_iff.mp eo
      have ew : xs0[j]? = some (xs0[j]'(by have := oy0.len; omega)) := List.getElem?_eq_getElem _
      obtain ⟨a, xs, l, Y, T0, l1, bp, ha, nf, ta, oy, t0, sb, st, ef, fin⟩ := own_mod hf is _ o1 (U0 j) r o1' (oy0.own j _ o1 ew eo) em
      have ne : a ≠ a0 := (sb0 j a ta).2
      refine ⟨a, xs, l, Y, T0, l1, .cons ha0 (by rw [oy0.len]; exact ej) ew bp, ha, nf, (sb0 j a ta).1, oy, t0, sb, fun b q => (sb0 j b (st b q)).1, ef, fun xs' T1 N nt ow tw => ?_⟩
      have own1 := fin xs' T1 N (fun b q z => nt b q (sb0 j b z).1) ow tw
      refine .box (fun i => if i = j then fun b => U0 j b ∨ N b else U0 i) (by rw [upd_ne (Ne.symm ne)]; exact ha0) nf0 (.inl ta0) (by rw [List.length_set]; exact oy0.len) (fun i w o2 e1 e2 => ?_) (fun i i' b hne h1 h2 => ?_) fun i b q => ?_
      · rcases set_get e2 with ⟨rfl, rfl⟩ | ⟨hi, e3⟩
        · rw [ew] at e1
          cases e1
          simp only [if_true]
          exact own1
        · simp only [if_neg hi]
          exact own_chg (fun b t z => oy0.dj i j b hi t (z ▸ ta)) (oy0.own i w o2 e1 e3)
      · by_cases hi : i = j
        · simp only [if_pos hi] at h1
          by_cases hi' : i' = j
          · exact hne (hi.trans hi'.symm)
          · simp only [if_neg hi'] at h2
            rcases h1 with h1 | h1
            · exact oy0.dj j i' b (Ne.symm hi') h1 h2
            · exact nt b h1 (sb0 i' b h2).1
        · simp only [if_neg hi] at h1
          by_cases hi' : i' = j
          · simp only [if_pos hi'] at h2
            rcases h2 with h2 | h2
            · exact oy0.dj i j b hi h1 h2
            · exact nt b h2 (sb0 i b h1).1
          · simp only [if_neg hi'] at h2
            exact oy0.dj i i' b hne h1 h2
      · by_cases hi : i = j
        · simp only [if_pos hi] at q
          rcases q with q | q
          · exact ⟨.inl (sb0 j b q).1, (sb0 j b q).2⟩
          · exact ⟨.inr q, fun z => nt b q (z ▸ ta0)⟩
        · simp only [if_neg hi] at q
          exact ⟨.inl (sb0 i b q).1, (sb0 i b q).2⟩
theorem storeF_box {i : D} {v : O} : ∀ o r, storeF i v o = some r → ∃ l, o = .box l := fun o r e => by
  cases o <;> simp only [storeF, reduceCtorEq] at e
  exact ⟨_, rfl⟩
theorem set_cond {xs : List V} {l : List O} {Y : UU} {x : V} {o : O} {T : Addr → Prop} {j : Nat} (h : Owns K Hf H xs l Y) (ho : Own K Hf H x o T) (d : ∀ i b, Y i b → ¬ T b) : Owns K Hf H (xs.set j x) (l.set j o) (fun i => if i = j then T else Y i) := by
  refine ⟨by simp [h.len], fun i v o' e1 e2 => ?_, fun i i' b hne h1 h2 => ?_⟩
  · rcases set_get e1 with ⟨rfl, rfl⟩ | ⟨hi, e3⟩
    · rcases set_get e2 with ⟨_, rfl⟩ | ⟨hi, _⟩
      · simp only [if_true]; exact ho
      · exact absurd rfl hi
    · rcases set_get e2 with ⟨rfl, _⟩ | ⟨_, e4⟩
      · exact absurd rfl hi
      · simp only [if_neg hi]; exact h.own i v o' e3 e4
  · by_cases hi : i = j
    · simp only [if_pos hi] at h1
      by_cases hi' : i' = j
      · exact hne (hi.trans hi'.symm)
      · simp only [if_neg hi'] at h2; exact d i' b h2 h1
    · simp only [if_neg hi] at h1
      by_cases hi' : i' = j
      · simp only [if_pos hi'] at h2; exact d i b h1 h2
      · simp only [if_neg hi'] at h2; exact h.dj i i' b hne h1 h2
/-- the store itself: what has to be shown of the heap behind it -/
theorem store_at {s : Nat} {is : List D} {k : Int} {o oo o' : O} {x v v' : V} {T : Addr → Prop} {u : Unit} {Hf0 H0 : Hp} {U0 : UU} {G : L2.St → Hp → Prop} (R : Rel K Hf H ρ σ U) (S : Step Hf0 H0 (foot U0) Hf H (foot U)) (e1 : ldV s ρ = some oo) (e2 : modP (storeF (.int k) o) oo is = some (u, o'))
    (hv : σ[s]? = some (some v)) (bp : BoxP H v is v') (ox : Own K Hf H x o T) (tx : ∀ b, T b → ¬ foot U b ∧ H b ≠ none ∧ (foot U0 b ∨ H0 b = none))
    (q : ∀ H' U', Rel K Hf H' (putO ρ s o') σ U' → Step Hf0 H0 (foot U0) Hf H' (foot U') → G σ H') : rSetL v' (.int k) x H fun H3 => G σ H3 := by
  obtain ⟨v1, hv1, ov⟩ := R.own _ _ (ldV_of e1)
  rw [hv] at hv1
  cases hv1
  obtain ⟨a, xs, l, Y, T0, l1, bp', ha, nf, ta, oy, t0, sb, st, ef, fin⟩ := own_mod storeF_box is v oo (U s) u o' ov e2
  have ev := bp.inj bp'
  subst ev
  simp only [storeF] at ef
  split at ef <;> first | contradiction | skip
  rename_i j ej
  cases ef
  refine ⟨a, xs, k, j, rfl, rfl, ha, by rw [oy.len]; exact ej, ?_⟩
  have own1 := owns_close (a := a) (T' := fun b => T0 b ∨ T b) (set_cond (j := j) oy ox fun i b yb tb => (tx b tb).1 ⟨s, st b (sb i b yb).1⟩) nf (.inl t0) fun i b q => by
    by_cases hi : i = j
    · simp only [if_pos hi] at q; exact ⟨.inr q, fun e => (tx b q).1 (e ▸ ⟨s, ta⟩)⟩
    · simp only [if_neg hi] at q; exact ⟨.inl (sb i b q).1, (sb i b q).2⟩
  have own2 := fin (xs.set j x) _ T (fun b tb z => (tx b tb).1 ⟨s, z⟩) own1 fun b q => q
  refine q _ _ (rel_chg R hv ta nf own2 fun b q => ?_) (step_chg S ta fun b q => ?_)
  · rcases q with q | q
    · exact .inl q
    · exact .inr ⟨(tx b q).1, (tx b q).2.1⟩
  · rcases q with q | q
    · exact .inl q
    · exact .inr (tx b q).2.2
end
section
variable {X : Cx} {ct : Str → Option Addr} {W : WX} {fx : Fix} {a b c e i : Expr} {ma mb mc : Env → R D} {mf : Env → R O} {pos apos cpos ip : Pos} {es : List Expr}
theorem temp_step {K : PySem.W.Frag} {Hf1 H1 Hf2 H2 H0 : Hp} {U0 U1 U2 : UU} {x : V} {o : O} {T : Addr → Prop} (S2 : Step Hf1 H1 (foot U1) Hf2 H2 (foot U2)) (ox : Own K Hf1 H1 x o T) (tx : ∀ b, T b → ¬ foot U1 b ∧ H1 b ≠ none ∧ (foot U0 b ∨ H0 b = none)) :
    Own K Hf2 H2 x o T ∧ ∀ b, T b → ¬ foot U2 b ∧ H2 b ≠ none ∧ (foot U0 b ∨ H0 b = none) := by
  refine ⟨ox.step S2 fun b q => (tx b q).1, fun b q => ⟨fun z => ?_, fun z => ?_, (tx b q).2.2⟩⟩
  · rcases S2.foot b z with w | w
    · exact (tx b q).1 w
    · exact (tx b q).2.1 w
  · rcases S2.old z with w | w
    · exact (tx b q).1 w
    · exact (tx b q).2.1 w
theorem assign_sub {a i : Expr} {env : PySem.Env} {ip : Pos} (h : notSlice i = true) : ∀ v, assign (.Subscript a i ip) env v = (do
      let ov ← holding [v] (eval a env)
      let iv ← holding [v, ov] (eval i env)
      standAt ip
      holding [v, ov, iv] (setItem ov iv v)
      release [v, ov, iv] []) := by
  intro v
  cases i <;> first | rfl | (simp [notSlice] at h)
/-- x[i] = e -/
theorem s_store {s : Nat} (ha : PE X a (tVar s)) (hi : PE X i (tE X.K ct W ma)) (he : PE X e (tF X.K ct W mf)) (hs : notSlice i = true) : PS X (.Assign [.Subscript a i ip] e pos) (tS X.K ct W fx fun ρ => (mf ρ).bind fun o ρ => if isBox s ρ then (ma ρ).bind fun k ρ => (mdP (storeF k o) s [] ρ).bind fun _ ρ => .ok .nx ρ else .bad) :=
  (ps_asg he (pg_sub ha hi set_list (assign_sub hs)) (by cases e <;> rfl) (by cases e <;> rfl) rfl).weak fun D σ H h => by
  obtain ⟨Hf0, ρ0, U0, R0, p⟩ := h
  refine ⟨Hf0, ρ0, U0, R0, p.bndE fun o ρ1 Hf1 H1 U1 R1 S1 p1 x T ox tx => ?_⟩
  split at p1 <;> first | exact p1.elim | skip
  rename_i hbx
  obtain ⟨l0, e0⟩ := isBox_of hbx
  obtain ⟨v, hv, ov⟩ := R1.own _ _ e0
  refine ⟨v, hv, Hf1, ρ1, U1, R1, p1.bndE2 S1 fun k ρ2 Hf2 H2 U2 R2 S2 p2 y ry => ?_⟩
  obtain ⟨ox2, tx2⟩ := temp_step S2 ox tx
  rcases mdP_case (f := storeF k o) (s := s) (is := []) (ρ := ρ2) with e | ⟨r, oo, o', e1, e2, e⟩
  · rw [e] at p2; exact p2.elim
  rw [e] at p2
  cases k with
  | int k =>
    have ey := ry.int_of
    subst ey
    exact store_at (G := fun σ H' => D.nx σ H') R2 (S1.trans S2) e1 e2 hv .nil ox2 tx2 fun H' U' R' S' => p2 σ Hf2 H' U' Kept.refl R' S'
  | _ =>
    exfalso
    rw [modP_nil] at e2
    cases oo <;> simp only [storeF, reduceCtorEq] at e2
/-- down boxes to a place -/
def tBP (K : PySem.W.Frag) (p : P) : TE := fun σ H Q => ∃ Hf ρ U, Rel K Hf H ρ σ U ∧ ∃ s l o l', p.sem ρ = some (s, l) ∧ ldV s ρ = some o ∧ lookP o l = some (.box l') ∧ ∀ v v', σ[s]? = some (some v) → BoxP H v l v' → Q v' H
theorem bp_v {s : Nat} (h : PE X a (tVar s)) : PE X a (tBP X.K (.v s)) := h.weak fun σ H Q q => by
  obtain ⟨Hf, ρ, U, R0, s', l, o, l', e1, e2, e3, q⟩ := q
  cases e1
  obtain ⟨v, h1, h2⟩ := R0.own _ _ (ldV_of e2)
  exact ⟨v, h1, q v v h1 .nil⟩
theorem look_box {o : O} {i : Int} {l : List O} (h : lookP o [.int i] = some (.box l)) : ∃ l0, o = .box l0 ∧ atD l0 i = some (.box l) := by
  cases o with
  | frz d =>
    simp only [lookP] at h
    split at h <;> cases h
  | scr d =>
    simp only [lookP] at h
    split at h <;> cases h
  | box l0 =>
    simp only [lookP] at h
    cases e : atD l0 i with
    | none => rw [e] at h; cases h
    | some o1 =>
      rw [e] at h
      have h' : lookP o1 [] = some (.box l) := h
      cases o1 <;> simp only [lookP, Option.some.injEq, reduceCtorEq] at h'
      exact ⟨l0, rfl, by rw [h'] at e; exact e⟩
theorem bp_ix {p : P} {q : Qx} (ha : PE X a (tBP X.K p)) (hb : PE X b (tQ X.K q)) (hs : notSlice b = true) : PE X (.Subscript a b pos) (tBP X.K (.ix p q)) := (pe_ix ix_seq ha hb (plainIx_of hs)).weak fun σ H Q h => by
  obtain ⟨Hf, ρ, U, R0, s, l, o, l', e1, e2, e3, h⟩ := h
  simp only [P.sem] at e1
  split at e1
  · rename_i s' m k ep ek
    cases e1
    rw [look_app] at e3
    cases e4 : lookP o m with
    | none => rw [e4] at e3; cases e3
    | some o1 =>
      rw [e4] at e3
      obtain ⟨l0, rfl, e5⟩ := look_box e3
      refine ⟨Hf, ρ, U, R0, s, m, o, l0, ep, e2, e4, fun v v' hv bp => ⟨Hf, ρ, U, R0, k, ek, ?_⟩⟩
      obtain ⟨v1, h1, ov⟩ := R0.own _ _ (ldV_of e2)
      rw [hv] at h1
      cases h1
      obtain ⟨T', ov'⟩ := own_path ov bp ⟨_, rfl⟩ e4
      obtain ⟨ad, xs, Y, rfl, ha', nf, ta, oy, sb⟩ := own_open ov'
      obtain ⟨j, e6, e7⟩ := atD_get e5
      obtain ⟨hlt, _⟩ := List.getElem?_eq_some_iff.mp e7
      have ew : xs[j]? = some (xs[j]'(by have := oy.len; omega)) := List.getElem?_eq_getElem _
      exact .inl ⟨ad, xs, k, _, rfl, rfl, SqL.of ha', atI_of oy.len e6 ew, h v _ hv (bp.snoc rfl ha' (by rw [oy.len]; exact e6) ew)⟩
  · cases e1
/-- p[q] = e, p a way down boxes -/
theorem s_storeP {p : P} {q : Qx} (ha : PE X a (tBP X.K p)) (hi : PE X i (tQ X.K q)) (he : PE X e (tF X.K ct W mf)) (hs : notSlice i = true) : PS X (.Assign [.Subscript a i ip] e pos) (tS X.K ct W fx fun ρ => (mf ρ).bind fun o ρ => (R.of (p.sem ρ) ρ).bind fun l ρ => (R.of (q.sem ρ) ρ).bind fun k ρ => (mdP (storeF (.int k) o) l.1 l.2 ρ).bind fun _ ρ => .ok .nx ρ) :=
  (ps_asg he (pg_sub ha hi set_list (assign_sub hs)) (by cases e <;> rfl) (by cases e <;> rfl) rfl).weak fun D σ H h => by
  obtain ⟨Hf0, ρ0, U0, R0, p⟩ := h
  refine ⟨Hf0, ρ0, U0, R0, p.bndE fun o ρ1 Hf1 H1 U1 R1 S1 p1 x T ox tx => ?_⟩
  cases ep : P.sem _ ρ1 with
  | none => rw [ep] at p1; exact p1.elim
  | some sl =>
    obtain ⟨s, l⟩ := sl
    rw [ep] at p1
    simp only [R.of_some, R.bind_ok] at p1
    cases eq : q.sem ρ1 with
    | none => rw [eq] at p1; exact p1.elim
    | some k =>
      rw [eq] at p1
      simp only [R.of_some, R.bind_ok] at p1
      rcases mdP_case (f := storeF (.int k) o) (s := s) (is := l) (ρ := ρ1) with e | ⟨r, oo, o', e1, e2, e⟩
      · rw [e] at p1; exact p1.elim
      rw [e] at p1
      obtain ⟨v, hv, ov⟩ := R1.own _ _ (ldV_of e1)
      -- what stands at the path is a box
      have lk : ∃ l', lookP oo l = some (.box l') := mod_look (fun o r e => storeF_box o r e) l oo e2
      obtain ⟨l', lk⟩ := lk
      refine ⟨Hf1, ρ1, U1, R1, s, l, oo, l', ep, e1, lk, fun v1 v' hv1 bp => ⟨Hf1, ρ1, U1, R1, k, eq, ?_⟩⟩
      exact store_at (G := fun σ H' => D.nx σ H') R1 S1 e1 e2 hv1 bp ox tx fun H' U' R' S' => p1 σ Hf1 H' U' Kept.refl R' S'
where
  mod_look {α : Type} {f : O → Option (α × O)} (hf : ∀ o r, f o = some r → ∃ l, o = .box l) : ∀ (is : List D) (o : O) {r : α × O}, modP f o is = some r → ∃ l', lookP o is = some (.box l')
    | [], o, r, h => by
      rw [modP_nil] at h
      obtain ⟨l, rfl⟩ := hf _ _ h
      exact ⟨l, rfl⟩
    | d :: is, o, r, h => by
      cases o with
      | frz => simp [modP] at h
      | scr => simp [modP] at h
      | box l0 =>
        cases d <;> simp only [modP, reduceCtorEq] at h
        rename_i i
        split at h <;> first | contradiction | skip
        rename_i j ej
        split at h <;> first | contradiction | skip
        rename_i o1 eo
        split at h <;> first | contradiction | skip
        rename_i r1 o1' em
        obtain ⟨l', e⟩ := mod_look hf is o1 em
        refine ⟨l', ?_⟩
        have ea : atD l0 i = some o1 := by
          unfold atD
          rw [ej]
          exact eo
        simp only [lookP, ea]
        exact e
end
end Tr
set_option Elab.async false
set_option linter.all false
set_option maxRecDepth 100000
set_option maxHeartbeats 4000000
/-! TrC9b: zip over lists and tuples in any mix; enumerate of a tuple. -/
namespace Tr
open PySem PySem.Spec PyProof.Rows L2

/-- t: a tuple, else a list -/
def SqA (K : PySem.W.Frag) (t : Bool) (H : Hp) (a : Addr) (xs : List V) : Prop := match t with
  | true => SqT K H a xs
  | false => SqL K H a xs
def IsA (t : Bool) (h : Heap) (a : Addr) (its : Array Value) : Prop := match t with
  | true => h.IsTuple a its
  | false => h.IsList a its
def ItA (t : Bool) (h : Heap) (it a : Addr) (i : Nat) : Prop := match t with
  | true => h.IsTupleIter it a i
  | false => h.IsListIter it a i
def obA (t : Bool) (a : Addr) : Obj := match t with
  | true => { cls := .type "tuple_iterator", data := .fields #[.ref a, .int 0 0] }
  | false => { cls := .type "list_iterator", data := .fields #[.ref a, .int 0 0] }
theorem ItA.new {t : Bool} {h : Heap} {it a : Addr} (e : h.get? it = some (obA t a)) : ItA t h it a 0 := by
  cases t <;> exact ⟨_, e, rfl, rfl⟩
theorem ItA.there {t : Bool} {h : Heap} {it a : Addr} {i : Nat} (x : ItA t h it a i) : ∃ o, h.get? it = some o ∧ ∀ v, o.data ≠ .cell v := by
  cases t <;> (obtain ⟨o, e, _, d⟩ := x; exact ⟨o, e, fun v q => by rw [d] at q; cases q⟩)
theorem ItA.at' {t : Bool} {h h' : Heap} {it a : Addr} {i : Nat} (x : ItA t h it a i) (k : ∀ o, h.get? it = some o → h'.get? it = some o) : ItA t h' it a i := by
  cases t <;> (obtain ⟨o, e, r⟩ := x; exact ⟨o, k o e, r⟩)
theorem begins_a (t : Bool) (a : Addr) (its : Array Value) : Begins (.ref a) (obA t a) fun h => IsA t h a its := by
  cases t
  · exact begins_list a its
  · exact begins_tuple a its
theorem draws_a {prog : Program} {w : World} {A : Around} (hh : A.handled = none) (t : Bool) (it a : Addr) (hne : a ≠ it) (its : Array Value) :
    Draws prog w A it [it, a] its.size (fun i v => its[i]? = some v) (fun i h => ItA t h it a i ∧ IsA t h a its) := by
  cases t
  · exact Draws.list hh it a hne its
  · exact Draws.tuple hh it a hne its
section
variable {X : Cx} {pins : List (Addr × Obj)} {σ : L2.St} {H : Hp} {s : Shared}
theorem inv_a (I : Inv X pins σ H s) {t : Bool} {a : Addr} {xs : List V} (h : SqA X.K t H a xs) : ∃ its : List Value, Vals xs its ∧ IsA t s.heap a its.toArray := by
  cases t
  · obtain ⟨its, rv, p, _⟩ := I.list h
    exact ⟨its, rv, p.isList⟩
  · obtain ⟨its, rv, p, _⟩ := I.tuple h
    exact ⟨its, rv, p⟩
theorem inj_a (I : Inv X pins σ H s) {t : Bool} {a : Addr} {xs ys : List V} (h : SqA X.K t H a xs) (h' : SqA X.K t H a ys) : xs = ys := by
  cases t
  · exact I.list_inj h h'
  · exact I.tuple_inj h h'
theorem IsA.lt {t : Bool} {h : Heap} {a : Addr} {its : Array Value} (x : IsA t h a its) : a < h.objs.size := by
  cases t
  · obtain ⟨o, e, _⟩ := x; exact Heap.lt_size e
  · obtain ⟨o, e, _⟩ := x; exact Heap.lt_size e
end
/-- the rows at a and b as they stand at each turn, the items in new pairs -/
def ItzM (K : PySem.W.Frag) (t u : Bool) (a b : Addr) : It :=
  ⟨fun i H => ∃ (xs ys : List V) (x y : V), SqA K t H a xs ∧ SqA K u H b ys ∧ xs[i]? = some x ∧ ys[i]? = some y,
    fun i H v H' => ∃ T x y, v = .ref T ∧ H T = none ∧ H' = upd H T (.tup [x, y]) ∧ (∀ xs, SqA K t H a xs → xs[i]? = some x) ∧ ∀ ys, SqA K u H b ys → ys[i]? = some y,
    fun i H => ∃ xs ys : List V, SqA K t H a xs ∧ SqA K u H b ys ∧ i = min xs.length ys.length⟩
theorem sep2_of {z TI TO i1 i2 a b : Addr} (D : ZipApart z TI TO i1 i2 a b) : ZipSep2 z TI TO i1 i2 [i1, a] [i2, b] where
  TIz := D.TIz
  TOz := D.TOz
  TITO := D.TITO
  TIi1 := D.TIi1
  mem1 := by simp
  zf1 := fun h => by
    rcases List.mem_cons.mp h with e | h
    · exact D.i1z e.symm
    · exact D.l1z (List.mem_singleton.mp h).symm
  Tf1 := fun h => by
    rcases List.mem_cons.mp h with e | h
    · exact D.TOi1 e
    · exact D.l1TO (List.mem_singleton.mp h).symm
  TIi2 := D.TIi2
  mem2 := by simp
  zf2 := fun h => by
    rcases List.mem_cons.mp h with e | h
    · exact D.i2z e.symm
    · exact D.l2z (List.mem_singleton.mp h).symm
  Tf2 := fun h => by
    rcases List.mem_cons.mp h with e | h
    · exact D.TOi2 e
    · exact D.l2TO (List.mem_singleton.mp h).symm
  sep1_2 := fun h => by
    rcases List.mem_cons.mp h with e | h
    · exact D.i12 e
    · exact D.l2i1 (List.mem_singleton.mp h).symm
  sep2_1 := fun h => by
    rcases List.mem_cons.mp h with e | h
    · exact D.i12 e.symm
    · exact D.l1i2 (List.mem_singleton.mp h).symm
theorem turn_zipM {P : Program} {w : World} {K : PySem.W.Frag} {elts : List Expr} {kk : Nat} {tpos : Pos} {t u : Bool} {a b z TI TO i1 i2 : Addr} (D : ZipApart z TI TO i1 i2 a b) :
    Turn P w K (.Tuple elts kk tpos) (ItzM K t u a b) [z, TI, TO, i1, i2] z (fun i h => IsZip h z TI TO .none ∧ IsPair h TI (.ref i1) (.ref i2) ∧ (∃ x y, IsPair h TO x y) ∧ ItA t h i1 a i ∧ ItA u h i2 b i) where
  mem := by simp
  obj := fun i h st c hc => by
    obtain ⟨hz, hTI, ⟨x, y, hTO⟩, h1, h2⟩ := st
    have e' : c = z ∨ c = TI ∨ c = TO ∨ c = i1 ∨ c = i2 := by simpa using hc
    rcases e' with q | q | q | q | q
    · rw [q]; exact ⟨_, hz, fun v q => nomatch q⟩
    · rw [q]; exact ⟨_, hTI, fun v q => nomatch q⟩
    · rw [q]; exact ⟨_, hTO, fun v q => nomatch q⟩
    · rw [q]; exact h1.there
    · rw [q]; exact h2.there
  keep := fun i h h' st k => by
    obtain ⟨hz, hTI, ⟨x, y, hTO⟩, h1, h2⟩ := st
    exact ⟨k z (by simp) _ hz, k TI (by simp) _ hTI, ⟨x, y, k TO (by simp) _ hTO⟩, h1.at' fun o q => k i1 (by simp) o q, h2.at' fun o q => k i2 (by simp) o q⟩
  item := by
    intro X hP hw hK hc i pins s σ H E I hf st hg
    subst hP hw hK
    obtain ⟨hz, hTI, hTO, h1, h2⟩ := st
    obtain ⟨xs, ys, x, y, hqx, hqy, hx, hy⟩ := hg
    obtain ⟨its, rv, p⟩ := inv_a I hqx
    obtain ⟨its2, rv2, p2⟩ := inv_a I hqy
    obtain ⟨u1, hu, ru⟩ := rv.get hx
    obtain ⟨u2, hu2, ru2⟩ := rv2.get hy
    have hh : X.A.in1.handled = none := I.ok.hd hc
    have D1 := draws_a (prog := X.prog) (w := X.w) hh t i1 a D.l1i1 its.toArray
    have D2 := draws_a (prog := X.prog) (w := X.w) hh u i2 b D.l2i2 its2.toArray
    have G := GoesN.zip2 (A := X.A) (elts := elts) (x1 := kk) (pos := tpos) (sep2_of D) D1 D2
    have hlt : i < min its.toArray.size its2.toArray.size := by
      have a1 := (List.getElem?_eq_some_iff.mp hu).1
      have a2 := (List.getElem?_eq_some_iff.mp hu2).1
      simp
      omega
    refine G.goes i s (fun v s2 => ∃ x H', Inv X pins σ H' s2 ∧ RelV x v ∧ (ItzM X.K t u a b).yld i H x H' ∧ (IsZip s2.heap z TI TO .none ∧ IsPair s2.heap TI (.ref i1) (.ref i2) ∧ (∃ x y, IsPair s2.heap TO x y) ∧ ItA t s2.heap i1 a (i + 1) ∧ ItA u s2.heap i2 b (i + 1)) ∧ ∀ b ∈ [z, TI, TO, i1, i2], H' b = none) E hlt ⟨hz, hTI, hTO, ⟨h1, p⟩, ⟨h2, p2⟩⟩ fun v h' tk hY st' hk _ => ?_
    obtain ⟨T, w1, w2, rfl, hT, e1, e2, o, eo, co, n, dd⟩ := hY
    have e1' : its[i]? = some w1 := by simpa using e1
    have e2' : its2[i]? = some w2 := by simpa using e2
    rw [hu] at e1'
    rw [hu2] at e2'
    cases e1'
    cases e2'
    have new : ObjOk X.prog X.w (upd H T (.tup [x, y])) h' T (.tup [x, y]) :=
      ⟨by show 2 ≤ sizeLine; decide, [u1, u2], .cons ru (.cons ru2 .nil), ⟨o, eo, co, n, dd⟩⟩
    have I1 : Inv X pins σ (upd H T (.tup [x, y])) { s with heap := h', toks := tk } :=
      I.turnedNew (t' := tk) (ch := [z, TO, i1, i2]) (fun c o hb q => hk c o hb q) (fun c hcm => hf c (by
        have e' : c = z ∨ c = TO ∨ c = i1 ∨ c = i2 := by simpa using hcm
        rcases e' with q | q | q | q <;> rw [q] <;> simp)) hT new
    refine ⟨.ref T, _, I1, rfl, ⟨_, x, y, rfl, I.hok.fresh hT, rfl, fun l hl => by rw [inj_a I hl hqx]; exact hx, fun l hl => by rw [inj_a I hl hqy]; exact hy⟩, ⟨st'.1, st'.2.1, st'.2.2.1, st'.2.2.2.1.1, st'.2.2.2.2.1⟩, fun c hcm => ?_⟩
    have hlt : c < s.heap.objs.size := by
      have e' : c = z ∨ c = TI ∨ c = TO ∨ c = i1 ∨ c = i2 := by simpa using hcm
      rcases e' with q | q | q | q | q
      · rw [q]; exact Heap.lt_size hz
      · rw [q]; exact Heap.lt_size hTI
      · rw [q]; obtain ⟨_, _, e⟩ := hTO; exact Heap.lt_size e
      · rw [q]; obtain ⟨_, e1, _⟩ := h1.there; exact Heap.lt_size e1
      · rw [q]; obtain ⟨_, e2, _⟩ := h2.there; exact Heap.lt_size e2
    rw [upd_ne (Nat.ne_of_lt (Nat.lt_of_lt_of_le hlt hT))]
    exact (hf c hcm).1
  done := by
    intro X hP hw hK hc i pins s σ H E I hf st hg
    subst hP hw hK
    obtain ⟨hz, hTI, hTO, h1, h2⟩ := st
    obtain ⟨xs, ys, hqx, hqy, hend⟩ := hg
    obtain ⟨its, rv, p⟩ := inv_a I hqx
    obtain ⟨its2, rv2, p2⟩ := inv_a I hqy
    have l1 := rv.length
    have l2 := rv2.length
    have hh : X.A.in1.handled = none := I.ok.hd hc
    have D1 := draws_a (prog := X.prog) (w := X.w) hh t i1 a D.l1i1 its.toArray
    have D2 := draws_a (prog := X.prog) (w := X.w) hh u i2 b D.l2i2 its2.toArray
    have G := GoesN.zip2 (A := X.A) (elts := elts) (x1 := kk) (pos := tpos) (sep2_of D) D1 D2
    have ei : i = min its.toArray.size its2.toArray.size := by simp; omega
    subst ei
    exact G.stops s (fun s1 => Inv X pins σ H s1) E ⟨hz, hTI, hTO, ⟨h1, p⟩, ⟨h2, p2⟩⟩ fun h' tk hk _ =>
      I.turnedL (t' := tk) (ch := [z, TO, i1, i2]) (fun c o hb q => hk c o hb q) fun c hcm => hf c (by
        have e' : c = z ∨ c = TO ∨ c = i1 ∨ c = i2 := by simpa using hcm
        rcases e' with q | q | q | q <;> rw [q] <;> simp)
  self := fun A i s Q E st h => wpAny_pyIter_zip st.1 h
def iZipM (K : PySem.W.Frag) (ta : TA) : TI := fun σ H R => ta σ H fun vs H1 => ∃ a b xs ys t u, vs = [.ref a, .ref b] ∧ SqA K t H1 a xs ∧ SqA K u H1 b ys ∧ R (ItzM K t u a b) H1
theorem pi_zipM {X : Cx} {e e2 : Expr} {ta : TA} {p pos tpos : Pos} {elts : List Expr} {kk : Nat} (hg : Gl X "zip") (hm : X.mg "zip" = none) (ha : PA X [e, e2] ta)
    (hs : starEach [e, e2] X.env = (false, eval e X.env) :: starEach [e2] X.env := by rfl) (hpl : (backTo pos (starEach [e2] X.env)).any (·.1) = false := by rfl) :
    PI X (.Tuple elts kk tpos) (.Call (.Name "zip" p) [e, e2] [] pos) (iZipM X.K ta) := by
  refine ⟨fun pins s σ H R I h => ?_⟩
  refine Call_ (ld_blt I hg hm PyProof.Rows.boot_zip (PyProof.Rows.callWith_type1 (thn (ha.run pos pins s σ H _ I h) fun us s1 ⟨vs, H1, I1, r1, q1⟩ => ?_) hs hpl))
  obtain ⟨a, b, xs, ys, t, u, ex, hqx, hqy, q⟩ := q1
  subst ex
  cases r1 with
  | cons r rr =>
    cases rr with
    | cons r' rr =>
      cases rr
      cases r
      cases r'
      have fresh5 : ∀ c, c ∈ [s1.heap.objs.size + 4, s1.heap.objs.size + 2, s1.heap.objs.size + 3, s1.heap.objs.size, s1.heap.objs.size + 1] → FpOk X pins H1 c := fun c hcm => by
        have e' : c = s1.heap.objs.size + 4 ∨ c = s1.heap.objs.size + 2 ∨ c = s1.heap.objs.size + 3 ∨ c = s1.heap.objs.size ∨ c = s1.heap.objs.size + 1 := by simpa using hcm
        have hle : s1.heap.objs.size ≤ c := by omega
        exact I1.fpOk hle (I1.hok.fresh hle)
      obtain ⟨its, rv, p1⟩ := inv_a I1 hqx
      obtain ⟨its2, rv2, p2⟩ := inv_a I1 hqy
      refine zip_begins2 (begins_a t a its.toArray) (begins_a u b its2.toArray) p1 p2 fun h' hz hTI hTO h1 h2 hsz hk => wpAny_pyIter_zip hz ?_
      have I2 : Inv X pins σ H1 { s1 with heap := h' } := I1.kept (t' := s1.toks) hk
      exact ⟨s1.heap.objs.size + 4, [s1.heap.objs.size + 4, s1.heap.objs.size + 2, s1.heap.objs.size + 3, s1.heap.objs.size, s1.heap.objs.size + 1], _, _, H1, rfl, I2, turn_zipM (PySem.W.ktu_apart s1.heap.objs.size a b p1.lt p2.lt), ⟨hz, hTI, ⟨_, _, hTO⟩, ItA.new h1, ItA.new h2⟩, fresh5, q⟩
end Tr
set_option Elab.async false
set_option linter.all false
set_option maxRecDepth 100000
set_option maxHeartbeats 4000000
/-! TrC9c: enumerate over a list or a tuple. -/
namespace Tr
open PySem PySem.Spec PyProof.Rows L2
set_option maxHeartbeats 1000000 in
theorem meets_enum1 {v : Value} {o : Obj} {H : Heap → Prop} (B : Begins v o H) :
    Meets (Builtin.«enumerate.__new__» ⟨[.type "enumerate", v], []⟩) (fun _ R s => H s.heap ∧
      R (.ok (.ret (.ref (s.heap.push o).objs.size))) { s with heap := (s.heap.push o).push { cls := .type "enumerate", data := .fields #[.none, .bool false, .ref s.heap.objs.size, rawInt 0, .none, .none] } }) :=
  .of_wp fun prog w A R s h => by
    obtain ⟨hp, g, d, tk, os⟩ := s; obtain ⟨h1, h⟩ := h
    have hsub := sub_enumerate
    have q1 : ∀ {A' : Around} {E : Value → Shared → Prop} {Q : Value → Shared → Prop}, Q (.ref hp.objs.size) ⟨hp.push o, g, d, tk, os⟩ → wpAny (model prog w) A' (pyIter v) Q E ⟨hp, g, d, tk, os⟩ :=
      fun q => B.iter prog w _ _ ⟨hp, g, d, tk, os⟩ _ h1 q
    wp_walk using q1
    refine wpAny_stack_any fun st => wpAny_pure ?_
    split
    · rename_i c _ _ _ _ _
      cases (c == Value.type "enumerate")
      · wp_walk using q1
        exact ⟨_, rfl, h⟩
      · wp_walk using q1
        exact ⟨_, rfl, h⟩
    · wp_walk using q1
      exact ⟨_, rfl, h⟩
theorem enum_begins1 {prog : Program} {w : World} {A : Around} {E : Value → Shared → Prop} {s : Shared} {v : Value} {o : Obj} {H : Heap → Prop} {Q : Value → Shared → Prop} (B : Begins v o H) (h1 : H s.heap)
    (h : ∀ h', IsEnum h' (s.heap.objs.size + 1) s.heap.objs.size 0 .none → h'.get? s.heap.objs.size = some o → h'.objs.size = s.heap.objs.size + 2 →
      (∀ b o, s.heap.get? b = some o → h'.get? b = some o) → Q (.ref (s.heap.objs.size + 1)) { s with heap := h' }) :
    wpAny (model prog w) A (call (.type "enumerate") [v]) Q E s := by
  refine callType_new F.called_enumerate (by decide) (F.typeCall_enumerate_1 _) (F.newCall_enumerate_1 _) (fun obj => F.args_object_init_2 obj _) F.entry_enumerate_new
    (meets_enum1 B) ⟨h1, ?_⟩
  have hz : (s.heap.push o).objs.size = s.heap.objs.size + 1 := Heap.size_push ..
  show _ ∧ _
  rw [hz]
  have he : IsEnum ((s.heap.push o).push { cls := .type "enumerate", data := .fields #[.none, .bool false, .ref s.heap.objs.size, rawInt 0, .none, .none] }) (s.heap.objs.size + 1) s.heap.objs.size 0 .none := by
    have := Heap.get?_push_size (s.heap.push o) (o := { cls := .type "enumerate", data := .fields #[.none, .bool false, .ref s.heap.objs.size, rawInt 0, .none, .none] }) rfl
    rw [hz] at this; exact this
  refine ⟨⟨_, he, rfl⟩, h _ he (Heap.get?_push_of_some _ (Heap.get?_push_size _ B.free)) (by rw [Heap.size_push, hz]) fun b o x => Heap.get?_push_of_some _ (Heap.get?_push_of_some _ x)⟩
/-- the row at a as it stands at each turn, each item in a new pair -/
def IteA (K : PySem.W.Frag) (t : Bool) (a : Addr) : It :=
  ⟨fun i H => ∃ (xs : List V) (x : V), SqA K t H a xs ∧ xs[i]? = some x,
    fun i H v H' => ∃ T x, v = .ref T ∧ H T = none ∧ H' = upd H T (.tup [.int (i : Nat), x]) ∧ ∀ xs, SqA K t H a xs → xs[i]? = some x,
    fun i H => ∃ xs : List V, SqA K t H a xs ∧ i = xs.length⟩
theorem turn_enumA {P : Program} {w : World} {K : PySem.W.Frag} {elts : List Expr} {kk : Nat} {tpos : Pos} {t : Bool} (a e it : Addr) :
    Turn P w K (.Tuple elts kk tpos) (IteA K t a) [e, it] e (fun i h => (∃ old, IsEnum h e it (0 + ((i : Nat) : Int)) old) ∧ ItA t h it a i ∧ e ≠ it ∧ a ≠ it ∧ a ≠ e) where
  mem := by simp
  obj := fun i h st b hb => by
    obtain ⟨⟨old, he⟩, hi, _⟩ := st
    have e' : b = e ∨ b = it := by simpa using hb
    rcases e' with z | z
    · rw [z]; exact ⟨_, he, fun v q => nomatch q⟩
    · rw [z]; exact hi.there
  keep := fun i h h' st k => let ⟨⟨old, he⟩, hi, hne⟩ := st; ⟨⟨old, k e (by simp) _ he⟩, hi.at' fun o q => k it (by simp) o q, hne⟩
  item := by
    intro X hP hw hK hc i pins s σ H E I hf st hg
    subst hP hw hK
    obtain ⟨he, hit, hne, h1, h2⟩ := st
    obtain ⟨xs, x, hq, hx⟩ := hg
    obtain ⟨its, rv, p⟩ := inv_a I hq
    obtain ⟨u, hu, ru⟩ := rv.get hx
    have hh : X.A.in1.handled = none := I.ok.hd hc
    have D1 := draws_a (prog := X.prog) (w := X.w) hh t it a h1 its.toArray
    have G := GoesN.enumFrom (A := X.A) (elts := elts) (x1 := kk) (pos := tpos) 0 D1 e hne (fun hm => by
      rcases List.mem_cons.mp hm with z | z
      · exact hne z
      · exact h2 (List.mem_singleton.mp z).symm) (by simp)
    have hlt : i < its.toArray.size := by
      have a1 := (List.getElem?_eq_some_iff.mp hu).1
      simpa using a1
    have hel : e < s.heap.objs.size := by obtain ⟨_, q⟩ := he; exact Heap.lt_size q
    have hil : it < s.heap.objs.size := by obtain ⟨_, q, _⟩ := hit.there; exact Heap.lt_size q
    refine G.goes i s (fun v s2 => ∃ x H', Inv X pins σ H' s2 ∧ RelV x v ∧ (IteA X.K t a).yld i H x H' ∧ ((∃ old, IsEnum s2.heap e it (0 + ((i + 1 : Nat) : Int)) old) ∧ ItA t s2.heap it a (i + 1) ∧ e ≠ it ∧ a ≠ it ∧ a ≠ e) ∧ ∀ b ∈ [e, it], H' b = none) E hlt ⟨he, hit, p⟩ fun v h' tk hY st' hk _ => ?_
    obtain ⟨T, k, w1, rfl, hT, e1, o, eo, co, n, dd⟩ := hY
    have e1' : its[i]? = some w1 := by simpa using e1
    rw [hu] at e1'
    cases e1'
    have new : ObjOk X.prog X.w (upd H T (.tup [.int (i : Nat), x])) h' T (.tup [.int (i : Nat), x]) :=
      ⟨by show 2 ≤ sizeLine; decide, [.int i k, u], .cons ⟨_, rfl⟩ (.cons ru .nil), ⟨o, eo, co, n, by rw [dd, Int.zero_add]⟩⟩
    have I1 : Inv X pins σ (upd H T (.tup [.int (i : Nat), x])) { s with heap := h', toks := tk } :=
      I.turnedNew (t' := tk) (ch := [e, it]) (fun c o hb q => hk c o hb q) hf hT new
    refine ⟨.ref T, _, I1, rfl, ⟨_, x, rfl, I.hok.fresh hT, rfl, fun l hl => by rw [inj_a I hl hq]; exact hx⟩, ⟨st'.1, st'.2.1, hne, h1, h2⟩, fun c hcm => ?_⟩
    have hlt : c < s.heap.objs.size := by
      have e' : c = e ∨ c = it := by simpa using hcm
      rcases e' with q | q
      · rw [q]; exact hel
      · rw [q]; exact hil
    rw [upd_ne (Nat.ne_of_lt (Nat.lt_of_lt_of_le hlt hT))]
    exact (hf c hcm).1
  done := by
    intro X hP hw hK hc i pins s σ H E I hf st hg
    subst hP hw hK
    obtain ⟨he, hit, hne, h1, h2⟩ := st
    obtain ⟨xs, hq, hend⟩ := hg
    obtain ⟨its, rv, p⟩ := inv_a I hq
    have l1 := rv.length
    have hh : X.A.in1.handled = none := I.ok.hd hc
    have D1 := draws_a (prog := X.prog) (w := X.w) hh t it a h1 its.toArray
    have G := GoesN.enumFrom (A := X.A) (elts := elts) (x1 := kk) (pos := tpos) 0 D1 e hne (fun hm => by
      rcases List.mem_cons.mp hm with z | z
      · exact hne z
      · exact h2 (List.mem_singleton.mp z).symm) (by simp)
    have ei : i = its.toArray.size := by simp; omega
    subst ei
    exact G.stops s (fun s1 => Inv X pins σ H s1) E ⟨he, hit, p⟩ fun h' tk hk _ => I.turnedL (t' := tk) (ch := [e, it]) (fun c o hb q => hk c o hb q) hf
  self := fun A i s Q E st h => let ⟨⟨_, he⟩, _⟩ := st; wpAny_pyIter_enum he h
def iEnumA (K : PySem.W.Frag) (ta : TA) : TI := fun σ H R => ta σ H fun vs H1 => ∃ a xs t, vs = [.ref a] ∧ SqA K t H1 a xs ∧ R (IteA K t a) H1
theorem pi_enumA {X : Cx} {e : Expr} {ta : TA} {p pos tpos : Pos} {elts : List Expr} {kk : Nat} (hg : Gl X "enumerate") (hm : X.mg "enumerate" = none) (ha : PA X [e] ta) (hs : starEach [e] X.env = [(false, eval e X.env)] := by rfl) :
    PI X (.Tuple elts kk tpos) (.Call (.Name "enumerate" p) [e] [] pos) (iEnumA X.K ta) := by
  refine ⟨fun pins s σ H R I h => ?_⟩
  refine Call_ (ld_blt I hg hm boot_enumerate (PyProof.Rows.callWith_type1 (thn (ha.run pos pins s σ H _ I h) fun us s1 ⟨vs, H1, I1, r1, q1⟩ => ?_) hs rfl))
  obtain ⟨a, xs, t, ex, hq, q⟩ := q1
  subst ex
  cases r1 with
  | cons r rr =>
    cases rr
    cases r
    obtain ⟨its, rv, p1⟩ := inv_a I1 hq
    have hlt := p1.lt
    refine enum_begins1 (begins_a t a its.toArray) p1 fun h' he hit hsz hk => wpAny_pyIter_enum he ?_
    have I2 : Inv X pins σ H1 { s1 with heap := h' } := I1.kept (t' := s1.toks) hk
    refine ⟨s1.heap.objs.size + 1, [s1.heap.objs.size + 1, s1.heap.objs.size], _, _, H1, rfl, I2, turn_enumA a (s1.heap.objs.size + 1) s1.heap.objs.size, ⟨⟨.none, he⟩, ItA.new hit, Nat.succ_ne_self _, Nat.ne_of_lt hlt, Nat.ne_of_lt (Nat.lt_succ_of_lt hlt)⟩, fun b hb => ?_, q⟩
    have e' : b = s1.heap.objs.size + 1 ∨ b = s1.heap.objs.size := by simpa using hb
    have hle : s1.heap.objs.size ≤ b := by
      rcases e' with z | z
      · rw [z]; exact Nat.le_succ _
      · rw [z]; exact Nat.le_refl _
    exact I1.fpOk hle (I1.hok.fresh hle)
end Tr
set_option Elab.async false
set_option linter.all false
set_option maxRecDepth 100000
set_option maxHeartbeats 4000000
/-! TrC10: what is walked; for, while. -/
namespace Tr
open PySem PySem.Spec PyProof.Rows L2

/-- the turns of J give ds, one by one -/
structure Feeds (K : PySem.W.Frag) (J : It) (Hf : Hp) (ds : List D) : Prop where
  stop : ∀ H, Same Hf H → J.stop ds.length H
  go : ∀ i, i < ds.length → ∀ H, Same Hf H → J.go i H
  yld : ∀ i Hf1 H1 x H2, i < ds.length → Same Hf Hf1 → Same Hf1 H1 → J.yld i H1 x H2 → ∃ d Hf2, ds[i]? = some d ∧ Rep K Hf2 x d ∧ ((Hf2 = Hf1 ∧ H2 = H1) ∨ ∃ T o, H1 T = none ∧ Hf2 = upd Hf1 T o ∧ H2 = upd H1 T o)
theorem Feeds.mono {K : PySem.W.Frag} {J : It} {Hf Hf' : Hp} {ds : List D} (h : Feeds K J Hf ds) (e : Same Hf Hf') : Feeds K J Hf' ds :=
  ⟨fun H s => h.stop H (e.trans s), fun i hi H s => h.go i hi H (e.trans s), fun i Hf1 H1 x H2 hi s1 s2 y => h.yld i Hf1 H1 x H2 hi (e.trans s1) s2 y⟩
def tI (K : PySem.W.Frag) (ct : Str → Option Addr) (W : WX) (m : Env → R (List D)) : TI := fun σ H Rr => ∃ Hf ρ U, Rel K Hf H ρ σ U ∧ Post K σ Hf H U (EW K ct W σ) (fun ds _ Hf' H' _ => ∀ J, Feeds K J Hf' ds → Rr J H') (m ρ)
theorem feeds_list {K : PySem.W.Frag} {Hf : Hp} {a : Addr} {xs : List V} {l : List D} (h : Hf a = some (.lst xs)) (n : xs.length = l.length) (it : ∀ (i : Nat) v d, xs[i]? = some v → l[i]? = some d → Rep K Hf v d) : Feeds K (Itl K a) Hf l := by
  refine ⟨fun H s => ⟨xs, SqL.of (s _ _ h), by omega⟩, fun i hi H s => ⟨xs, xs[i]'(by omega), SqL.of (s _ _ h), List.getElem?_eq_getElem _⟩, fun i Hf1 H1 x H2 hi s1 s2 y => ?_⟩
  obtain ⟨rfl, y⟩ := y
  have e1 := y xs (SqL.of ((s1.trans s2) _ _ h))
  exact ⟨l[i], Hf1, List.getElem?_eq_getElem hi, (it i x _ e1 (List.getElem?_eq_getElem hi)).mono s1, .inl ⟨rfl, rfl⟩⟩
theorem feeds_tup {K : PySem.W.Frag} {Hf : Hp} {a : Addr} {xs : List V} {l : List D} (h : SqT K Hf a xs) (n : xs.length = l.length) (it : ∀ (i : Nat) v d, xs[i]? = some v → l[i]? = some d → Rep K Hf v d) : Feeds K (Itt K a) Hf l := by
  refine ⟨fun H s => ⟨xs, Same.seqT s h, by omega⟩, fun i hi H s => ⟨xs, xs[i]'(by omega), Same.seqT s h, List.getElem?_eq_getElem _⟩, fun i Hf1 H1 x H2 hi s1 s2 y => ?_⟩
  obtain ⟨rfl, y⟩ := y
  have e1 := y xs (Same.seqT (s1.trans s2) h)
  exact ⟨l[i], Hf1, List.getElem?_eq_getElem hi, (it i x _ e1 (List.getElem?_eq_getElem hi)).mono s1, .inl ⟨rfl, rfl⟩⟩
theorem rng_len {lo : Int} {n : Nat} : (rng lo n).length = n := by simp [rng]
theorem feeds_rng {K : PySem.W.Frag} {Hf : Hp} {lo : Int} {n : Nat} : Feeds K (Itr lo n) Hf (rng lo n) := by
  refine ⟨fun H s => (by show n ≤ _; rw [rng_len]; exact Nat.le_refl _), fun i hi H s => (by show i < n; rw [rng_len] at hi; exact hi), fun i Hf1 H1 x H2 hi s1 s2 y => ?_⟩
  obtain ⟨rfl, rfl⟩ := y
  rw [rng_len] at hi
  exact ⟨.int (lo + i), Hf1, by simp [rng, hi], .int _, .inl ⟨rfl, rfl⟩⟩
def iAny (K : PySem.W.Frag) (tl : TE) : TI := fun σ H Rr => tl σ H fun x H1 => ∃ a, x = .ref a ∧ (((∃ xs, SqL K H1 a xs) ∧ Rr (Itl K a) H1) ∨ ((∃ xs, SqT K H1 a xs) ∧ Rr (Itt K a) H1))
theorem pi_any {X : Cx} {tg l : Expr} {tl : TE} (hl : PE X l tl) : PI X tg l (iAny X.K tl) := by
  refine ⟨fun pins s σ H Rr I h => ?_⟩
  refine thn (hl.run pins s σ H _ I h) fun v s1 ⟨x, H1, I1, r1, q1⟩ => ?_
  obtain ⟨a, e, q⟩ := q1
  subst e
  cases r1
  rcases q with ⟨⟨xs, hq⟩, q⟩ | ⟨⟨xs, hq⟩, q⟩
  · obtain ⟨its, rv, p, hz⟩ := I1.list hq
    refine wpAny_pyIter_list p.isList ?_
    refine ⟨s1.heap.objs.size, [s1.heap.objs.size], _, _, H1, rfl, I1.kept (t' := s1.toks) fun b o e => Heap.get?_push_of_some _ e, turn_list a _, ⟨_, Heap.get?_push_size _ rfl, rfl, rfl⟩, fun b hb => ?_, q⟩
    have e : b = s1.heap.objs.size := by simpa using hb
    subst e
    exact I1.fpOk (Nat.le_refl _) (I1.hok.fresh (Nat.le_refl _))
  · obtain ⟨its, rv, p, hz⟩ := I1.tuple hq
    refine wpAny_pyIter_tuple (show s1.heap.IsTuple a its.toArray from p) ?_
    refine ⟨s1.heap.objs.size, [s1.heap.objs.size], _, _, H1, rfl, I1.kept (t' := s1.toks) fun b o e => Heap.get?_push_of_some _ e, turn_tuple a _, ⟨_, Heap.get?_push_size _ rfl, rfl, rfl⟩, fun b hb => ?_, q⟩
    have e : b = s1.heap.objs.size := by simpa using hb
    subst e
    exact I1.fpOk (Nat.le_refl _) (I1.hok.fresh (Nat.le_refl _))
end Tr
namespace L2
theorem PI.weak {X : Cx} {tg e : PySem.Expr} {t t' : TI} (h : PI X tg e t) (w : ∀ σ H Q, t' σ H Q → t σ H Q) : PI X tg e t' := ⟨fun pins s σ H Q I q => h.run pins s σ H Q I (w σ H Q q)⟩
end L2
namespace Tr
open PySem PySem.Spec PyProof.Rows L2
section
variable {X : Cx} {ct : Str → Option Addr} {W : WX} {fx : Fix} {a b c e tg : Expr} {ma mb mc : Env → R D} {mf : Env → R O} {mi : Env → R (List D)} {pos : Pos} {es : List Expr}
theorem i_seq (ha : PE X a (tE X.K ct W ma)) : PI X tg a (tI X.K ct W fun ρ => (ma ρ).bind fun d ρ => R.of (itemsD d) ρ) := (pi_any ha).weak fun σ H Rr h => by
  obtain ⟨Hf, ρ, U, R0, p⟩ := h
  refine ⟨Hf, ρ, U, R0, p.then fun d ρ1 Hf1 H1 U1 R1 S1 p1 x rx => ?_⟩
  obtain ⟨l, e1, q⟩ := p1.of R1
  cases rx <;> simp only [itemsD, reduceCtorEq, Option.some.injEq] at e1
  case lst ad xs l' h n it =>
    subst e1
    exact ⟨ad, rfl, .inl ⟨⟨xs, SqL.of (R1.sub _ _ h)⟩, q _ (feeds_list h n it)⟩⟩
  case tup ad xs l' h n it =>
    subst e1
    exact ⟨ad, rfl, .inr ⟨⟨xs, Same.seqT R1.sub h⟩, q _ (feeds_tup h n it)⟩⟩
theorem starEach_one {e : Expr} {env : PySem.Env} (h : notStar e = true) : starEach [e] env = [(false, eval e env)] := starEach_cons h
theorem i_range1 {p : Pos} (bl : Blt X "range") (ha : PE X a (tE X.K ct W ma)) (hs : notStar a = true) : PI X tg (.Call (.Name "range" p) [a] [] pos) (tI X.K ct W fun ρ => (ma ρ).bind fun d ρ => R.of (range1D d) ρ) :=
  (pi_range1 bl.gl bl.no (pa_cons ha pa_nil (starEach_cons hs)) (starEach_one hs)).weak fun σ H Rr h => by
  obtain ⟨Hf, ρ, U, R0, p⟩ := h
  refine ⟨Hf, ρ, U, R0, p.then fun d ρ1 Hf1 H1 U1 R1 S1 p1 x rx => ?_⟩
  obtain ⟨l, e1, q⟩ := p1.of R1
  cases rx <;> simp only [range1D, reduceCtorEq] at e1
  split at e1 <;> first | contradiction | skip
  rename_i j hj
  cases e1
  exact ⟨_, rfl, hj.1, hj.2, q _ feeds_rng⟩
theorem i_range2 {p : Pos} (bl : Blt X "range") (ha : PE X a (tE X.K ct W ma)) (hb : PE X b (tE X.K ct W mb)) (hs : notStar a = true) (hs2 : notStar b = true) :
    PI X tg (.Call (.Name "range" p) [a, b] [] pos) (tI X.K ct W fun ρ => (ma ρ).bind fun d ρ => (mb ρ).bind fun e ρ => R.of (range2D d e) ρ) :=
  (pi_range2 bl.gl bl.no (pa_cons ha (pa_cons hb pa_nil (starEach_cons hs2)) (starEach_cons hs)) (by rw [starEach_cons hs, starEach_one hs2]) (starEach_one hs2)).weak fun σ H Rr h => by
  obtain ⟨Hf, ρ, U, R0, p⟩ := h
  refine ⟨Hf, ρ, U, R0, p.then fun d ρ1 Hf1 H1 U1 R1 S1 p1 x rx => ⟨Hf1, ρ1, U1, R1, p1.then fun e ρ2 Hf2 H2 U2 R2 S2 p2 y ry => ?_⟩⟩
  obtain ⟨l, e1, q⟩ := p2.of R2
  cases rx <;> cases ry <;> simp only [range2D, reduceCtorEq] at e1
  split at e1 <;> first | contradiction | skip
  rename_i hj
  cases e1
  exact ⟨_, _, rfl, hj, q _ feeds_rng⟩
theorem enum_get : ∀ {l : List D} {n i : Nat} {d : D}, l[i]? = some d → (enumFrom n l)[i]? = some (.tuple [.int ((n + i : Nat) : Int), d])
  | [], n, i, d, h => by simp at h
  | x :: l, n, 0, d, h => by
    have e : x = d := by simpa using h
    subst e
    simp [enumFrom]
  | x :: l, n, i + 1, d, h => by
    have := enum_get (l := l) (n := n + 1) (i := i) (d := d) (by simpa using h)
    simp only [enumFrom, List.getElem?_cons_succ]
    rw [this, show n + 1 + i = n + (i + 1) by omega]
theorem enum_len : ∀ {l : List D} {n : Nat}, (enumFrom n l).length = l.length
  | [], _ => rfl
  | _ :: l, n => by simp [enumFrom, enum_len (l := l)]
theorem pair_rep {K : PySem.W.Frag} {Hf : Hp} {T : Addr} {x y : V} {d e : D} (hn : Hf T = none) (hx : Rep K Hf x d) (hy : Rep K Hf y e) : Rep K (upd Hf T (.tup [x, y])) (.ref T) (.tuple [d, e]) :=
  .tup (SqT.of upd_same) rfl fun i v d' e1 e2 => by
    cases i with
    | zero => cases e1; cases e2; exact hx.mono (upd_mono hn)
    | succ i =>
      cases i with
      | zero => cases e1; cases e2; exact hy.mono (upd_mono hn)
      | succ i => simp at e1
theorem sqa_mono {K : PySem.W.Frag} {t : Bool} {H H' : Hp} {a : Addr} {xs : List V} (e : Same H H') (h : SqA K t H a xs) : SqA K t H' a xs := by
  cases t
  · exact Same.seq e h
  · exact Same.seqT e h
theorem feeds_enumA {K : PySem.W.Frag} {Hf : Hp} {t : Bool} {a : Addr} {xs : List V} {l : List D} (h : SqA K t Hf a xs) (n : xs.length = l.length) (it : ∀ (i : Nat) v d, xs[i]? = some v → l[i]? = some d → Rep K Hf v d) : Feeds K (IteA K t a) Hf (enumFrom 0 l) := by
  refine ⟨fun H s => ⟨xs, sqa_mono s h, by rw [enum_len]; omega⟩, fun i hi H s => ⟨xs, xs[i]'(by rw [enum_len] at hi; omega), sqa_mono s h, List.getElem?_eq_getElem _⟩, fun i Hf1 H1 x H2 hi s1 s2 y => ?_⟩
  rw [enum_len] at hi
  obtain ⟨T, z, rfl, hT, rfl, y⟩ := y
  have e1 := y xs (sqa_mono (s1.trans s2) h)
  have rz := (it i z _ e1 (List.getElem?_eq_getElem hi)).mono s1
  refine ⟨_, _, enum_get (List.getElem?_eq_getElem hi), ?_, .inr ⟨T, _, hT, rfl, rfl⟩⟩
  rw [Nat.zero_add]
  exact pair_rep (s2.free hT) (.int _) rz
/-- enumerate of a list, a tuple -/
theorem i_enum {p tpos : Pos} {kk : Nat} {elts : List Expr} (bl : Blt X "enumerate") (ha : PE X a (tE X.K ct W ma)) (hs : notStar a = true) : PI X (.Tuple elts kk tpos) (.Call (.Name "enumerate" p) [a] [] pos) (tI X.K ct W fun ρ => (ma ρ).bind fun d ρ => R.of ((itemsD d).map (enumFrom 0)) ρ) :=
  (pi_enumA bl.gl bl.no (pa_cons ha pa_nil (starEach_cons hs)) (starEach_one hs)).weak fun σ H Rr h => by
  obtain ⟨Hf, ρ, U, R0, p⟩ := h
  refine ⟨Hf, ρ, U, R0, p.then fun d ρ1 Hf1 H1 U1 R1 S1 p1 x rx => ?_⟩
  obtain ⟨l, e1, q⟩ := p1.of R1
  cases rx <;> simp only [itemsD, reduceCtorEq, Option.map_some, Option.map_none, Option.some.injEq] at e1
  case lst ad xs l' h n it =>
    subst e1
    exact ⟨ad, xs, false, rfl, sqa_mono (t := false) R1.sub (SqL.of h), q _ (feeds_enumA (t := false) (SqL.of h) n it)⟩
  case tup ad xs l' h n it =>
    subst e1
    exact ⟨ad, xs, true, rfl, sqa_mono (t := true) R1.sub h, q _ (feeds_enumA (t := true) h n it)⟩
theorem zip_get {l m : List D} {i : Nat} (hl : i < l.length) (hm : i < m.length) : (l.zip m)[i]? = some (l[i], m[i]) := by
  rw [List.getElem?_eq_getElem (by simp; omega), List.getElem_zip]
theorem feeds_zip {K : PySem.W.Frag} {Hf : Hp} {a b : Addr} {xs ys : List V} {l m : List D} (h : Hf a = some (.lst xs)) (n : xs.length = l.length) (it : ∀ (i : Nat) v d, xs[i]? = some v → l[i]? = some d → Rep K Hf v d) (h2 : Hf b = some (.lst ys)) (n2 : ys.length = m.length) (it2 : ∀ (i : Nat) v d, ys[i]? = some v → m[i]? = some d → Rep K Hf v d) :
    Feeds K (Itz K a b) Hf ((l.zip m).map fun p => .tuple [p.1, p.2]) := by
  have hlen : ((l.zip m).map fun p => (PyData.tuple [p.1, p.2] : D)).length = min l.length m.length := by simp
  refine ⟨fun H s => ⟨xs, ys, SqL.of (s _ _ h), SqL.of (s _ _ h2), by rw [hlen]; omega⟩, fun i hi H s => ?_, fun i Hf1 H1 x H2 hi s1 s2 y => ?_⟩
  · rw [hlen] at hi
    exact ⟨xs, ys, xs[i]'(by omega), ys[i]'(by omega), SqL.of (s _ _ h), SqL.of (s _ _ h2), List.getElem?_eq_getElem _, List.getElem?_eq_getElem _⟩
  · rw [hlen] at hi
    obtain ⟨T, z, w, rfl, hT, rfl, y1, y2⟩ := y
    have e1 := y1 xs (SqL.of ((s1.trans s2) _ _ h))
    have e2 := y2 ys (SqL.of ((s1.trans s2) _ _ h2))
    have hl : i < l.length := by omega
    have hm : i < m.length := by omega
    exact ⟨.tuple [l[i], m[i]], _, by rw [List.getElem?_map, zip_get hl hm]; rfl, pair_rep (s2.free hT) ((it i z _ e1 (List.getElem?_eq_getElem hl)).mono s1) ((it2 i w _ e2 (List.getElem?_eq_getElem hm)).mono s1), .inr ⟨T, _, hT, rfl, rfl⟩⟩
theorem feeds_zipM {K : PySem.W.Frag} {Hf : Hp} {t u : Bool} {a b : Addr} {xs ys : List V} {l m : List D} (h : SqA K t Hf a xs) (n : xs.length = l.length) (it : ∀ (i : Nat) v d, xs[i]? = some v → l[i]? = some d → Rep K Hf v d) (h2 : SqA K u Hf b ys) (n2 : ys.length = m.length) (it2 : ∀ (i : Nat) v d, ys[i]? = some v → m[i]? = some d → Rep K Hf v d) :
    Feeds K (ItzM K t u a b) Hf ((l.zip m).map fun p => .tuple [p.1, p.2]) := by
  have hlen : ((l.zip m).map fun p => (PyData.tuple [p.1, p.2] : D)).length = min l.length m.length := by simp
  refine ⟨fun H s => ⟨xs, ys, sqa_mono s h, sqa_mono s h2, by rw [hlen]; omega⟩, fun i hi H s => ?_, fun i Hf1 H1 x H2 hi s1 s2 y => ?_⟩
  · rw [hlen] at hi
    exact ⟨xs, ys, xs[i]'(by omega), ys[i]'(by omega), sqa_mono s h, sqa_mono s h2, List.getElem?_eq_getElem _, List.getElem?_eq_getElem _⟩
  · rw [hlen] at hi
    obtain ⟨T, z, w, rfl, hT, rfl, y1, y2⟩ := y
    have e1 := y1 xs (sqa_mono (s1.trans s2) h)
    have e2 := y2 ys (sqa_mono (s1.trans s2) h2)
    have hl : i < l.length := by omega
    have hm : i < m.length := by omega
    exact ⟨.tuple [l[i], m[i]], _, by rw [List.getElem?_map, zip_get hl hm]; rfl, pair_rep (s2.free hT) ((it i z _ e1 (List.getElem?_eq_getElem hl)).mono s1) ((it2 i w _ e2 (List.getElem?_eq_getElem hm)).mono s1), .inr ⟨T, _, hT, rfl, rfl⟩⟩
/-- zip of rows, lists or tuples -/
theorem i_zip {p tpos : Pos} {kk : Nat} {elts : List Expr} (bl : Blt X "zip") (ha : PE X a (tE X.K ct W ma)) (hb : PE X b (tE X.K ct W mb)) (hs : notStar a = true) (hs2 : notStar b = true) :
    PI X (.Tuple elts kk tpos) (.Call (.Name "zip" p) [a, b] [] pos) (tI X.K ct W fun ρ => (ma ρ).bind fun d ρ => (mb ρ).bind fun e ρ => R.of (pairsD d e) ρ) :=
  (pi_zipM bl.gl bl.no (pa_cons ha (pa_cons hb pa_nil (starEach_cons hs2)) (starEach_cons hs)) (starEach_cons hs) (back_one hs2)).weak fun σ H Rr h => by
  obtain ⟨Hf, ρ, U, R0, p⟩ := h
  refine ⟨Hf, ρ, U, R0, p.then fun d ρ1 Hf1 H1 U1 R1 S1 p1 x rx => ⟨Hf1, ρ1, U1, R1, p1.then fun e ρ2 Hf2 H2 U2 R2 S2 p2 y ry => ?_⟩⟩
  obtain ⟨l, e1, q⟩ := p2.of R2
  have rx2 := rx.mono S2.mono
  cases rx2 <;> cases ry <;> simp only [pairsD, itemsD, reduceCtorEq, Option.some.injEq] at e1
  case lst.lst ad xs l' h n it b2 ys m h2 n2 it2 =>
    subst e1
    exact ⟨ad, b2, xs, ys, false, false, rfl, sqa_mono R2.sub (SqL.of h), sqa_mono R2.sub (SqL.of h2), q _ (feeds_zipM (t := false) (u := false) (SqL.of h) n it (SqL.of h2) n2 it2)⟩
  case tup.tup ad xs l' h n it b2 ys m h2 n2 it2 =>
    subst e1
    exact ⟨ad, b2, xs, ys, true, true, rfl, sqa_mono (t := true) R2.sub h, sqa_mono (t := true) R2.sub h2, q _ (feeds_zipM (t := true) (u := true) h n it h2 n2 it2)⟩
  case lst.tup ad xs l' h n it b2 ys m h2 n2 it2 =>
    subst e1
    exact ⟨ad, b2, xs, ys, false, true, rfl, sqa_mono R2.sub (SqL.of h), sqa_mono (t := true) R2.sub h2, q _ (feeds_zipM (t := false) (u := true) (SqL.of h) n it h2 n2 it2)⟩
  case tup.lst ad xs l' h n it b2 ys m h2 n2 it2 =>
    subst e1
    exact ⟨ad, b2, xs, ys, true, false, rfl, sqa_mono (t := true) R2.sub h, sqa_mono R2.sub (SqL.of h2), q _ (feeds_zipM (t := true) (u := false) h n it (SqL.of h2) n2 it2)⟩
end
end Tr
set_option Elab.async false
set_option linter.all false
set_option maxRecDepth 100000
set_option maxHeartbeats 4000000
/-! TrC11: for, while, comprehensions. -/
namespace Tr
open PySem PySem.Spec PyProof.Rows L2

/-! ### targets -/
def gNest (K : PySem.W.Frag) : List (Nat ⊕ List Nat) → TGs
  | [] => gNil
  | .inl i :: is => gCons (gName i) (gNest K is)
  | .inr js :: is => gCons (gAny K js.length (gRow js)) (gNest K is)
def gOf (K : PySem.W.Frag) : Tg → TG
  | .name i => gName i
  | .tup is => gAny K is.length (gRow is)
  | .nest ts => gAny K ts.length (gNest K ts)
def slotsN : List (Nat ⊕ List Nat) → List Nat
  | [] => []
  | .inl i :: ts => i :: slotsN ts
  | .inr is :: ts => is ++ slotsN ts
def slotsT : Tg → List Nat
  | .name i => [i]
  | .tup is => is
  | .nest ts => slotsN ts
/-- names and rows of names in a row -/
inductive NestRow (X : Cx) (fx : Fix) : List (Nat ⊕ List Nat) → List Expr → Prop where
  | nil : NestRow X fx [] []
  | one {i : Nat} {x : Str} {p : Pos} {is : List (Nat ⊕ List Nat)} {es : List Expr} (hi : X.N[i]? = some x) (hx : Loc X.env.scope x) (hf : X.fn x = true ∨ X.env.scope.names.lookup x = some .local) (nf : ¬ fx i) (r : NestRow X fx is es) : NestRow X fx (.inl i :: is) (.Name x p :: es)
  | row {js : List Nat} {ns : List Expr} {k : Nat} {p : Pos} {is : List (Nat ⊕ List Nat)} {es : List Expr} (h : NameRow X fx js ns) (r : NestRow X fx is es) : NestRow X fx (.inr js :: is) (.Tuple ns k p :: es)
theorem NestRow.pgs {X : Cx} {fx : Fix} (hc : X.calm = true) (hN : X.N.Nodup) {is : List (Nat ⊕ List Nat)} {es : List Expr} (h : NestRow X fx is es) : PGs X es (gNest X.K is) := by
  induction h with
  | nil => exact pgs_nil
  | one hi hx hf nf r ih => exact pgs_cons (pg_name hN hi hx hf) ih rfl
  | row h r ih => exact pgs_cons (pg_any hc (h.pgs hN) h.len h.noStar) ih rfl
theorem NestRow.len {X : Cx} {fx : Fix} {is : List (Nat ⊕ List Nat)} {es : List Expr} (h : NestRow X fx is es) : (assignEach es X.env).length = is.length := by
  induction h with
  | nil => rfl
  | one hi hx hf nf r ih => exact congrArg Nat.succ ih
  | row h r ih => exact congrArg Nat.succ ih
theorem NestRow.noStar {X : Cx} {fx : Fix} {is : List (Nat ⊕ List Nat)} {es : List Expr} (h : NestRow X fx is es) : (assignEach es X.env).findIdx? (·.1) = none := by
  induction h with
  | nil => rfl
  | one hi hx hf nf r ih =>
    show (( (false, _) :: assignEach _ X.env) : List (Bool × (Value → Sem Unit))).findIdx? (·.1) = none
    rw [List.findIdx?_cons, ih]
    rfl
  | row h r ih =>
    show (( (false, _) :: assignEach _ X.env) : List (Bool × (Value → Sem Unit))).findIdx? (·.1) = none
    rw [List.findIdx?_cons, ih]
    rfl
theorem NestRow.free {X : Cx} {fx : Fix} {is : List (Nat ⊕ List Nat)} {es : List Expr} (h : NestRow X fx is es) : ∀ i ∈ slotsN is, ¬ fx i := by
  induction h with
  | nil => exact fun _ q => nomatch q
  | one hi hx hf nf r ih => exact fun i q => (List.mem_cons.mp q).elim (fun e => e ▸ nf) (ih i)
  | row h r ih => exact fun i q => (List.mem_append.mp q).elim (h.free i) (ih i)
/-- the same for rows in rows -/
theorem nest_put {K : PySem.W.Frag} {fx : Fix} {Hf H : Hp} : ∀ {is : List (Nat ⊕ List Nat)} {l : List D} {xs : List V} {σ : L2.St} {ρ ρ1 : Env} {U : UU} {Q : L2.St → Hp → Prop}, asgN is l ρ = some ρ1 → xs.length = l.length → (∀ (i : Nat) v d, xs[i]? = some v → l[i]? = some d → Rep K Hf v d) →
    Rel K Hf H ρ σ U → (∀ i ∈ slotsN is, ¬ fx i) → (∀ σ' U', Kept fx σ σ' → Rel K Hf H ρ1 σ' U' → (∀ b, foot U' b → foot U b) → (∀ ns, (∀ i ∈ slotsN is, i ∈ ns) → wipe σ' ns = wipe σ ns) → Q σ' H) → gNest K is xs σ H Q
  | [], l, xs, σ, ρ, ρ1, U, Q, e, n, _, R0, _, q => by
    cases l with
    | cons _ _ => simp [asgN] at e
    | nil =>
      simp only [asgN, Option.some.injEq] at e
      subst e
      have ex : xs = [] := List.length_eq_zero_iff.mp (by simpa using n)
      subst ex
      exact ⟨rfl, q σ U Kept.refl R0 (fun _ h => h) fun _ _ => rfl⟩
  | .inl i :: is, l, xs, σ, ρ, ρ1, U, Q, e, n, it, R0, nf, q => by
    cases l with
    | nil => simp [asgN] at e
    | cons d l =>
      cases xs with
      | nil => simp at n
      | cons x xs =>
        simp only [asgN] at e
        refine ⟨x, xs, rfl, ?_⟩
        show gNest K is xs (σ.set i (some x)) H Q
        have R1 := R0.put (i := i) (.frz (T := fun _ => False) (it 0 x d rfl rfl)) (fun _ q => q.elim) fun _ q => q.elim
        refine nest_put (is := is) e (by simpa using n) (fun j v d' e1 e2 => it (j + 1) v d' (by simpa using e1) (by simpa using e2)) R1 (fun j hj => nf j (List.mem_cons_of_mem _ hj)) fun σ' U' k' R' fu wp => ?_
        refine q σ' U' ((Kept.set (nf i List.mem_cons_self)).trans k') R' (fun b hb => foot_updU (fun _ q => q.elim) b (fu b hb)) fun ns hns => ?_
        rw [wp ns fun j hj => hns j (List.mem_cons_of_mem _ hj)]
        exact row_put.wipe_set (hns i List.mem_cons_self)
  | .inr js :: is, l, xs, σ, ρ, ρ1, U, Q, e, n, it, R0, nf, q => by
    cases l with
    | nil => simp [asgN] at e
    | cons d l =>
      cases xs with
      | nil => simp at n
      | cons x xs =>
        simp only [asgN] at e
        split at e <;> first | contradiction | skip
        rename_i ρ2 e2
        unfold asgR at e2
        split at e2 <;> first | contradiction | skip
        rename_i m em
        split at e2 <;> first | contradiction | skip
        rename_i hm
        cases e2
        obtain ⟨a, ys, rfl, sq, n2, it2, _⟩ := (it 0 x d rfl rfl).items em
        refine ⟨.ref a, xs, rfl, a, ys, rfl, ?_, by omega, row_put (fx := fx) (by omega) n2 it2 R0 (fun i hi => nf i (List.mem_append_left _ hi)) fun σ1 U1 k1 R1 f1 w1 => ?_⟩
        · rcases sq with sq | sq
          · exact .inl (Same.seq R0.sub sq)
          · exact .inr (Same.seqT R0.sub sq)
        refine nest_put (is := is) e (by simpa using n) (fun j v d' e1 e2 => it (j + 1) v d' (by simpa using e1) (by simpa using e2)) R1 (fun j hj => nf j (List.mem_append_right _ hj)) fun σ' U' k' R' fu wp => ?_
        refine q σ' U' (k1.trans k') R' (fun b hb => f1 b (fu b hb)) fun ns hns => ?_
        rw [wp ns fun j hj => hns j (List.mem_append_right _ hj), w1 ns fun j hj => hns j (List.mem_append_left _ hj)]
inductive TgOk (X : Cx) (fx : Fix) : Tg → Expr → Prop where
  | name {i : Nat} {x : Str} {p : Pos} (hi : X.N[i]? = some x) (hx : Loc X.env.scope x) (hf : X.fn x = true ∨ X.env.scope.names.lookup x = some .local) (nf : ¬ fx i) : TgOk X fx (.name i) (.Name x p)
  | tup {is : List Nat} {es : List Expr} {k : Nat} {p : Pos} (r : NameRow X fx is es) : TgOk X fx (.tup is) (.Tuple es k p)
  | nest {is : List (Nat ⊕ List Nat)} {es : List Expr} {k : Nat} {p : Pos} (r : NestRow X fx is es) : TgOk X fx (.nest is) (.Tuple es k p)
theorem TgOk.pg {X : Cx} {fx : Fix} {t : Tg} {tg : Expr} (hc : X.calm = true) (hN : X.N.Nodup) (h : TgOk X fx t tg) : PG X tg (gOf X.K t) := by
  cases h with
  | name hi hx hf nf => exact pg_name hN hi hx hf
  | tup r => exact pg_any hc (r.pgs hN) r.len r.noStar
  | nest r => exact pg_any hc (r.pgs hc hN) r.len r.noStar
theorem TgOk.free {X : Cx} {fx : Fix} {t : Tg} {tg : Expr} (h : TgOk X fx t tg) : ∀ i ∈ slotsT t, ¬ fx i := by
  cases h with
  | name hi hx hf nf =>
    intro i hi'
    rcases List.mem_singleton.mp hi' with rfl
    exact nf
  | tup r => exact r.free
  | nest r => exact r.free
theorem asg_put {K : PySem.W.Frag} {Hf H : Hp} {Q : L2.St → Hp → Prop} {fx : Fix} {t : Tg} {σ : L2.St} {ρ ρ1 : Env} {U : UU} {x : V} {d : D} (R : Rel K Hf H ρ σ U) (rx : Rep K Hf x d) (nf : ∀ i ∈ slotsT t, ¬ fx i) (e : asgT t d ρ = some ρ1)
    (q : ∀ σ' U', Kept fx σ σ' → Rel K Hf H ρ1 σ' U' → (∀ b, foot U' b → foot U b) → (∀ ns, (∀ i ∈ slotsT t, i ∈ ns) → wipe σ' ns = wipe σ ns) → Q σ' H) : gOf K t x σ H Q := by
  cases t with
  | name i =>
    simp only [asgT, Option.some.injEq] at e
    subst e
    exact q _ _ (Kept.set (nf i (List.mem_singleton.mpr rfl))) (R.put (.frz (T := fun _ => False) rx) (fun _ q => q.elim) fun _ q => q.elim) (foot_updU fun _ q => q.elim) fun ns hns => row_put.wipe_set (hns i (List.mem_singleton.mpr rfl))
  | tup is =>
    simp only [asgT] at e
    split at e <;> first | contradiction | skip
    rename_i l el
    split at e <;> first | contradiction | skip
    rename_i hl
    cases e
    obtain ⟨a, xs, rfl, sq, n, it, _⟩ := rx.items el
    refine ⟨a, xs, rfl, ?_, by omega, row_put (by omega) n it R nf q⟩
    rcases sq with sq | sq
    · exact .inl (Same.seq R.sub sq)
    · exact .inr (Same.seqT R.sub sq)
  | nest is =>
    simp only [asgT] at e
    split at e <;> first | contradiction | skip
    rename_i l el
    split at e <;> first | contradiction | skip
    rename_i hl
    obtain ⟨a, xs, rfl, sq, n, it, _⟩ := rx.items el
    refine ⟨a, xs, rfl, ?_, by omega, nest_put e n it R nf q⟩
    rcases sq with sq | sq
    · exact .inl (Same.seq R.sub sq)
    · exact .inr (Same.seqT R.sub sq)

section
variable {X : Cx} {ct : Str → Option Addr} {W : WX} {fx : Fix} {a b c e tg iter elt : Expr} {ma mb mc : Env → R D} {mf : Env → R O} {mi : Env → R (List D)} {ms : Env → R Fl} {pos : Pos} {body : List Stmt} {t : Tg}
/-- what a walk's turn leaves -/
theorem feed_rel {K : PySem.W.Frag} {Hf1 H1 Hf2 H2 : Hp} {ρ : Env} {σ : L2.St} {U : UU} (R : Rel K Hf1 H1 ρ σ U) (h : (Hf2 = Hf1 ∧ H2 = H1) ∨ ∃ T o, H1 T = none ∧ Hf2 = upd Hf1 T o ∧ H2 = upd H1 T o) : Rel K Hf2 H2 ρ σ U ∧ Step Hf1 H1 (foot U) Hf2 H2 (foot U) := by
  rcases h with ⟨rfl, rfl⟩ | ⟨T, o, hT, rfl, rfl⟩
  · exact ⟨R, Step.refl⟩
  · exact ⟨R.newF hT, Step.newF R.sub hT⟩
theorem s_for (hp : PassesOwn (model X.prog X.w) X.A X.env X.xe) (hc : X.calm = true) (hN : X.N.Nodup) (hi : PI X tg iter (tI X.K ct W mi)) (hg : TgOk X fx t tg) (hb : PSs X body (tS X.K ct W fx ms)) (hs : ∀ x, foldedSetIterable iter X.env x = pure x) :
    PS X (.For tg iter body [] pos) (tS X.K ct W fx fun ρ => (mi ρ).bind fun ds ρ => loopL (asgT t) ms ds ρ) := (ps_for hp hc hi (hg.pg hc hN) hb hs).weak fun D σ H h => by
  obtain ⟨Hf, ρ, U, R0, p⟩ := h
  refine ⟨Hf, ρ, U, R0, p.bndE fun ds ρ1 Hf1 H1 U1 R1 S1 p1 J fd => ?_⟩
  refine ⟨fun i m σ' H' => m = ds.length - i ∧ i ≤ ds.length ∧ ∃ Hf' ρ' U', Rel X.K Hf' H' ρ' σ' U' ∧ Same Hf1 Hf' ∧ PostS X.K ct W fx σ' Hf' H' U' D (loopL (asgT t) ms (ds.drop i) ρ'), ⟨ds.length, by simp, Nat.zero_le _, Hf1, ρ1, U1, R1, Same.refl _, p1.from Kept.refl S1⟩, ?_⟩
  rintro i m σ' H' ⟨rfl, hi', Hf', ρ', U', R', sm, p'⟩
  by_cases hlt : i < ds.length
  · refine .inr ⟨fd.go i hlt H' (sm.trans R'.sub), _, fun σ'' H'' h => ⟨ds.length - (i + 1), by omega, h⟩, fun x H2 y => ?_⟩
    obtain ⟨d, Hf2, ed, rx, st⟩ := fd.yld i Hf' H' x H2 hlt sm R'.sub y
    obtain ⟨R2, S2⟩ := feed_rel R' st
    have ed' : ds[i] = d := by
      rw [List.getElem?_eq_getElem hlt] at ed
      exact Option.some.inj ed
    rw [List.drop_eq_getElem_cons hlt, ed'] at p'
    simp only [loopL] at p'
    split at p' <;> first | exact p'.elim | skip
    rename_i ρ2 e2
    refine asg_put R2 rx hg.free e2 fun σ2 U2 k2 R3 fu _ => ⟨Hf2, ρ2, U2, R3, ?_⟩
    have S3 : Step Hf' H' (foot U') Hf2 H2 (foot U2) := ⟨S2.mono, S2.dom, S2.frame, fun b q => S2.foot b (fu b q)⟩
    cases eb : ms ρ2 with
    | bad => rw [eb] at p'; exact p'
    | exc x ρ3 =>
      rw [eb] at p'
      exact fun σ3 Hf3 H3 U3 k3 R4 S4 => p' σ3 Hf3 H3 U3 (k2.trans k3) R4 (S3.trans S4)
    | ok fl ρ3 =>
      rw [eb] at p'
      intro σ3 Hf3 H3 U3 k3 R4 S4
      cases fl with
      | nx => exact ⟨rfl, hlt, Hf3, ρ3, U3, R4, (sm.trans S3.mono).trans S4.mono, PostS.from p' (k2.trans k3) (S3.trans S4)⟩
      | ct => exact ⟨rfl, hlt, Hf3, ρ3, U3, R4, (sm.trans S3.mono).trans S4.mono, PostS.from p' (k2.trans k3) (S3.trans S4)⟩
      | brk => exact p' σ3 Hf3 H3 U3 (k2.trans k3) R4 (S3.trans S4)
      | ret o =>
        intro v T ov tv
        exact PostS.from (σ1 := σ2) (r := .ok (.ret o) ρ3) p' k2 S3 σ3 Hf3 H3 U3 k3 R4 S4 v T ov tv
  · have e : i = ds.length := by omega
    subst e
    refine .inl ⟨fd.stop H' (sm.trans R'.sub), ?_⟩
    rw [List.drop_length] at p'
    exact p' σ' Hf' H' U' Kept.refl R' Step.refl
theorem s_while {nt : Env → R Bool} (hp : PassesOwn (model X.prog X.w) X.A X.env X.xe) (hc : PT X c (tT X.K ct W nt)) (hb : PSs X body (tS X.K ct W fx ms)) : PS X (.While c body [] pos) (tS X.K ct W fx fun ρ => whlS nt ms ρ) := (ps_while hp hc hb).weak fun D σ H h => by
  obtain ⟨Hf, ρ, U, R0, p⟩ := h
  have nb : whlS nt ms ρ ≠ .bad := fun e => by
    dsimp only at p
    rw [e] at p
    exact p
  obtain ⟨n, hn⟩ := whlS_iter nb
  refine ⟨fun m σ' H' => ∃ Hf' ρ' U' r, Rel X.K Hf' H' ρ' σ' U' ∧ iterW nt ms m ρ' = some r ∧ PostS X.K ct W fx σ' Hf' H' U' D r, ⟨n, Hf, ρ, U, _, R0, hn, p⟩, ?_⟩
  rintro m σ' H' ⟨Hf', ρ', U', r, R', hit, p'⟩
  cases m with
  | zero => simp [iterW] at hit
  | succ m =>
    simp only [iterW] at hit
    refine ⟨Hf', ρ', U', R', ?_⟩
    cases ec : nt ρ' with
    | bad =>
      rw [ec] at hit
      cases hit
      exact p'
    | exc x ρ1 =>
      rw [ec] at hit
      cases hit
      exact fun Hf2 H2 U2 R2 S2 => p' σ' Hf2 H2 U2 Kept.refl R2 S2
    | ok b ρ1 =>
      rw [ec] at hit
      intro Hf2 H2 U2 R2 S2
      cases b with
      | false =>
        cases hit
        simp only [Bool.false_eq_true, if_false]
        exact p' σ' Hf2 H2 U2 Kept.refl R2 S2
      | true =>
        simp only [if_true]
        refine ⟨fun σ'' H'' => ∃ Hf' ρ' U' r, Rel X.K Hf' H'' ρ' σ'' U' ∧ iterW nt ms m ρ' = some r ∧ PostS X.K ct W fx σ'' Hf' H'' U' D r, fun σ'' H'' h => ⟨m, Nat.lt_succ_self _, h⟩, Hf2, ρ1, U2, R2, ?_⟩
        simp only at hit
        cases eb : ms ρ1 with
        | bad => rw [eb] at hit; cases hit; exact p'
        | exc x ρ2 => rw [eb] at hit; cases hit; exact fun σ3 Hf3 H3 U3 k3 R3 S3 => p' σ3 Hf3 H3 U3 k3 R3 (S2.trans S3)
        | ok fl ρ2 =>
          rw [eb] at hit
          intro σ3 Hf3 H3 U3 k3 R3 S3
          cases fl with
          | nx => exact ⟨Hf3, ρ2, U3, r, R3, hit, p'.from k3 (S2.trans S3)⟩
          | ct => exact ⟨Hf3, ρ2, U3, r, R3, hit, p'.from k3 (S2.trans S3)⟩
          | brk => cases hit; exact p' σ3 Hf3 H3 U3 k3 R3 (S2.trans S3)
          | ret o =>
            cases hit
            intro v T ov tv
            exact PostS.from (σ1 := σ') (r := .ok (.ret o) ρ2) p' Kept.refl S2 σ3 Hf3 H3 U3 k3 R3 S3 v T ov tv
end
end Tr
set_option Elab.async false
set_option linter.all false
set_option maxRecDepth 100000
set_option maxHeartbeats 4000000
/-! TrC12: comprehensions. -/
namespace Tr
open PySem PySem.Spec PyProof.Rows L2

def WF : WX := fun _ _ _ _ => False
open Classical in
noncomputable def wipeU (own : List Nat) (U : UU) : UU := fun i => if i ∈ own then (fun _ => False) else U i
theorem wipeU_in {own : List Nat} {U : UU} {i : Nat} {b : Addr} (h : wipeU own U i b) : i ∉ own ∧ U i b := by
  unfold wipeU at h
  split at h
  · exact h.elim
  · rename_i h1; exact ⟨h1, h⟩
theorem wipeU_out {own : List Nat} {U : UU} {i : Nat} (h : i ∉ own) : wipeU own U i = U i := by unfold wipeU; rw [if_neg h]
open Classical in
noncomputable def keepU (own : List Nat) (U0 U : UU) : UU := fun i => if i ∈ own then U0 i else U i
theorem keepU_in {own : List Nat} {U0 U : UU} {i : Nat} (h : i ∈ own) : keepU own U0 U i = U0 i := by unfold keepU; rw [if_pos h]
theorem keepU_out {own : List Nat} {U0 U : UU} {i : Nat} (h : i ∉ own) : keepU own U0 U i = U i := by unfold keepU; rw [if_neg h]
theorem wipeE_len : ∀ {own : List Nat} {ρ : Env}, (wipeE own ρ).length = ρ.length
  | [], _ => rfl
  | _ :: r, ρ => by unfold wipeE; rw [List.length_set, wipeE_len (own := r)]
theorem wipeE_some {i : Nat} {o : O} : ∀ {own : List Nat} {ρ : Env}, (wipeE own ρ)[i]? = some (some o) → ρ[i]? = some (some o) ∧ i ∉ own
  | [], ρ, h => ⟨h, by simp⟩
  | v :: vs, ρ, h => by
    unfold wipeE at h
    by_cases hi : v = i
    · subst hi
      by_cases hv : v < (wipeE vs ρ).length
      · rw [List.getElem?_set_self hv] at h; cases h
      · rw [List.getElem?_eq_none (by simpa using hv)] at h; cases h
    · rw [List.getElem?_set_ne hi] at h
      obtain ⟨h1, h2⟩ := wipeE_some h
      exact ⟨h1, by simp only [List.mem_cons, not_or]; exact ⟨fun e => hi e.symm, h2⟩⟩
theorem keepE_len : ∀ {own : List Nat} {ρ0 ρ : Env}, (keepE own ρ0 ρ).length = ρ.length
  | [], _, _ => rfl
  | _ :: r, _, ρ => by unfold keepE; rw [List.length_set, keepE_len (own := r)]
theorem keepE_some {i : Nat} {o : O} : ∀ {own : List Nat} {ρ0 ρ : Env}, (keepE own ρ0 ρ)[i]? = some (some o) → (i ∈ own ∧ ρ0[i]? = some (some o)) ∨ (i ∉ own ∧ ρ[i]? = some (some o))
  | [], ρ0, ρ, h => .inr ⟨by simp, h⟩
  | v :: vs, ρ0, ρ, h => by
    unfold keepE at h
    rcases set_get h with ⟨rfl, e⟩ | ⟨ne, e⟩
    · left
      refine ⟨List.mem_cons_self, ?_⟩
      cases q : ρ0[i]? with
      | none => rw [q] at e; cases e
      | some w => rw [q] at e; exact congrArg some e.symm
    · rcases keepE_some e with ⟨h1, h2⟩ | ⟨h1, h2⟩
      · exact .inl ⟨List.mem_cons_of_mem _ h1, h2⟩
      · exact .inr ⟨by simp only [List.mem_cons, not_or]; exact ⟨ne, h1⟩, h2⟩
theorem wipe_in {σ : L2.St} {i : Nat} : ∀ {ns : List Nat}, i ∈ ns → i < σ.length → (wipe σ ns)[i]? = some none
  | [], h, _ => nomatch h
  | v :: vs, h, hl => by
    unfold wipe
    by_cases e : v = i
    · subst e
      rw [List.getElem?_set_self (by rw [wipe_length]; exact hl)]
    · rw [List.getElem?_set_ne e]
      exact wipe_in ((List.mem_cons.mp h).elim (fun z => absurd z.symm e) id) hl
theorem wipe_wipe {σ : L2.St} {ns : List Nat} : wipe (wipe σ ns) ns = wipe σ ns := by
  apply List.ext_getElem?
  intro i
  by_cases hi : i ∈ ns
  · by_cases hl : i < σ.length
    · rw [wipe_in hi (by rw [wipe_length]; exact hl), wipe_in hi hl]
    · rw [List.getElem?_eq_none (by rw [wipe_length, wipe_length]; omega), List.getElem?_eq_none (by rw [wipe_length]; omega)]
  · rw [wipe_out hi]
theorem foot_wipeU {own : List Nat} {U : UU} : ∀ b, foot (wipeU own U) b → foot U b := fun b ⟨i, h⟩ => ⟨i, (wipeU_in h).2⟩
theorem Rel.wiped {K : PySem.W.Frag} {Hf H : Hp} {ρ : Env} {σ : L2.St} {U : UU} (R : Rel K Hf H ρ σ U) (own : List Nat) : Rel K Hf H (wipeE own ρ) (wipe σ own) (wipeU own U) :=
  ⟨R.sub, by rw [wipeE_len, wipe_length]; exact R.len, fun i o e => by
    obtain ⟨h1, h2⟩ := wipeE_some e
    obtain ⟨v, h3, h4⟩ := R.own i o h1
    exact ⟨v, by rw [wipe_out h2]; exact h3, by rw [wipeU_out h2]; exact h4⟩, fun i j b hne h1 h2 => R.dj i j b hne (wipeU_in h1).2 (wipeU_in h2).2, fun i b h => R.alive i b (wipeU_in h).2⟩
theorem compL_exc {own : List Nat} {asg : D → Env → Option Env} {tst : Env → R Bool} {elt : Env → R O} {x : Ex} {ρ2 : Env} : ∀ {ds : List D} {ρ : Env}, compL own asg tst elt ds ρ ≠ .exc x ρ2
  | [], ρ, h => by simp [compL] at h
  | d :: ds, ρ, h => by
    unfold compL at h
    split at h
    · cases h
    · rename_i ρ1 e1
      cases et : tst ρ1 with
      | bad => rw [et] at h; cases h
      | exc x' ρ' => rw [et] at h; cases h
      | ok b ρ3 =>
        rw [et] at h
        simp only [R.calm_ok, R.bind_ok] at h
        split at h
        · cases ee : elt ρ3 with
          | bad => rw [ee] at h; cases h
          | exc x' ρ' => rw [ee] at h; cases h
          | ok o ρ4 =>
            rw [ee] at h
            simp only [R.calm_ok, R.bind_ok] at h
            cases ec : compL own asg tst elt ds (wipeE own ρ4) with
            | bad => rw [ec] at h; cases h
            | exc x' ρ' => exact compL_exc ec
            | ok l ρ5 => rw [ec] at h; cases h
        · exact compL_exc h
/-- the owned rows grow by one -/
structure Acc (K : PySem.W.Frag) (D : Addr) (Hf1 H1 : Hp) (Fw : Addr → Prop) (Hf H : Hp) (U : UU) (os : List O) (acc : List V) (Y : UU) : Prop where
  at_ : H D = some (.lst acc)
  ow : Owns K Hf H acc os Y
  ap : ∀ i b, Y i b → b ≠ D ∧ ¬ foot U b ∧ H b ≠ none ∧ (Fw b ∨ H1 b = none)
  nf : Hf D = none
  nu : ¬ foot U D
  fr : H1 D = none
theorem Acc.step {K : PySem.W.Frag} {D : Addr} {Hf1 H1 : Hp} {Fw : Addr → Prop} {Hf H : Hp} {U : UU} {os : List O} {acc : List V} {Y : UU} {Hf' H' : Hp} {U' : UU} (h : Acc K D Hf1 H1 Fw Hf H U os acc Y) (S : Step Hf H (foot U) Hf' H' (foot U')) : Acc K D Hf1 H1 Fw Hf' H' U' os acc Y := by
  obtain ⟨h1, h2, h3, nf, nu, fr⟩ := h
  have lv : ∀ b, ¬ foot U b → H b ≠ none → H' b ≠ none := fun b n q => by
    cases e : H b with
    | none => exact absurd e q
    | some u => rw [S.frame b u n e]; exact fun z => by cases z
  refine ⟨S.frame _ _ nu h1, ⟨h2.len, fun i v o e1 e2 => (h2.own i v o e1 e2).step S fun b t => (h3 i b t).2.1, h2.dj⟩, fun i b t => ?_, ?_, ?_, fr⟩
  · obtain ⟨q1, q2, q3, q4⟩ := h3 i b t
    exact ⟨q1, fun z => (S.foot b z).elim q2 q3, lv b q2 q3, q4⟩
  · cases e : Hf' D with
    | none => rfl
    | some u =>
      rcases S.dom D u e with z | z | z
      · rw [nf] at z; cases z
      · rw [h1] at z; cases z
      · exact (nu z).elim
  · exact fun z => (S.foot D z).elim nu fun q => by rw [h1] at q; cases q
section
variable {X : Cx} {ct : Str → Option Addr} {W : WX} {ms : Env → R O} {mi : Env → R (List D)} {nt : Env → R Bool} {t : Tg} {own : List Nat}
theorem comp_sem {K : PySem.W.Frag} (hts : ∀ i ∈ slotsT t, i ∈ own) {σ : L2.St} {H : Hp} {Q : VK}
    (h : tF K ct W (fun ρ => (mi ρ).bind fun ds ρ => (compL own (asgT t) nt ms ds (wipeE own ρ)).bind fun l ρ' => if l.length ≤ line then .ok (.box l) (keepE own ρ ρ') else .bad) σ H Q) :
    tLc (tI K ct W mi) (gOf K t) (tT K ct WF nt) (tF K ct WF ms) own σ H Q := by
  obtain ⟨Hf, ρ, U, R0, p⟩ := h
  refine ⟨Hf, ρ, U, R0, p.then fun ds ρ1 Hf1 H1 U1 R1 S1 p1 J fd D hD => ?_⟩
  have Rw := (R1.wiped own).new (o' := .lst []) hD
  have SU : Step Hf1 H1 (foot (wipeU own U1)) Hf1 (upd H1 D (.lst [])) (foot (wipeU own U1)) := Step.new hD
  have nU : ∀ b, foot U1 b → H1 b ≠ none := fun b ⟨i, q⟩ => R1.alive i b q
  let fin : List O → Env → R O := fun l ρ' => if l.length ≤ line then .ok (.box l) (keepE own ρ1 ρ') else .bad
  refine ⟨fun i m H' => m = ds.length - i ∧ i ≤ ds.length ∧ ∃ Hf' ρ' U' os acc Y, Rel K Hf' H' ρ' (wipe σ own) U' ∧ (∀ i ∈ own, ∀ b, ¬ U' i b) ∧ Step Hf1 H1 (foot (wipeU own U1)) Hf' H' (foot U') ∧
    Acc K D Hf1 H1 (foot (wipeU own U1)) Hf' H' U' os acc Y ∧ Post K σ Hf1 H1 U1 (EW K ct W σ) (fun o _ Hf' H' U' => ∀ v T, Own K Hf' H' v o T → (∀ b, T b → ¬ foot U' b ∧ H' b ≠ none ∧ (foot U b ∨ H b = none)) → Q v H')
      ((compL own (asgT t) nt ms (ds.drop i) ρ').bind fun l ρe => fin (os ++ l) ρe), ⟨_, rfl, Nat.zero_le _, Hf1, _, _, [], [], fun _ _ => False, Rw, fun i hi b q => (wipeU_in q).1 hi, SU,
      ⟨upd_same, ⟨rfl, fun i v o e => by simp at e, fun _ _ _ _ q => q.elim⟩, fun _ _ q => q.elim, R1.sub.free hD, fun q => nU D (foot_wipeU _ q) hD, hD⟩, p1⟩, ?_⟩
  rintro i m H' ⟨rfl, hi', Hf', ρ', U', os, acc, Y, R', nw, S', ac, p'⟩
  by_cases hlt : i < ds.length
  · refine .inr ⟨fd.go i hlt H' (S'.mono.trans R'.sub), _, fun H'' h => ⟨ds.length - (i + 1), by omega, rfl, hlt, h⟩, fun x H2 y => ?_⟩
    obtain ⟨d, Hf2, ed, rx, st⟩ := fd.yld i Hf' H' x H2 hlt S'.mono R'.sub y
    obtain ⟨R2, S2⟩ := feed_rel R' st
    have ed' : ds[i] = d := by
      rw [List.getElem?_eq_getElem hlt] at ed
      exact Option.some.inj ed
    rw [List.drop_eq_getElem_cons hlt, ed'] at p'
    unfold compL at p'
    split at p' <;> first | exact p'.elim | skip
    rename_i ρ2 e2
    refine asg_put (fx := fun _ => False) R2 rx (fun _ _ q => q) e2 fun σ2 U2 k2 R3 fu wp => ?_
    have ew : wipe σ2 own = wipe σ own := (wp own hts).trans wipe_wipe
    refine ⟨ew, Hf2, ρ2, U2, R3, ?_⟩
    have S3 : Step Hf' H' (foot U') Hf2 H2 (foot U2) := ⟨S2.mono, S2.dom, S2.frame, fun b q => S2.foot b (fu b q)⟩
    cases et : nt ρ2 with
    | bad => rw [et] at p'; exact p'
    | exc x' ρ3 => rw [et] at p'; exact p'.elim
    | ok b ρ3 =>
      rw [et] at p'
      intro Hf3 H3 U3 R4 S4
      have S5 := S3.trans S4
      simp only [R.calm_ok, R.bind_ok] at p'
      have fw : ∀ b, foot (wipeU own U3) b → foot U3 b := foot_wipeU
      cases b with
      | false =>
        simp only [Bool.false_eq_true, if_false] at p' ⊢
        have S6 : Step Hf' H' (foot U') Hf3 H3 (foot (wipeU own U3)) := ⟨S5.mono, S5.dom, S5.frame, fun b q => S5.foot b (fw b q)⟩
        exact ⟨Hf3, _, _, os, acc, Y, ew ▸ R4.wiped own, fun i hi b q => (wipeU_in q).1 hi, S'.trans S6, ac.step S6, p'⟩
      | true =>
        simp only [if_true] at p' ⊢
        refine ⟨Hf3, ρ3, U3, R4, ?_⟩
        cases ee : ms ρ3 with
        | bad => rw [ee] at p'; exact p'
        | exc x' ρ4 => rw [ee] at p'; exact p'.elim
        | ok o ρ4 =>
          rw [ee] at p'
          simp only [R.calm_ok, R.bind_ok] at p'
          intro Hf4 H4 U4 R5 S7 v T ov tv
          have S8 := S5.trans S7
          have S9 : Step Hf' H' (foot U') Hf4 H4 (foot (wipeU own U4)) := ⟨S8.mono, S8.dom, S8.frame, fun b q => S8.foot b (foot_wipeU b q)⟩
          have e3 : ((compL own (asgT t) nt ms (ds.drop (i + 1)) (wipeE own ρ4)).bind fun l ρ4 => .ok (o :: l) ρ4).bind (fun l ρe => fin (os ++ l) ρe) = (compL own (asgT t) nt ms (ds.drop (i + 1)) (wipeE own ρ4)).bind fun l ρe => fin ((os ++ [o]) ++ l) ρe := by
            cases compL own (asgT t) nt ms (ds.drop (i + 1)) (wipeE own ρ4) with
            | bad => rfl
            | exc x' ρ' => rfl
            | ok l ρ' => simp only [R.bind_ok, List.append_assoc, List.cons_append, List.nil_append]
          rw [e3] at p'
          have lo : os.length < line := by
            cases ec : compL own (asgT t) nt ms (ds.drop (i + 1)) (wipeE own ρ4) with
            | bad => rw [ec] at p'; exact p'.elim
            | exc x' ρ' => exact (compL_exc ec).elim
            | ok l ρ' =>
              rw [ec] at p'
              by_cases hn : ((os ++ [o]) ++ l).length ≤ line
              · simp only [List.length_append, List.length_cons, List.length_nil] at hn; omega
              · have e4 : fin ((os ++ [o]) ++ l) ρ' = .bad := if_neg hn
                rw [R.bind_ok, e4] at p'
                exact p'.elim
          have ac4 := ac.step S8
          have ac3 := ac.step S5
          obtain ⟨h1, h2, h3, nf, nu, fr⟩ := ac4
          obtain ⟨g1, g2, g3, nf3, nu3, _⟩ := ac3
          have SD := S'.trans S5
          have tD : ∀ b, T b → b ≠ D := fun b tb e => by
            subst e
            rcases (tv b tb).2.2 with z | z
            · exact nu3 z
            · rw [g1] at z; cases z
          refine ⟨acc, h1, by rw [h2.len]; exact lo, Hf4, wipeE own ρ4, wipeU own U4, os ++ [o], acc ++ [v], fun j => if j < os.length then Y j else if j = os.length then T else fun _ => False, ?_, fun i hi b q => (wipeU_in q).1 hi, ?_, ⟨upd_same, ?_, ?_, nf, fun q => nu (foot_wipeU _ q), fr⟩, p'⟩
          · have Rx := R5.wiped own
            rw [ew] at Rx
            refine ⟨sub_chg Rx.sub nf, Rx.len, fun j o' e => ?_, Rx.dj, fun j b q => upd_alive (Rx.alive j b q)⟩
            obtain ⟨w, w1, w2⟩ := Rx.own j o' e
            exact ⟨w, w1, own_chg (fun b t e => nu (foot_wipeU D ⟨j, e ▸ t⟩)) w2⟩
          · have S10 := S'.trans S9
            exact ⟨S10.mono, S10.dom, fun b u n q => by rw [upd_ne (ne_of_none q hD)]; exact S10.frame b u n q, S10.foot⟩
          · have yt : ∀ i b, Y i b → ¬ T b := fun j b yb tb => (tv b tb).2.2.elim (g3 j b yb).2.1 (g3 j b yb).2.2.1
            have oo : Owns K Hf4 (upd H4 D (.lst (acc ++ [v]))) (acc ++ [v]) (os ++ [o]) (fun i => if i < os.length then Y i else if i = os.length then T else fun _ => False) := by
              have q := app_cond h2 ov yt
              refine ⟨q.len, fun j v' o' e1 e2 => own_chg (fun b t => ?_) (q.own j v' o' e1 e2), q.dj⟩
              split at t
              · exact (h3 _ _ t).1
              · split at t
                · exact tD b t
                · exact t.elim
            exact oo
          · intro j b t
            have g : b ≠ D ∧ ¬ foot U4 b ∧ H4 b ≠ none ∧ (foot (wipeU own U1) b ∨ H1 b = none) := by
              split at t
              · exact h3 _ _ t
              · split at t
                · refine ⟨tD b t, (tv b t).1, (tv b t).2.1, ?_⟩
                  rcases (tv b t).2.2 with z | z
                  · exact SD.foot b z
                  · exact SD.old z
                · exact t.elim
            exact ⟨g.1, fun q => g.2.1 (foot_wipeU _ q), upd_alive g.2.2.1, g.2.2.2⟩
  · have e : i = ds.length := by omega
    subst e
    refine .inl ⟨fd.stop H' (S'.mono.trans R'.sub), ?_⟩
    rw [List.drop_length] at p'
    simp only [compL, R.bind_ok, List.append_nil] at p'
    by_cases hn : os.length ≤ line
    · have e4 : fin os ρ' = .ok (.box os) (keepE own ρ1 ρ') := if_pos hn
      rw [e4] at p'
      obtain ⟨h1, h2, h3, nf, nu, fr⟩ := ac
      have kin : ∀ j ∈ own, ∀ b, U1 j b → ¬ foot (wipeU own U1) b := fun j hj b q ⟨k, z⟩ => by
        obtain ⟨z1, z2⟩ := wipeU_in z
        exact R1.dj j k b (fun e => z1 (e ▸ hj)) q z2
      have lv : ∀ b, ¬ foot (wipeU own U1) b → H1 b ≠ none → H' b ≠ none := fun b n q => by
        cases e : H1 b with
        | none => exact absurd e q
        | some u => rw [S'.frame b u n e]; exact fun z => by cases z
      have fk : ∀ b, foot (keepU own U1 U') b → (∃ j ∈ own, U1 j b) ∨ foot U' b := fun b ⟨j, q⟩ => by
        by_cases hj : j ∈ own
        · rw [keepU_in hj] at q; exact .inl ⟨j, hj, q⟩
        · rw [keepU_out hj] at q; exact .inr ⟨j, q⟩
      refine p' Hf' H' (keepU own U1 U') ?_ ?_ (.ref D) (fun b => b = D ∨ ∃ j, Y j b) (.box Y h1 nf (.inl rfl) h2.len h2.own h2.dj fun j b q => ⟨.inr ⟨j, q⟩, (h3 j b q).1⟩) ?_
      · refine ⟨R'.sub, by rw [keepE_len, R'.len, wipe_length], fun j o e => ?_, fun j k b hne q1 q2 => ?_, fun j b q => ?_⟩
        · rcases keepE_some e with ⟨hj, e1⟩ | ⟨hj, e1⟩
          · obtain ⟨v, v1, v2⟩ := R1.own j o e1
            rw [keepU_in hj]
            exact ⟨v, v1, v2.step S' (kin j hj)⟩
          · obtain ⟨v, v1, v2⟩ := R'.own j o e1
            rw [keepU_out hj]
            exact ⟨v, by rw [wipe_out hj] at v1; exact v1, v2⟩
        · have mix : ∀ j k, j ∈ own → U1 j b → U' k b → False := fun j k hj z1 z2 => by
            rcases S'.foot b ⟨k, z2⟩ with z | z
            · exact kin j hj b z1 z
            · exact R1.alive j b z1 z
          by_cases hj : j ∈ own
          · rw [keepU_in hj] at q1
            by_cases hk : k ∈ own
            · rw [keepU_in hk] at q2; exact R1.dj j k b hne q1 q2
            · rw [keepU_out hk] at q2; exact mix j k hj q1 q2
          · rw [keepU_out hj] at q1
            by_cases hk : k ∈ own
            · rw [keepU_in hk] at q2; exact mix k j hk q2 q1
            · rw [keepU_out hk] at q2; exact R'.dj j k b hne q1 q2
        · by_cases hj : j ∈ own
          · rw [keepU_in hj] at q; exact lv b (kin j hj b q) (R1.alive j b q)
          · rw [keepU_out hj] at q; exact R'.alive j b q
      · refine ⟨S'.mono, fun a u q => ?_, fun a u n q => S'.frame a u (fun z => n (foot_wipeU _ z)) q, fun b q => ?_⟩
        · rcases S'.dom a u q with z | z | z
          · exact .inl z
          · exact .inr (.inl z)
          · exact .inr (.inr (foot_wipeU _ z))
        · rcases fk b q with ⟨j, _, z⟩ | z
          · exact .inl ⟨j, z⟩
          · rcases S'.foot b z with w | w
            · exact .inl (foot_wipeU _ w)
            · exact .inr w
      · intro b tb
        have key : ¬ foot U' b ∧ H' b ≠ none ∧ (foot (wipeU own U1) b ∨ H1 b = none) := by
          rcases tb with rfl | ⟨j, tb⟩
          · exact ⟨nu, (by rw [h1]; exact fun z => by cases z), Or.inr fr⟩
          · exact ⟨(h3 j b tb).2.1, (h3 j b tb).2.2.1, (h3 j b tb).2.2.2⟩
        refine ⟨fun z => ?_, key.2.1, ?_⟩
        · rcases fk b z with ⟨j, hj, w⟩ | w
          · rcases key.2.2 with q | q
            · exact kin j hj b w q
            · exact R1.alive j b w q
          · exact key.1 w
        · rcases key.2.2 with q | q
          · exact S1.foot b (foot_wipeU _ q)
          · exact S1.old q
    · have e4 : fin os ρ' = .bad := if_neg hn
      rw [e4] at p'
      exact p'.elim
theorem pts_no {X' : Cx} : PTs X' [] (tT X'.K ct W fun ρ => .ok true ρ) := ⟨fun pins s σ H Q I h => by
  obtain ⟨Hf, ρ, U, R0, p⟩ := h
  exact (pts_nil (X := X')).run pins s σ H Q I (p.ok R0)⟩
/-- the block's context -/
abbrev blkX (X : Cx) (scope : Scope) (s : Shared) (H : Hp) (C : Addr) (cl : List (Str × Addr)) (fp : List Addr) : Cx := X.blk s H scope (compEnvC scope cl C X.env) fp
theorem f_comp {elt tg iter : Expr} {ifs : List Expr} {scope : Scope} {own : List (Str × Nat)} {pos : Pos} (hc : X.calm = true) (hN : X.N.Nodup) (hi : PI X tg iter (tI X.K ct W mi)) (ok : BlkOk X.N X.env.scope scope own)
    (hg : ∀ s H C cl fp, TgOk (blkX X scope s H C cl fp) (fun _ => False) t tg) (ht : ∀ s H C cl fp, PTs (blkX X scope s H C cl fp) ifs (tT X.K ct WF nt)) (he : ∀ s H C cl fp, PE (blkX X scope s H C cl fp) elt (tF X.K ct WF ms))
    (hts : ∀ i ∈ slotsT t, i ∈ own.map (·.2)) (hs : ∀ x, foldedSetIterable iter X.env x = pure x) :
    PE X (.ListComp elt [⟨tg, iter, ifs, 0⟩] scope pos) (tF X.K ct W fun ρ => (mi ρ).bind fun ds ρ => (compL (own.map (·.2)) (asgT t) nt ms ds (wipeE (own.map (·.2)) ρ)).bind fun l ρ' => if l.length ≤ line then .ok (.box l) (keepE (own.map (·.2)) ρ ρ') else .bad) :=
  (pe_lc hc hN hi ok (fun s H C cl fp => TgOk.pg (X := blkX X scope s H C cl fp) hc hN (hg s H C cl fp)) ht he hs).weak fun σ H Q h => comp_sem hts h
theorem s_setLc {i : Nat} {y : Str} {py : Pos} {elt tg iter : Expr} {ifs : List Expr} {scope : Scope} {own : List (Str × Nat)} {pos spos : Pos} {fx : Fix} (hc : X.calm = true) (hN : X.N.Nodup) (hy : X.N[i]? = some y) (hyl : X.env.scope.names.lookup y = some .local)
    (hsw : swapsWith (.ListComp elt [⟨tg, iter, ifs, 0⟩] scope pos) (some (.Name y py)) spos.line X.env = pure true) (hi : PI X tg iter (tI X.K ct W mi)) (ok : BlkOk X.N X.env.scope scope own)
    (hg : ∀ s H C cl fp, TgOk (blkX X scope s H C cl fp) (fun _ => False) t tg) (ht : ∀ s H C cl fp, PTs (blkX X scope s H C cl fp) ifs (tT X.K ct WF nt)) (he : ∀ s H C cl fp, PE (blkX X scope s H C cl fp) elt (tF X.K ct WF ms))
    (hts : ∀ i ∈ slotsT t, i ∈ own.map (·.2)) (hs : ∀ x, foldedSetIterable iter X.env x = pure x) (nf : ¬ fx i) :
    PS X (.Assign [.Name y py] (.ListComp elt [⟨tg, iter, ifs, 0⟩] scope pos) spos) (tS X.K ct W fx fun ρ => ((mi ρ).bind fun ds ρ => (compL (own.map (·.2)) (asgT t) nt ms ds (wipeE (own.map (·.2)) ρ)).bind fun l ρ' => if l.length ≤ line then .ok (.box l) (keepE (own.map (·.2)) ρ ρ') else .bad).bind fun o ρ => .ok .nx (putO ρ i o)) :=
  (ps_setLc hc hN hy hyl hsw hi ok (fun s H C cl fp => TgOk.pg (X := blkX X scope s H C cl fp) hc hN (hg s H C cl fp)) ht he hs).weak fun D σ H h => by
  obtain ⟨Hf, ρ, U, R0, p⟩ := h
  refine comp_sem (W := W) (ct := ct) hts ⟨Hf, ρ, U, R0, p.bndE fun o ρ1 Hf1 H1 U1 R1 S1 q v T ov tv => ?_⟩
  obtain ⟨R2, S2⟩ := take_step (i := i) R1 S1 ov tv
  exact q _ Hf1 H1 _ (Kept.set nf) R2 S2
end
end Tr
set_option Elab.async false
set_option linter.all false
set_option maxRecDepth 100000
set_option maxHeartbeats 4000000
/-! TrC13: calls. -/
namespace Tr
open PySem PySem.Spec PyProof.Rows L2

/-- the by-name parameters' answers, place by place -/
def RefsAt (P : Nat → Option O → Prop) : List Bool → Env → Nat → Prop
  | [], refs, _ => refs = []
  | true :: m, refs, i => ∃ o r, refs = o :: r ∧ P i o ∧ RefsAt P m r (i + 1)
  | false :: m, refs, i => RefsAt P m refs (i + 1)
theorem refsOf_at {P : Nat → Option O → Prop} {ρ : Env} : ∀ {m : List Bool} {i : Nat}, (∀ j, m[j]? = some true → P (i + j) (ρ[i + j]?).join) → RefsAt P m (refsOf ρ m i) i
  | [], i, h => rfl
  | true :: m, i, h => ⟨_, _, rfl, h 0 rfl, refsOf_at fun j e => by rw [show i + 1 + j = i + (j + 1) by omega]; exact h (j + 1) (by simpa using e)⟩
  | false :: m, i, h => refsOf_at (m := m) (i := i + 1) fun j e => by rw [show i + 1 + j = i + (j + 1) by omega]; exact h (j + 1) (by simpa using e)
/-- the caller's side of it -/
theorem RefsAt.get {P : Nat → Option O → Prop} : ∀ {as : List Ag} {refs : Env} {n : Nat}, RefsAt P (modesOf as) refs n → ∀ (j s : Nat) (o : Option O), (slotsR as)[j]? = some s → refs[j]? = some o → ∃ i, as[i]? = some (.r s) ∧ P (n + i) o
  | [], refs, n, h, j, s, o, e1, e2 => by simp [slotsR] at e1
  | .r s0 :: r, refs, n, h, j, s, o, e1, e2 => by
    obtain ⟨o0, r0, rfl, p0, h⟩ := h
    cases j with
    | zero =>
      simp only [slotsR, List.getElem?_cons_zero, Option.some.injEq] at e1 e2
      subst e1; subst e2
      exact ⟨0, rfl, p0⟩
    | succ j =>
      obtain ⟨i, h1, h2⟩ := h.get j s o (by simpa [slotsR] using e1) (by simpa using e2)
      exact ⟨i + 1, by simpa using h1, by rw [show n + (i + 1) = n + 1 + i by omega]; exact h2⟩
  | .d d :: r, refs, n, h, j, s, o, e1, e2 => by
    have h : RefsAt P (modesOf r) refs (n + 1) := h
    obtain ⟨i, h1, h2⟩ := h.get j s o (by simpa [slotsR] using e1) e2
    exact ⟨i + 1, by simpa using h1, by rw [show n + (i + 1) = n + 1 + i by omega]; exact h2⟩
  | .b d :: r, refs, n, h, j, s, o, e1, e2 => by
    have h : RefsAt P (modesOf r) refs (n + 1) := h
    obtain ⟨i, h1, h2⟩ := h.get j s o (by simpa [slotsR] using e1) e2
    exact ⟨i + 1, by simpa using h1, by rw [show n + (i + 1) = n + 1 + i by omega]; exact h2⟩
theorem slotsR_mem : ∀ {as : List Ag} {s i : Nat}, as[i]? = some (.r s) → s ∈ slotsR as
  | [], s, i, h => by simp at h
  | a :: r, s, 0, h => by
    have e : a = .r s := by simpa using h
    subst e
    exact List.mem_cons_self
  | a :: r, s, i + 1, h => by
    have q := slotsR_mem (as := r) (i := i) (s := s) (by simpa using h)
    cases a with
    | d d => exact q
    | r s0 => exact List.mem_cons_of_mem _ q
    | b s0 => exact q
theorem slotsR_uniq : ∀ {as : List Ag} {s i j : Nat}, (slotsR as).Nodup → as[i]? = some (.r s) → as[j]? = some (.r s) → i = j
  | [], s, i, j, _, h, _ => by simp at h
  | a :: r, s, 0, 0, _, _, _ => rfl
  | a :: r, s, 0, j + 1, nd, h1, h2 => by
    have e : a = .r s := by simpa using h1
    subst e
    exact absurd (slotsR_mem (as := r) (i := j) (by simpa using h2)) (List.nodup_cons.mp nd).1
  | a :: r, s, i + 1, 0, nd, h1, h2 => by
    have e : a = .r s := by simpa using h2
    subst e
    exact absurd (slotsR_mem (as := r) (i := i) (by simpa using h1)) (List.nodup_cons.mp nd).1
  | a :: r, s, i + 1, j + 1, nd, h1, h2 => by
    have nd' : (slotsR r).Nodup := by
      cases a with
      | d d => exact nd
      | r s0 => exact (List.nodup_cons.mp nd).2
      | b s0 => exact nd
    exact congrArg Nat.succ (slotsR_uniq (as := r) (s := s) nd' (by simpa using h1) (by simpa using h2))
theorem slotsB_mem : ∀ {as : List Ag} {s i : Nat}, as[i]? = some (.b s) → s ∈ slotsB as
  | [], s, i, h => by simp at h
  | a :: r, s, 0, h => by
    have e : a = .b s := by simpa using h
    subst e
    exact List.mem_cons_self
  | a :: r, s, i + 1, h => by
    have q := slotsB_mem (as := r) (i := i) (s := s) (by simpa using h)
    cases a with
    | d d => exact q
    | r s0 => exact q
    | b s0 => exact List.mem_cons_of_mem _ q
theorem putBack_some {s : Nat} {o : O} : ∀ {is : List Nat} {refs ρ : Env}, is.Nodup → refs.length = is.length → (putBack is refs ρ)[s]? = some (some o) → (∃ j : Nat, is[j]? = some s ∧ refs[j]? = some (some o)) ∨ (s ∉ is ∧ ρ[s]? = some (some o))
  | [], refs, ρ, _, hl, h => by
    cases refs with
    | nil => exact .inr ⟨by simp, h⟩
    | cons _ _ => simp at hl
  | i :: is, [], ρ, _, hl, h => by simp at hl
  | i :: is, r :: refs, ρ, nd, hl, h => by
    unfold putBack at h
    obtain ⟨n1, n2⟩ := List.nodup_cons.mp nd
    rcases putBack_some n2 (by simpa using hl) h with ⟨j, h1, h2⟩ | ⟨h1, h2⟩
    · exact .inl ⟨j + 1, by simpa using h1, by simpa using h2⟩
    · rcases set_get h2 with ⟨rfl, e⟩ | ⟨ne, e⟩
      · exact .inl ⟨0, by simp, by simp [e]⟩
      · exact .inr ⟨by simp only [List.mem_cons, not_or]; exact ⟨ne, h1⟩, e⟩
theorem putBack_len : ∀ {is : List Nat} {refs ρ : Env}, (putBack is refs ρ).length = ρ.length
  | [], refs, ρ => by cases refs <;> rfl
  | i :: is, [], ρ => rfl
  | i :: is, r :: refs, ρ => by unfold putBack; rw [putBack_len, List.length_set]
theorem fzAll_len : ∀ {bs : List Nat} {ρ : Env}, (fzAll bs ρ).length = ρ.length
  | [], ρ => rfl
  | i :: is, ρ => by
    unfold fzAll
    split
    · rw [fzAll_len, putO, List.length_set]
    · exact fzAll_len
theorem fzAll_some {s : Nat} {o : O} : ∀ {bs : List Nat} {ρ : Env}, (fzAll bs ρ)[s]? = some (some o) → (∃ l, s ∈ bs ∧ ρ[s]? = some (some (.box l)) ∧ o = .frz (.list (fzs l))) ∨ (ρ[s]? = some (some o) ∧ (s ∈ bs → ∀ l, o ≠ .box l))
  | [], ρ, h => .inr ⟨h, fun q => nomatch q⟩
  | i :: is, ρ, h => by
    unfold fzAll at h
    split at h
    · rename_i l el
      have el' : ρ[i]? = some (some (.box l)) := by
        unfold ldV at el
        split at el
        · rename_i e; cases el; exact e
        · cases el
      rcases fzAll_some h with ⟨m, h1, h2, h3⟩ | ⟨h1, h2⟩
      · rcases set_get h2 with ⟨rfl, e⟩ | ⟨ne, e⟩
        · cases e
        · exact .inl ⟨m, List.mem_cons_of_mem _ h1, e, h3⟩
      · rcases set_get h1 with ⟨rfl, e⟩ | ⟨ne, e⟩
        · cases e
          exact .inl ⟨l, List.mem_cons_self, el', rfl⟩
        · exact .inr ⟨e, fun q => (List.mem_cons.mp q).elim (fun z => absurd z ne) h2⟩
    · rename_i nb
      rcases fzAll_some h with ⟨m, h1, h2, h3⟩ | ⟨h1, h2⟩
      · exact .inl ⟨m, List.mem_cons_of_mem _ h1, h2, h3⟩
      · refine .inr ⟨h1, fun q => (List.mem_cons.mp q).elim (fun z l e => ?_) h2⟩
        subst z; subst e
        exact nb l (by unfold ldV; rw [h1])
def GatAt (ρ : Env) (a : Ag) (o : O) : Prop := match a with
    | .d d => o = .frz d
    | .r s => ρ[s]? = some (some o)
    | .b s => ∃ o', ρ[s]? = some (some o') ∧ o'.clean = true ∧ o = .frz o'.fz
theorem gather_get {ρ : Env} : ∀ {as : List Ag} {os : List O}, gather ρ as = some os → os.length = as.length ∧ ∀ (i : Nat) (a : Ag), as[i]? = some a → ∃ o, os[i]? = some o ∧ GatAt ρ a o
  | [], os, h => by
    simp only [gather, Option.some.injEq] at h
    subst h
    exact ⟨rfl, fun i a e => by simp at e⟩
  | a :: r, os, h => by
    have key : ∃ o os', os = o :: os' ∧ gather ρ r = some os' ∧ GatAt ρ a o := by
      cases a with
      | d d =>
        simp only [gather] at h
        cases e : gather ρ r with
        | none => rw [e] at h; cases h
        | some os' => rw [e] at h; cases h; exact ⟨_, _, rfl, rfl, rfl⟩
      | r s =>
        simp only [gather] at h
        split at h
        · rename_i o eo
          cases e : gather ρ r with
          | none => rw [e] at h; cases h
          | some os' => rw [e] at h; cases h; exact ⟨_, _, rfl, rfl, ldV_of eo⟩
        · cases h
      | b s =>
        simp only [gather] at h
        split at h
        · rename_i d eo
          cases e : gather ρ r with
          | none => rw [e] at h; cases h
          | some os' => rw [e] at h; cases h; exact ⟨_, _, rfl, rfl, _, ldV_of eo, rfl, rfl⟩
        · rename_i m eo
          split at h
          · rename_i cm
            cases e : gather ρ r with
            | none => rw [e] at h; cases h
            | some os' => rw [e] at h; cases h; exact ⟨_, _, rfl, rfl, _, ldV_of eo, cm, rfl⟩
          · cases h
        · cases h
    obtain ⟨o, os', rfl, h2, h3⟩ := key
    obtain ⟨l, g⟩ := gather_get h2
    refine ⟨by simp [l], fun i a' e => ?_⟩
    cases i with
    | zero =>
      have e' : a = a' := by simpa using e
      subst e'
      exact ⟨o, rfl, h3⟩
    | succ i =>
      obtain ⟨o', q1, q2⟩ := g i a' (by simpa using e)
      exact ⟨o', by simpa using q1, q2⟩
/-- what is promised of a def: its by-name parameters and its answer -/
def refP (K : PySem.W.Frag) (Hf H : Hp) (vs : List V) (Ur : UU) : Nat → Option O → Prop := fun i oo => ∀ o, oo = some o → ∃ v, vs[i]? = some v ∧ Own K Hf H v o (Ur i)
def spF (K : PySem.W.Frag) (ct : Str → Option Addr) (fn : Fn) : Sp := fun vs H Q E => ∃ Hf os Ua, Same Hf H ∧ vs.length = fn.modes.length ∧ Owns K Hf H vs os Ua ∧ (∀ i b, Ua i b → H b ≠ none) ∧ match fn.run os with
  | .ok o refs => ∀ v Hf' H' (Ur : UU) (T : Addr → Prop), Same Hf' H' → Step Hf H (foot Ua) Hf' H' (foot Ur) → (∀ i j b, i ≠ j → Ur i b → ¬ Ur j b) → (∀ i b, Ur i b → H' b ≠ none) → RefsAt (refP K Hf' H' vs Ur) fn.modes refs 0 →
      Own K Hf' H' v o T → (∀ b, T b → ¬ foot Ur b ∧ H' b ≠ none ∧ (foot Ua b ∨ H b = none)) → Q v H'
  | .exc x refs => ∀ cls d Hf' H' (Ur : UU), Same Hf' H' → Step Hf H (foot Ua) Hf' H' (foot Ur) → (∀ i j b, i ≠ j → Ur i b → ¬ Ur j b) → (∀ i b, Ur i b → H' b ≠ none) → RefsAt (refP K Hf' H' vs Ur) fn.modes refs 0 → ExR K ct Hf' H' x cls d → E cls d H'
  | .bad => False
/-- the arguments as they lie -/
def ArgAt (K : PySem.W.Frag) (Hf : Hp) (σ : L2.St) (a : Ag) (v : V) : Prop := match a with
  | .d d => Rep K Hf v d
  | .r s => σ[s]? = some (some v)
  | .b s => σ[s]? = some (some v)
def tA (K : PySem.W.Frag) (ct : Str → Option Addr) (W : WX) (m : Env → R (List Ag)) : TA := fun σ H Q => ∃ Hf ρ U, Rel K Hf H ρ σ U ∧ Post K σ Hf H U (EW K ct W σ) (fun as _ Hf' H' _ => ∀ vs, vs.length = as.length → (∀ (i : Nat) v a, vs[i]? = some v → as[i]? = some a → ArgAt K Hf' σ a v) → Q vs H') (m ρ)
theorem ArgAt.mono {K : PySem.W.Frag} {Hf Hf' : Hp} {σ : L2.St} {a : Ag} {v : V} (e : Same Hf Hf') (h : ArgAt K Hf σ a v) : ArgAt K Hf' σ a v := by
  cases a with
  | d d => exact Rep.mono e h
  | r s => exact h
  | b s => exact h
theorem call_ref {K : PySem.W.Frag} {Hf1 H1 Hf' H' : Hp} {ρ : Env} {σ : L2.St} {U1 Ur : UU} {as : List Ag} {vs : List V} {os : List O} {refs : Env} {B : Addr → Prop} {Ua : UU}
    (R1 : Rel K Hf1 H1 ρ σ U1) (ok1 : (slotsR as).Nodup) (ok2 : ∀ s ∈ slotsB as, s ∉ slotsR as) (hB : ∀ b, B b ↔ ∃ s ∈ slotsB as, U1 s b) (ha : ∀ (i : Nat) v a, vs[i]? = some v → as[i]? = some a → ArgAt K Hf1 σ a v) (hl : vs.length = as.length) (hg : gather ρ as = some os)
    (hUa : ∀ i b, Ua i b ↔ ∃ s, as[i]? = some (.r s) ∧ U1 s b) (sm : Same Hf' H') (S : Step (joinC Hf1 H1 B) H1 (foot Ua) Hf' H' (foot Ur)) (dj : ∀ i j b, i ≠ j → Ur i b → ¬ Ur j b) (al : ∀ i b, Ur i b → H' b ≠ none)
    (rf : RefsAt (refP K Hf' H' vs Ur) (modesOf as) refs 0) (rl : refs.length = (slotsR as).length) :
    ∃ U2 : UU, Rel K Hf' H' (fzAll (slotsB as) (putBack (slotsR as) refs ρ)) σ U2 ∧ Step Hf1 H1 (foot U1) Hf' H' (foot U2) ∧ ∀ b, foot U2 b → foot Ur b ∨ ∃ s, s ∉ slotsR as ∧ U1 s b := by
  have SB : Step Hf1 H1 (foot U1) (joinC Hf1 H1 B) H1 (foot Ua) := Step.fz R1.sub (fun b q => let ⟨s, _, z⟩ := (hB b).mp q; ⟨s, z⟩) fun b ⟨i, q⟩ => let ⟨s, _, z⟩ := (hUa i b).mp q; ⟨s, z⟩
  have SS := SB.trans S
  have apUa : ∀ s b, s ∉ slotsR as → U1 s b → ¬ foot Ua b := fun s b hs q ⟨i, z⟩ => by
    obtain ⟨s', e, w⟩ := (hUa i b).mp z
    exact R1.dj s s' b (fun e2 => hs (e2 ▸ slotsR_mem e)) q w
  have apUr : ∀ s b, s ∉ slotsR as → U1 s b → ¬ foot Ur b := fun s b hs q z => by
    rcases S.foot b z with w | w
    · exact apUa s b hs q w
    · exact R1.alive s b q w
  let U2 : UU := fun s b => (∃ i, as[i]? = some (.r s) ∧ Ur i b) ∨ (s ∉ slotsR as ∧ s ∉ slotsB as ∧ U1 s b)
  have lv : ∀ s b, s ∉ slotsR as → U1 s b → H' b ≠ none := fun s b hs q => by
    cases e : H1 b with
    | none => exact absurd e (R1.alive s b q)
    | some u => rw [S.frame b u (apUa s b hs q) e]; exact fun z => by cases z
  refine ⟨U2, ⟨sm, by rw [fzAll_len, putBack_len, R1.len], fun s o e => ?_, fun s s' b hne q1 q2 => ?_, fun s b q => ?_⟩, ⟨SS.mono, SS.dom, SS.frame, fun b ⟨s, q⟩ => ?_⟩, fun b ⟨s, q⟩ => ?_⟩
  · have base : (ρ[s]? = some (some o) ∧ s ∉ slotsR as ∧ (s ∈ slotsB as → ∀ l, o ≠ .box l)) ∨ (∃ l, s ∈ slotsB as ∧ s ∉ slotsR as ∧ ρ[s]? = some (some (.box l)) ∧ o = .frz (.list (fzs l))) ∨ ∃ i, as[i]? = some (.r s) ∧ refP K Hf' H' vs Ur i (some o) := by
      rcases fzAll_some e with ⟨l, h1, h2, h3⟩ | ⟨h1, h2⟩
      · rcases putBack_some ok1 rl h2 with ⟨j, g1, g2⟩ | ⟨g1, g2⟩
        · exact absurd (List.mem_of_getElem? g1) (ok2 s h1)
        · exact .inr (.inl ⟨l, h1, g1, g2, h3⟩)
      · rcases putBack_some ok1 rl h1 with ⟨j, g1, g2⟩ | ⟨g1, g2⟩
        · obtain ⟨i, k1, k2⟩ := rf.get j s _ g1 g2
          rw [Nat.zero_add] at k2
          exact .inr (.inr ⟨i, k1, k2⟩)
        · exact .inl ⟨g2, g1, h2⟩
    rcases base with ⟨h1, h2, h3⟩ | ⟨l, h1, h2, h3, rfl⟩ | ⟨i, h1, h2⟩
    · obtain ⟨v, g1, g2⟩ := R1.own s o h1
      refine ⟨v, g1, ?_⟩
      by_cases hb : s ∈ slotsB as
      · cases g2 with
        | frz r => exact .frz (r.mono SS.mono)
        | scr r => exact .scr (Same.seq SS.mono r)
        | box => exact absurd rfl (h3 hb _)
      · have o1 := g2.other (T' := B) R1.sub fun b q z => by
          obtain ⟨s', w1, w2⟩ := (hB b).mp z
          exact R1.dj s s' b (fun e => hb (e ▸ w1)) q w2
        exact (o1.step S fun b q => apUa s b h2 q).wide fun b q => .inr ⟨h2, hb, q⟩
    · obtain ⟨v, g1, g2⟩ := R1.own s _ h3
      have cl : cleans l = true := by
        have : ∀ {as : List Ag}, s ∈ slotsB as → ∃ i : Nat, as[i]? = some (Ag.b s) := by
          intro as h
          induction as with
          | nil => cases h
          | cons a r ih =>
            cases a with
            | d d => obtain ⟨i, q⟩ := ih h; exact ⟨i + 1, by simpa using q⟩
            | r s0 => obtain ⟨i, q⟩ := ih h; exact ⟨i + 1, by simpa using q⟩
            | b s0 =>
              rcases List.mem_cons.mp h with rfl | h
              · exact ⟨0, rfl⟩
              · obtain ⟨i, q⟩ := ih h; exact ⟨i + 1, by simpa using q⟩
        obtain ⟨i, q⟩ := this h1
        obtain ⟨o', _, o2, k1, k2, _⟩ := (gather_get hg).2 i _ q
        rw [h3] at k1
        cases k1
        exact k2
      refine ⟨v, g1, .frz ((g2.fz R1.sub cl (T' := B) fun b q => (hB b).mpr ⟨s, h1, q⟩).mono S.mono)⟩
    · obtain ⟨v, g1, g2⟩ := h2 o rfl
      have hv := ha i v _ g1 h1
      exact ⟨v, hv, g2.wide fun b q => .inl ⟨i, h1, q⟩⟩
  · rcases q1 with ⟨i, h1, h2⟩ | ⟨h1, h2, h3⟩
    · rcases q2 with ⟨j, g1, g2⟩ | ⟨g1, g2, g3⟩
      · refine dj i j b (fun e => ?_) h2 g2
        subst e
        rw [h1] at g1
        cases g1
        exact hne rfl
      · exact apUr s' b g1 g3 ⟨i, h2⟩
    · rcases q2 with ⟨j, g1, g2⟩ | ⟨g1, g2, g3⟩
      · exact apUr s b h1 h3 ⟨j, g2⟩
      · exact R1.dj s s' b hne h3 g3
  · rcases q with ⟨i, h1, h2⟩ | ⟨h1, h2, h3⟩
    · exact al i b h2
    · exact lv s b h1 h3
  · rcases q with ⟨i, h1, h2⟩ | ⟨h1, h2, h3⟩
    · exact SS.foot b ⟨i, h2⟩
    · exact .inl ⟨s, h3⟩
  · rcases q with ⟨i, h1, h2⟩ | ⟨h1, h2, h3⟩
    · exact .inl ⟨i, h2⟩
    · exact .inr ⟨s, h1, h3⟩
theorem call_sem {K : PySem.W.Frag} {ct : Str → Option Addr} {W : WX} {σ : L2.St} {Hf H Hf1 H1 : Hp} {U U1 : UU} {ρ : Env} {Q : VK} {Φ : Tab} {k : Nat} {fn : Fn} {as : List Ag} {vs : List V} (hf : Φ.fn[k]? = some fn) (R1 : Rel K Hf1 H1 ρ σ U1) (S1 : Step Hf H (foot U) Hf1 H1 (foot U1))
    (p : Post K σ Hf1 H1 U1 (EW K ct W σ) (fun o _ Hf' H' U' => ∀ v T, Own K Hf' H' v o T → (∀ b, T b → ¬ foot U' b ∧ H' b ≠ none ∧ (foot U b ∨ H b = none)) → Q v H') (callF Φ k as ρ))
    (hl : vs.length = as.length) (ha : ∀ (i : Nat) v a, vs[i]? = some v → as[i]? = some a → ArgAt K Hf1 σ a v) : spF K ct fn vs H1 Q (WE W σ) := by
  unfold callF at p
  rw [hf] at p
  dsimp only at p
  cases ok : callOk as fn with
  | false => rw [ok] at p; exact p.elim
  | true =>
    rw [ok] at p
    dsimp only at p
    cases hg : gather ρ as with
    | none => rw [hg] at p; exact p.elim
    | some os =>
      rw [hg] at p
      dsimp only at p
      unfold callOk at ok
      simp only [Bool.and_eq_true, decide_eq_true_eq, List.all_eq_true, Bool.not_eq_true', List.contains_eq_mem, decide_eq_false_iff_not] at ok
      obtain ⟨⟨om, ok1⟩, ok2⟩ := ok
      have hml : ∀ {as : List Ag}, (modesOf as).length = as.length := by
        intro as
        induction as with
        | nil => rfl
        | cons a r ih => cases a <;> simp [modesOf, ih]
      obtain ⟨gl, gg⟩ := gather_get hg
      let B : Addr → Prop := fun b => ∃ s ∈ slotsB as, U1 s b
      let Ua : UU := fun i b => ∃ s, as[i]? = some (.r s) ∧ U1 s b
      have ow : Owns K (joinC Hf1 H1 B) H1 vs os Ua := by
        refine ⟨by omega, fun i v o e1 e2 => ?_, fun i j b hne ⟨s, h1, h2⟩ ⟨s', h3, h4⟩ => ?_⟩
        · have hi : i < as.length := by
            have := (List.getElem?_eq_some_iff.mp e1).1
            omega
          have ea := List.getElem?_eq_getElem hi
          have av := ha i v _ e1 ea
          obtain ⟨o', g1, g2⟩ := gg i _ ea
          rw [e2] at g1
          cases g1
          revert av g2 ea
          cases as[i] with
          | d d =>
            intro ea av g2
            subst g2
            exact .frz (Rep.mono (joinC_same R1.sub) av)
          | r s =>
            intro ea av g2
            obtain ⟨v', h1, h2⟩ := R1.own s o g2
            have ev : some (some v') = some (some v) := h1.symm.trans av
            cases ev
            exact (h2.other (T' := B) R1.sub fun b q ⟨s', w1, w2⟩ => R1.dj s s' b (fun e => ok2 s' w1 (e ▸ slotsR_mem ea)) q w2).wide fun b q => ⟨s, ea, q⟩
          | b s =>
            intro ea av g2
            obtain ⟨o2, g3, g4, g5⟩ := g2
            subst g5
            obtain ⟨v', h1, h2⟩ := R1.own s o2 g3
            have ev : some (some v') = some (some v) := h1.symm.trans av
            cases ev
            exact .frz (h2.fz R1.sub g4 (T' := B) fun b q => ⟨s, slotsB_mem ea, q⟩)
        · refine R1.dj s s' b (fun e => hne ?_) h2 h4
          subst e
          exact slotsR_uniq ok1 h1 h3
      refine ⟨joinC Hf1 H1 B, os, Ua, joinC_sub R1.sub, by rw [hl, ← om, hml], ow, fun i b ⟨s, _, q⟩ => R1.alive s b q, ?_⟩
      cases er : fn.run os with
      | bad => rw [er] at p; exact p
      | exc x refs =>
        rw [er] at p
        dsimp only at p ⊢
        intro cls d Hf' H' Ur sm S dj al rf ex
        split at p
        · rename_i rl
          rw [← om] at rf
          obtain ⟨U2, R2, S2, _⟩ := call_ref (B := B) (Ua := Ua) R1 ok1 ok2 (fun b => Iff.rfl) ha hl hg (fun i b => Iff.rfl) sm S dj al rf rl
          exact p Hf' H' U2 R2 S2 cls d ex
        · exact p.elim
      | ok o refs =>
        rw [er] at p
        dsimp only at p ⊢
        intro v Hf' H' Ur T sm S dj al rf ov tv
        split at p
        · rename_i rl
          rw [← om] at rf
          by_cases hp : (plainO o && (slotsR as).isEmpty) = true
          · rw [if_pos hp] at p
            simp only [Bool.and_eq_true, List.isEmpty_iff] at hp
            obtain ⟨hp1, hp2⟩ := hp
            have nU : ∀ b, ¬ foot Ua b := fun b ⟨i, s, q, _⟩ => by
              have := slotsR_mem q
              rw [hp2] at this
              cases this
            have fr : ∀ b u, H1 b = some u → H' b = some u := fun b u e => S.frame b u (nU b) e
            have R2 : Rel K Hf1 H' ρ σ U1 := ⟨fun a u q => fr a u (R1.sub a u q), R1.len, fun i o e => let ⟨v, h1, h2⟩ := R1.own i o e; ⟨v, h1, h2.keep (fun _ _ q => q) (fun b u _ q => fr b u q) fun _ _ _ _ n => n⟩, R1.dj, fun i b q => by
              cases e : H1 b with
              | none => exact absurd e (R1.alive i b q)
              | some u => rw [fr b u e]; exact fun z => by cases z⟩
            refine p Hf1 H' U1 R2 ⟨fun _ _ q => q, fun _ _ q => .inl q, fun a u _ q => fr a u q, fun _ q => .inl q⟩ v (fun _ => False) ?_ fun _ q => q.elim
            cases ov with
            | box => simp [plainO] at hp1
            | scr => simp [plainO] at hp1
            | frz r =>
              refine .frz ?_
              cases r with
              | non => exact .non
              | bl b => exact .bl b
              | int b => exact .int b
              | str b => exact .str b
              | lst => simp [plainO] at hp1
              | tup => simp [plainO] at hp1
              | dct => simp [plainO] at hp1
          · rw [if_neg hp] at p
            obtain ⟨U2, R2, S2, ap⟩ := call_ref (B := B) (Ua := Ua) R1 ok1 ok2 (fun b => Iff.rfl) ha hl hg (fun i b => Iff.rfl) sm S dj al rf rl
            refine p Hf' H' U2 R2 S2 v T ov fun b tb => ?_
            obtain ⟨t1, t2, t3⟩ := tv b tb
            have t4 : foot U1 b ∨ H1 b = none := t3.elim (fun ⟨i, s, _, w⟩ => .inl ⟨s, w⟩) .inr
            refine ⟨fun z => ?_, t2, t4.elim (S1.foot b) fun w => S1.old w⟩
            rcases ap b z with w | ⟨s, w1, w2⟩
            · exact t1 w
            · rcases t3 with ⟨i, s', e, w3⟩ | w3
              · exact R1.dj s s' b (fun e2 => w1 (e2 ▸ slotsR_mem e)) w2 w3
              · exact R1.alive s b w2 w3
        · exact p.elim
end Tr
set_option Elab.async false
set_option linter.all false
set_option maxRecDepth 100000
set_option maxHeartbeats 4000000
/-! TrC13b: calls that tell nothing of what was lent. -/
namespace Tr
open PySem PySem.Spec PyProof.Rows L2

def IsLst (H : Hp) (b : Addr) : Prop := ∃ xs, H b = some (.lst xs)
/-- what is owned are lists that don't stay -/
theorem Own.tight {K : PySem.W.Frag} {Hf H : Hp} {v : V} {o : O} {T : Addr → Prop} (h : Own K Hf H v o T) : Own K Hf H v o fun b => T b ∧ IsLst H b ∧ Hf b = none := by
  induction h with
  | frz h => exact .frz h
  | scr h => exact .scr h
  | box U h nf ta n it dj sub ih =>
    exact .box (fun i b => U i b ∧ IsLst H b ∧ Hf b = none) h nf ⟨ta, ⟨_, h⟩, nf⟩ n ih (fun i j b hne q1 q2 => dj i j b hne q1.1 q2.1) fun i b q => ⟨⟨(sub i b q.1).1, q.2⟩, (sub i b q.1).2⟩
theorem noLs_get : ∀ {l : List D} {i : Nat} {d : D}, noLs l = true → l[i]? = some d → noL d = true
  | [], i, d, _, e => by simp at e
  | x :: l, 0, d, h, e => by
    have e' : x = d := by simpa using e
    subst e'
    simp only [noLs, Bool.and_eq_true] at h
    exact h.1
  | x :: l, i + 1, d, h, e => by
    simp only [noLs, Bool.and_eq_true] at h
    exact noLs_get (i := i) h.2 (by simpa using e)
open Classical in
noncomputable def lessH (Hf : Hp) (B : Addr → Prop) : Hp := fun b => if B b then none else Hf b
theorem lessH_in {Hf : Hp} {B : Addr → Prop} {b : Addr} (h : B b) : lessH Hf B b = none := by unfold lessH; rw [if_pos h]
theorem lessH_out {Hf : Hp} {B : Addr → Prop} {b : Addr} (h : ¬ B b) : lessH Hf B b = Hf b := by unfold lessH; rw [if_neg h]
theorem lessH_of {Hf : Hp} {B : Addr → Prop} {b : Addr} {u : HO} (h : lessH Hf B b = some u) : ¬ B b ∧ Hf b = some u := by
  by_cases q : B b
  · rw [lessH_in q] at h; cases h
  · rw [lessH_out q] at h; exact ⟨q, h⟩
/-- what has no list in it leans on no list -/
theorem Rep.less {K : PySem.W.Frag} {Hf : Hp} {B : Addr → Prop} (hB : ∀ b, B b → IsLst Hf b) {v : V} {d : D} (h : Rep K Hf v d) : noL d = true → Rep K (lessH Hf B) v d := by
  induction h with
  | non => exact fun _ => .non
  | bl b => exact fun _ => .bl b
  | int i => exact fun _ => .int i
  | str x => exact fun _ => .str x
  | lst h n _ ih => exact fun c => by simp [noL] at c
  | dct h n ks _ ih => exact fun c => by simp [noL] at c
  | tup h n _ ih =>
    intro c
    simp only [noL] at c
    refine .tup ?_ n fun i v d e1 e2 => ih i v d e1 e2 (noLs_get c e2)
    rcases h with (h | ⟨o, h⟩) | h
    · exact .inl (.inl (by
        rw [lessH_out fun q => ?_]
        · exact h
        · obtain ⟨xs, e⟩ := hB _ q
          rw [h] at e
          cases e))
    · exact .inl (.inr ⟨o, by
        rw [lessH_out fun q => ?_]
        · exact h
        · obtain ⟨xs, e⟩ := hB _ q
          rw [h] at e
          cases e⟩)
    · exact .inr h
theorem callL_sem {K : PySem.W.Frag} {ct : Str → Option Addr} {W : WX} {σ : L2.St} {Hf H Hf1 H1 : Hp} {U U1 : UU} {ρ : Env} {Q : VK} {Φ : Tab} {k : Nat} {fn : Fn} {as : List Ag} {vs : List V} (hf : Φ.fn[k]? = some fn) (R1 : Rel K Hf1 H1 ρ σ U1) (S1 : Step Hf H (foot U) Hf1 H1 (foot U1))
    (p : Post K σ Hf1 H1 U1 (EW K ct W σ) (fun o _ Hf' H' U' => ∀ v T, Own K Hf' H' v o T → (∀ b, T b → ¬ foot U' b ∧ H' b ≠ none ∧ (foot U b ∨ H b = none)) → Q v H') (callLF Φ k as ρ))
    (hl : vs.length = as.length) (ha : ∀ (i : Nat) v a, vs[i]? = some v → as[i]? = some a → ArgAt K Hf1 σ a v) : spF K ct fn vs H1 Q (WE W σ) := by
  unfold callLF at p
  rw [hf] at p
  dsimp only at p
  cases ok : callOk as fn with
  | false => rw [ok] at p; exact p.elim
  | true =>
    rw [ok] at p
    dsimp only at p
    cases hg : gather ρ as with
    | none => rw [hg] at p; exact p.elim
    | some os =>
      rw [hg] at p
      dsimp only at p
      unfold callOk at ok
      simp only [Bool.and_eq_true, decide_eq_true_eq, List.all_eq_true, Bool.not_eq_true', List.contains_eq_mem, decide_eq_false_iff_not] at ok
      obtain ⟨⟨om, ok1⟩, ok2⟩ := ok
      have hml : ∀ {as : List Ag}, (modesOf as).length = as.length := by
        intro as
        induction as with
        | nil => rfl
        | cons a r ih => cases a <;> simp [modesOf, ih]
      cases er : fn.run os with
      | bad => rw [er] at p; exact p.elim
      | exc x refs => rw [er] at p; exact p.elim
      | ok o refs =>
      rw [er] at p
      dsimp only at p
      by_cases hp : (noLO o && (slotsR as).isEmpty) = true
      case neg => rw [if_neg hp] at p; exact p.elim
      rw [if_pos hp] at p
      simp only [Bool.and_eq_true, List.isEmpty_iff] at hp
      obtain ⟨hp1, hp2⟩ := hp
      obtain ⟨gl, gg⟩ := gather_get hg
      let B : Addr → Prop := fun b => ∃ s ∈ slotsB as, U1 s b ∧ IsLst H1 b ∧ Hf1 b = none
      have noR : ∀ {i s : Nat}, as[i]? = some (.r s) → False := fun {i s} q => by
        have := slotsR_mem q
        rw [hp2] at this
        cases this
      have ow : Owns K (joinC Hf1 H1 B) H1 vs os (fun _ _ => False) := by
        refine ⟨by omega, fun i v o e1 e2 => ?_, fun i j b hne h _ => h⟩
        have hi : i < as.length := by
          have := (List.getElem?_eq_some_iff.mp e1).1
          omega
        have ea := List.getElem?_eq_getElem hi
        have av := ha i v _ e1 ea
        obtain ⟨o', g1, g2⟩ := gg i _ ea
        rw [e2] at g1
        cases g1
        revert av g2 ea
        cases as[i] with
        | d d =>
          intro ea av g2
          subst g2
          exact .frz (Rep.mono (joinC_same R1.sub) av)
        | r s => exact fun ea => (noR ea).elim
        | b s =>
          intro ea av g2
          obtain ⟨o2, g3, g4, g5⟩ := g2
          subst g5
          obtain ⟨v', h1, h2⟩ := R1.own s o2 g3
          have ev : some (some v') = some (some v) := h1.symm.trans av
          cases ev
          exact .frz (h2.tight.fz R1.sub g4 (T' := B) fun b q => ⟨s, slotsB_mem ea, q⟩)
      refine ⟨joinC Hf1 H1 B, os, fun _ _ => False, joinC_sub R1.sub, by rw [hl, ← om, hml], ow, fun i b q => q.elim, ?_⟩
      rw [er]
      dsimp only
      intro v Hf' H' Ur T sm S dj al rf ov tv
      have nU : ∀ b, ¬ foot (fun _ _ => False : UU) b := fun b ⟨i, q⟩ => q
      have fr : ∀ b u, H1 b = some u → H' b = some u := fun b u e => S.frame b u (nU b) e
      have hB : ∀ b, B b → IsLst Hf' b := fun b q => by
        obtain ⟨s, _, _, ⟨xs, e⟩, _⟩ := id q
        exact ⟨xs, S.mono b _ (by rw [joinC_in q]; exact e)⟩
      have sub1 : Same Hf1 (lessH Hf' B) := fun b u e => by
        have nb : ¬ B b := fun ⟨s, _, _, _, n⟩ => by rw [n] at e; cases e
        rw [lessH_out nb]
        exact S.mono b u (joinC_same R1.sub b u e)
      have R2 : Rel K (lessH Hf' B) H' ρ σ U1 := ⟨fun a u q => sm a u (lessH_of q).2, R1.len, fun i o e => by
          obtain ⟨v, h1, h2⟩ := R1.own i o e
          refine ⟨v, h1, h2.keep sub1 (fun b u _ q => fr b u q) fun b u _ q n => ?_⟩
          cases e3 : lessH Hf' B b with
          | none => rfl
          | some w =>
            obtain ⟨nb, e4⟩ := lessH_of e3
            rcases S.dom b w e4 with z | z | z
            · rw [joinC_out nb, n] at z; cases z
            · rw [q] at z; cases z
            · exact (nU b z).elim, R1.dj, fun i b q => by
        cases e : H1 b with
        | none => exact absurd e (R1.alive i b q)
        | some u => rw [fr b u e]; exact fun z => by cases z⟩
      have S2 : Step Hf1 H1 (foot U1) (lessH Hf' B) H' (foot U1) := ⟨sub1, fun a u q => by
        obtain ⟨nb, e4⟩ := lessH_of q
        rcases S.dom a u e4 with z | z | z
        · rw [joinC_out nb] at z; exact .inl z
        · exact .inr (.inl z)
        · exact (nU a z).elim, fun a u _ q => fr a u q, fun _ q => .inl q⟩
      refine p (lessH Hf' B) H' U1 R2 S2 v (fun _ => False) ?_ fun _ q => q.elim
      cases ov with
      | box => simp [noLO] at hp1
      | scr => simp [noLO] at hp1
      | frz r => exact .frz (r.less hB hp1)
end Tr
set_option Elab.async false
set_option linter.all false
set_option maxRecDepth 100000
set_option maxHeartbeats 4000000
/-! TrC14: calls as expressions; defs. -/
namespace Tr
open PySem PySem.Spec PyProof.Rows L2

section
variable {X : Cx} {ct : Str → Option Addr} {W : WX} {fx : Fix} {a b c e : Expr} {es : List Expr} {ma : Env → R D} {mas : Env → R (List Ag)} {pos : Pos}
theorem ag_nil : PA X [] (tA X.K ct W fun ρ => .ok [] ρ) := pa_nil.weak fun σ H Q q => by
  obtain ⟨Hf, ρ, U, R0, p⟩ := q
  exact p.ok R0 [] rfl fun i v d e => by simp at e
theorem ag_e (ha : PE X a (tE X.K ct W ma)) (hr : PA X es (tA X.K ct W mas)) (hs : notStar a = true) : PA X (a :: es) (tA X.K ct W fun ρ => (ma ρ).bind fun d ρ => (mas ρ).bind fun l ρ => .ok (.d d :: l) ρ) := by
  refine (pa_cons ha hr (starEach_cons hs)).weak fun σ H Q q => ?_
  obtain ⟨Hf, ρ, U, R0, p⟩ := q
  refine ⟨Hf, ρ, U, R0, p.then fun d ρ1 Hf1 H1 U1 R1 S1 p1 x rx => ⟨Hf1, ρ1, U1, R1, p1.then fun l ρ2 Hf2 H2 U2 R2 S2 p2 vs n it => ?_⟩⟩
  refine p2.ok R2 (x :: vs) (by simp [n]) fun i v a' e1 e2 => ?_
  cases i with
  | zero =>
    have e1' : x = v := by simpa using e1
    have e2' : Ag.d d = a' := by simpa using e2
    subst e1'; subst e2'
    exact rx.mono S2.mono
  | succ i => exact it i v a' (by simpa using e1) (by simpa using e2)
theorem ag_slot {s : Nat} {g : Ag} (hg : g = .r s ∨ g = .b s) (ha : PE X a (tVar s)) (hr : PA X es (tA X.K ct W mas)) (hs : notStar a = true) : PA X (a :: es) (tA X.K ct W fun ρ => if (ldV s ρ).isSome then (mas ρ).bind fun l ρ => .ok (g :: l) ρ else .bad) := by
  refine (pa_cons ha hr (starEach_cons hs)).weak fun σ H Q q => ?_
  obtain ⟨Hf, ρ, U, R0, p⟩ := q
  dsimp only at p
  split at p
  · rename_i hsm
    obtain ⟨o, eo⟩ := some_of hsm
    obtain ⟨v, h1, _⟩ := R0.own _ _ (ldV_of eo)
    refine ⟨v, h1, Hf, ρ, U, R0, p.then fun l ρ2 Hf2 H2 U2 R2 S2 p2 vs n it => ?_⟩
    refine p2.ok R2 (v :: vs) (by simp [n]) fun i w a' e1 e2 => ?_
    cases i with
    | zero =>
      have e1' : v = w := by simpa using e1
      have e2' : g = a' := by simpa using e2
      subst e1'; subst e2'
      rcases hg with rfl | rfl
      · exact h1
      · exact h1
    | succ i => exact it i w a' (by simpa using e1) (by simpa using e2)
  · exact p.elim
def noStars (es : List Expr) : Bool := es.all notStar
theorem back_all {pos : Pos} {env : PySem.Env} : ∀ {es : List Expr}, noStars es = true → (backTo pos (starEach es env)).any (·.1) = false
  | [], _ => rfl
  | e :: es, h => by
    unfold noStars at h
    rw [List.all_cons, Bool.and_eq_true] at h
    have ih := back_all (pos := pos) (env := env) (es := es) h.2
    rw [starEach_cons h.1]
    revert ih
    generalize starEach es env = l
    intro ih
    cases l with
    | nil => rfl
    | cons p r =>
      first
        | exact ih
        | (simp only [backTo, List.any_cons, List.any_map, Bool.false_or] at ih ⊢; exact ih)
/-- a def's promise where no text of a row is under way -/
structure FnG (P : Program) (w : World) (K : PySem.W.Frag) (mg : Str → Option Value) (base : Heap) (CX : CXT) (k : Nat) (f : Addr) (fd : FuncData) (ps : List Str) (sp : Sp) : Prop where
  len : ∀ vs H Q E, sp vs H Q E → vs.length = ps.length
  go : ∀ (A : Around), A.guards = some [] → ∀ (out : List PySem.Env) (s : Shared) (H : Hp) (az : Args) (us : List Value) (vs : List V) (Q : VK) (E : XK), Room k A → Env0 P w K mg base A out s H → BindsTo s fd az (ps.zip us) → Vals vs us →
    sp vs H Q E → codeAny (model P w) A (.call (.ref f) az) (CR CX out P w H s Q E) s
theorem FnG.mono {P : Program} {w : World} {K : PySem.W.Frag} {mg : Str → Option Value} {base : Heap} {CX : CXT} {j k : Nat} {f : Addr} {fd : FuncData} {ps : List Str} {sp : Sp} (F : FnG P w K mg base CX j f fd ps sp) (h : j ≤ k) :
    FnG P w K mg base CX k f fd ps sp := ⟨F.len, fun A g out s H az us vs Q E room => F.go A g out s H az us vs Q E (room.mono h)⟩
/-- it runs, called from a body -/
theorem run_fnG {CX : CXT} {k : Nat} {f : Addr} {fd : FuncData} {ps : List Str} {sp : Sp} {E : L2.St → XK} {pins : List (Addr × Obj)} {σ : L2.St} {H : Hp} {s : Shared} {Q : VK} {us : List Value} {vs : List V} (F : FnG X.prog X.w X.K X.mg X.base CX k f fd ps sp)
    (g : X.A.guards = some []) (room : Room k X.A) (hb : Binds X.K fd ps []) (hx : PassesAt CX X σ (E σ)) (I : Inv X pins σ H s) (r : Vals vs us) (h : sp vs H Q (E σ)) : wpAny (model X.prog X.w) X.A (call (.ref f) us) (EP X pins σ Q) X.xe s := by
  have b : BindsTo s fd ⟨us, []⟩ (ps.zip us) := by
    have b0 := hb s us I.kIn (by rw [List.append_nil, ← r.length]; exact F.len _ _ _ _ h)
    rwa [List.append_nil] at b0
  refine wpAny_call (codeAny_mono (F.go X.A g X.stack s H ⟨us, []⟩ us vs Q (E σ) room I.env0 b r h) fun res s2 hq => ?_)
  match res, hq with
  | .error e, hq => exact hx pins H s e s2 I hq
  | .ok (.ret u), hq => exact I.after hq
  | .ok .next, hq => exact False.elim hq
  | .ok .brk, hq => exact False.elim hq
  | .ok .cont, hq => exact False.elim hq
theorem pe_callG {CX : CXT} {k : Nat} {f : Addr} {fd : FuncData} {ps : List Str} {sp : Sp} {E : L2.St → XK} {x : Str} {p : Pos} {t : TA} (F : FnG X.prog X.w X.K X.mg X.base CX k f fd ps sp) (g : X.A.guards = some []) (room : Room k X.A) (hg : Gl X x) (hm : X.mg x = some (.ref f))
    (hk : PySem.W.keepIn X.K (.ref f) = true) (hb : Binds X.K fd ps []) (hx : ∀ σ, PassesAt CX X σ (E σ)) (ha : PA X (e :: es) t) (hdb : (x == ("__debug__" : Str)) = false) (he : starEach (e :: es) X.env = (false, eval e X.env) :: starEach es X.env) (hpl : (backTo pos (starEach es X.env)).any (·.1) = false) :
    PE X (.Call (.Name x p) (e :: es) [] pos) (tCallS sp E t) := ⟨fun pins s σ H Q I h =>
  wpAny_Call_Name_kw (ld_glob I hg hm (PySem.W.callWith_K (h₀ := X.base) I.ok.mod.kin hk (thn (ha.run pos pins s σ H _ I h) fun us s2 ⟨vs, H2, I2, r, q⟩ => ⟨I2.kIn, run_fnG F g room hb (hx σ) I2 r q⟩) he hpl) hdb)⟩
/-- what a def that stands in the module promises, seen from a body -/
structure Def1 (X : Cx) (ct : Str → Option Addr) (x : Str) (fn : Fn) : Prop where
  ok : ∃ k f fd ps, FnG X.prog X.w X.K X.mg X.base (L2N.CX X.prog X.w) k f fd ps (spF X.K ct fn) ∧ X.A.guards = some [] ∧ Room k X.A ∧ X.mg x = some (.ref f) ∧ PySem.W.keepIn X.K (.ref f) = true ∧ Binds X.K fd ps []
theorem f_call {x : Str} {p : Pos} {Φ : Tab} {j : Nat} {fn : Fn} (hf : Φ.fn[j]? = some fn) (D1 : Def1 X ct x fn) (hg : Gl X x) (tk : L2N.Takes X W) (ha : PA X (e :: es) (tA X.K ct W mas)) (hd : (x == ("__debug__" : Str)) = false) (hs : notStar e = true) (hss : noStars es = true) :
    PE X (.Call (.Name x p) (e :: es) [] pos) (tF X.K ct W fun ρ => (mas ρ).bind fun l ρ => callF Φ j l ρ) := by
  obtain ⟨k, f, fd, ps, F, g, hr, hm, hk, hb⟩ := D1.ok
  refine (pe_callG (E := WE W) F g hr hg hm hk hb (L2N.passAt tk) ha hd (starEach_cons hs) (back_all hss)).weak fun σ H Q q => ?_
  obtain ⟨Hf, ρ, U, R0, q⟩ := q
  exact ⟨Hf, ρ, U, R0, q.then fun as ρ1 Hf1 H1 U1 R1 S1 p1 vs n it => call_sem hf R1 S1 p1 n it⟩
theorem f_callL {x : Str} {p : Pos} {Φ : Tab} {j : Nat} {fn : Fn} (hf : Φ.fn[j]? = some fn) (D1 : Def1 X ct x fn) (hg : Gl X x) (tk : L2N.Takes X W) (ha : PA X (e :: es) (tA X.K ct W mas)) (hd : (x == ("__debug__" : Str)) = false) (hs : notStar e = true) (hss : noStars es = true) :
    PE X (.Call (.Name x p) (e :: es) [] pos) (tF X.K ct W fun ρ => (mas ρ).bind fun l ρ => callLF Φ j l ρ) := by
  obtain ⟨k, f, fd, ps, F, g, hr, hm, hk, hb⟩ := D1.ok
  refine (pe_callG (E := WE W) F g hr hg hm hk hb (L2N.passAt tk) ha hd (starEach_cons hs) (back_all hss)).weak fun σ H Q q => ?_
  obtain ⟨Hf, ρ, U, R0, q⟩ := q
  exact ⟨Hf, ρ, U, R0, q.then fun as ρ1 Hf1 H1 U1 R1 S1 p1 vs n it => callL_sem hf R1 S1 p1 n it⟩
theorem f_call0 {x : Str} {p : Pos} {Φ : Tab} {j : Nat} {fn : Fn} (hf : Φ.fn[j]? = some fn) (D1 : Def1 X ct x fn) (hg : Gl X x) (tk : L2N.Takes X W) (hd : (x == ("__debug__" : Str)) = false) :
    PE X (.Call (.Name x p) [] [] pos) (tF X.K ct W fun ρ => callF Φ j [] ρ) := by
  obtain ⟨k, f, fd, ps, F, g, hr, hm, hk, hb⟩ := D1.ok
  refine ⟨fun pins s σ H Q I q => ?_⟩
  refine wpAny_Call_Name_kw (ld_glob I hg hm ?_ hd)
  obtain ⟨Hf, ρ, U, R0, q⟩ := q
  exact PySem.W.callWith_K0 I.kIn hk (run_fnG (E := WE W) (us := []) F g hr hb (L2N.passAt tk σ) I .nil (call_sem hf R0 Step.refl q rfl fun i v a e => by simp at e))
end

/-! ### defs -/
def fxOf (modes : List Bool) : Fix := fun i => modes[i]? = some true
theorem start_get {N : List Str} {vs : List V} {i : Nat} {v : V} (h : vs[i]? = some v) : (L2.start N vs)[i]? = some (some v) := by
  have hi := (List.getElem?_eq_some_iff.mp h).1
  unfold L2.start
  rw [List.getElem?_append_left (by simpa using hi), List.getElem?_map, h]
  rfl
/-- a body's reading makes a def's promise -/
theorem def_sem {K : PySem.W.Frag} {ct : Str → Option Addr} {n : Nat} {modes : List Bool} {body : Env → R Fl} {N : List Str} (hn : N.length = n) (hm : modes.length ≤ n) {vs : List V} {H : Hp} {Q : VK} {E : XK} (h : spF K ct (mkFn n modes body) vs H Q E) :
    tS K ct (fun cls d _ H => E cls d H) (fxOf modes) body { nx := fun _ H' => Q .non H', rt := Q } (L2.start N vs) H := by
  obtain ⟨Hf, os, Ua, sub, hl, ow, al, h⟩ := h
  have hlo : os.length = modes.length := ow.len.symm.trans hl
  have hlv : vs.length = modes.length := hl
  simp only [mkFn] at h
  rw [if_pos hlo] at h
  let Ur0 : UU := fun i => if i < vs.length then Ua i else fun _ => False
  have fU : ∀ b, foot Ur0 b → foot Ua b := fun b ⟨i, q⟩ => by
    dsimp only [Ur0] at q
    split at q
    · exact ⟨i, q⟩
    · exact q.elim
  have R0 : Rel K Hf H (os.map some ++ List.replicate (n - os.length) none) (L2.start N vs) Ur0 := by
    refine ⟨sub, by unfold L2.start; simp only [List.length_append, List.length_map, List.length_replicate]; omega, fun i o e => ?_, fun i j b hne q1 q2 => ?_, fun i b q => ?_⟩
    · have hi : i < os.length := by
        by_cases hi : i < os.length
        · exact hi
        · rw [List.getElem?_append_right (by simpa using hi), List.getElem?_replicate] at e
          split at e <;> cases e
      rw [List.getElem?_append_left (by simpa using hi), List.getElem?_map] at e
      have hv : i < vs.length := by omega
      have eo : os[i]? = some o := by
        cases q : os[i]? with
        | none => rw [q] at e; cases e
        | some o' => rw [q] at e; cases e; rfl
      have ev : vs[i]? = some vs[i] := List.getElem?_eq_getElem hv
      refine ⟨_, start_get ev, ?_⟩
      have eU : Ur0 i = Ua i := if_pos hv
      rw [eU]
      exact ow.own i _ o ev eo
    · dsimp only [Ur0] at q1 q2
      split at q1
      · split at q2
        · exact ow.dj i j b hne q1 q2
        · exact q2.elim
      · exact q1.elim
    · dsimp only [Ur0] at q
      split at q
      · exact al i b q
      · exact q.elim
  have SA : ∀ {Hf' H' F'}, Step Hf H (foot Ur0) Hf' H' F' → Step Hf H (foot Ua) Hf' H' F' := fun S => ⟨S.mono, fun a u q => by
    rcases S.dom a u q with z | z | z
    · exact .inl z
    · exact .inr (.inl z)
    · exact .inr (.inr (fU _ z)), fun a u n q => S.frame a u (fun z => n (fU _ z)) q, fun b q => (S.foot b q).imp (fU b) id⟩
  have rfs : ∀ {ρ' : Env} {σ' : L2.St} {Hf' H' : Hp} {U' : UU}, Kept (fxOf modes) (L2.start N vs) σ' → Rel K Hf' H' ρ' σ' U' → RefsAt (refP K Hf' H' vs U') modes (refsOf ρ' modes 0) 0 := fun {ρ' σ' Hf' H' U'} k R' => by
    refine refsOf_at fun j ej o eo => ?_
    rw [Nat.zero_add] at eo ⊢
    have hj : j < vs.length := by
      have := (List.getElem?_eq_some_iff.mp ej).1
      omega
    have e1 : ρ'[j]? = some (some o) := by
      cases q : ρ'[j]? with
      | none => rw [q] at eo; cases eo
      | some w => rw [q] at eo; exact congrArg some eo
    obtain ⟨v, h1, h2⟩ := R'.own j o e1
    refine ⟨v, ?_, h2⟩
    rw [k.2 j ej, start_get (List.getElem?_eq_getElem hj)] at h1
    cases h1
    exact List.getElem?_eq_getElem hj
  refine ⟨Hf, _, Ur0, R0, ?_⟩
  cases eb : body (os.map some ++ List.replicate (n - os.length) none) with
  | bad => rw [eb] at h; exact h
  | exc x ρ' =>
    rw [eb] at h
    intro σ' Hf' H' U' k R' S cls d ex
    exact h cls d Hf' H' U' R'.sub (SA S) R'.dj R'.alive (rfs k R') ex
  | ok fl ρ' =>
    rw [eb] at h
    intro σ' Hf' H' U' k R' S
    cases fl with
    | nx => exact h .non Hf' H' U' (fun _ => False) R'.sub (SA S) R'.dj R'.alive (rfs k R') (.frz .non) fun _ q => q.elim
    | brk => exact h.elim
    | ct => exact h.elim
    | ret o =>
      intro v T ov tv
      exact h v Hf' H' U' T R'.sub (SA S) R'.dj R'.alive (rfs k R') ov fun b tb => ⟨(tv b tb).1, (tv b tb).2.1, (tv b tb).2.2.imp (fU b) id⟩
/-- a def whose object is known, from its body where no text of a row is under way -/
theorem FunD.okG {CX : CXT} {P : Program} {w : World} {K : PySem.W.Frag} {mg : Str → Option Value} {base : Heap} {x qual : Str} {params : Arguments} {body : List Stmt} {scope : Scope} {f : Addr} {fd : FuncData} {N ps : List Str} {k : Nat} {sp : Sp}
    (F : FunD K x qual params body scope [] [] f fd) (S : FnScope N ps scope) (len : ∀ vs H Q E, sp vs H Q E → vs.length = ps.length)
    (hbody : ∀ (cdv : Value) (A : Around) (out : List PySem.Env) (s : Shared) (H : Hp) (vs : List V) (Q : VK) (E : XK), (A.deeper (envOfC qual scope s.heap.objs.size f cdv)).guards = some [] → Room k (A.deeper (envOfC qual scope s.heap.objs.size f cdv)) → sp vs H Q E →
      ∃ t, PSs (cxOf CX P w K mg base N qual scope f cdv A out s H E) body t ∧ t { nx := fun _ H' => Q .non H', rt := Q } (L2.start N vs) H) : FnG P w K mg base CX (k + 1) f fd ps sp := by
  obtain ⟨oc, od, dV, kV, doc, pm, an, cdv, ct, osl, rfl, lk, hcd, _, _⟩ := F.ex
  refine ⟨len, fun A g out s H az us vs Q E room e0 hb r hsp => ?_⟩
  have kin : K.In s.heap := e0.mod.kin.keeps fun b o e => (e0.bs b o e).1
  have lim : s.heap.NoLimit := e0.mod.nolimit.keeps fun b o e => (e0.bs b o e).1
  refine codeAny_call_function room.depth (kin _ _ lk) rfl S.co S.gen rfl (PySem.W.codeRec_of kin hcd) (hb _ _ _ _ (wpAny_newFunctionEnv_cells S.kind (fun y hy => ?_) fun env he s1 x => ?_))
  · rcases S.par y.1 (List.of_mem_zip (show (y.1, y.2) ∈ _ from hy)).1 with q | q
    · exact .inl q
    · exact .inr ⟨q, PySem.W.cellsFrom_some _ _ _ (.inl q)⟩
  · subst he
    refine ⟨lim.keeps x.toInCall.keep, codeAny_func ?_⟩
    obtain ⟨t, ht, hq⟩ := hbody cdv A out s H vs Q E g (room.deeper _) hsp
    refine wpAny_mono (ht.run [] s1 (L2.start N vs) H _ (inv_start S room.hd e0 (len _ _ _ _ hsp) r x) hq) (fun fl s2 hs => ?_) fun e s2 hs => hs
    match fl, hs with
    | .ret u, ⟨v, σ2, H2, J, rv, q⟩ => exact ⟨v, H2, J.os, J.bare, J.base, J.hok, rv, q⟩
    | .next, ⟨σ2, H2, J, q⟩ => exact ⟨V.non, H2, J.os, J.bare, J.base, J.hok, rfl, q⟩
    | .brk, ⟨_, _, _, q⟩ => exact False.elim q
    | .cont, ⟨_, _, _, q⟩ => exact False.elim q
/-- THE RULE: a def, by its body's reading -/
theorem def_ok {P : Program} {w : World} {K : PySem.W.Frag} {mg : Str → Option Value} {base : Heap} {ct : Str → Option Addr} {x qual : Str} {params : Arguments} {body : List Stmt} {scope : Scope} {f : Addr} {fd : FuncData} {N ps : List Str} {k : Nat} {modes : List Bool} {mb : Env → R Fl}
    (F : FunD K x qual params body scope [] [] f fd) (S : FnScope N ps scope) (hm : modes.length = ps.length)
    (hbody : ∀ X : Cx, X.prog = P → X.w = w → X.K = K → X.mg = mg → X.base = base → X.N = N → X.env.scope = scope → X.calm = true → (∀ x, X.fn x = true) → X.A.guards = some [] → Room k X.A → ∀ W, L2N.Takes X W → PassesOwn (model X.prog X.w) X.A X.env X.xe → PSs X body (tS X.K ct W (fxOf modes) mb)) :
    FnG P w K mg base (L2N.CX P w) (k + 1) f fd ps (spF K ct (mkFn N.length modes mb)) := by
  have hpl : ps.length ≤ N.length := by have := congrArg List.length S.pre; rw [List.length_take] at this; omega
  refine FunD.okG F S (fun vs H Q E h => ?_) (fun cdv A outer s H vs Q E g hr h => ⟨_, ?_, def_sem rfl (by omega) h⟩)
  · obtain ⟨Hf, os, Ua, _, hl, _⟩ := h
    exact hl.trans hm
  · exact hbody (cxOf (L2N.CX P w) P w K mg base N qual scope f cdv A outer s H E) rfl rfl rfl rfl rfl rfl rfl rfl (fun _ => rfl) g hr _ (L2N.takes_of rfl rfl rfl rfl) (passes_of rfl)
end Tr
set_option Elab.async false
set_option linter.all false
set_option maxRecDepth 100000
set_option maxHeartbeats 4000000
/-! TrC15: list(reversed(a list)). -/
namespace RT
open PySem PySem.Calls PyProof.Rows PyProof
section
variable {prog : Program} {w : World} {A : Around} {E : Value → Shared → Prop} {s : Shared}
theorem extend_rev {it l S : Addr} {items : Array Value} {res : Value} {c₀ : Nat} {Q : Result → Shared → Prop} (hh : A.handled = none) (hit : s.heap.IsRevIter it l ((items.size : Int) - 1)) (hl : s.heap.IsList l items) (hne : l ≠ it) (hn : items.size ≤ sizeLine) (hSi : S ≠ it) (hSl : S ≠ l)
    (hS : s.heap.get? S = some { cls := .type "list", data := .seq #[] c₀ })
    (hQ : ∀ (s' : Shared) (acc : Array Value) (c' : Nat), (∀ b o, b ≠ it → b ≠ S → s.heap.get? b = some o → s'.heap.get? b = some o) → s' = { s with heap := s'.heap, toks := s'.toks } → s'.heap.get? S = some { cls := .type "list", dict := none, data := .seq acc c', slots := #[] } →
      ItemsOf (fun i v => items[items.size - 1 - i]? = some v) acc items.size → Q (.ok (.ret res)) s') :
    wpAny (model prog w) A.in1 (Builtin.List.listExtendWith (.ref S) (.ref it) res)
      (fun fin s' => match fin with | .done f => Q (.ok f) s' | .again c' => c'.quiet = true ∧ codeAny (model prog w) A c' Q s') (fun e s' => Q (.error e) s') s := by
  have W := (Walks.listRev (prog := prog) (w := w) (A := A.in1) hh it l hne items).toS
  have hSf : S ∉ [it, l] := by simp only [List.mem_cons, List.not_mem_nil, or_false, not_or]; exact ⟨hSi, hSl⟩
  have hT : s.TypeIs (.ref it) "list_reverseiterator" := Heap.IsRevIter.typeIs hit
  have h1 : Builtin.List.listSameRef (.ref S) (.ref it) = false := by simp [Builtin.List.listSameRef, hSi]
  unfold Builtin.List.listExtendWith
  refine wpAny_bind (wpAny_typeOf hT ?_)
  rw [if_neg (by rw [h1]; decide)]
  refine wpAny_bind (wpAny_pyIter_revIter hit ?_)
  refine wpAny_bind (wpAny_holding ?_)
  unfold Builtin.List.listLengthHint
  refine wpAny_bind (wpAny_specialOf hT nolen_lri ?_)
  show wpAny _ A.in1 (specialOf (Value.ref it) (Str.ofString "__length_hint__") >>= _) _ _ _
  refine wpAny_bind (wpAny_specialOf hT hint_lri ?_)
  generalize hid : ("list_reverseiterator.__length_hint__" : String) = id0
  wp_delta
  rw [show splitId id0 = some ("list_reverseiterator", "__length_hint__") from by subst hid; decide +kernel]
  subst hid
  refine wpAny_bind (wpAny_isInstance (b := true) hT (by rw [isSubtype_type]; kernel_rfl) ?_)
  refine wpAny_pure ?_
  rw [if_neg (by decide)]
  have e0 : ((items.size : Nat) : Int) - 1 - ((0 : Nat) : Int) = (items.size : Int) - 1 := by omega
  refine wpAny_pure ⟨plainId_quiet F.plain_extend_loop _, codeAny_extend_loopS W hn _ hSf _ items.size 0 _ _ _ rfl (Nat.zero_le _) ⟨Nat.zero_le _, by rw [e0]; exact hit, hl⟩ hS (ItemsOf.nil _) fun s' acc' c' hm hS' hacc => ?_⟩
  refine hQ s' acc' c' (fun b o h1 h2 e => hm.heap b o (fun hmem => ?_) e) (Moved.eq_with hm) hS' hacc
  rcases List.mem_cons.mp hmem with e' | hmem
  · exact h2 e'
  · exact h1 (List.mem_singleton.mp hmem)
end
end RT
namespace RT
open PySem PySem.Calls PyProof.Rows PyProof
section
variable {prog : Program} {w : World} {A : Around} {E : Value → Shared → Prop} {s : Shared}
theorem call_list_rev {it l : Addr} {items : Array Value} {Q : Value → Shared → Prop} (hh : A.handled = none) (hit : s.heap.IsRevIter it l ((items.size : Int) - 1)) (hl : s.heap.IsList l items) (hne : l ≠ it) (hn : items.size ≤ sizeLine)
    (hQ : ∀ (h' : Heap) (tk : Nat) (acc : Array Value) (c' : Nat), (∀ b o, b ≠ it → s.heap.get? b = some o → h'.get? b = some o) → h'.get? s.heap.objs.size = some { cls := .type "list", dict := none, data := .seq acc c', slots := #[] } →
      ItemsOf (fun i v => items[items.size - 1 - i]? = some v) acc items.size → Q (.ref s.heap.objs.size) { s with heap := h', toks := tk }) :
    wpAny (model prog w) A (call (.type "list") [.ref it]) Q E s := by
  obtain ⟨oi, hoi, _⟩ := id hit
  obtain ⟨ol, hol, _⟩ := id hl
  have hSi : s.heap.objs.size ≠ it := Nat.ne_of_gt (Heap.lt_size hoi)
  have hSl : s.heap.objs.size ≠ l := Nat.ne_of_gt (Heap.lt_size hol)
  refine callType_codes (Q₁ := fun obj s₁ => obj = .ref s.heap.objs.size ∧ s₁ = { s with heap := s.heap.push { cls := .type "list", data := .seq #[] } }) F.called_list (F.typeCall_list_1 _) F.entry_list_init
    (code_list_new _ ⟨rfl, rfl⟩) fun obj s₁ h₁ => ?_
  obtain ⟨rfl, rfl⟩ := h₁
  have hS : (s.heap.push { cls := .type "list", data := .seq #[] }).get? s.heap.objs.size = some { cls := .type "list", data := .seq #[] } := Heap.get?_push_size _ rfl
  refine ⟨⟨_, hS, rfl⟩, F.args_list_init_2 _ _, ?_⟩
  show wpAny _ A.in1.in1 (do let old ← Builtin.List.listItems (.ref s.heap.objs.size); Builtin.List.listUpdate (.ref s.heap.objs.size) (fun _ => #[]); letGo old.toList.reverse; Builtin.List.listExtendWith (.ref s.heap.objs.size) (.ref it) .none) _ _ _
  refine wpAny_bind ?_
  unfold Builtin.List.listItems
  refine wpAny_bind (wpAny_seqItems hS rfl (wpAny_pure ?_))
  show wpAny _ A.in1.in1 (updateSeq s.heap.objs.size (fun _ => #[]) >>= fun _ => letGo (#[] : Array Value).toList.reverse >>= fun _ => Builtin.List.listExtendWith (.ref s.heap.objs.size) (.ref it) .none) _ _ _
  refine wpAny_bind (wpAny_updateSeq hS rfl ?_)
  have hS2 := Heap.get?_update_self (Obj.mapSeq (fun _ => (#[] : Array Value))) hS rfl
  refine wpAny_bind (wpAny_letGo ?_)
  have up : ∀ b o, s.heap.get? b = some o → ((s.heap.push { cls := .type "list", data := .seq #[] }).update s.heap.objs.size (Obj.mapSeq (fun _ => (#[] : Array Value)))).get? b = some o := fun b o e =>
    (Heap.get?_update_other _ _ (Ne.symm (Nat.ne_of_lt (Heap.lt_size e)))).trans (Heap.get?_push_of_some _ e)
  refine extend_rev (s := { s with heap := _ }) (A := A.in1) hh (hit.at fun o e => up _ _ e) (hl.at fun o e => up _ o e) hne hn hSi hSl hS2 fun s' acc c' kp es hS' hacc => ?_
  refine ⟨rfl, ?_⟩
  rw [es]
  exact hQ s'.heap s'.toks acc c' (fun b o h1 e => kp b o h1 (Nat.ne_of_lt (Heap.lt_size e)) (up b o e)) hS' hacc
end
end RT
namespace Tr
open PySem PySem.Spec PyProof.Rows L2
section
variable {X : Cx} {ct : Str → Option Addr} {W : WX} {a b c e : Expr} {ma mb mc : Env → R D} {pos : Pos}
/-- list(reversed(x)), x a list: a new list -/
def tListRev (K : PySem.W.Frag) (te : TE) : TE := fun σ H Q => te σ H fun v H1 => ∃ (a : Addr) (xs : List V), v = .ref a ∧ SqL K H1 a xs ∧ ∀ q, H1 q = none → Q (.ref q) (upd H1 q (.lst xs.reverse))
theorem pe_listRev {e : Expr} {te : TE} {p p2 pos pos2 : Pos} (hc : X.calm = true) (hg : Gl X "list") (hm : X.mg "list" = none) (hg2 : Gl X "reversed") (hm2 : X.mg "reversed" = none) (he : PE X e te) (hs : notStar e = true) :
    PE X (.Call (.Name "list" p) [.Call (.Name "reversed" p2) [e] [] pos2] [] pos) (tListRev X.K te) := by
  have hs1 : starEach [e] X.env = (false, eval e X.env) :: starEach [] X.env := starEach_cons hs
  refine ⟨fun pins s σ H Q I h => ?_⟩
  refine Call_ (ld_blt I hg hm boot_list (PyProof.Rows.callWith_type1 (args_cons (Call_ (ld_blt I hg2 hm2 PyProof.Rows.boot_reversed (PyProof.Rows.callWith_type1 (args_cons (thn (he.run pins s σ H _ I h) fun u s1 ⟨v, H1, I1, r1, q1⟩ => args_nil ?_) hs1) hs1))))))
  obtain ⟨a, xs, ev, hq, q⟩ := q1
  subst ev
  obtain rfl : u = Value.ref a := r1
  obtain ⟨its, rv, p', hz⟩ := I1.list hq
  refine call_reversed_list p'.isList (args_nil ?_)
  have k0 : ∀ b o, s1.heap.get? b = some o → (s1.heap.push (revObj a ((its.toArray.size : Int) - 1))).get? b = some o := fun b o e => Heap.get?_push_of_some _ e
  have I2 : Inv X pins σ H1 { s1 with heap := s1.heap.push (revObj a ((its.toArray.size : Int) - 1)) } := I1.kept (t' := s1.toks) k0
  have fp := I1.fpOk (H' := H1) (b := s1.heap.objs.size) (Nat.le_refl _) (I1.hok.fresh (Nat.le_refl _))
  have hl := p'.isList
  obtain ⟨ol, hol, _⟩ := id hl
  have hne : a ≠ s1.heap.objs.size := Nat.ne_of_lt (Heap.lt_size hol)
  have hn : its.toArray.size ≤ sizeLine := by rw [List.size_toArray, ← rv.length]; exact hz
  refine RT.call_list_rev (s := { s1 with heap := s1.heap.push (revObj a ((its.toArray.size : Int) - 1)) }) (I1.ok.hd hc) ⟨_, Heap.get?_push_size _ rfl, rfl, rfl⟩ (hl.push _) hne hn fun h' tk acc c' hk hS hi => ?_
  have fp2 : ∀ b ∈ [s1.heap.objs.size], FpOk X pins H1 b := fun b hb => by
    have e : b = s1.heap.objs.size := by simpa using hb
    subst e
    exact fp
  have I3 := I2.turnedNew (ob := .lst xs.reverse) (t' := tk) (ch := [s1.heap.objs.size]) (T := (s1.heap.push (revObj a ((its.toArray.size : Int) - 1))).objs.size) (fun b o hb e => hk b o (by simpa using hb) e) fp2 (Nat.le_refl _)
    (show ObjOk X.prog X.w _ h' _ (.lst xs.reverse) from ⟨by rw [List.length_reverse]; exact hz, acc.toList, c', RT.vals_rev rv hi, by rw [Array.toArray_toList]; exact hS⟩)
  exact ⟨.ref _, _, I3, rfl, q _ (I2.hok.fresh (Nat.le_refl _))⟩
theorem f_rev (hc : X.calm = true) {p p2 pos2 : Pos} (bl : Blt X "list") (bl2 : Blt X "reversed") (ha : PE X a (tE X.K ct W ma)) (hs : notStar a = true) : PE X (.Call (.Name "list" p) [.Call (.Name "reversed" p2) [a] [] pos2] [] pos) (tF X.K ct W fun ρ => (ma ρ).bind fun d ρ => R.of (revO d) ρ) := by
  refine (pe_listRev hc bl.gl bl.no bl2.gl bl2.no ha hs).weak fun σ H Q h => oneF (R1' := fun x H' => ∃ (a : Addr) (xs : List V), x = .ref a ∧ SqL X.K H' a xs ∧ ∀ q, H' q = none → Q (.ref q) (upd H' q (.lst xs.reverse))) h fun d o Hf H U ρ' Hf' H' U' x R1 S1 rx e1 p => ?_
  unfold revO at e1
  split at e1 <;> first | contradiction | skip
  rename_i l
  split at e1 <;> first | contradiction | skip
  cases e1
  cases rx with
  | @lst a xs l h n it =>
    refine ⟨a, xs, rfl, SqL.of (R1.sub _ _ h), fun z hz => new_post p R1 S1 (by rw [List.length_reverse, List.length_reverse]; exact n) (fun i v d e1 e2 => ?_) hz⟩
    have hi : i < l.length := by
      have := (List.getElem?_eq_some_iff.mp e2).1
      simpa using this
    rw [List.getElem?_reverse (by omega)] at e1
    rw [List.getElem?_reverse hi] at e2
    exact it _ v d e1 (by rw [n]; exact e2)
end
end Tr
set_option Elab.async false
set_option linter.all false
set_option maxRecDepth 100000
set_option maxHeartbeats 4000000
/-! TrC16: lists of ranges, of the script; dict displays. -/
namespace Tr
open PySem PySem.Spec PyProof.Rows L2

section
variable {X : Cx} {ct : Str → Option Addr} {W : WX} {a b c : Expr} {ma mb mc : Env → R D} {pos : Pos}
theorem rgV_it {K : PySem.W.Frag} {Hf : Hp} {i : Int} {n : Nat} : ∀ (k : Nat) v d, ((List.range n).map fun (j : Nat) => V.int (i + (j : Int)))[k]? = some v → (rng i n)[k]? = some d → Rep K Hf v d := by
  intro k v d e1 e2
  unfold rng at e2
  rw [List.getElem?_map] at e1 e2
  cases e : (List.range n)[k]? with
  | none => rw [e] at e1; cases e1
  | some j => rw [e] at e1 e2; cases e1; cases e2; exact .int _
theorem f_listv {p : Pos} {s : Nat} (bl : Blt X "list") (ha : PE X a (tVar s)) (hs : notStar a = true) : PE X (.Call (.Name "list" p) [a] [] pos) (tF X.K ct W fun ρ => R.of ((ldV s ρ).bind scrO) ρ) := by
  refine (pe_callTy call_list_of bl.gl bl.no (by decide +kernel) (pa_cons ha pa_nil (starEach_cons hs)) (by decide) (by decide) (starEach_cons hs) back_nil).weak fun σ H Q q => ?_
  obtain ⟨Hf, ρ, U, R0, p⟩ := q
  obtain ⟨o', e1, _⟩ := p.of R0
  dsimp only at p
  rw [e1] at p
  rw [Option.bind_eq_some_iff] at e1
  obtain ⟨o, e2, e3⟩ := e1
  obtain ⟨v, h1, ov⟩ := R0.own _ _ (ldV_of e2)
  cases ov with
  | box => cases e3
  | frz => cases e3
  | @scr a m T hs =>
    simp only [scrO, Option.some.injEq] at e3
    subst e3
    refine ⟨_, h1, a, _, rfl, .inl (Same.seq R0.sub hs), fun z hz => ?_⟩
    have p4 : Post X.K σ Hf H U (EW X.K ct W σ) (kF X.K H U Q) (R.ok (.box ((m.map fun i => PyData.int i).map .frz)) ρ) := by
      rw [List.map_map]
      exact p
    refine new_post p4 R0 Step.refl (by simp) (fun i v d e1 e2 => ?_) hz
    rw [List.getElem?_map] at e1 e2
    cases e : m[i]? with
    | none => rw [e] at e1; cases e1
    | some k => rw [e] at e1 e2; cases e1; cases e2; exact .int k
theorem f_lrg1 (hc : X.calm = true) {p p2 pos2 : Pos} (bl : Blt X "list") (bl2 : Blt X "range") (ha : PE X a (tE X.K ct W ma)) (hs : notStar a = true) : PE X (.Call (.Name "list" p) [.Call (.Name "range" p2) [a] [] pos2] [] pos) (tF X.K ct W fun ρ => (ma ρ).bind fun d ρ => R.of (lrg1D d) ρ) := by
  refine (pe_listRg hc bl.gl bl.no (prg_1 bl2.gl bl2.no ha (starEach_cons hs)) rfl).weak fun σ H Q h => oneF (R1' := fun x H' => ∃ n, x = .int n ∧ RgOk 0 n ∧ ∀ q, H' q = none → Q (.ref q) (upd H' q (.lst (rgV 0 n)))) h fun d o Hf H U ρ' Hf' H' U' x R1 S1 rx e1 p => ?_
  cases rx <;> simp only [lrg1D, reduceCtorEq] at e1
  split at e1 <;> first | contradiction | skip
  rename_i n hn
  cases e1
  refine ⟨_, rfl, ⟨by omega, by omega, hn.1, by omega, by omega⟩, fun z hz => ?_⟩
  unfold rgV
  rw [Int.sub_zero]
  exact new_post p R1 S1 (by simp [rng]) rgV_it hz
theorem f_lrg2 (hc : X.calm = true) {p p2 pos2 : Pos} (bl : Blt X "list") (bl2 : Blt X "range") (ha : PE X a (tE X.K ct W ma)) (hb : PE X b (tE X.K ct W mb)) (hs : notStar a = true) (hs2 : notStar b = true) : PE X (.Call (.Name "list" p) [.Call (.Name "range" p2) [a, b] [] pos2] [] pos) (tF X.K ct W fun ρ => (ma ρ).bind fun d ρ => (mb ρ).bind fun e ρ => R.of (lrg2D d e) ρ) := by
  refine (pe_listRg hc bl.gl bl.no (prg_2 bl2.gl bl2.no ha hb (starEach_cons hs) (starEach_cons hs2) (back_one hs2)) rfl).weak fun σ H Q h => twoF (R2' := fun x y H' => ∃ i n, x = .int i ∧ y = .int n ∧ RgOk i n ∧ ∀ q, H' q = none → Q (.ref q) (upd H' q (.lst (rgV i n)))) h fun d e o Hf H U ρ' Hf' H' U' x y R1 S1 rx ry e1 p => ?_
  cases rx <;> cases ry <;> simp only [lrg2D, reduceCtorEq] at e1
  split at e1 <;> first | contradiction | skip
  rename_i hn
  cases e1
  obtain ⟨h1, h2, h3, h4, h5⟩ := hn
  refine ⟨_, _, rfl, rfl, ⟨h1, h2, h3, h4, h5⟩, fun z hz => ?_⟩
  unfold rgV
  exact new_post p R1 S1 (by simp [rng]) rgV_it hz

/-! ### dict displays -/
theorem dct_nil : PE X (.Dict [] [] pos) (tE X.K ct W fun ρ => R.of (dctD [] []) ρ) := pe_dnewK.weak fun σ H Q h => by
  obtain ⟨Hf, ρ, U, R0, p⟩ := h
  intro z hz
  exact p _ _ _ (R0.newF (o' := .dK []) hz) (Step.newF R0.sub hz) (.ref z) (.dct upd_same rfl rfl fun i p q e => by simp at e)
/-- the pairs of a display -/
structure DRow (X : Cx) (ct : Str → Option Addr) (W : WX) (pos : Pos) (ks : List Key) (keys : List (Option Expr)) (vs : List Expr) (m : Env → R (List D)) : Prop where
  trs : ∃ trs, PPs X pos keys vs trs ∧ ∀ σ H (Q : List (V × V) → Hp → Prop), tEs X.K ct W m σ H (fun ws H' => Q ((ks.zip ws).map fun kv => (kV kv.1, kv.2)) H') → tPairs trs σ H Q
  some : keys.all (·.isSome) = true
  len : keys.length = ks.length
  len2 : keys.length = vs.length
theorem drow_nil : DRow X ct W pos [] [] [] fun ρ => .ok [] ρ where
  trs := ⟨[], pps_nil, fun σ H Q q => by
    obtain ⟨Hf, ρ, U, R0, p⟩ := q
    exact p.ok R0 [] rfl fun i v d e => by simp at e⟩
  some := rfl
  len := rfl
  len2 := rfl
theorem drow_cons {k : Key} {ks : List Key} {ke v : Expr} {keys : List (Option Expr)} {vs : List Expr} {mm : Env → R (List D)} (hk : PE X ke (tC (kV k))) (hv : PE X v (tE X.K ct W ma)) (h : DRow X ct W pos ks keys vs mm) :
    DRow X ct W pos (k :: ks) (.some ke :: keys) (v :: vs) fun ρ => (ma ρ).bind fun d ρ => (mm ρ).bind fun l ρ => .ok (d :: l) ρ where
  trs := by
    obtain ⟨trs, h1, h2⟩ := h.trs
    refine ⟨_, pps_cons hk hv h1, fun σ H Q q => ?_⟩
    obtain ⟨Hf, ρ, U, R0, p⟩ := q
    show tE X.K ct W ma σ H _
    refine ⟨Hf, ρ, U, R0, p.then fun d ρ1 Hf1 H1 U1 R1 S1 p1 x rx => ?_⟩
    refine h2 _ _ _ ⟨Hf1, ρ1, U1, R1, p1.then fun l ρ2 Hf2 H2 U2 R2 S2 p2 vs n it => ?_⟩
    refine p2.ok R2 (x :: vs) (by simp [n]) fun i v d' e1 e2 => ?_
    cases i with
    | zero =>
      have e1' : x = v := by simpa using e1
      have e2' : d = d' := by simpa using e2
      subst e1' e2'
      exact rx.mono S2.mono
    | succ i => exact it i v d' (by simpa using e1) (by simpa using e2)
  some := by simpa using h.some
  len := by simp [h.len]
  len2 := by simp [h.len2]
theorem mergeK_nodup : ∀ (more kvs : List (Key × V)), ((kvs ++ more).map (·.1)).Nodup → mergeK kvs more = kvs ++ more
  | [], kvs, _ => by simp [mergeK]
  | p :: r, kvs, h => by
    have hp : (kvs.any fun kv => decide (kv.1 = p.1)) = false := by
      rw [List.any_eq_false]
      intro q hq hc
      have hc' : q.1 = p.1 := by simpa using hc
      rw [List.map_append, List.map_cons, List.nodup_append] at h
      exact h.2.2 q.1 (List.mem_map_of_mem hq) p.1 (by simp) hc'
    have e : putK kvs p.1 p.2 = kvs ++ [p] := by
      unfold putK
      rw [hp]
      rfl
    show mergeK (putK kvs p.1 p.2) r = _
    rw [e, mergeK_nodup r (kvs ++ [p]) (by simpa using h)]
    simp
theorem Post.shift {α : Type} {K : PySem.W.Frag} {σ : L2.St} {Hf H Hf1 H1 : Hp} {U U1 : UU} {E : Ex → Env → Hp → Hp → UU → Prop} {k : α → Env → Hp → Hp → UU → Prop} {r : R α} (h : Post K σ Hf H U E k r) (S : Step Hf H (foot U) Hf1 H1 (foot U1)) : Post K σ Hf1 H1 U1 E k r := by
  cases r with
  | bad => exact h
  | exc x ρ' => exact fun Hf' H' U' R S' => h Hf' H' U' R (S.trans S')
  | ok a ρ' => exact fun Hf' H' U' R S' => h Hf' H' U' R (S.trans S')
theorem upd_over {H : Hp} {p : Addr} {o : HO} {a : Addr} {u : HO} (h : H a = some u) (n : a ≠ p) : L2.upd H p o a = some u := by rw [upd_ne n]; exact h
/-- an object that nothing owns is written once, and stays -/
theorem Rel.fill {K : PySem.W.Frag} {Hf H : Hp} {ρ : Env} {σ : L2.St} {U : UU} {z : Addr} {o : HO} (R : Rel K Hf H ρ σ U) (h1 : Hf z = none) (h2 : ¬ foot U z) : Rel K (L2.upd Hf z o) (L2.upd H z o) ρ σ U where
  sub := fun a u q => by
    by_cases e : a = z
    · subst e; rw [upd_same] at q ⊢; exact q
    · rw [upd_ne e] at q ⊢; exact R.sub a u q
  len := R.len
  own := fun i o' e => let ⟨v, g1, g2⟩ := R.own i o' e; ⟨v, g1, g2.keep (upd_mono h1) (fun b u t q => upd_over q fun e => h2 ⟨i, by rw [← e]; exact t⟩) fun b u t q n => by
    rw [upd_ne fun e => h2 ⟨i, by rw [← e]; exact t⟩]; exact n⟩
  dj := R.dj
  alive := fun i b q z' => by
    by_cases e : b = z
    · subst e; exact h2 ⟨i, q⟩
    · rw [upd_ne e] at z'; exact R.alive i b q z'
theorem e_dct {ks : List Key} {keys : List (Option Expr)} {vs : List Expr} {mm : Env → R (List D)} (h : DRow X ct W pos ks keys vs mm) (h0 : keys ≠ []) (h15 : keys.length ≤ 15) :
    PE X (.Dict keys vs pos) (tE X.K ct W fun ρ => (mm ρ).bind fun l ρ => R.of (dctD ks l) ρ) := by
  obtain ⟨trs, h1, h2⟩ := h.trs
  refine (pe_disp h1 h.some h.len2 h0 h15).weak fun σ H Q q z hz => ?_
  obtain ⟨Hf, ρ, U, R0, p⟩ := q
  refine h2 _ _ _ ⟨Hf, ρ, U, R0.new (o' := .dK []) hz, (p.shift (Step.new hz)).bnd.mono fun l ρ1 Hf1 H1 U1 er R1 S1 p1 ws n it => ?_⟩
  have fz : Hf z = none := R0.sub.free hz
  have nu : ¬ foot U z := fun ⟨i, q⟩ => R0.alive i z q hz
  have up : L2.upd H z (.dK []) z = some (.dK []) := upd_same
  have f1 : Hf1 z = none := by
    cases e : Hf1 z with
    | none => rfl
    | some u =>
      rcases S1.dom z u e with q | q | q
      · rw [fz] at q; cases q
      · rw [up] at q; cases q
      · exact (nu q).elim
  have n1 : ¬ foot U1 z := fun q => by
    rcases S1.foot z q with q | q
    · exact nu q
    · rw [up] at q; cases q
  obtain ⟨d, e1, _⟩ := p1.of R1
  dsimp only at p
  rw [er, R.bind_ok, e1] at p
  unfold dctD at e1
  split at e1 <;> first | contradiction | skip
  rename_i hd
  obtain ⟨g1, g2, g3⟩ := hd
  cases e1
  have hw : ws.length = ks.length := n.trans g3
  have em : mergeK [] (ks.zip ws) = ks.zip ws := by
    rw [mergeK_nodup _ [] (by rw [List.nil_append, List.map_fst_zip (by omega)]; exact g1)]
    rfl
  refine ⟨S1.frame z _ nu up, ks.zip ws, rfl, by rw [List.length_zip]; omega, ?_⟩
  rw [em]
  have m1 : Same Hf1 (L2.upd Hf1 z (.dK (ks.zip ws))) := upd_mono f1
  refine p _ _ _ (R1.fill (o := .dK (ks.zip ws)) f1 n1) ?_ (.ref z) (.dct upd_same ?_ ?_ ?_)
  · exact ⟨fun a u q => m1 a u (S1.mono a u q), fun a u q => by
      by_cases e : a = z
      · subst e; exact .inr (.inl hz)
      · rw [upd_ne e] at q
        rcases S1.dom a u q with w | w | w
        · exact .inl w
        · rw [upd_ne e] at w; exact .inr (.inl w)
        · exact .inr (.inr w), fun a u na q => by
      have e : a ≠ z := fun e => by subst e; rw [hz] at q; cases q
      rw [upd_ne e]
      exact S1.frame a u na (by rw [upd_ne e]; exact q), fun a q => by
      rcases S1.foot a q with w | w
      · exact .inl w
      · by_cases e : a = z
        · subst e; exact .inr hz
        · rw [upd_ne e] at w; exact .inr w⟩
  · simp [List.length_zip, hw, g3]
  · rw [List.map_fst_zip (by simp [g3]), show (ks.zip ws).map (fun p => keyD p.1) = ((ks.zip ws).map (·.1)).map keyD by rw [List.map_map]; rfl, List.map_fst_zip (by omega)]
  · intro i p q e1 e2
    rw [List.getElem?_zip_eq_some] at e1 e2
    exact (it i _ _ e1.2 e2.2).mono m1
end
end Tr
set_option Elab.async false
set_option linter.all false
set_option maxRecDepth 100000
set_option maxHeartbeats 4000000
/-! TrC17: sets of whole numbers counted and sorted; sorted lists; tuples of ranges; lists the other way round. -/
namespace Tr
theorem nodup_dups : ∀ (n : Nat) (l : List Int), l.length ≤ n → l.eraseDups.Nodup
  | _, [], _ => by simp
  | 0, _ :: _, h => by simp at h
  | n + 1, a :: l, h => by
    rw [List.eraseDups_cons]
    refine List.nodup_cons.mpr ⟨fun q => ?_, nodup_dups n _ ?_⟩
    · rw [List.mem_eraseDups, List.mem_filter] at q
      simp at q
    · have := List.length_filter_le (fun b => !b == a) l
      simp at h
      omega
theorem dups_perm {ks r : List Int} (nd : ks.Nodup) (m : ∀ k, k ∈ ks ↔ k ∈ r) : ks.Perm r.eraseDups :=
  (List.perm_ext_iff_of_nodup nd (nodup_dups _ r (Nat.le_refl _))).mpr fun k => by rw [m, List.mem_eraseDups]
theorem dups_le (r : List Int) : r.eraseDups.length ≤ r.length :=
  (nodup_dups _ r (Nat.le_refl _)).length_le_of_subset fun k h => List.mem_eraseDups.mp h
theorem isort_perm (l : List Int) : (isort l).Perm l := List.mergeSort_perm _ _
theorem isort_le (l : List Int) : (isort l).Pairwise (· ≤ ·) :=
  (List.pairwise_mergeSort (le := fun (a b : Int) => decide (a ≤ b)) (fun a b c h1 h2 => by simp at h1 h2 ⊢; omega) (fun a b => by simp; omega) l).imp fun h => by simpa using h
theorem isort_eq {l m : List Int} (p : m.Perm l) (s : m.Pairwise (· ≤ ·)) : m = isort l :=
  List.Perm.eq_of_pairwise (fun a b _ _ h1 h2 => Int.le_antisymm h1 h2) s (isort_le l) (p.trans (isort_perm l).symm)
theorem isort_lt (r : List Int) : (isort r.eraseDups).Pairwise (· < ·) := by
  have nd : (isort r.eraseDups).Nodup := (isort_perm _).nodup_iff.mpr (nodup_dups _ r (Nat.le_refl _))
  exact ((isort_le r.eraseDups).and nd).imp fun {a b} ⟨h1, h2⟩ => by have h3 : a ≠ b := h2; omega
theorem mem_isort {r : List Int} {k : Int} : k ∈ isort r.eraseDups ↔ k ∈ r := by rw [(isort_perm _).mem_iff, List.mem_eraseDups]
end Tr
namespace RS
open PySem PySem.Calls PyProof.Rows PyProof L2
/-- the empty set that is made first -/
abbrev set0 (w : World) : Obj := { cls := .type "set", dict := none, data := .set #[] 0 (.fresh 0 0 (!w.params.followText "set-order")) }
section
variable {P : Program} {w : World} {A : Around} {E : Value → Shared → Prop} {s : Shared}
set_option maxHeartbeats 3200000 in
theorem set_of_list {l : Addr} {items : Array Value} (ns : List Int) {Q : Value → Shared → Prop} (calm : A.handled = none) (isl : s.heap.IsList l items) (isI : IntsAre items.toList ns) (few : ns.length + 1 < scanBound)
    (then_ : ∀ (h' : Heap) (tk c : Nat), SetR w h' s.heap.objs.size (fun j => decide (j ∈ ns)) c → (∀ b o, s.heap.get? b = some o → h'.get? b = some o) → Q (.ref s.heap.objs.size) { s with heap := h', toks := tk }) :
    wpAny (model P w) A (call (.type "set") [.ref l]) Q E s := by
  have sz : items.size = ns.length := by rw [← Array.length_toList]; exact IntsAre.length isI
  obtain ⟨c, tl, mro⟩ := F.called_set.mro
  have made := F.called_set.made
  have sub := F.called_set.sub
  have nt := F.called_set.notType
  have cc := F.called_set.canCreate
  have tc := F.typeCall_set_1 (.ref l)
  refine wpAny_call (codeAny_of_tree ?_)
  show wpAny _ _ (callAny (.type "set") _) _ _ _
  refine wpAny_pure ⟨Code.quiet_builtin _ (by decide +kernel), codeAny_builtin PySem.F.entry_type_call ?_⟩
  rw [Around.under_plain (weight_type_call_type "set" [.ref l] []) rfl]
  repeat (any_goals (first | assumption | wp_step))
  refine codeAny_mono (code_set_led1 (.ref l) (E := E) (Q₁ := fun obj t => obj = .ref s.heap.objs.size ∧ t = { s with heap := s.heap.push (set0 w) }) ⟨rfl, rfl⟩) fun r t hr => ?_
  cases r with
  | error e => exact hr
  | ok fl =>
    cases fl with
    | ret obj =>
      obtain ⟨rfl, rfl⟩ := hr
      have g0 : (s.heap.push (set0 w)).get? s.heap.objs.size = some (set0 w) := Heap.get?_push_size _ rfl
      have ty : Shared.TypeIs { s with heap := s.heap.push (set0 w) } (.ref s.heap.objs.size) "set" := ⟨_, g0, rfl⟩
      have li := F.called_set.init.lookup
      have bi := F.called_set.init.bind (.ref s.heap.objs.size)
      repeat (any_goals (first | assumption | wp_step))
      refine codeAny_mono (codeAny_call_builtin (R := wants (fun r t => r = .none ∧ ∃ h' tk c, t = { s with heap := h', toks := tk } ∧ SetR w h' s.heap.objs.size (fun j => decide (j ∈ ns)) c ∧ ∀ b o, s.heap.get? b = some o → h'.get? b = some o) E)
        F.called_set.init.plain F.entry_set_init (check_set_init_1 ty ?_)) fun r t hr => ?_
      · obtain ⟨⟨_, od, _, os⟩, hol, hc, nl, hd⟩ := isl
        simp only at hc hd
        subst hc hd
        have gl : (s.heap.push (set0 w)).get? l = some { cls := .type "list", dict := od, data := .seq items nl, slots := os } := Heap.get?_push_of_some _ hol
        have s1 := F.sub_list_set
        have s2 := F.sub_list_frozenset
        have ne : (Value.type "list" == Value.type "dict") = false := by decide
        have il : (s.heap.push (set0 w)).IsList l items := ⟨_, gl, rfl, nl, rfl⟩
        unfold Builtin.«set.__init__» noKeywords Builtin.Frozenset.updateFrom
        generalize hp : pyIter = pit
        wp_walk
        subst hp
        refine wpAny_pyIter_list il (wpAny_bind (wpAny_runValue ?_))
        have lt : l < s.heap.objs.size := Heap.lt_size hol
        have z1 : (s.heap.push (set0 w)).objs.size = s.heap.objs.size + 1 := Heap.size_push ..
        have nI : l ≠ (s.heap.push (set0 w)).objs.size := by rw [z1]; exact Nat.ne_of_lt (Nat.lt_succ_of_lt lt)
        have nF : s.heap.objs.size ∉ [(s.heap.push (set0 w)).objs.size, l] := by
          rw [z1]
          simp only [List.mem_cons, List.not_mem_nil, or_false, not_or]
          exact ⟨Nat.ne_of_lt (Nat.lt_succ_self _), fun q => Nat.lt_irrefl _ (q ▸ lt)⟩
        refine set_update_ints ((Walks.list (by simp [calm]) _ l nI items).toS) s.heap.objs.size nF ns sz few (fun i v hv => ?_) (items.size - 0) 0 _ (by omega) (Nat.zero_le _) ⟨⟨_, Heap.get?_push_size _ rfl, rfl, rfl⟩, il.push _⟩ ⟨0, Nat.le_refl 0, ?_⟩ fun t' c' mv _ hS => ?_
        · have hi : i < ns.length := by rw [← sz]; exact (Array.getElem?_eq_some_iff.mp hv).1
          obtain ⟨tk, e⟩ := IntsAre.int_at isI i v (by rw [Array.getElem?_toList]; exact hv)
          rw [List.getD_eq_getElem?_getD, List.getElem?_eq_getElem hi] at e
          exact ⟨ns[i], tk, List.getElem?_eq_getElem hi, e⟩
        · exact setR_new_at (Heap.get?_push_of_some _ g0)
        · obtain ⟨h', g2, d2, tk2, o2⟩ := t'
          have eg : g2 = s.gens := mv.gens
          have ed : d2 = s.drawn := mv.drawn
          have eo : o2 = s.os := mv.os
          subst eg ed eo
          show wpAny _ _ _ _ _ _
          refine wpAny_pure ?_
          show wpAny _ _ (ret Value.none) _ _ _
          refine wpAny_pure ⟨rfl, h', tk2, c', rfl, hS, fun b o e => mv.heap b o (fun hm => ?_) (Heap.get?_push_of_some _ (Heap.get?_push_of_some _ e))⟩
          have b1 : b < s.heap.objs.size := Heap.lt_size e
          rcases List.mem_cons.mp hm with q | q
          · rw [q] at b1; exact Nat.lt_irrefl _ b1
          · have q := List.mem_singleton.mp q
            rw [z1] at q
            rw [q] at b1
            exact Nat.lt_irrefl _ (Nat.lt_of_succ_lt b1)
      · cases r with
        | error e => exact hr
        | ok fl =>
          cases fl with
          | ret r =>
            obtain ⟨rfl, h', tk, c', rfl, hS, hk⟩ := hr
            repeat (any_goals (first | assumption | wp_step))
            exact then_ _ _ _ hS hk
          | _ => exact hr.elim
    | _ => exact hr.elim
end
end RS
namespace Tr
open PySem PySem.Spec PyProof.Rows L2
theorem setR_count {w : World} {h : Heap} {a : Addr} {ns : List Int} {c : Nat} (R : SetR w h a (fun j => decide (j ∈ ns)) c) : c = ns.eraseDups.length := by
  obtain ⟨o, es, ep, t, ho, hx, hd, g, nd, hm, hb, hf, hn, _⟩ := R
  have := (dups_perm nd (r := ns) fun k => by rw [← hm k]; simp).length_eq
  rw [List.length_map, Array.length_toList] at this
  omega
section
variable {X : Cx} {ct : Str → Option Addr} {W : WX} {a b c : Expr} {ma mb mc : Env → R D} {pos : Pos}
/-- set(x), x a list or a tuple of whole numbers -/
def rSetI (K : PySem.W.Frag) (w : World) : List V → Hp → VK → Prop := fun vs H Q => ∃ (a : Addr) (ns : List Int), vs = [.ref a] ∧ (SqL K H a (ns.map V.int) ∨ SqT K H a (ns.map V.int)) ∧ ns.length < 4000 ∧
  ∀ p, H p = none → Q (.ref p) (upd H p (SetO w p (fun j => decide (j ∈ ns)) ns.eraseDups.length))
theorem cr_setI (hc : X.calm = true) : CallR X (.type "set") (rSetI X.K X.w) := by
  intro pins s σ H vs us Q I r h
  obtain ⟨a, ns, rfl, hs, hl, q⟩ := h
  rw [Vals.ref1 r]
  have few : ns.length + 1 < scanBound := by unfold scanBound; omega
  have fin : ∀ (h' : Heap) (tk c : Nat), SetR X.w h' s.heap.objs.size (fun j => decide (j ∈ ns)) c → (∀ b o, s.heap.get? b = some o → h'.get? b = some o) → EP X pins σ Q (.ref s.heap.objs.size) { s with heap := h', toks := tk } := fun h' tk c R k => by
    have e := setR_count R
    subst e
    exact ⟨.ref _, _, I.laid k (Nat.le_refl _) (setO_new R), rfl, q _ (I.hok.fresh (Nat.le_refl _))⟩
  rcases hs with hs | hs
  · obtain ⟨its, rv, hi, hz⟩ := I.list hs
    exact RS.set_of_list ns (I.ok.hd hc) hi.isList (by simpa using rv.ints) few fin
  · obtain ⟨its, rv, hi, hz⟩ := I.tuple hs
    exact call_set_tupI ns (I.ok.hd hc) hi (by simpa using rv.ints) few fun h' tk c R _ k => fin h' tk c R k
/-- len(s), s such a set -/
def rLenO (w : World) : List V → Hp → VK → Prop := fun vs H Q => ∃ (a : Addr) (S : Int → Bool) (n : Nat), vs = [.ref a] ∧ H a = some (SetO w a S n) ∧ Q (.int (n : Nat)) H
theorem cr_lenO : CallR X (.builtin "len") (rLenO X.w) := by
  intro pins s σ H vs us Q I r h
  obtain ⟨a, S, n, rfl, ha, q⟩ := h
  rw [Vals.ref1 r]
  obtain ⟨o, es, ep, t, ho, hx, hd, g, nd, hm, hb, hf, hn, _⟩ := setO_get I ha
  refine call_len_set ho hx hd hf (by unfold scanBound at hb; omega) ⟨.int (n : Nat), H, I.tok _, ⟨_, by rw [hn]⟩, q⟩
theorem seq_ints {K : PySem.W.Frag} {Hf H : Hp} {x : V} {d : D} {ns : List Int} (h : Rep K Hf x d) (sub : Same Hf H) (e : (∃ l, d = .list l ∧ intsD l = some ns) ∨ ∃ l, d = .tuple l ∧ intsD l = some ns) : ∃ a, x = .ref a ∧ (SqL K H a (ns.map V.int) ∨ SqT K H a (ns.map V.int)) := by
  rcases e with ⟨l, rfl, e⟩ | ⟨l, rfl, e⟩
  · cases h with
    | lst h n it =>
      have := Rep.ints n it e
      subst this
      exact ⟨_, rfl, .inl (SqL.of (sub _ _ h))⟩
  · cases h with
    | tup h n it =>
      have := Rep.ints n it e
      subst this
      exact ⟨_, rfl, .inr (Same.seqT sub h)⟩
theorem lsetD_of {d e : D} (h : lsetD d = some e) : ∃ ns, ((∃ l, d = .list l ∧ intsD l = some ns) ∨ ∃ l, d = .tuple l ∧ intsD l = some ns) ∧ ns.length < 4000 ∧ e = .int (ns.eraseDups.length : Nat) := by
  cases d <;> simp only [lsetD, reduceCtorEq] at h
  all_goals
    rw [Option.bind_eq_some_iff] at h
    obtain ⟨r, h1, h2⟩ := h
    split at h2 <;> first | contradiction | skip
    cases h2
  · exact ⟨r, .inl ⟨_, rfl, h1⟩, by assumption, rfl⟩
  · exact ⟨r, .inr ⟨_, rfl, h1⟩, by assumption, rfl⟩
theorem sortSO_of {d : D} {o : O} (h : sortSO d = some o) : ∃ ns, ((∃ l, d = .list l ∧ intsD l = some ns) ∨ ∃ l, d = .tuple l ∧ intsD l = some ns) ∧ ns.length < 60 ∧ o = intsF (isort ns.eraseDups) := by
  cases d <;> simp only [sortSO, reduceCtorEq] at h
  all_goals
    rw [Option.bind_eq_some_iff] at h
    obtain ⟨r, h1, h2⟩ := h
    split at h2 <;> first | contradiction | skip
    cases h2
  · exact ⟨r, .inl ⟨_, rfl, h1⟩, by assumption, rfl⟩
  · exact ⟨r, .inr ⟨_, rfl, h1⟩, by assumption, rfl⟩
theorem Post.shiftO {α : Type} {K : PySem.W.Frag} {σ : L2.St} {Hf H : Hp} {U : UU} {z : Addr} {o : HO} {E : Ex → Env → Hp → Hp → UU → Prop} {k : α → Env → Hp → Hp → UU → Prop} {r : R α} (h : Post K σ Hf H U E k r) (hz : H z = none) : Post K σ Hf (upd H z o) U E k r :=
  h.shift (Step.new hz)
theorem e_lset (hc : X.calm = true) {p p2 pos2 : Pos} (bl : Blt X "len") (bl2 : Blt X "set") (ha : PE X a (tE X.K ct W ma)) (hs : notStar a = true) :
    PE X (.Call (.Name "len" p) [.Call (.Name "set" p2) [a] [] pos2] [] pos) (tE X.K ct W fun ρ => (ma ρ).bind fun d ρ => R.of (lsetD d) ρ) := by
  refine (pe_callB cr_lenO bl.gl bl.no PySem.boot_len (pa_cons (pe_callTy (cr_setI hc) bl2.gl bl2.no (by decide +kernel) (pa_cons ha pa_nil (starEach_cons hs)) (by decide) (by decide) (starEach_cons hs) back_nil) pa_nil (starEach_cons rfl)) (by decide) (by decide) (starEach_cons rfl) back_nil).weak fun σ H Q h => ?_
  obtain ⟨Hf, ρ, U, R0, p⟩ := h
  refine ⟨Hf, ρ, U, R0, p.then fun d ρ1 Hf1 H1 U1 R1 S1 p1 x rx => ?_⟩
  obtain ⟨e, e1, _⟩ := p1.of R1
  rw [e1] at p1
  obtain ⟨ns, e2, e3, rfl⟩ := lsetD_of e1
  obtain ⟨ad, rfl, sq⟩ := seq_ints rx R1.sub e2
  refine ⟨ad, ns, rfl, sq, e3, fun z hz => ⟨z, _, _, rfl, upd_same, ?_⟩⟩
  exact p1 _ _ _ (R1.new hz) (Step.new hz) _ (.int _)
theorem ints_it {K : PySem.W.Frag} {Hf : Hp} {ns : List Int} : ∀ (i : Nat) v d, (ns.map V.int)[i]? = some v → (ns.map fun i => (PyData.int i : D))[i]? = some d → Rep K Hf v d := by
  intro i v d e1 e2
  rw [List.getElem?_map] at e1 e2
  cases e : ns[i]? with
  | none => rw [e] at e1; cases e1
  | some k => rw [e] at e1 e2; cases e1; cases e2; exact .int k
theorem f_sortS (hc : X.calm = true) {p p2 pos2 : Pos} (bl : Blt X "sorted") (bl2 : Blt X "set") (ha : PE X a (tE X.K ct W ma)) (hs : notStar a = true) :
    PE X (.Call (.Name "sorted" p) [.Call (.Name "set" p2) [a] [] pos2] [] pos) (tF X.K ct W fun ρ => (ma ρ).bind fun d ρ => R.of (sortSO d) ρ) := by
  refine (pe_callB (cr_sortedSet hc) bl.gl bl.no (by decide +kernel) (pa_cons (pe_callTy (cr_setI hc) bl2.gl bl2.no (by decide +kernel) (pa_cons ha pa_nil (starEach_cons hs)) (by decide) (by decide) (starEach_cons hs) back_nil) pa_nil (starEach_cons rfl)) (by decide) (by decide) (starEach_cons rfl) back_nil).weak fun σ H Q h => ?_
  refine oneF (R1' := fun x H' => ∃ (a : Addr) (ns : List Int), [x] = [.ref a] ∧ (SqL X.K H' a (ns.map V.int) ∨ SqT X.K H' a (ns.map V.int)) ∧ ns.length < 4000 ∧ ∀ p, H' p = none → rSortedSet X.w [.ref p] (upd H' p (SetO X.w p (fun j => decide (j ∈ ns)) ns.eraseDups.length)) Q) h fun d o Hf H U ρ' Hf' H' U' x R1 S1 rx e1 p => ?_
  obtain ⟨ns, e2, e3, rfl⟩ := sortSO_of e1
  obtain ⟨ad, rfl, sq⟩ := seq_ints rx R1.sub e2
  refine ⟨ad, ns, rfl, sq, by omega, fun z hz => ⟨z, _, _, rfl, upd_same, ?_, fun ms q h1 h2 h3 hq => ?_⟩⟩
  · have := dups_le ns
    omega
  · have nd : ms.Nodup := h1.imp fun {a b} h => by omega
    have e4 : ms = isort ns.eraseDups := isort_eq (dups_perm nd fun k => by rw [h2]; simp) (h1.imp fun h => Int.le_of_lt h)
    rw [e4]
    exact new_post (p.shiftO hz) (R1.new hz) (S1.trans (Step.new hz)) (by simp) ints_it hq
theorem f_sort (hc : X.calm = true) {p : Pos} (bl : Blt X "sorted") (ha : PE X a (tE X.K ct W ma)) (hs : notStar a = true) :
    PE X (.Call (.Name "sorted" p) [a] [] pos) (tF X.K ct W fun ρ => (ma ρ).bind fun d ρ => R.of (sortO d) ρ) := by
  refine (pe_callB cr_sortedI bl.gl bl.no (by decide +kernel) (pa_cons ha pa_nil (starEach_cons hs)) (by decide) (by decide) (starEach_cons hs) back_nil).weak fun σ H Q h =>
    oneF (R1' := fun x H' => rSortedI X.K [x] H' Q) h fun d o Hf H U ρ' Hf' H' U' x R1 S1 rx e1 p => ?_
  cases d <;> simp only [sortO, reduceCtorEq] at e1
  rw [Option.map_eq_some_iff] at e1
  obtain ⟨ns, e2, rfl⟩ := e1
  obtain ⟨ad, rfl, sq⟩ := list_ints rx R1.sub e2
  refine ⟨ad, ns, rfl, sq, fun ms q h1 h2 hq => ?_⟩
  rw [isort_eq h1 h2]
  exact new_post p R1 S1 (by simp) ints_it hq
theorem e_tupRg (hc : X.calm = true) {p p2 pos2 : Pos} (bl : Blt X "tuple") (bl2 : Blt X "range") (ha : PE X a (tE X.K ct W ma)) (hs : notStar a = true) : PE X (.Call (.Name "tuple" p) [.Call (.Name "range" p2) [a] [] pos2] [] pos) (tE X.K ct W fun ρ => (ma ρ).bind fun d ρ => R.of (tupRgD d) ρ) := by
  refine (pe_tupRg hc bl.gl bl.no (prg_1 bl2.gl bl2.no ha (starEach_cons hs)) rfl).weak fun σ H Q h => ?_
  obtain ⟨Hf, ρ, U, R0, p⟩ := h
  refine ⟨Hf, ρ, U, R0, p.then fun d ρ1 Hf1 H1 U1 R1 S1 p1 x rx => ?_⟩
  obtain ⟨e, e1, _⟩ := p1.of R1
  rw [e1] at p1
  cases rx <;> simp only [tupRgD, reduceCtorEq] at e1
  split at e1 <;> first | contradiction | skip
  rename_i n hn
  cases e1
  refine ⟨_, rfl, ⟨by omega, by omega, hn.1, by omega, by omega⟩, fun z hz => ?_⟩
  have m := upd_mono (H := Hf1) (p := z) (o := .tup (rgV 0 n)) (R1.sub.free hz)
  refine p1 _ _ _ (R1.newF (o' := .tup (rgV 0 n)) hz) (Step.newF R1.sub hz) _ (.tup (SqT.of upd_same) (by simp [rng, rgV]) fun i v d e1 e2 => ?_)
  unfold rgV at e1
  rw [Int.sub_zero] at e1
  exact (rgV_it i v d e1 e2).mono m
end
end Tr
set_option Elab.async false
set_option linter.all false
set_option maxRecDepth 100000
set_option maxHeartbeats 4000000
/-! TrC18: tuples the other way round. -/
namespace RT2
open PySem PySem.Spec PyProof.Rows HT
section
variable {prog : Program} {w : World} {A : Around} {E : Value → Shared → Prop} {s : Shared}
theorem adjust_rev (n : Nat) : Builtin.Slice.sliceAdjust none none (-1) (n : Int) = ((n : Int) - 1, -1) := by
  unfold Builtin.Slice.sliceAdjust
  simp
theorem places_rev (n : Nat) : Builtin.Slice.slicePlaces ((n : Int) - 1) (-1) (-1) = n := by
  unfold Builtin.Slice.slicePlaces
  have h1 : ¬ ((-1 : Int) > 0) := by decide
  simp only [h1, if_false]
  split
  · have e : ((n : Int) - 1 - -1 - 1) / (- -1) = (n : Int) - 1 := by
      rw [show (- -1 : Int) = 1 by decide, Int.ediv_one]
      omega
    omega
  · omega
theorem sliceApplied_rev {sl : Addr} {t : Tok} {n : Nat} {Q : Int × Int × Nat → Shared → Prop} (hs : s.heap.IsSliceOf sl .none .none (.int (-1) t))
    (h : Q ((n : Int) - 1, -1, n) s) : wpAny (model prog w) A (Builtin.Slice.sliceApplied (.ref sl) (pure (n : Int))) Q E s := by
  obtain ⟨os, hos, hcs, hds⟩ := id hs
  unfold Builtin.Slice.sliceApplied Builtin.Slice.sliceFields
  refine wpAny_bind (wpAny_bind (wpAny_field hos hds (x := .none) rfl (wpAny_bind (wpAny_field hos hds (x := .none) rfl (wpAny_bind (wpAny_field hos hds (x := .int (-1) t) rfl (wpAny_pure ?_)))))))
  refine wpAny_bind (slicePart_int ?_)
  show wpAny _ _ (if ((-1 : Int) == 0) = true then _ else _) _ _ s
  rw [if_neg (by decide)]
  refine wpAny_bind (slicePart_none (wpAny_bind (slicePart_none (wpAny_bind (wpAny_pure ?_)))))
  show wpAny _ _ (match Builtin.Slice.sliceAdjust none none (-1) (n : Int) with | (lo, hi) => pure (lo, (-1 : Int), Builtin.Slice.slicePlaces lo hi (-1))) _ _ s
  rw [adjust_rev n]
  show wpAny _ _ (pure ((n : Int) - 1, (-1 : Int), Builtin.Slice.slicePlaces ((n : Int) - 1) (-1) (-1))) _ _ s
  rw [places_rev]
  exact wpAny_pure h
theorem fm_congr {α β : Type} {f g : α → Option β} : ∀ {l : List α}, (∀ x ∈ l, f x = g x) → l.filterMap f = l.filterMap g
  | [], _ => rfl
  | a :: l, h => by rw [List.filterMap_cons, List.filterMap_cons, h a List.mem_cons_self, fm_congr fun x hx => h x (List.mem_cons_of_mem _ hx)]
theorem pick_rev (xs : Array Value) : ((List.range xs.size).filterMap fun (m : Nat) => xs[((xs.size : Int) - 1 + (m : Int) * (-1)).toNat]?).toArray = xs.toList.reverse.toArray := by
  have e : (List.range xs.size).filterMap (fun (m : Nat) => xs[((xs.size : Int) - 1 + (m : Int) * (-1)).toNat]?) = ((List.range xs.size).map fun k => xs.size - 1 - k).filterMap (xs[·]?) := by
    rw [List.filterMap_map]
    refine fm_congr fun m hm => ?_
    have := List.mem_range.mp hm
    have e : ((xs.size : Int) - 1 + (m : Int) * (-1)).toNat = xs.size - 1 - m := by omega
    show xs[_]? = xs[xs.size - 1 - m]?
    rw [e]
  rw [e, PySem.W.krv_range, List.filterMap_reverse, PySem.W.krv_all]
theorem getItem_tuple_rev {t sl : Addr} {items : Array Value} {k : Tok} {Q : Value → Shared → Prop} (ht : IsTup s.heap t items) (hs : s.heap.IsSliceOf sl .none .none (.int (-1) k))
    (h : Q (.ref s.heap.objs.size) { s with heap := s.heap.push { cls := .type "tuple", data := .seq items.toList.reverse.toArray } })
    (hsz : items.size ≤ sizeLine) : wpAny (model prog w) A (getItem (.ref t) (.ref sl)) Q E s := by
  have htake : sizeOk (.seq items.toList.reverse.toArray) := by
    show items.toList.reverse.toArray.size ≤ sizeLine
    rw [List.size_toArray, List.length_reverse, Array.length_toList]
    omega
  obtain ⟨os, hos, hcs, hds⟩ := id hs
  have hTs : s.TypeIs (.ref sl) "slice" := ⟨os, hos, hcs⟩
  unfold getItem
  try with_reducible refine wpAny_holding ?_
  first | refine wpAny_bind (wpAny_pure ?_) | skip
  refine wpAny_bind (wpAny_sequenceKey ht.typeIs (by decide) ?_)
  refine wpAny_bind (wpAny_callSpecial?_slot (name := Str.ofString "__getitem__") ht.typeIs PyProof.Rows.slot_tuple_getitem
    (wpAny_call_entry PyProof.Rows.slot_tuple_getitem ht.typeIs entry_tuple_getitem ?_ (args_tuple_getitem _ _)))
  show wpAny _ _ (Builtin.Tuple.tupleItemsOf (.ref t) >>= _) _ _ s
  refine wpAny_bind (tupleItemsOf_ ht ?_)
  refine wpAny_bind (wpAny_typeOf hTs ?_)
  rw [if_pos (by decide)]
  refine wpAny_bind (sliceApplied_rev hs ?_)
  have hno : ¬ ((((items.size : Int) - 1) == 0 && (-1 : Int) == 1 && items.size == items.size) = true) := by simp
  show wpAny _ _ (if ((((items.size : Int) - 1) == 0 && (-1 : Int) == 1 && items.size == items.size) = true) then _ else _) _ _ s
  rw [if_neg hno, pick_rev]
  first
    | exact wpAny_bind (m := Builtin.Tuple.tupleExact _) (wpAny_newObj_type (wpAny_pure ⟨_, rfl, wpAny_pure h⟩) htake)
    | exact wpAny_bind (m := Builtin.Tuple.tupleExact _) (wpAny_newObj_type (wpAny_bind (wpAny_pure (wpAny_pure ⟨_, rfl, wpAny_pure h⟩))) htake)
    | exact wpAny_bind (wpAny_bind (m := Builtin.Tuple.tupleExact _) (wpAny_newObj_type (wpAny_pure (wpAny_pure ⟨_, rfl, wpAny_pure h⟩)) htake))
    | exact wpAny_bind (wpAny_bind (m := Builtin.Tuple.tupleExact _) (wpAny_newObj_type (wpAny_pure ⟨_, rfl, wpAny_pure h⟩) htake))
end
end RT2

namespace Tr
open PySem PySem.Spec PyProof.Rows L2
def tRevX (K : PySem.W.Frag) (te : TE) : TE := fun σ H Q => te σ H fun x H1 => (∃ a xs, x = .ref a ∧ SqL K H1 a xs ∧ ∀ p, H1 p = none → Q (.ref p) (upd H1 p (.lst xs.reverse))) ∨ (∃ a xs, x = .ref a ∧ SqT K H1 a xs ∧ ∀ p, H1 p = none → Q (.ref p) (upd H1 p (.tup xs.reverse)))
theorem pe_revX {X : Cx} {e : Expr} {te : TE} {k : Nat} {p1 p2 p3 pos : Pos} (he : PE X e te) : PE X (.Subscript e (.Slice none none (some (.UnaryOp .USub (.Constant (.int 1) k p1) p2)) p3) pos) (tRevX X.K te) := by
  refine ⟨fun pins s σ H Q I h => ?_⟩
  refine Subscript_ (thn (he.run pins s σ H _ I h) fun v s1 ⟨x, H1, I1, r1, q1⟩ => ?_)
  have hst : PO X (some (.UnaryOp .USub (.Constant (.int 1) k p1) p2)) (tPart (tUn (rU fun i => .int (-i)) (tC (.int 1)))) := po_some (pe_un un_neg pe_int)
  refine wpAny_Slice (thn (po_none.run pins s1 σ H1 (fun o H2 => o = none ∧ H2 = H1) I1 ⟨rfl, rfl⟩) fun vl s2 ⟨l, H2, I2, pl, el, e2⟩ => ?_)
  subst el e2
  refine thn (po_none.run pins s2 σ H2 (fun o H3 => o = none ∧ H3 = H2) I2 ⟨rfl, rfl⟩) fun vu s3 ⟨u, H3, I3, pu, eu, e3⟩ => ?_
  subst eu e3
  refine thn (hst.run pins s3 σ H3 (fun o H4 => o = some (-1) ∧ H4 = H3) I3 ⟨1, rfl, -1, rfl, rfl, rfl⟩) fun vs s4 ⟨o, H4, I4, ps, eo, e4⟩ => ?_
  subst eo e4
  have I5 : Inv X pins σ H4 { s4 with heap := s4.heap.push { cls := .type "slice", data := .fields #[vl, vu, vs] } } := I4.kept (t' := s4.toks) fun b ob q => Heap.get?_push_of_some _ q
  rcases q1 with ⟨a, xs, ex, hx, q⟩ | ⟨a, xs, ex, hx, q⟩
  · subst ex
    cases r1
    obtain ⟨its, r, ht, hz⟩ := I5.list hx
    have hlen := r.length
    show wpAny (model X.prog X.w) X.A (subscriptTail e (.Slice none none (some (.UnaryOp .USub (.Constant (.int 1) k p1) p2)) p3) (.ref a) (.ref s4.heap.objs.size)) (EP X pins σ Q) X.xe { s4 with heap := s4.heap.push { cls := .type "slice", data := .fields #[vl, vu, vs] } }
    refine tail_any (ops := [.ref a, .ref s4.heap.objs.size]) ht.isList.typeIs (PySem.slot_list_getitem.lookup) ?_ (by with_unfolding_all rfl)
    refine wpAny_getItem_list_slice ht.isList (Heap.IsSliceOf.new _ vl vu vs) pl pu ps (by decide) ?_ (by rw [List.size_toArray]; omega)
    rw [PySem.W.krv_pick]
    refine ⟨.ref _, _, I5.laid (t' := s4.toks) (o := .lst xs.reverse) (fun b ob q => Heap.get?_push_of_some _ q) (Nat.le_refl _) ?_, rfl, q _ (I5.hok.fresh (Nat.le_refl _))⟩
    exact ⟨by rw [List.length_reverse]; exact hz, _, 0, r.reverse, Heap.get?_push_size _ rfl⟩
  · subst ex
    cases r1
    cases pl
    cases pu
    obtain ⟨tk, rfl⟩ : ∃ tk, vs = .int (-1) tk := by cases ps; exact ⟨_, rfl⟩
    obtain ⟨its, r, ht, hz⟩ := I5.tuple hx
    have hlen := r.length
    show wpAny (model X.prog X.w) X.A (subscriptTail e (.Slice none none (some (.UnaryOp .USub (.Constant (.int 1) k p1) p2)) p3) (.ref a) (.ref s4.heap.objs.size)) (EP X pins σ Q) X.xe { s4 with heap := s4.heap.push { cls := .type "slice", data := .fields #[.none, .none, .int (-1) tk] } }
    refine tail_any (ops := [.ref a, .ref s4.heap.objs.size]) ht.typeIs PyProof.Rows.slot_tuple_getitem.lookup ?_ (by with_unfolding_all rfl)
    refine RT2.getItem_tuple_rev ht (Heap.IsSliceOf.new _ .none .none (.int (-1) tk)) ?_ (by rw [List.size_toArray]; omega)
    refine ⟨.ref _, _, I5.laid (t' := s4.toks) (o := .tup xs.reverse) (fun b ob q => Heap.get?_push_of_some _ q) (Nat.le_refl _) ?_, rfl, q _ (I5.hok.fresh (Nat.le_refl _))⟩
    exact ⟨by rw [List.length_reverse]; exact hz, _, r.reverse, IsTup.new _ _⟩
section
variable {X : Cx} {ct : Str → Option Addr} {W : WX} {a : Expr} {ma : Env → R D} {pos : Pos}
theorem f_revX {k : Nat} {p1 p2 p3 : Pos} (ha : PE X a (tE X.K ct W ma)) :
    PE X (.Subscript a (.Slice none none (some (.UnaryOp .USub (.Constant (.int 1) k p1) p2)) p3) pos) (tF X.K ct W fun ρ => (ma ρ).bind fun d ρ => R.of (revX d) ρ) := by
  refine (pe_revX ha).weak fun σ H Q h => oneF (R1' := fun x H' => (∃ (a : Addr) (xs : List V), x = .ref a ∧ SqL X.K H' a xs ∧ ∀ q, H' q = none → Q (.ref q) (upd H' q (.lst xs.reverse))) ∨ (∃ (a : Addr) (xs : List V), x = .ref a ∧ SqT X.K H' a xs ∧ ∀ q, H' q = none → Q (.ref q) (upd H' q (.tup xs.reverse)))) h fun d o Hf H U ρ' Hf' H' U' x R1 S1 rx e1 p => ?_
  unfold revX at e1
  split at e1 <;> first | contradiction | skip
  · rename_i l
    split at e1 <;> first | contradiction | skip
    cases e1
    cases rx with
    | @lst a xs l h n it =>
      refine .inl ⟨a, xs, rfl, SqL.of (R1.sub _ _ h), fun z hz => new_post p R1 S1 (by simp [n]) (fun i v d e1 e2 => ?_) hz⟩
      have hi : i < l.length := by
        have := (List.getElem?_eq_some_iff.mp e2).1
        simpa using this
      rw [List.getElem?_reverse (by omega)] at e1
      rw [List.getElem?_reverse hi] at e2
      exact it _ v d e1 (by rw [n]; exact e2)
  · rename_i l
    cases e1
    cases rx with
    | @tup a xs l h n it =>
      refine .inr ⟨a, xs, rfl, Same.seqT R1.sub h, fun z hz => tup_post p R1 (by simp [n]) (fun i v d e1 e2 => ?_) hz⟩
      have hi : i < l.length := by
        have := (List.getElem?_eq_some_iff.mp e2).1
        simpa using this
      rw [List.getElem?_reverse (by omega)] at e1
      rw [List.getElem?_reverse hi] at e2
      exact it _ v d e1 (by rw [n]; exact e2)
end
end Tr
set_option Elab.async false
set_option linter.all false
set_option maxRecDepth 100000
set_option maxHeartbeats 4000000
/-! TrC9d: list(zip(..)) over lists and tuples. -/
namespace LZ
open PySem PySem.Calls PyProof.Rows PyProof PySem.W
section
variable {prog : Program} {w : World} {A : Around} {E : Value → Shared → Prop} {s : Shared} {z TI TO T i1 i2 : Addr} {fp1 fp2 : List Addr} {n1 n2 i : Nat} {P1 P2 : Nat → Value → Prop} {St1 St2 : Nat → Heap → Prop} {a1 a2 : Value} {f : Bool} {oT : Obj}
/-- the next pair, the one ahead held -/
theorem next_item_held {Q : Value → Shared → Prop} (S : ZipSep2 z TI TO i1 i2 fp1 fp2) (D1 : Draws prog w A i1 fp1 n1 P1 St1) (D2 : Draws prog w A i2 fp2 n2 P2 St2)
    (hz : IsZipHeld s.heap z TI TO T f) (hT : s.heap.get? T = some oT) (hTI : IsTupOf2 s.heap TI (.ref i1) (.ref i2)) (st1 : St1 i s.heap) (st2 : St2 i s.heap) (hlt1 : i < n1) (hlt2 : i < n2)
    (hQ : ∀ x1 x2 h' tk, P1 i x1 → P2 i x2 → IsZipHeld h' z TI TO T true → St1 (i + 1) h' → St2 (i + 1) h' → IsTupOf2 h' s.heap.objs.size x1 x2 → h'.objs.size = s.heap.objs.size + 1 →
      (∀ c o, c ≠ z → c ≠ i1 → c ≠ i2 → s.heap.get? c = some o → h'.get? c = some o) → Q (.ref s.heap.objs.size) { s with heap := h', toks := tk }) :
    wpAny (model prog w) A (Builtin.«zip.__next__» ⟨[.ref z], []⟩) (fun fin s' => ∃ v, fin = .done (.ret v) ∧ Q v s') E s := by
  obtain ⟨hp, g, d, tk0, os⟩ := s
  show wpAny _ _ (field (.ref z) 2 >>= _) _ _ _
  refine wpAny_bind (wpAny_field hz rfl (x := .bool false) rfl ?_)
  show wpAny _ _ (field (.ref z) 3 >>= _) _ _ _
  refine wpAny_bind (wpAny_field hz rfl (x := .ref TI) rfl ?_)
  refine wpAny_bind (wpAny_seqItems hTI rfl ?_)
  show wpAny _ _ (Builtin.SmallTypes.ownedTupleIsFree (.ref z) >>= _) _ _ _
  refine wpAny_bind (wpAny_tupleHeld_zip hz hT fun h₁ hz₁ hs₁ => ?_)
  replace hs₁ : Heap.SameBut z hp h₁ := hs₁
  simp only [Bool.false_eq_true, if_false]
  refine wpAny_bind ?_
  rw [← Array.forIn_toList]
  simp only [List.forIn_cons, List.forIn_nil]
  refine wpAny_bind (wpAny_bind (wpAny_holding ?_))
  show wpAny _ _ (Builtin.SmallTypes.nextOf (.ref i1) >>= _) _ _ ⟨h₁, g, d, tk0, os⟩
  refine wpAny_bind (D1.item i _ _ _ hlt1 (D1.over st1 hs₁ S.zf1) fun x1 h₂ tk1 hx1 sn1 hs₂ => wpAny_pure ?_)
  replace hs₂ : Heap.SameBut i1 h₁ h₂ := hs₂
  refine wpAny_pure ?_
  refine wpAny_bind (wpAny_bind (wpAny_holding ?_))
  show wpAny _ _ (Builtin.SmallTypes.nextOf (.ref i2) >>= _) _ _ ⟨h₂, g, d, tk1, os⟩
  refine wpAny_bind (D2.item i _ _ _ hlt2 (D2.over (D2.over st2 hs₁ S.zf2) hs₂ S.sep1_2) fun x2 h₃ tk2 hx2 sn2 hs₃ => wpAny_pure ?_)
  replace hs₃ : Heap.SameBut i2 h₂ h₃ := hs₃
  refine wpAny_pure (wpAny_pure ?_)
  show wpAny _ _ (newTuple [x1, x2] >>= _) _ _ ⟨h₃, g, d, tk2, os⟩
  refine wpAny_bind (wpAny_newTuple ?_)
  have hsz : h₃.objs.size = hp.objs.size := by rw [hs₃.1, hs₂.1, hs₁.1]
  have hz₃ : IsZipHeld h₃ z TI TO T true := hs₃.extBut _ _ S.zi2 (hs₂.extBut _ _ S.zi1 hz₁)
  have hk : ∀ c o, c ≠ z → c ≠ i1 → c ≠ i2 → hp.get? c = some o → h₃.get? c = some o := fun c o c1 c2 c3 e => hs₃.extBut _ _ c3 (hs₂.extBut _ _ c2 (hs₁.extBut _ _ c1 e))
  have sn1' : St1 (i + 1) h₃ := D1.over sn1 hs₃ S.sep2_1
  refine wpAny_pure ⟨_, rfl, ?_⟩
  show Q (.ref h₃.objs.size) _
  have hp4 : IsTupOf2 (h₃.push { cls := .type "tuple", data := .seq #[x1, x2] }) h₃.objs.size x1 x2 := Heap.get?_push_size _ rfl
  have hz4 : (h₃.push { cls := .type "tuple", data := .seq #[x1, x2] }).objs.size = h₃.objs.size + 1 := Heap.size_push ..
  rw [hsz] at hp4 hz4 ⊢
  exact hQ x1 x2 _ tk2 hx1 hx2 (Heap.get?_push_of_some _ hz₃) (D1.frame _ _ _ sn1' fun b _ o e => Heap.get?_push_of_some _ e) (D2.frame _ _ _ sn2 fun b _ o e => Heap.get?_push_of_some _ e) hp4 hz4 fun c o c1 c2 c3 e => Heap.get?_push_of_some _ (hk c o c1 c2 c3 e)
theorem next_end_held {Q : PySem.Fin → Shared → Prop} (S : ZipSep2 z TI TO i1 i2 fp1 fp2) (D1 : Draws prog w A i1 fp1 n1 P1 St1) (D2 : Draws prog w A i2 fp2 n2 P2 St2)
    (hz : IsZipHeld s.heap z TI TO T f) (hT : s.heap.get? T = some oT) (hTI : IsTupOf2 s.heap TI (.ref i1) (.ref i2)) (st1 : St1 i s.heap) (st2 : St2 i s.heap) (hle1 : i ≤ n1) (hle2 : i ≤ n2) (hend : i = n1 ∨ i = n2)
    (hE : ∀ h' tk e, (∀ c o, c ≠ z → c ≠ TO → c ≠ i1 → c ≠ i2 → s.heap.get? c = some o → h'.get? c = some o) → (∃ o, h'.get? e = some o ∧ o.cls = .type "StopIteration") → E (.ref e) { s with heap := h', toks := tk }) :
    wpAny (model prog w) A (Builtin.«zip.__next__» ⟨[.ref z], []⟩) Q E s := by
  obtain ⟨hp, g, d, tk0, os⟩ := s
  show wpAny _ _ (field (.ref z) 2 >>= _) _ _ _
  refine wpAny_bind (wpAny_field hz rfl (x := .bool false) rfl ?_)
  show wpAny _ _ (field (.ref z) 3 >>= _) _ _ _
  refine wpAny_bind (wpAny_field hz rfl (x := .ref TI) rfl ?_)
  refine wpAny_bind (wpAny_seqItems hTI rfl ?_)
  show wpAny _ _ (Builtin.SmallTypes.ownedTupleIsFree (.ref z) >>= _) _ _ _
  refine wpAny_bind (wpAny_tupleHeld_zip hz hT fun h₁ hz₁ hs₁ => ?_)
  replace hs₁ : Heap.SameBut z hp h₁ := hs₁
  simp only [Bool.false_eq_true, if_false]
  refine wpAny_bind ?_
  rw [← Array.forIn_toList]
  simp only [List.forIn_cons, List.forIn_nil]
  refine wpAny_bind (wpAny_bind (wpAny_holding ?_))
  show wpAny _ _ (Builtin.SmallTypes.nextOf (.ref i1) >>= _) _ _ ⟨h₁, g, d, tk0, os⟩
  by_cases hlt1 : i < n1
  · refine wpAny_bind (D1.item i _ _ _ hlt1 (D1.over st1 hs₁ S.zf1) fun x1 h₂ tk1 hx1 sn1 hs₂ => wpAny_pure ?_)
    replace hs₂ : Heap.SameBut i1 h₁ h₂ := hs₂
    refine wpAny_pure ?_
    refine wpAny_bind (wpAny_bind (wpAny_holding ?_))
    show wpAny _ _ (Builtin.SmallTypes.nextOf (.ref i2) >>= _) _ _ ⟨h₂, g, d, tk1, os⟩
    have hi2 : i = n2 := by omega
    refine wpAny_bind (D2.done ⟨h₂, g, d, tk1, os⟩ _ _ (by rw [← hi2]; exact D2.over (D2.over st2 hs₁ S.zf2) hs₂ S.sep1_2) fun q e hq he => ?_)
    replace hq : Heap.ExtBut i2 h₂ q := hq
    exact hE q tk1 e (fun c o c1 _ c2 c3 x => hq _ _ c3 (hs₂.extBut _ _ c2 (hs₁.extBut _ _ c1 x))) he
  · have hi1 : i = n1 := by omega
    refine wpAny_bind (D1.done ⟨h₁, g, d, tk0, os⟩ _ _ (by rw [← hi1]; exact D1.over st1 hs₁ S.zf1) fun q e hq he => ?_)
    replace hq : Heap.ExtBut i1 h₁ q := hq
    exact hE q tk0 e (fun c o c1 _ c2 _ x => hq _ _ c2 (hs₁.extBut _ _ c1 x)) he
end
end LZ
namespace LZ
open PySem PySem.Calls PyProof.Rows PyProof PySem.W
section
variable {prog : Program} {w : World} {A : Around} {E : Value → Shared → Prop} {s : Shared} {z TI TO i1 i2 : Addr} {fp1 fp2 : List Addr} {n1 n2 i : Nat} {P1 P2 : Nat → Value → Prop} {St1 St2 : Nat → Heap → Prop}
/-- the zip object: fresh, or the last pair still held -/
def ZS (h : Heap) (z TI TO i1 i2 : Addr) (St1 St2 : Nat → Heap → Prop) (i : Nat) : Prop :=
  ((IsZip h z TI TO .none ∧ ∃ a1 a2, IsTupOf2 h TO a1 a2) ∨ ∃ T f oT, IsZipHeld h z TI TO T f ∧ h.get? T = some oT ∧ T ≠ z ∧ T ≠ TO ∧ T ≠ i1 ∧ T ≠ i2) ∧ IsTupOf2 h TI (.ref i1) (.ref i2) ∧ St1 i h ∧ St2 i h ∧ ∃ o, h.get? TO = some o
theorem ZS.ty {h : Heap} (Z : ZS h z TI TO i1 i2 St1 St2 i) : ∃ o, h.get? z = some o ∧ o.cls = .type "zip" := by
  rcases Z.1 with ⟨h, _⟩ | ⟨_, _, _, h, _⟩
  · exact ⟨_, h, rfl⟩
  · exact ⟨_, h, rfl⟩
theorem ZS.iter {Q : Value → Shared → Prop} (Z : ZS s.heap z TI TO i1 i2 St1 St2 i) (h : Q (.ref z) s) : wpAny (model prog w) A (pyIter (.ref z)) Q E s := by
  have hT : s.TypeIs (.ref z) "zip" := Z.ty
  rcases Z.1 with ⟨hz, _⟩ | ⟨T, f, _, hz, _⟩
  · exact wpAny_pyIter_zip hz h
  · refine wpAny_pyIter_slot hT F.slot_zip_iter (wpAny_call_entry F.slot_zip_iter hT F.entry_zip_iter ?_ (F.args_zip_iter_1 _))
    show wpAny _ _ (ret (.ref z)) _ _ s
    exact wpAny_pure ⟨_, rfl, "zip", _, hT, F.slot_zip_next.lookup, h⟩
/-- all but what is written here stays -/
theorem ZS.frame {h h' : Heap} (S : ZipSep2 z TI TO i1 i2 fp1 fp2) (D1 : Draws prog w A i1 fp1 n1 P1 St1) (D2 : Draws prog w A i2 fp2 n2 P2 St2) (Z : ZS h z TI TO i1 i2 St1 St2 i) {S0 : Addr} (k : ∀ b o, b ≠ S0 → h.get? b = some o → h'.get? b = some o) (hz : z ≠ S0) (hI : TI ≠ S0) (hO : TO ≠ S0) (h1 : S0 ∉ fp1) (h2 : S0 ∉ fp2)
    (hT : ∀ T f, IsZipHeld h z TI TO T f → T ≠ S0) : ZS h' z TI TO i1 i2 St1 St2 i := by
  obtain ⟨c, hTI, s1, s2, oo, ho⟩ := Z
  refine ⟨?_, k _ _ hI hTI, D1.frame _ _ _ s1 fun b hb o e => k b o (fun q => h1 (q ▸ hb)) e, D2.frame _ _ _ s2 fun b hb o e => k b o (fun q => h2 (q ▸ hb)) e, oo, k _ _ hO ho⟩
  rcases c with ⟨c, a1, a2, d⟩ | ⟨T, f, oT, c, d, r⟩
  · exact .inl ⟨k _ _ hz c, a1, a2, k _ _ hO d⟩
  · exact .inr ⟨T, f, oT, k _ _ hz c, k _ _ (hT T f c) d, r⟩
theorem next_item {Q : Option Value → Shared → Prop} (S : ZipSep2 z TI TO i1 i2 fp1 fp2) (D1 : Draws prog w A.in1 i1 fp1 n1 P1 St1) (D2 : Draws prog w A.in1 i2 fp2 n2 P2 St2)
    (Z : ZS s.heap z TI TO i1 i2 St1 St2 i) (hlt1 : i < n1) (hlt2 : i < n2)
    (hQ : ∀ x1 x2 h' tk, P1 i x1 → P2 i x2 → ZS h' z TI TO i1 i2 St1 St2 (i + 1) → IsTupOf2 h' s.heap.objs.size x1 x2 → h'.objs.size = s.heap.objs.size + 1 →
      (∀ c o, c ≠ z → c ≠ TO → c ≠ i1 → c ≠ i2 → s.heap.get? c = some o → h'.get? c = some o) → (∀ T f, IsZipHeld h' z TI TO T f → (∃ o, s.heap.get? T = some o) ∧ (∃ f, IsZipHeld s.heap z TI TO T f) ∨ T = s.heap.objs.size) → Q (some (.ref s.heap.objs.size)) { s with heap := h', toks := tk }) :
    wpAny (model prog w) A (pyNext (.ref z)) Q E s := by
  have hT : s.TypeIs (.ref z) "zip" := Z.ty
  obtain ⟨c, hTI, s1, s2, oo, ho⟩ := Z
  have lt : ∀ {c o}, s.heap.get? c = some o → s.heap.objs.size ≠ c := fun e => Nat.ne_of_gt (Heap.lt_size e)
  have l1 : s.heap.objs.size ≠ i1 := by obtain ⟨_, e⟩ := D1.live _ _ s1; exact lt e
  have l2 : s.heap.objs.size ≠ i2 := by obtain ⟨_, e⟩ := D2.live _ _ s2; exact lt e
  rcases c with ⟨c, a1, a2, d⟩ | ⟨T, f, oT, c, d, r1, r2, r3, r4⟩
  · refine wpAny_pyNext_zipD2_item S D1 D2 c hTI d s1 s2 hlt1 hlt2 fun x1 x2 h' tk y1 y2 b1 b2 d1 d2 b5 b6 hk => ?_
    refine hQ x1 x2 h' tk y1 y2 ⟨.inr ⟨_, false, _, b1, b5, lt c, lt d, l1, l2⟩, hk _ _ S.TIz S.TITO S.TIi1 S.TIi2 hTI, d1, d2, _, b2⟩ b5 b6 hk fun T f q => .inr ?_
    have e := b1.symm.trans q
    simp [rawInt] at e
    exact (Int.ofNat_inj.mp e.1).symm
  · unfold pyNext
    refine wpAny_bind (wpAny_attempt (wpAny_callSpecial?_slot (name := Str.ofString "__next__") hT F.slot_zip_next
      (wpAny_call_entry F.slot_zip_next hT F.entry_zip_next
        (next_item_held S D1 D2 c d hTI s1 s2 hlt1 hlt2 fun x1 x2 h' tk y1 y2 b1 d1 d2 b5 b6 hk => wpAny_pure ?_) (F.args_zip_next_1 _))))
    refine hQ x1 x2 h' tk y1 y2 ⟨.inr ⟨T, true, oT, b1, hk _ _ r1 r3 r4 d, r1, r2, r3, r4⟩, hk _ _ S.TIz S.TIi1 S.TIi2 hTI, d1, d2, oo, hk _ _ S.TOz (fun e => S.Tf1 (e ▸ S.mem1)) (fun e => S.Tf2 (e ▸ S.mem2)) ho⟩ b5 b6 (fun c o c1 _ c2 c3 e => hk c o c1 c2 c3 e) fun T' f' q => .inl ?_
    have e := b1.symm.trans q
    have e2 : T = T' := by
      simp [rawInt] at e
      exact Int.ofNat_inj.mp e.1
    subst e2
    exact ⟨⟨oT, d⟩, f, c⟩
theorem next_end {Q : Option Value → Shared → Prop} (S : ZipSep2 z TI TO i1 i2 fp1 fp2) (D1 : Draws prog w A.in1 i1 fp1 n1 P1 St1) (D2 : Draws prog w A.in1 i2 fp2 n2 P2 St2)
    (Z : ZS s.heap z TI TO i1 i2 St1 St2 i) (hle1 : i ≤ n1) (hle2 : i ≤ n2) (hend : i = n1 ∨ i = n2)
    (hQ : ∀ h' tk, (∀ c o, c ≠ z → c ≠ TO → c ≠ i1 → c ≠ i2 → s.heap.get? c = some o → h'.get? c = some o) → Q none { s with heap := h', toks := tk }) :
    wpAny (model prog w) A (pyNext (.ref z)) Q E s := by
  have hT : s.TypeIs (.ref z) "zip" := Z.ty
  obtain ⟨c, hTI, s1, s2, _⟩ := Z
  rcases c with ⟨c, a1, a2, d⟩ | ⟨T, f, oT, c, d, _⟩
  · exact wpAny_pyNext_zipD2_end S D1 D2 c hTI d s1 s2 hle1 hle2 hend hQ
  · unfold pyNext
    refine wpAny_bind (wpAny_attempt (wpAny_callSpecial?_slot (name := Str.ofString "__next__") hT F.slot_zip_next
      (wpAny_call_entry F.slot_zip_next hT F.entry_zip_next (next_end_held S D1 D2 c d hTI s1 s2 hle1 hle2 hend fun h' tk e hk he => ?_) (F.args_zip_next_1 _))))
    obtain ⟨o, ho, hc⟩ := he
    refine wpAny_bind (wpAny_isInstance (T := "StopIteration") (b := true) ⟨o, ho, hc⟩ isSubtype_stop ?_)
    exact wpAny_pure (hQ _ _ hk)
end
end LZ
namespace LZ
open PySem PySem.Calls PyProof.Rows PyProof PySem.W
abbrev lstO (acc : Array Value) (c : Nat) : Obj := { cls := .type "list", dict := none, data := .seq acc c, slots := #[] }
/-- what the list holds so far: new pairs -/
structure Acc (base : Nat) (h : Heap) (P1 P2 : Nat → Value → Prop) (bad : List Addr) (i : Nat) (acc : Array Value) (Ts : List Addr) : Prop where
  eq : acc.toList = Ts.map Value.ref
  len : Ts.length = i
  nd : Ts.Nodup
  ge : ∀ T ∈ Ts, base ≤ T ∧ T ∉ bad
  at_ : ∀ (j : Nat) T, Ts[j]? = some T → ∃ x y, P1 j x ∧ P2 j y ∧ IsTupOf2 h T x y
section
variable {prog : Program} {w : World} {A : Around} {R : Result → Shared → Prop} {z TI TO i1 i2 L : Addr} {fp1 fp2 : List Addr} {n1 n2 : Nat} {P1 P2 : Nat → Value → Prop} {St1 St2 : Nat → Heap → Prop} {base : Nat}
theorem Acc.move {h h' : Heap} {bad : List Addr} {i : Nat} {acc : Array Value} {Ts : List Addr} (x : Acc base h P1 P2 bad i acc Ts) (k : ∀ b o, b ∉ bad → h.get? b = some o → h'.get? b = some o) : Acc base h' P1 P2 bad i acc Ts :=
  ⟨x.eq, x.len, x.nd, x.ge, fun j T e => let ⟨a, b, p, q, r⟩ := x.at_ j T e; ⟨a, b, p, q, k _ _ (x.ge T (List.mem_of_getElem? e)).2 r⟩⟩
theorem Acc.push {h : Heap} {bad : List Addr} {i : Nat} {acc : Array Value} {Ts : List Addr} {T : Addr} {x y : Value} (a : Acc base h P1 P2 bad i acc Ts) (hb : base ≤ T) (hn : T ∉ bad) (h1 : P1 i x) (h2 : P2 i y) (hT : IsTupOf2 h T x y) (new : T ∉ Ts) : Acc base h P1 P2 bad (i + 1) (acc.push (.ref T)) (Ts ++ [T]) where
  eq := by rw [Array.toList_push, a.eq, List.map_append]; rfl
  len := by rw [List.length_append, a.len]; rfl
  nd := by
    rw [List.nodup_append]
    refine ⟨a.nd, by simp, fun u hu v hv e => ?_⟩
    have := List.mem_singleton.mp hv
    subst this
    subst e
    exact new hu
  ge := fun U hU => by
    rcases List.mem_append.mp hU with c | c
    · exact a.ge U c
    · rw [List.mem_singleton.mp c]; exact ⟨hb, hn⟩
  at_ := fun j U e => by
    by_cases c : j < Ts.length
    · rw [List.getElem?_append_left c] at e
      exact a.at_ j U e
    · rw [List.getElem?_append_right (by omega)] at e
      have hj : j = i := by
        have := (List.getElem?_eq_some_iff.mp e).1
        have := a.len
        simp at *
        omega
      subst hj
      rw [a.len, Nat.sub_self] at e
      cases e
      exact ⟨x, y, h1, h2, hT⟩
theorem loop (S : ZipSep2 z TI TO i1 i2 fp1 fp2) (D1 : Draws prog w A.in1.in1 i1 fp1 n1 P1 St1) (D2 : Draws prog w A.in1.in1 i2 fp2 n2 P2 St2) (hz : z ≠ L) (hI : TI ≠ L) (hO : TO ≠ L) (h1 : L ∉ fp1) (h2 : L ∉ fp2) (hn : min n1 n2 ≤ sizeLine) (res : Value) :
    ∀ (k i : Nat) (s : Shared) (acc : Array Value) (c : Nat) (Ts : List Addr), min n1 n2 - i = k → i ≤ min n1 n2 → ZS s.heap z TI TO i1 i2 St1 St2 i → (∀ T f, IsZipHeld s.heap z TI TO T f → T ≠ L) → base ≤ s.heap.objs.size → s.heap.get? L = some (lstO acc c) →
    Acc base s.heap P1 P2 [L, z, TO, i1, i2] i acc Ts →
    (∀ s' acc' c' Ts', (∀ b o, b ∉ [L, z, TO, i1, i2] → s.heap.get? b = some o → s'.heap.get? b = some o) → s' = { s with heap := s'.heap, toks := s'.toks } → s'.heap.get? L = some (lstO acc' c') → Acc base s'.heap P1 P2 [L, z, TO, i1, i2] (min n1 n2) acc' Ts' → R (.ok (.ret res)) s') →
    codeAny (model prog w) A (.builtin "list.extend.loop" ⟨[.ref L, .ref z, res], []⟩) R s := by
  have m1 : L ≠ i1 := fun e => h1 (e ▸ S.mem1)
  have m2 : L ≠ i2 := fun e => h2 (e ▸ S.mem2)
  intro k
  induction k with
  | zero =>
    intro i s acc c Ts hk hi Z hH hb hL ha hR
    have hin : i = min n1 n2 := by omega
    subst hin
    refine codeAny_builtin F.entry_extend_loop ?_
    rw [Around.under_plainId F.plain_extend_loop _]
    show wpAny _ A.in1 (pyNext (.ref z) >>= _) _ _ s
    refine wpAny_bind (next_end S D1 D2 Z (Nat.min_le_left _ _) (Nat.min_le_right _ _) (by omega) fun h' tk hm => ?_)
    have hm' : ∀ b o, b ∉ [L, z, TO, i1, i2] → s.heap.get? b = some o → h'.get? b = some o := fun b o q e => hm b o (fun u => q (by simp [u])) (fun u => q (by simp [u])) (fun u => q (by simp [u])) (fun u => q (by simp [u])) e
    exact wpAny_pure (hR { s with heap := h', toks := tk } acc c Ts hm' rfl (hm L _ hz.symm hO.symm m1 m2 hL) (ha.move hm'))
  | succ k ih =>
    intro i s acc c Ts hk hi Z hH hb hL ha hR
    have hlt : i < min n1 n2 := by omega
    refine codeAny_builtin F.entry_extend_loop ?_
    rw [Around.under_plainId F.plain_extend_loop _]
    show wpAny _ A.in1 (pyNext (.ref z) >>= _) _ _ s
    refine wpAny_bind (next_item S D1 D2 Z (by omega) (by omega) fun x1 x2 h' tk p1 p2 Z' hT hsz hm hH' => ?_)
    have hL' := hm L _ hz.symm hO.symm m1 m2 hL
    have lt : ∀ {b o}, s.heap.get? b = some o → s.heap.objs.size ≠ b := fun e => Nat.ne_of_gt (Heap.lt_size e)
    show wpAny _ A.in1 (updateSeq L (·.push (.ref s.heap.objs.size)) >>= _) _ _ { s with heap := h', toks := tk }
    refine wpAny_bind ?_
    have hHL : ∀ T f, IsZipHeld h' z TI TO T f → T ≠ L := fun T f q => by
      rcases hH' T f q with ⟨_, f', q'⟩ | e
      · exact hH T f' q'
      · rw [e]; exact lt hL
    have hm' : ∀ b o, b ∉ [L, z, TO, i1, i2] → s.heap.get? b = some o → h'.get? b = some o := fun b o q e => hm b o (fun u => q (by simp [u])) (fun u => q (by simp [u])) (fun u => q (by simp [u])) (fun u => q (by simp [u])) e
    have nb : s.heap.objs.size ∉ [L, z, TO, i1, i2] := by
      obtain ⟨_, e1⟩ := D1.live _ _ Z.2.2.1
      obtain ⟨_, e2⟩ := D2.live _ _ Z.2.2.2.1
      obtain ⟨_, e3, _⟩ := Z.ty
      obtain ⟨_, e4⟩ := Z.2.2.2.2
      intro q
      simp only [List.mem_cons, List.not_mem_nil, or_false] at q
      rcases q with q | q | q | q | q
      · exact lt hL q
      · exact lt e3 q
      · exact lt e4 q
      · exact lt e1 q
      · exact lt e2 q
    have up : ∀ b o, b ≠ L → h'.get? b = some o → (h'.update L (Obj.mapSeq (·.push (Value.ref s.heap.objs.size)))).get? b = some o := fun b o q e => (Heap.get?_update_other _ _ (Ne.symm q)).trans e
    have asz : acc.size = i := by
      have := congrArg List.length ha.eq
      rw [List.length_map, ha.len, Array.length_toList] at this
      exact this
    refine wpAny_updateSeq (s := { s with heap := h', toks := tk }) hL' rfl (wpAny_pure ⟨plainId_quiet F.plain_extend_loop _, ih (i + 1) { s with heap := h'.update L (Obj.mapSeq (·.push (Value.ref s.heap.objs.size))), toks := tk } (acc.push (.ref s.heap.objs.size)) _ (Ts ++ [s.heap.objs.size]) (by omega) hlt (Z'.frame S D1 D2 up hz hI hO h1 h2 hHL) (fun T f q => ?_) ?_ (Heap.get?_update_self _ hL' rfl) (((ha.move hm').push hb nb p1 p2 hT fun q => ?_).move fun b o q e => up b o (fun u => q (by simp [u])) e) fun s'' acc' c' Ts' hk'' es hS'' hacc' => ?_⟩)
      (by rw [asz]; omega) (by show (acc.push _).size ≤ sizeLine + 1; rw [Array.size_push, asz]; omega)
    · exact hHL T f ((Heap.get?_update_other _ _ (Ne.symm hz)).symm.trans q)
    · show base ≤ (h'.update L _).objs.size
      rw [Heap.size_update, hsz]
      omega
    · obtain ⟨j, hj⟩ := List.getElem?_of_mem q
      obtain ⟨_, _, _, _, r⟩ := ha.at_ j _ hj
      exact lt r rfl
    · refine hR s'' acc' c' Ts' (fun b o q e => hk'' b o q (up b o (fun u => q (by simp [u])) (hm' b o q e))) ?_ hS'' hacc'
      rw [es]
end
end LZ
namespace LZ
open PySem PySem.Calls PyProof.Rows PyProof PySem.W
theorem nolen_zip : typeLookup (.type "zip") "__len__" = pure none := by rw [typeLookup_type, builtinLookup_eq_fast]; kernel_rfl
theorem nohint_zip : typeLookup (.type "zip") "__length_hint__" = pure none := by rw [typeLookup_type, builtinLookup_eq_fast]; kernel_rfl
theorem notHeld {h : Heap} {z TI TO T : Addr} {f : Bool} (a : IsZip h z TI TO .none) (b : IsZipHeld h z TI TO T f) : False := by
  have e := a.symm.trans b
  simp [rawInt] at e
section
variable {prog : Program} {w : World} {A : Around} {E : Value → Shared → Prop} {s : Shared} {z TI TO i1 i2 L : Addr} {fp1 fp2 : List Addr} {n1 n2 : Nat} {P1 P2 : Nat → Value → Prop} {St1 St2 : Nat → Heap → Prop} {base : Nat} {res : Value}
theorem extend_zip {c₀ : Nat} {Q : Result → Shared → Prop} (S : ZipSep2 z TI TO i1 i2 fp1 fp2) (D1 : Draws prog w A.in1.in1 i1 fp1 n1 P1 St1) (D2 : Draws prog w A.in1.in1 i2 fp2 n2 P2 St2) (hz : z ≠ L) (hI : TI ≠ L) (hO : TO ≠ L) (h1 : L ∉ fp1) (h2 : L ∉ fp2) (hn : min n1 n2 ≤ sizeLine)
    (Z0 : IsZip s.heap z TI TO .none) (Z : ZS s.heap z TI TO i1 i2 St1 St2 0) (hb : base ≤ s.heap.objs.size) (hL : s.heap.get? L = some (lstO #[] c₀))
    (hQ : ∀ (s' : Shared) (acc : Array Value) (c' : Nat) (Ts : List Addr), (∀ b o, b ∉ [L, z, TO, i1, i2] → s.heap.get? b = some o → s'.heap.get? b = some o) → s' = { s with heap := s'.heap, toks := s'.toks } → s'.heap.get? L = some (lstO acc c') → Acc base s'.heap P1 P2 [L, z, TO, i1, i2] (min n1 n2) acc Ts → Q (.ok (.ret res)) s') :
    wpAny (model prog w) A.in1 (Builtin.List.listExtendWith (.ref L) (.ref z) res)
      (fun fin s' => match fin with | .done f => Q (.ok f) s' | .again c' => c'.quiet = true ∧ codeAny (model prog w) A c' Q s') (fun e s' => Q (.error e) s') s := by
  have hT : s.TypeIs (.ref z) "zip" := Z.ty
  have e1 : Builtin.List.listSameRef (.ref L) (.ref z) = false := by simp [Builtin.List.listSameRef, hz.symm]
  unfold Builtin.List.listExtendWith
  refine wpAny_bind (wpAny_typeOf hT ?_)
  rw [if_neg (by rw [e1]; decide)]
  refine wpAny_bind (Z.iter ?_)
  refine wpAny_bind (wpAny_holding ?_)
  unfold Builtin.List.listLengthHint
  refine wpAny_bind (wpAny_specialOf hT nolen_zip ?_)
  show wpAny _ A.in1 (specialOf (Value.ref z) (Str.ofString "__length_hint__") >>= _) _ _ _
  refine wpAny_bind (wpAny_specialOf hT nohint_zip ?_)
  refine wpAny_pure ?_
  show wpAny _ A.in1 (rule "list.extend.makes-room" >>= fun _ => Builtin.List.listTouch (.ref L) >>= fun _ =>
    again (.builtin "list.extend.loop" ⟨[.ref L, .ref z, res], []⟩)) _ _ _
  refine wpAny_bind (wpAny_rule ?_)
  refine wpAny_bind ?_
  show wpAny _ A.in1 (updateSeq L (·.push .none) >>= fun _ => updateSeq L (·.pop)) _ _ _
  refine wpAny_bind (wpAny_updateSeq hL rfl ?_)
  have hS₂ := Heap.get?_update_self (Obj.mapSeq (·.push Value.none)) hL rfl
  refine wpAny_updateSeq hS₂ rfl ?_
  have hS₃ := Heap.get?_update_self (Obj.mapSeq (·.pop)) hS₂ rfl
  have oth : ∀ b o, b ≠ L → s.heap.get? b = some o → ((s.heap.update L (Obj.mapSeq (·.push Value.none))).update L (Obj.mapSeq (·.pop))).get? b = some o :=
    fun b o hb e => (Heap.get?_update_other _ _ (Ne.symm hb)).trans ((Heap.get?_update_other _ _ (Ne.symm hb)).trans e)
  refine wpAny_pure ⟨plainId_quiet F.plain_extend_loop _, loop (base := base) S D1 D2 hz hI hO h1 h2 hn res (min n1 n2) 0 _ #[] _ [] rfl (Nat.zero_le _) (Z.frame S D1 D2 oth hz hI hO h1 h2 fun T f q => (notHeld Z0 q).elim) (fun T f q => ?_) ?_ hS₃ ⟨rfl, rfl, List.nodup_nil, (fun T q => by cases q), (fun j T q => by cases q)⟩ fun s' acc' c' Ts' hm es hS' hacc => ?_⟩
  · exact (notHeld (oth z _ hz Z0) q).elim
  · show base ≤ ((s.heap.update L _).update L _).objs.size
    rw [Heap.size_update, Heap.size_update]
    exact hb
  · refine hQ s' acc' c' Ts' (fun b o q e => hm b o q (oth b o (fun u => q (by simp [u])) e)) ?_ hS' hacc
    rw [es]
end
section
variable {prog : Program} {w : World} {A : Around} {E : Value → Shared → Prop} {s : Shared} {z TI TO i1 i2 : Addr} {fp1 fp2 : List Addr} {n1 n2 : Nat} {P1 P2 : Nat → Value → Prop} {St1 St2 : Nat → Heap → Prop}
/-- list(z), z a zip object just made -/
theorem call_list_zip {Q : Value → Shared → Prop} (S : ZipSep2 z TI TO i1 i2 fp1 fp2) (D1 : Draws prog w A.in1.in1.in1 i1 fp1 n1 P1 St1) (D2 : Draws prog w A.in1.in1.in1 i2 fp2 n2 P2 St2) (hn : min n1 n2 ≤ sizeLine)
    (Z0 : IsZip s.heap z TI TO .none) (Z : ZS s.heap z TI TO i1 i2 St1 St2 0) (hlt : ∀ b ∈ fp1 ++ fp2, b < s.heap.objs.size)
    (hQ : ∀ (h' : Heap) (tk : Nat) (acc : Array Value) (c' : Nat) (Ts : List Addr), (∀ b o, b ∉ [z, TO, i1, i2] → s.heap.get? b = some o → h'.get? b = some o) → h'.get? s.heap.objs.size = some (lstO acc c') →
      Acc (s.heap.objs.size + 1) h' P1 P2 [s.heap.objs.size, z, TO, i1, i2] (min n1 n2) acc Ts → Q (.ref s.heap.objs.size) { s with heap := h', toks := tk }) :
    wpAny (model prog w) A (call (.type "list") [.ref z]) Q E s := by
  have lt : ∀ {b o}, s.heap.get? b = some o → b ≠ s.heap.objs.size := fun e => Nat.ne_of_lt (Heap.lt_size e)
  have nz : z ≠ s.heap.objs.size := lt Z0
  have nI : TI ≠ s.heap.objs.size := lt Z.2.1
  have nO : TO ≠ s.heap.objs.size := by obtain ⟨_, e⟩ := Z.2.2.2.2; exact lt e
  have n1' : s.heap.objs.size ∉ fp1 := fun q => Nat.lt_irrefl _ (hlt _ (List.mem_append_left _ q))
  have n2' : s.heap.objs.size ∉ fp2 := fun q => Nat.lt_irrefl _ (hlt _ (List.mem_append_right _ q))
  refine callType_codes (Q₁ := fun obj s₁ => obj = .ref s.heap.objs.size ∧ s₁ = { s with heap := s.heap.push { cls := .type "list", data := .seq #[] } }) F.called_list (F.typeCall_list_1 _) F.entry_list_init
    (code_list_new _ ⟨rfl, rfl⟩) fun obj s₁ h₁ => ?_
  obtain ⟨rfl, rfl⟩ := h₁
  have hS : (s.heap.push { cls := .type "list", data := .seq #[] }).get? s.heap.objs.size = some { cls := .type "list", data := .seq #[] } := Heap.get?_push_size _ rfl
  refine ⟨⟨_, hS, rfl⟩, F.args_list_init_2 _ _, ?_⟩
  show wpAny _ A.in1.in1 (do let old ← Builtin.List.listItems (.ref s.heap.objs.size); Builtin.List.listUpdate (.ref s.heap.objs.size) (fun _ => #[]); letGo old.toList.reverse; Builtin.List.listExtendWith (.ref s.heap.objs.size) (.ref z) .none) _ _ _
  refine wpAny_bind ?_
  unfold Builtin.List.listItems
  refine wpAny_bind (wpAny_seqItems hS rfl (wpAny_pure ?_))
  show wpAny _ A.in1.in1 (updateSeq s.heap.objs.size (fun _ => #[]) >>= fun _ => letGo (#[] : Array Value).toList.reverse >>= fun _ => Builtin.List.listExtendWith (.ref s.heap.objs.size) (.ref z) .none) _ _ _
  refine wpAny_bind (wpAny_updateSeq hS rfl ?_)
  have hS2 := Heap.get?_update_self (Obj.mapSeq (fun _ => (#[] : Array Value))) hS rfl
  refine wpAny_bind (wpAny_letGo ?_)
  have up : ∀ b o, s.heap.get? b = some o → ((s.heap.push { cls := .type "list", data := .seq #[] }).update s.heap.objs.size (Obj.mapSeq (fun _ => (#[] : Array Value)))).get? b = some o := fun b o e =>
    (Heap.get?_update_other _ _ (Ne.symm (Nat.ne_of_lt (Heap.lt_size e)))).trans (Heap.get?_push_of_some _ e)
  refine extend_zip (base := s.heap.objs.size + 1) (s := { s with heap := _ }) (A := A.in1) S D1 D2 nz nI nO n1' n2' hn (up _ _ Z0) (Z.frame S D1 D2 (S0 := s.heap.objs.size) (fun b o _ e => up b o e) nz nI nO n1' n2' fun T f q => (notHeld Z0 q).elim) ?_ hS2 fun s' acc c' Ts kp es hS' hacc => ?_
  · show s.heap.objs.size + 1 ≤ ((s.heap.push _).update _ _).objs.size
    rw [Heap.size_update, Heap.size_push]
    exact Nat.le_refl _
  refine ⟨rfl, ?_⟩
  rw [es]
  refine hQ s'.heap s'.toks acc c' Ts (fun b o h1 e => kp b o (fun q => ?_) (up b o e)) hS' hacc
  rcases List.mem_cons.mp q with e' | q
  · exact lt e e'
  · exact h1 q
end
end LZ

namespace Tr
open PySem PySem.Spec PyProof.Rows L2
/-- new pairs, one behind the other -/
def lays (H : Hp) : List Addr → List V → List V → Hp
  | T :: Ts, x :: xs, y :: ys => lays (upd H T (.tup [x, y])) Ts xs ys
  | _, _, _ => H
theorem lays_none {a : Addr} : ∀ (Ts : List Addr) (xs ys : List V) (H : Hp), a ∉ Ts → H a = none → lays H Ts xs ys a = none
  | [], _, _, _, _, h => by unfold lays; exact h
  | _ :: _, [], _, _, _, h => by unfold lays; exact h
  | _ :: _, _ :: _, [], _, _, h => by unfold lays; exact h
  | T :: Ts, x :: xs, y :: ys, H, n, h => by
    unfold lays
    exact lays_none Ts xs ys _ (fun q => n (List.mem_cons_of_mem _ q)) (by rw [upd_ne (fun e => n (by rw [e]; exact List.mem_cons_self))]; exact h)
/-- list(zip(a, b)): new pairs in a new list -/
def tListZip (K : PySem.W.Frag) (ta : TA) : TE := fun σ H Q => ta σ H fun vs H1 => ∃ a b xs ys t u, vs = [.ref a, .ref b] ∧ SqA K t H1 a xs ∧ SqA K u H1 b ys ∧
  ∀ (Ts : List Addr) (q : Addr), Ts.length = min xs.length ys.length → Ts.Nodup → (∀ T ∈ Ts, H1 T = none) → q ∉ Ts → H1 q = none → Q (.ref q) (upd (lays H1 Ts xs ys) q (.lst (Ts.map V.ref)))
section
variable {X : Cx} {pins : List (Addr × Obj)} {σ : L2.St} {H : Hp} {s : Shared}
theorem vals_refs : ∀ Ts : List Addr, Vals (Ts.map V.ref) (Ts.map Value.ref)
  | [] => .nil
  | T :: Ts => .cons rfl (vals_refs Ts)
theorem un_add {fs ex : List Addr} {h h' : Heap} {H0 : Hp} {a : Addr} {o : HO} (u : Un fs ex H H0 h h') (hp : h.get? a = none) (hn : H0 a = none) : Un fs ex H (upd H0 a o) h h' where
  keep := u.keep
  slot := u.slot
  free := fun b ob q n hx => by rw [upd_ne (fun e => by rw [e, hp] at q; cases q)]; exact u.free b ob q n hx
  there := u.there
  tups := fun b xs q => by have q' := u.tups b xs q; rw [upd_ne (ne_of_none q' hn)]; exact q'
  frzs := fun b ob xs q => by have q' := u.frzs b ob xs q; rw [upd_ne (ne_of_none q' hn)]; exact q'
  tbls := fun b ps q => by
    obtain ⟨m, e⟩ := u.tbls b ps q
    exact ⟨m, by rw [upd_ne (ne_of_none e hn)]; exact e⟩
theorem un_lays {fs ex : List Addr} {h h' : Heap} (k : ∀ b u, h.get? b = some u → h'.get? b = some u) : ∀ (Ts : List Addr) (xs ys : List V) (H0 : Hp), Un fs ex H H0 h h' → Ts.Nodup → (∀ T ∈ Ts, h.get? T = none ∧ H0 T = none) → Un fs ex H (lays H0 Ts xs ys) h h'
  | [], _, _, _, u, _, _ => by unfold lays; exact u
  | _ :: _, [], _, _, u, _, _ => by unfold lays; exact u
  | _ :: _, _ :: _, [], _, u, _, _ => by unfold lays; exact u
  | T :: Ts, x :: xs, y :: ys, H0, u, nd, hn => by
    unfold lays
    obtain ⟨h1, h2⟩ := List.nodup_cons.mp nd
    obtain ⟨g1, g2⟩ := hn T List.mem_cons_self
    refine un_lays k Ts xs ys _ ?_ h2 fun U hU => ?_
    · exact un_add u g1 g2
    · obtain ⟨q1, q2⟩ := hn U (List.mem_cons_of_mem _ hU)
      exact ⟨q1, by rw [upd_ne (fun e => h1 (by rw [← e]; exact hU))]; exact q2⟩
theorem hok_lays {P : Program} {w : World} {h : Heap} : ∀ (Ts : List Addr) (xs ys : List V) (H0 : Hp), HOk P w H0 h → Ts.Nodup → (∀ T ∈ Ts, H0 T = none) →
    (∀ (j : Nat) T x y, Ts[j]? = some T → xs[j]? = some x → ys[j]? = some y → ∃ u v, RelV x u ∧ RelV y v ∧ IsTupOf2 h T u v) → HOk P w (lays H0 Ts xs ys) h
  | [], _, _, _, u, _, _, _ => by unfold lays; exact u
  | _ :: _, [], _, _, u, _, _, _ => by unfold lays; exact u
  | _ :: _, _ :: _, [], _, u, _, _, _ => by unfold lays; exact u
  | T :: Ts, x :: xs, y :: ys, H0, u, nd, hn, it => by
    unfold lays
    obtain ⟨h1, h2⟩ := List.nodup_cons.mp nd
    have g := hn T List.mem_cons_self
    obtain ⟨a, b, ra, rb, e⟩ := it 0 T x y rfl rfl rfl
    refine hok_lays Ts xs ys _ (u.laidN (fun _ _ q => q) g ⟨by show 2 ≤ sizeLine; decide, [a, b], .cons ra (.cons rb .nil), ⟨_, e, rfl, _, rfl⟩⟩) h2 (fun U hU => ?_) fun j U x' y' e1 e2 e3 => it (j + 1) U x' y' (by simpa using e1) (by simpa using e2) (by simpa using e3)
    rw [upd_ne (fun e => h1 (by rw [← e]; exact hU))]
    exact hn U (List.mem_cons_of_mem _ hU)
theorem IsA.keep {t : Bool} {h h' : Heap} {a : Addr} {its : Array Value} (x : IsA t h a its) (k : ∀ c o, h.get? c = some o → h'.get? c = some o) : IsA t h' a its := by
  cases t <;> (obtain ⟨o, e, r⟩ := x; exact ⟨o, k _ _ e, r⟩)
theorem inv_aL (I : Inv X pins σ H s) {t : Bool} {a : Addr} {xs : List V} (h : SqA X.K t H a xs) : ∃ its : List Value, Vals xs its ∧ IsA t s.heap a its.toArray ∧ xs.length ≤ sizeLine := by
  cases t
  · obtain ⟨its, rv, p, hz⟩ := I.list h
    exact ⟨its, rv, p.isList, hz⟩
  · obtain ⟨its, rv, p, hz⟩ := I.tuple h
    exact ⟨its, rv, p, hz⟩
end
theorem pe_listZip {X : Cx} {e e2 : Expr} {ta : TA} {p p2 pos pos2 : Pos} (hc : X.calm = true) (hg : Gl X "list") (hm : X.mg "list" = none) (hg2 : Gl X "zip") (hm2 : X.mg "zip" = none) (ha : PA X [e, e2] ta)
    (hs : starEach [e, e2] X.env = (false, eval e X.env) :: starEach [e2] X.env) (hpl : (backTo pos2 (starEach [e2] X.env)).any (·.1) = false)
    (hs1 : starEach [.Call (.Name "zip" p2) [e, e2] [] pos2] X.env = (false, eval (.Call (.Name "zip" p2) [e, e2] [] pos2) X.env) :: starEach [] X.env := by rfl) :
    PE X (.Call (.Name "list" p) [.Call (.Name "zip" p2) [e, e2] [] pos2] [] pos) (tListZip X.K ta) := by
  refine ⟨fun pins s σ H Q I h => ?_⟩
  refine Call_ (ld_blt I hg hm boot_list (PyProof.Rows.callWith_type1 (args_cons (Call_ (ld_blt I hg2 hm2 PyProof.Rows.boot_zip (PyProof.Rows.callWith_type1 (thn (ha.run pos2 pins s σ H _ I h) fun us s1 ⟨vs, H1, I1, r1, q1⟩ => ?_) hs hpl))) hs1) hs1))
  obtain ⟨a, b, xs, ys, t, u, ex, hqx, hqy, q⟩ := q1
  subst ex
  cases r1 with
  | cons r rr =>
    cases rr with
    | cons r' rr =>
      cases rr
      cases r
      cases r'
      obtain ⟨its, rv, p1, z1⟩ := inv_aL I1 hqx
      obtain ⟨its2, rv2, p2', z2⟩ := inv_aL I1 hqy
      refine zip_begins2 (begins_a t a its.toArray) (begins_a u b its2.toArray) p1 p2' fun h' hz hTI hTO h1 h2 hsz hk => args_nil ?_
      have D := PySem.W.ktu_apart s1.heap.objs.size a b p1.lt p2'.lt
      have S := sep2_of D
      have hh := I1.ok.hd hc
      have D1 := draws_a (prog := X.prog) (w := X.w) (A := X.A.in1.in1.in1) hh t s1.heap.objs.size a D.l1i1 its.toArray
      have D2 := draws_a (prog := X.prog) (w := X.w) (A := X.A.in1.in1.in1) hh u (s1.heap.objs.size + 1) b D.l2i2 its2.toArray
      have Z : LZ.ZS h' (s1.heap.objs.size + 4) (s1.heap.objs.size + 2) (s1.heap.objs.size + 3) s1.heap.objs.size (s1.heap.objs.size + 1) (fun i h => ItA t h s1.heap.objs.size a i ∧ IsA t h a its.toArray) (fun i h => ItA u h (s1.heap.objs.size + 1) b i ∧ IsA u h b its2.toArray) 0 :=
        ⟨.inl ⟨hz, _, _, hTO⟩, hTI, ⟨ItA.new h1, p1.keep hk⟩, ⟨ItA.new h2, p2'.keep hk⟩, _, hTO⟩
      have l1 := rv.length
      have l2 := rv2.length
      refine LZ.call_list_zip (s := { s1 with heap := h' }) S D1 D2 (by simp; omega) hz Z (fun c hcm => ?_) fun h'' tk acc c' Ts hk2 hL hA => ?_
      · show c < h'.objs.size
        rw [hsz]
        have e' : c = s1.heap.objs.size ∨ c = a ∨ c = s1.heap.objs.size + 1 ∨ c = b := by simpa using hcm
        rcases e' with e | e | e | e
        · rw [e]; exact Nat.lt_add_of_pos_right (by decide)
        · rw [e]; exact Nat.lt_of_lt_of_le p1.lt (Nat.le_add_right _ _)
        · rw [e]; exact Nat.add_lt_add_left (by decide) _
        · rw [e]; exact Nat.lt_of_lt_of_le p2'.lt (Nat.le_add_right _ _)
      have old : ∀ c o, s1.heap.get? c = some o → c < s1.heap.objs.size := fun c o e => Heap.lt_size e
      have k3 : ∀ c o, s1.heap.get? c = some o → h''.get? c = some o := fun c o e => hk2 c o (fun q => by
        have hlt := old c o e
        have e' : c = s1.heap.objs.size + 4 ∨ c = s1.heap.objs.size + 3 ∨ c = s1.heap.objs.size ∨ c = s1.heap.objs.size + 1 := by simpa using q
        rcases e' with e | e | e | e <;> rw [e] at hlt
        · exact absurd hlt (Nat.not_lt_of_le (Nat.le_add_right _ _))
        · exact absurd hlt (Nat.not_lt_of_le (Nat.le_add_right _ _))
        · exact absurd hlt (Nat.lt_irrefl _)
        · exact absurd hlt (Nat.not_lt_of_le (Nat.le_add_right _ _))) (hk c o e)
      have sz : ({ s1 with heap := h' } : Shared).heap.objs.size = s1.heap.objs.size + 5 := hsz
      rw [sz] at hL hA ⊢
      have none_ : ∀ c, s1.heap.objs.size ≤ c → s1.heap.get? c = none := fun c hcl => by
        cases e : s1.heap.get? c with
        | none => rfl
        | some o => exact absurd (old c o e) (Nat.not_lt_of_le hcl)
      have geT : ∀ T ∈ Ts, s1.heap.objs.size ≤ T := fun T hT => Nat.le_trans (Nat.le_trans (Nat.le_add_right _ _) (Nat.le_add_right _ 1)) (hA.ge T hT).1
      have nT : ∀ T ∈ Ts, H1 T = none := fun T hT => I1.hok.fresh (geT T hT)
      have nq : s1.heap.objs.size + 5 ∉ Ts := fun hm => absurd (hA.ge _ hm).1 (Nat.not_le_of_lt (Nat.lt_succ_self _))
      have nq2 : H1 (s1.heap.objs.size + 5) = none := I1.hok.fresh (Nat.le_add_right _ _)
      have lenT : Ts.length = min xs.length ys.length := by rw [hA.len]; simp; omega
      have nq3 := lays_none Ts xs ys H1 nq nq2
      have un := un_add (o := .lst (Ts.map V.ref)) (un_lays k3 Ts xs ys H1 (Un.kept (fs := X.fs) (ex := []) k3) hA.nd fun T hT => ⟨none_ T (geT T hT), nT T hT⟩) (none_ _ (Nat.le_add_right _ _)) nq3
      have hok1 := hok_lays Ts xs ys H1 (I1.hok.kept k3) hA.nd nT fun j T x y e1 e2 e3 => by
        obtain ⟨w1, w2, q1, q2, r⟩ := hA.at_ j T e1
        obtain ⟨w1', g1, r1⟩ := rv.get e2
        obtain ⟨w2', g2, r2⟩ := rv2.get e3
        have e1' : its[j]? = some w1 := by simpa using q1
        have e2' : its2[j]? = some w2 := by simpa using q2
        rw [g1] at e1'
        rw [g2] at e2'
        cases e1'
        cases e2'
        exact ⟨_, _, r1, r2, r⟩
      have hok2 := hok1.laidN (o := .lst (Ts.map V.ref)) (h' := h'') (fun _ _ e => e) nq3 ⟨by rw [List.length_map]; omega, acc.toList, c', by rw [hA.eq]; exact vals_refs Ts, by rw [Array.toArray_toList]; exact hL⟩
      exact ⟨.ref _, _, I1.un (t' := tk) un hok2, rfl, q Ts _ lenT hA.nd nT nq nq2⟩
end Tr
set_option Elab.async false
set_option linter.all false
set_option maxRecDepth 100000
set_option maxHeartbeats 4000000
/-! TrC19: list(zip(a, b)). -/
namespace Tr
open PySem PySem.Spec PyProof.Rows L2
theorem lays_rel {K : PySem.W.Frag} {ρ : Env} {σ : L2.St} {U : UU} : ∀ (Ts : List Addr) (xs ys : List V) (l m : List D) (Hf H : Hp), Rel K Hf H ρ σ U → Ts.Nodup → (∀ T ∈ Ts, H T = none) → xs.length = l.length → ys.length = m.length →
    (∀ (i : Nat) v d, xs[i]? = some v → l[i]? = some d → Rep K Hf v d) → (∀ (i : Nat) v d, ys[i]? = some v → m[i]? = some d → Rep K Hf v d) →
    ∃ Hf', Rel K Hf' (lays H Ts xs ys) ρ σ U ∧ Step Hf H (foot U) Hf' (lays H Ts xs ys) (foot U) ∧ ∀ (j : Nat) T d e, Ts[j]? = some T → l[j]? = some d → m[j]? = some e → Rep K Hf' (.ref T) (.tuple [d, e])
  | [], xs, ys, l, m, Hf, H, R, nd, hn, n1, n2, it1, it2 => ⟨Hf, by unfold lays; exact R, by unfold lays; exact Step.refl, fun j T d e q => by simp at q⟩
  | T :: Ts, [], ys, l, m, Hf, H, R, nd, hn, n1, n2, it1, it2 => ⟨Hf, by unfold lays; exact R, by unfold lays; exact Step.refl, fun j T d e _ q => by
      have : l = [] := List.eq_nil_of_length_eq_zero n1.symm
      subst this; simp at q⟩
  | T :: Ts, x :: xs, [], l, m, Hf, H, R, nd, hn, n1, n2, it1, it2 => ⟨Hf, by unfold lays; exact R, by unfold lays; exact Step.refl, fun j T d e _ _ q => by
      have : m = [] := List.eq_nil_of_length_eq_zero n2.symm
      subst this; simp at q⟩
  | T :: Ts, x :: xs, y :: ys, [], m, Hf, H, R, nd, hn, n1, n2, it1, it2 => by simp at n1
  | T :: Ts, x :: xs, y :: ys, d :: l, [], Hf, H, R, nd, hn, n1, n2, it1, it2 => by simp at n2
  | T :: Ts, x :: xs, y :: ys, d :: l, e :: m, Hf, H, R, nd, hn, n1, n2, it1, it2 => by
    unfold lays
    obtain ⟨h1, h2⟩ := List.nodup_cons.mp nd
    have g := hn T List.mem_cons_self
    have mo := upd_mono (H := Hf) (p := T) (o := .tup [x, y]) (R.sub.free g)
    have R1 := R.newF (o' := .tup [x, y]) g
    have S1 : Step Hf H (foot U) (upd Hf T (.tup [x, y])) (upd H T (.tup [x, y])) (foot U) := Step.newF R.sub g
    obtain ⟨Hf', R2, S2, it⟩ := lays_rel Ts xs ys l m _ _ R1 h2 (fun V hV => by rw [upd_ne (fun e => h1 (by rw [← e]; exact hV))]; exact hn V (List.mem_cons_of_mem _ hV)) (by simpa using n1) (by simpa using n2)
      (fun i v d e1 e2 => (it1 (i + 1) v d (by simpa using e1) (by simpa using e2)).mono mo) (fun i v d e1 e2 => (it2 (i + 1) v d (by simpa using e1) (by simpa using e2)).mono mo)
    refine ⟨Hf', R2, S1.trans S2, fun j V d' e' q1 q2 q3 => ?_⟩
    cases j with
    | zero =>
      cases q1
      cases q2
      cases q3
      refine (Rep.tup (SqT.of upd_same) (by rfl) fun i v d'' a1 a2 => ?_ : Rep K (upd Hf T (.tup [x, y])) (.ref T) (.tuple [d, e])).mono S2.mono
      match i, a1, a2 with
      | 0, a1, a2 => cases a1; cases a2; exact (it1 0 _ _ rfl rfl).mono mo
      | 1, a1, a2 => cases a1; cases a2; exact (it2 0 _ _ rfl rfl).mono mo
      | i + 2, a1, _ => simp at a1
    | succ j => exact it j V d' e' (by simpa using q1) (by simpa using q2) (by simpa using q3)
section
variable {X : Cx} {ct : Str → Option Addr} {W : WX} {a b : Expr} {ma mb : Env → R D} {pos : Pos}
theorem f_lzip (hc : X.calm = true) {p p2 pos2 : Pos} (bl : Blt X "list") (bl2 : Blt X "zip") (ha : PE X a (tE X.K ct W ma)) (hb : PE X b (tE X.K ct W mb)) (hs : notStar a = true) (hs2 : notStar b = true) :
    PE X (.Call (.Name "list" p) [.Call (.Name "zip" p2) [a, b] [] pos2] [] pos) (tF X.K ct W fun ρ => (ma ρ).bind fun d ρ => (mb ρ).bind fun e ρ => R.of (lzipO d e) ρ) := by
  refine (pe_listZip hc bl.gl bl.no bl2.gl bl2.no (pa_cons ha (pa_cons hb pa_nil (starEach_cons hs2)) (starEach_cons hs)) (starEach_cons hs) (back_one hs2)).weak fun σ H Q h => ?_
  refine twoF (R2' := fun x y H' => ∃ a b xs ys t u, [x, y] = [V.ref a, .ref b] ∧ SqA X.K t H' a xs ∧ SqA X.K u H' b ys ∧
    ∀ (Ts : List Addr) (q : Addr), Ts.length = min xs.length ys.length → Ts.Nodup → (∀ T ∈ Ts, H' T = none) → q ∉ Ts → H' q = none → Q (.ref q) (upd (lays H' Ts xs ys) q (.lst (Ts.map V.ref)))) h fun d e o Hf H U ρ' Hf' H' U' x y R1 S1 rx ry e1 pp => ?_
  have fin : ∀ {l m : List D} {xs ys : List V}, o = .box (((l.zip m).map fun p => (PyData.tuple [p.1, p.2] : D)).map .frz) → xs.length = l.length → ys.length = m.length →
      (∀ (i : Nat) v d, xs[i]? = some v → l[i]? = some d → Rep X.K Hf' v d) → (∀ (i : Nat) v d, ys[i]? = some v → m[i]? = some d → Rep X.K Hf' v d) →
      ∀ (Ts : List Addr) (q : Addr), Ts.length = min xs.length ys.length → Ts.Nodup → (∀ T ∈ Ts, H' T = none) → q ∉ Ts → H' q = none → Q (.ref q) (upd (lays H' Ts xs ys) q (.lst (Ts.map V.ref))) := fun {l m xs ys} eo n1 n2 it1 it2 Ts q hl nd hn nq hq => by
    obtain ⟨Hf2, R2, S2, it⟩ := lays_rel Ts xs ys l m Hf' H' R1 nd hn n1 n2 it1 it2
    subst eo
    refine new_post (pp.shift S2) R2 (S1.trans S2) (by simp; omega) (fun i v d q1 q2 => ?_) (lays_none Ts xs ys H' nq hq)
    rw [List.getElem?_map] at q1 q2
    obtain ⟨T, hT, rfl⟩ := Option.map_eq_some_iff.mp q1
    obtain ⟨pr, hp, rfl⟩ := Option.map_eq_some_iff.mp q2
    rw [List.getElem?_zip_eq_some] at hp
    exact it i T _ _ hT hp.1 hp.2
  unfold lzipO at e1
  obtain ⟨l0, e2, e3⟩ := Option.map_eq_some_iff.mp e1
  cases rx <;> cases ry <;> simp only [pairsD, reduceCtorEq, Option.some.injEq] at e2
  case lst.lst ad xs l' h n it b2 ys m h2 n2 it2 =>
    subst e2
    exact ⟨ad, b2, xs, ys, false, false, rfl, sqa_mono R1.sub (SqL.of h), sqa_mono R1.sub (SqL.of h2), fin e3.symm n n2 it it2⟩
  case tup.tup ad xs l' h n it b2 ys m h2 n2 it2 =>
    subst e2
    exact ⟨ad, b2, xs, ys, true, true, rfl, sqa_mono (t := true) R1.sub h, sqa_mono (t := true) R1.sub h2, fin e3.symm n n2 it it2⟩
  case lst.tup ad xs l' h n it b2 ys m h2 n2 it2 =>
    subst e2
    exact ⟨ad, b2, xs, ys, false, true, rfl, sqa_mono R1.sub (SqL.of h), sqa_mono (t := true) R1.sub h2, fin e3.symm n n2 it it2⟩
  case tup.lst ad xs l' h n it b2 ys m h2 n2 it2 =>
    subst e2
    exact ⟨ad, b2, xs, ys, true, false, rfl, sqa_mono (t := true) R1.sub h, sqa_mono R1.sub (SqL.of h2), fin e3.symm n n2 it it2⟩
end
end Tr
set_option Elab.async false
set_option linter.all false
set_option maxRecDepth 100000
set_option maxHeartbeats 4000000
/-! TrC20: what is lent to an expression stays as it was; one of a row of owned things. -/
namespace Tr
open PySem PySem.Spec PyProof.Rows L2

theorem dropB_get {ρ : Env} {i : Nat} {o : O} (h : (dropB ρ)[i]? = some (some o)) : ρ[i]? = some (some o) ∧ ∀ l, o ≠ .box l := by
  unfold dropB at h
  rw [List.getElem?_map] at h
  cases e : ρ[i]? with
  | none => rw [e] at h; cases h
  | some x =>
    rw [e] at h
    cases x with
    | none => cases h
    | some y =>
      cases y with
      | frz d => cases h; exact ⟨rfl, fun l z => by cases z⟩
      | box l => cases h
      | scr l => cases h; exact ⟨rfl, fun l z => by cases z⟩
theorem dropB_len {ρ : Env} : (dropB ρ).length = ρ.length := by simp [dropB]
theorem lendE_get : ∀ {ss : List Nat} {ρ0 ρ ρ1 : Env}, lendE ss ρ0 ρ = some ρ1 → ρ1.length = ρ.length ∧ ∀ (i : Nat) (o : O), ρ1[i]? = some (some o) → ρ[i]? = some (some o) ∨ (i ∈ ss ∧ ∃ l, ρ0[i]? = some (some (.box l)) ∧ cleans l = true ∧ o = .frz (.list (fzs l)))
  | [], ρ0, ρ, ρ1, h => by cases h; exact ⟨rfl, fun i o e => .inl e⟩
  | s :: ss, ρ0, ρ, ρ1, h => by
    unfold lendE at h
    cases e : ldV s ρ0 with
    | none => rw [e] at h; cases h
    | some x =>
      have ex : ρ0[s]? = some (some x) := by
        unfold ldV at e
        split at e
        · rename_i y hy; cases e; exact hy
        · cases e
      rw [e] at h
      cases x with
      | scr l => cases h
      | frz d =>
        obtain ⟨h1, h2⟩ := lendE_get h
        exact ⟨h1, fun i o q => (h2 i o q).imp id fun ⟨z1, z2⟩ => ⟨List.mem_cons_of_mem _ z1, z2⟩⟩
      | box l =>
        dsimp only at h
        split at h
        · rename_i hc
          obtain ⟨h1, h2⟩ := lendE_get h
          refine ⟨by rw [h1, List.length_set], fun i o q => ?_⟩
          rcases h2 i o q with z | ⟨z1, z2⟩
          · rcases set_get z with ⟨rfl, e1⟩ | ⟨ne, e2⟩
            · cases e1
              exact .inr ⟨List.mem_cons_self, l, ex, hc, rfl⟩
            · exact .inl e2
          · exact .inr ⟨List.mem_cons_of_mem _ z1, z2⟩
        · cases h
theorem noLB_get : ∀ {l : List O} {i : Nat} {o : O}, noLBs l = true → l[i]? = some o → noLB o = true
  | [], i, o, _, e => by simp at e
  | x :: l, 0, o, h, e => by
    have e' : x = o := by simpa using e
    subst e'
    simp only [noLBs, Bool.and_eq_true] at h
    exact h.1
  | x :: l, i + 1, o, h, e => by
    simp only [noLBs, Bool.and_eq_true] at h
    exact noLB_get (i := i) h.2 (by simpa using e)
theorem Own.less {K : PySem.W.Frag} {Hf H : Hp} {B : Addr → Prop} (hB : ∀ b, B b → IsLst Hf b) {v : V} {o : O} {T : Addr → Prop} (h : Own K Hf H v o T) : noLB o = true → Own K (lessH Hf B) H v o T := by
  induction h with
  | frz h => exact fun c => .frz (h.less hB (by simpa [noLB] using c))
  | scr h => exact fun c => by simp [noLB] at c
  | @box a xs l T U h nf ta n it dj sub ih =>
    intro c
    simp only [noLB] at c
    refine .box U h ?_ ta n (fun i v o e1 e2 => ih i v o e1 e2 (noLB_get c e2)) dj sub
    by_cases q : B a
    · exact lessH_in q
    · rw [lessH_out q]; exact nf
/-- an expression that is asked where the lists at ss stay, all other lists out of sight: behind it all is as ahead -/
theorem lend_post {α : Type} {K : PySem.W.Frag} {ct : Str → Option Addr} {W : WX} {σ : L2.St} {Hf H : Hp} {U : UU} {ρ ρ1 ρ2 : Env} {ss : List Nat} {r : R α} {a : α} {k : α → Env → Hp → Hp → UU → Prop}
    (R0 : Rel K Hf H ρ σ U) (hl : lendE ss ρ (dropB ρ) = some ρ1) (hr : r = .ok a ρ2)
    (m : ∀ Hf' H' Hf2 U', Rel K Hf' H' ρ2 σ U' → Rel K Hf2 H' ρ σ U → Step Hf H (foot U) Hf2 H' (foot U) → (∀ v o T, Own K Hf' H' v o T → noLB o = true → Own K Hf2 H' v o T) → (∀ v d, Rep K Hf' v d → noL d = true → Rep K Hf2 v d) → k a ρ2 Hf' H' U') :
    ∃ Hf1, Rel K Hf1 H ρ1 σ (fun _ _ => False) ∧ Post K σ Hf1 H (fun _ _ => False) (EW K ct W σ) k r := by
  subst hr
  let B : Addr → Prop := fun b => ∃ s ∈ ss, U s b ∧ IsLst H b ∧ Hf b = none
  obtain ⟨g1, g2⟩ := lendE_get hl
  have nU : ∀ b, ¬ foot (fun _ _ => False : UU) b := fun b ⟨i, q⟩ => q
  refine ⟨joinC Hf H B, ⟨joinC_sub R0.sub, by rw [g1, dropB_len, R0.len], fun i o e => ?_, fun _ _ _ _ q => q.elim, fun _ _ q => q.elim⟩, fun Hf' H' U' R' S => ?_⟩
  · rcases g2 i o e with z | ⟨z1, l, z2, z3, rfl⟩
    · obtain ⟨z, nb⟩ := dropB_get z
      obtain ⟨v, h1, h2⟩ := R0.own i o z
      refine ⟨v, h1, ?_⟩
      cases h2 with
      | frz h => exact .frz (h.mono (joinC_same R0.sub))
      | scr h => exact .scr (Same.seq (joinC_same R0.sub) h)
      | box => exact (nb _ rfl).elim
    · obtain ⟨v, h1, h2⟩ := R0.own i _ z2
      exact ⟨v, h1, .frz (h2.tight.fz R0.sub (by simpa [O.clean] using z3) (T' := B) fun b q => ⟨i, z1, q⟩)⟩
  · have fr : ∀ b u, H b = some u → H' b = some u := fun b u e => S.frame b u (nU b) e
    have hB : ∀ b, B b → IsLst Hf' b := fun b q => by
      obtain ⟨s, _, _, ⟨xs, e⟩, _⟩ := id q
      exact ⟨xs, S.mono b _ (by rw [joinC_in q]; exact e)⟩
    have sub1 : Same Hf (lessH Hf' B) := fun b u e => by
      have nb : ¬ B b := fun ⟨s, _, _, _, n⟩ => by rw [n] at e; cases e
      rw [lessH_out nb]
      exact S.mono b u (joinC_same R0.sub b u e)
    refine m Hf' H' (lessH Hf' B) U' R' ⟨fun a u q => R'.sub a u (lessH_of q).2, R0.len, fun i o e => ?_, R0.dj, fun i b q => ?_⟩ ⟨sub1, fun a u q => ?_, fun a u _ q => fr a u q, fun _ q => .inl q⟩ (fun v o T h c => h.less hB c) fun v d h c => h.less hB c
    · obtain ⟨v, h1, h2⟩ := R0.own i o e
      refine ⟨v, h1, h2.keep sub1 (fun b u _ q => fr b u q) fun b u _ q n => ?_⟩
      cases e3 : lessH Hf' B b with
      | none => rfl
      | some w =>
        obtain ⟨nb, e4⟩ := lessH_of e3
        rcases S.dom b w e4 with z | z | z
        · rw [joinC_out nb, n] at z; cases z
        · rw [q] at z; cases z
        · exact (nU b z).elim
    · cases e : H b with
      | none => exact absurd e (R0.alive i b q)
      | some u => rw [fr b u e]; exact fun z => by cases z
    · obtain ⟨nb, e4⟩ := lessH_of q
      rcases S.dom a u e4 with z | z | z
      · rw [joinC_out nb] at z; exact .inl z
      · exact .inr (.inl z)
      · exact (nU a z).elim
section
variable {X : Cx} {ct : Str → Option Addr} {W : WX} {a b : Expr} {mb : Env → R D} {pos : Pos} {mf : Env → R O} {mt : Env → R Bool} {mm : Env → R (List O)} {es : List Expr}
theorem t_lend_weak {ss : List Nat} {σ : L2.St} {H : Hp} {Q : Bool → Hp → Prop} (h : tT X.K ct W (lendF ss mt fun _ => true) σ H Q) : tT X.K ct W mt σ H Q := by
  obtain ⟨Hf, ρ, U, R0, p⟩ := h
  unfold lendF at p
  obtain ⟨ρ1, e1, p⟩ := Post.of (k := fun ρ1 ρ Hf H U => Post X.K σ Hf H U (EW X.K ct W σ) _ _) (p.bnd) R0
  cases er : mt ρ1 with
  | bad => rw [er] at p; exact p.elim
  | exc x ρ2 => rw [er] at p; exact p.elim
  | ok o ρ2 =>
    rw [er] at p
    obtain ⟨Hf1, R1, q⟩ := lend_post (K := X.K) (ct := ct) (W := W) (r := mt ρ1) (k := fun b _ _ H' _ => Q b H') R0 e1 er fun Hf' H' Hf2 U' R' R2 S2 _ _ => p Hf2 H' U R2 S2
    exact ⟨Hf1, ρ1, _, R1, q⟩
theorem f_lend_weak {ss : List Nat} {σ : L2.St} {H : Hp} {Q : VK} (h : tF X.K ct W (lendF ss mf noLB) σ H Q) : tF X.K ct W mf σ H Q := by
  obtain ⟨Hf, ρ, U, R0, p⟩ := h
  unfold lendF at p
  obtain ⟨ρ1, e1, p⟩ := Post.of (k := fun ρ1 ρ Hf H U => Post X.K σ Hf H U (EW X.K ct W σ) _ _) (p.bnd) R0
  cases er : mf ρ1 with
  | bad => rw [er] at p; exact p.elim
  | exc x ρ2 => rw [er] at p; exact p.elim
  | ok o ρ2 =>
    rw [er] at p
    dsimp only at p
    split at p
    · rename_i hc
      obtain ⟨Hf1, R1, q⟩ := lend_post (K := X.K) (ct := ct) (W := W) (r := mf ρ1) (k := fun o _ Hf' H' U' => ∀ v T, Own X.K Hf' H' v o T → (∀ b, T b → ¬ foot U' b ∧ H' b ≠ none ∧ (foot (fun _ _ => False : UU) b ∨ H b = none)) → Q v H') R0 e1 er
        fun Hf' H' Hf2 U' R' R2 S2 ow _ v T ov tv => p Hf2 H' U R2 S2 v T (ow v o T ov hc) fun b q => by
          obtain ⟨z1, z2, z3⟩ := tv b q
          have z4 : H b = none := z3.elim (fun ⟨_, z⟩ => z.elim) id
          exact ⟨fun ⟨i, z⟩ => R0.alive i b z z4, z2, .inr z4⟩
      exact ⟨Hf1, ρ1, _, R1, q⟩
    · exact p.elim
theorem f_pick (h : PA X es (tFs X.K ct W mm)) (hb : PE X b (tE X.K ct W mb)) (hs : notSlice b = true) {pos2 : Pos} : PE X (.Subscript (.List es pos2) b pos) (tF X.K ct W fun ρ => (mm ρ).bind fun l ρ => if l.length ≤ line then (mb ρ).bind fun k ρ => R.of (pickO l k) ρ else .bad) := by
  refine (pe_ix ix_seq (pe_lst h) hb (plainIx_of hs)).weak fun σ H Q q => ?_
  obtain ⟨Hf, ρ, U, R0, p⟩ := q
  refine ⟨Hf, ρ, U, R0, p.then fun l ρ1 Hf1 H1 U1 R1 S1 p1 vs Y oy ty => ?_⟩
  split at p1
  · rename_i hl
    refine ⟨by rw [oy.len, line_eq]; exact hl, fun z hz => ?_⟩
    refine ⟨Hf1, ρ1, U1, R1.new hz, (p1.shift (Step.new hz)).then fun k ρ2 Hf2 H2 U2 R2 S2 p2 y ry => ?_⟩
    obtain ⟨o, e1, q⟩ := p2.of R2
    cases k with
    | int i =>
      obtain rfl := ry.int_of
      obtain ⟨j, e2, e3⟩ := atD_get (show atD l i = some o from e1)
      have hj : j < vs.length := by rw [oy.len]; exact (List.getElem?_eq_some_iff.mp e3).1
      have ev := List.getElem?_eq_getElem hj
      have nz : ¬ foot U1 z := fun ⟨i, w⟩ => R1.alive i z w hz
      have hz2 : H2 z = some (.lst vs) := S2.frame z _ nz upd_same
      have ow := oy.own j _ o ev e3
      have ny : ∀ b, Y j b → ¬ foot U1 b := fun b w => (ty j b w).1
      refine .inl ⟨z, vs, i, _, rfl, rfl, SqL.of hz2, atI_of oy.len e2 ev, q _ (Y j) ((ow.upd hz).step S2 ny) fun b w => ?_⟩
      obtain ⟨t1, t2, t3⟩ := ty j b w
      have t4 := upd_alive (z := z) (o := .lst vs) t2
      refine ⟨fun f2 => (S2.foot b f2).elim t1 t4, ?_, t3⟩
      cases e4 : upd H1 z (.lst vs) b with
      | none => exact absurd e4 t4
      | some u => rw [S2.frame b u t1 e4]; exact fun x => by cases x
    | _ => simp [pickO] at e1
  · exact p1.elim
end
end Tr
set_option Elab.async false
set_option linter.all false
set_option maxRecDepth 100000
set_option maxHeartbeats 4000000
/-! TrX1: own errors: raise; what is caught. -/
namespace Tr
open PySem PySem.Spec PyProof.Rows L2
/-- an own error class without an own __init__, as it stands in the module -/
structure ExF (K : PySem.W.Frag) (mg : Str → Option Value) (ct : Str → Option Addr) (x : Str) : Prop where
  ok : ∃ C, ct x = some C ∧ mg x = some (.ref C) ∧ PySem.W.excIn K C He.veBase "ValueError.__new__" = true ∧ PySem.W.keepIn K (.ref C) = true ∧ PySem.W.subIn K (.ref C) (.type "BaseException") = some true ∧ PySem.W.typeIn K (.ref C) = some (.type "type")
section
variable {X : Cx} {ct : Str → Option Addr} {W : WX} {fx : Fix} {x z : Str} {j : Nat} {p p2 p3 pos : Pos}
theorem s_raise (hc : X.calm = true) (tk : L2N.Takes X W) (E : ExF X.K X.mg ct x) (hg : Gl X x) (hdb : (x == ("__debug__" : Str)) = false) :
    PS X (.Raise (some (.Call (.Name x p) [.Constant (.str z) j p2] [] p3)) none pos) (tS X.K ct W fx fun ρ => .exc ⟨x, []⟩ ρ) := by
  obtain ⟨C, e1, e2, e3, e4, e5, e6⟩ := E.ok
  refine (L2N.ps_raise hc tk (L2N.pmk_own PySem.F.excBase_ValueError e3 e2 e4 (L2.raises_own e5 e6) hg hdb)).weak fun D σ H h => ?_
  obtain ⟨Hf, ρ, U, R, q⟩ := h
  exact q σ Hf H U (Kept.refl) R Step.refl (.ref C) none ⟨C, e1, rfl, fun _ => rfl, fun f dd e => by cases e⟩
end
end Tr
set_option Elab.async false
set_option linter.all false
set_option maxRecDepth 100000
set_option maxHeartbeats 4000000
/-! TrX2: defs that are handed the error that is handled. -/
namespace Tr
open PySem PySem.Spec PyProof.Rows L2
/-- the error's dict, if it has one, is tracked -/
def DOk (d : Option Addr) (H : Hp) : Prop := ∀ dd, d = some dd → ∃ fs, H dd = some (.xd fs)
theorem DOk.mono {d : Option Addr} {H H' : Hp} (h : DOk d H) (s : Same H H') : DOk d H' := fun dd e => let ⟨fs, q⟩ := h dd e; ⟨fs, s _ _ q⟩
theorem dok_none {H : Hp} : DOk none H := fun _ e => by cases e
/-- the error stands in slot i -/
def EAt (i : Nat) (a : Addr) (d : Option Addr) (σ : L2.St) (H : Hp) : Prop := σ[i]? = some (some (.ref a)) ∧ DOk d H
theorem EAt.mono {i : Nat} {a : Addr} {d : Option Addr} {σ : L2.St} {H H' : Hp} (h : EAt i a d σ H) (s : Same H H') : EAt i a d σ H' := ⟨h.1, h.2.mono s⟩
/-- isinstance(e, c), e the pinned error -/
theorem call_isP {X : Cx} {a D : Addr} {oe : Obj} {d : Option Addr} (hp : (a, oe) ∈ X.pn) (C : L2.ExcC X.K D) (hz : L2.Zc (.ref D) d oe) (hf : ∃ vs, oe.data = .fields vs) : CallR X (.builtin "isinstance") (fun xs H Q => DOk d H ∧ L2.rIsE X.K D a xs H Q) := by
  intro pins s σ H xs us Q I r h
  obtain ⟨dok, c, cv, b, rfl, hcv, e, q⟩ := h
  cases r with
  | cons rx rr =>
    cases rr with
    | cons rt rr =>
      cases rr
      cases rx
      have ec := hcv _ rt
      subst ec
      obtain ⟨hget, _⟩ := I.pin (a, oe) (List.mem_append.mpr (.inl hp))
      obtain ⟨vs, hv⟩ := hf
      have hcl : (PySem.W.clsIn X.K D).isSome = true := by
        obtain ⟨cd, hc, _⟩ := PySem.W.any_some C.hd
        rw [hc]
        rfl
      cases d with
      | none =>
        have J : PySem.W.InstAt s.heap a oe D none := by
          obtain ⟨oc, od, oda, osl⟩ := oe
          obtain ⟨h1, h2⟩ := hz
          dsimp only at h1 h2 hv
          subst h1 h2 hv
          exact ⟨hget, rfl, rfl, trivial⟩
        exact PySem.W.kia_one (PySem.W.kitx_exc hcl C.hg C.hk C.hs C.ha C.hn C.ht C.hm) I.kIn J e (fun z => nomatch z) fun tk => ⟨.bl b, H, I.kept (t' := tk) fun _ _ z => z, rfl, q⟩
      | some dd =>
        obtain ⟨fs, ea⟩ := dok dd rfl
        have hx : ObjOk X.prog X.w H s.heap dd (.xd fs) := I.hok dd _ ea
        obtain ⟨mA, hns, hr⟩ := hx
        obtain ⟨od, ho, hl⟩ := lookIn_ns hns
        have J : PySem.W.InstAt s.heap a oe D (some od) := ⟨hget, hz.1, by unfold PySem.W.notCls; rw [hv] <;> rfl, by rw [hz.2]; exact ho⟩
        exact PySem.W.kia_one (PySem.W.kitx_exc hcl C.hg C.hk C.hs C.ha C.hn C.ht C.hm) I.kIn J e (fun z => nomatch z) fun tk => ⟨.bl b, H, I.kept (t' := tk) fun _ _ z => z, rfl, q⟩
/-- what a def promises there: the pinned error is known -/
structure FnP (P : Program) (w : World) (K : PySem.W.Frag) (mg : Str → Option Value) (base : Heap) (CX : CXT) (k : Nat) (f : Addr) (fd : FuncData) (ps : List Str) (sp : Addr × Obj → Sp) : Prop where
  len : ∀ p vs H Q E, sp p vs H Q E → vs.length = ps.length
  run : ∀ (A : Around) (outer : List PySem.Env) (s : Shared) (H : Hp) (args : Args) (us : List Value) (vs : List V) (Q : VK) (E : XK) (p : Addr × Obj), A.guards = some [] → L2H.RoomH k A → L2H.Hot1 A p → L2H.PinOk outer H s p → Env0 P w K mg base A outer s H → BindsTo s fd args (ps.zip us) → Vals vs us → sp p vs H Q E →
    codeAny (model P w) A (.call (.ref f) args) (CR CX outer P w H s Q E) s
theorem fn_ofP {CX : CXT} {P : Program} {w : World} {K : PySem.W.Frag} {mg : Str → Option Value} {base : Heap} {k : Nat} {f : Addr} {name qual : Str} {params : Arguments} {body : List Stmt} {scope : Scope} {dV kV doc pm cdv ct oc : Value} {an od : Option Addr}
    {osl : Array (Option Value)} {N ps : List Str} {sp : Addr × Obj → Sp} (lk : K.lookup f = some ⟨oc, od, .func (PySem.W.fnOf name qual params body scope dV kV doc pm an cdv ct), osl⟩) (hcd : PySem.W.codeIn K cdv qual = true) (S : FnScope N ps scope)
    (len : ∀ p vs H Q E, sp p vs H Q E → vs.length = ps.length)
    (hbody : ∀ (A : Around) (outer : List PySem.Env) (s : Shared) (H : Hp) (vs : List V) (Q : VK) (E : XK) (p : Addr × Obj), (A.deeper (envOfC qual scope s.heap.objs.size f cdv)).guards = some [] → L2H.Hot1 A p → L2H.RoomH k (A.deeper (envOfC qual scope s.heap.objs.size f cdv)) → sp p vs H Q E →
      ∃ t, PSs (L2H.cxH CX P w K mg base N qual scope f cdv A outer s H E p) body t ∧ t { nx := fun _ H' => Q .non H', rt := Q } (L2.start N vs) H) :
    FnP P w K mg base CX (k + 1) f (PySem.W.fnOf name qual params body scope dV kV doc pm an cdv ct) ps sp := by
  refine ⟨len, fun A outer s H args us vs Q E p gd hr hot hpin e0 hb r hsp => ?_⟩
  have hl := len _ _ _ _ _ hsp
  have KX : K.In s.heap := e0.mod.kin.keeps fun b o e => (e0.bs b o e).1
  have lim : s.heap.NoLimit := e0.mod.nolimit.keeps fun b o e => (e0.bs b o e).1
  have hkind : ∀ y ∈ ps.zip us, scope.names.lookup y.1 = some .local ∨ (scope.names.lookup y.1 = some .cell ∧ ((cellsFrom (s.heap.objs.size + 1) scope.names []).lookup y.1).isSome = true) := fun ⟨n, v⟩ hy => by
    rcases S.par n (List.of_mem_zip hy).1 with q | q
    · exact .inl q
    · exact .inr ⟨q, PySem.W.cellsFrom_some _ _ _ (.inl q)⟩
  refine codeAny_call_function hr.depth (KX _ _ lk) rfl S.co S.gen rfl (PySem.W.codeRec_of KX hcd) (hb _ _ _ _ ?_)
  refine wpAny_newFunctionEnv_cells S.kind hkind fun env he s1 x => ?_
  subst he
  refine ⟨lim.keeps x.toInCall.keep, codeAny_func ?_⟩
  obtain ⟨t, ht, hq⟩ := hbody A outer s H vs Q E p gd hot (hr.deeper _) hsp
  have I : Inv (L2H.cxH CX P w K mg base N qual scope f cdv A outer s H E p) [] (L2.start N vs) H s1 := L2H.inv_startH S hpin e0 hl r x
  refine wpAny_mono (ht.run [] s1 (L2.start N vs) H _ I hq) (fun fl s' hs => ?_) fun e s' hs => hs
  have fin : ∀ {σ' : L2.St} {H' : Hp} {v : V} {u : Value}, Inv (L2H.cxH CX P w K mg base N qual scope f cdv A outer s H E p) [] σ' H' s' → RelV v u → Q v H' → CE outer P w H s Q u s' :=
    fun {σ' H' v u} J rv q => ⟨v, H', J.os, J.bare, J.base, J.hok, rv, q⟩
  cases fl with
  | ret u =>
    obtain ⟨v, σ', H', J, rv, q⟩ := hs
    exact fin J rv q
  | next =>
    obtain ⟨σ', H', J, q⟩ := hs
    exact fin (v := V.non) (u := Value.none) J rfl q
  | brk =>
    obtain ⟨_, _, _, q⟩ := hs
    exact False.elim q
  | cont =>
    obtain ⟨_, _, _, q⟩ := hs
    exact False.elim q
section
variable {X : Cx} {CX : CXT} {k : Nat} {f : Addr} {fd : FuncData} {ps : List Str} {sp : Addr × Obj → Sp} {E : L2.St → XK} {x : Str} {q pos : Pos} {e : Expr} {es : List Expr} {t : TA} {p : Addr × Obj}
theorem run_fnP {pins : List (Addr × Obj)} {σ : L2.St} {H : Hp} {s : Shared} {Q : VK} {us : List Value} {vs : List V} (F : FnP X.prog X.w X.K X.mg X.base CX k f fd ps sp) (gd : X.A.guards = some []) (hr : L2H.RoomH k X.A) (hot : L2H.Hot1 X.A p) (hp : p ∈ X.pn) (hb : Binds X.K fd ps []) (hx : PassesAt CX X σ (E σ))
    (I : Inv X pins σ H s) (r : Vals vs us) (h : sp p vs H Q (E σ)) : wpAny (model X.prog X.w) X.A (call (.ref f) us) (EP X pins σ Q) X.xe s := by
  have hl : us.length = ps.length := by rw [← r.length]; exact F.len _ _ _ _ _ h
  have b := hb s us I.kIn (by rw [List.append_nil]; exact hl)
  rw [List.append_nil] at b
  have P1 := I.pin p (List.mem_append_left _ hp)
  have hpin : L2H.PinOk X.stack H s p := ⟨P1.1, P1.2.1, fun hm => (List.mem_cons.mp (I.stkSub p.1 hm)).elim P1.2.2.1 P1.2.2.2.1, P1.2.2.2.2⟩
  refine wpAny_call (codeAny_mono (F.run X.A X.stack s H ⟨us, []⟩ us vs Q (E σ) p gd hr hot hpin I.env0 b r h) fun r s' hq => ?_)
  cases r with
  | error e => exact hx pins H s e s' I hq
  | ok fl =>
    cases fl with
    | ret u => exact I.after hq
    | next => exact False.elim hq
    | brk => exact False.elim hq
    | cont => exact False.elim hq
theorem pe_callP (F : FnP X.prog X.w X.K X.mg X.base CX k f fd ps sp) (gd : X.A.guards = some []) (hr : L2H.RoomH k X.A) (hot : L2H.Hot1 X.A p) (hp : p ∈ X.pn) (hg : Gl X x) (hm : X.mg x = some (.ref f)) (hk : PySem.W.keepIn X.K (.ref f) = true) (hb : Binds X.K fd ps []) (hx : ∀ σ, PassesAt CX X σ (E σ))
    (ha : PA X (e :: es) t) (hdb : (x == ("__debug__" : Str)) = false) (he : starEach (e :: es) X.env = (false, eval e X.env) :: starEach es X.env) (hpl : (backTo pos (starEach es X.env)).any (·.1) = false) :
    PE X (.Call (.Name x q) (e :: es) [] pos) (tCallS (sp p) E t) := by
  refine ⟨fun pins s σ H Q I h => ?_⟩
  refine wpAny_Call_Name_kw (ld_glob I hg hm ?_ hdb)
  refine PySem.W.callWith_K (h₀ := X.base) I.ok.mod.kin hk (thn (ha.run pos pins s σ H _ I h) fun us s1 ⟨vs, H1, I1, r, q⟩ => ⟨I1.kIn, ?_⟩) he hpl
  exact run_fnP F gd hr hot hp hb (hx σ) I1 r q
end
end Tr
set_option Elab.async false
set_option linter.all false
set_option maxRecDepth 100000
set_option maxHeartbeats 4000000
/-! TrX3: [e for k in range(n)] where an error is handled; e leaves the heap as it is. -/
namespace Tr
open PySem PySem.Spec PyProof.Rows L2
/-- a block's context, the handled error pinned -/
abbrev blkP (X : Cx) (p : Addr × Obj) (s : Shared) (H : Hp) (scope : Scope) (cenv : PySem.Env) (fp : List Addr) : Cx := { X.blk s H scope cenv fp with pn := [p] }
section
variable {X : Cx} {p : Addr × Obj}
theorem addPin {σ : L2.St} {H H0 : Hp} {s s0 : Shared} {scope : Scope} {cenv : PySem.Env} {fp : List Addr} (I : Inv (X.blk s0 H0 scope cenv fp) [] σ H s)
    (h : s.heap.get? p.1 = some p.2 ∧ H p.1 = none ∧ p.1 ≠ cenv.locals ∧ p.1 ∉ frs X.stack ∧ ∀ v, p.2.data ≠ .cell v) : Inv (blkP X p s0 H0 scope cenv fp) [] σ H s := by
  have J : Inv (X.blk s0 H0 scope cenv fp) [p] σ H s := ⟨I.ok, I.os, I.bare, I.base, I.loc, I.cell, I.free, I.freeC, fun q hq => by
    have e : q = p := by simpa using (show q ∈ ([] : List (Addr × Obj)) ++ [p] from hq)
    rw [e]
    exact h, I.hok, I.len⟩
  exact J.toTry (fun _ _ => False)
/-- the reading: the list of what e gives -/
def tLcP (n : Nat) (y : Nat → V) : TE := fun _ H Q => ∀ D, H D = none → Q (.ref D) (upd H D (.lst ((List.range n).map y)))
theorem pe_lcP {n : Nat} {y : Nat → V} {elt iter : Expr} {v : Str} {vp pos : Pos} {scope : Scope} {own : List (Str × Nat)} {wi : TI} {j : Nat} {te : TE} (hn : n ≤ 1000) (hp : p ∈ X.pn) (hot : L2H.Hot1 X.A p) (hN : X.N.Nodup) (hi : L2H.PIH X (.Name v vp) iter wi) (ok : BlkOk X.N X.env.scope scope own)
    (hwi : ∀ σ H R, R (Itr 0 n) H → wi σ H R) (hj : (own.map (·.2)) = [j])
    (hg : ∀ (s : Shared) (H : Hp) (C : Addr) (cl : List (Str × Addr)) (fp : List Addr), PG (blkP X p s H scope (compEnvC scope cl C X.env) fp) (.Name v vp) (gName j))
    (he : ∀ (s : Shared) (H : Hp) (C : Addr) (cl : List (Str × Addr)) (fp : List Addr), PE (blkP X p s H scope (compEnvC scope cl C X.env) fp) elt te) (hs : ∀ x, foldedSetIterable iter X.env x = pure x)
    {S0 : L2.St → Prop} (hte : ∀ σ i H Q, S0 σ → i < n → Q (y i) H → te ((wipe σ [j]).set j (some (.int (i : Int)))) H Q) :
    PE X (.ListComp elt [⟨.Name v vp, iter, [], 0⟩] scope pos) (fun σ H Q => S0 σ ∧ tLcP n y σ H Q) := by
  refine ⟨fun pins s σ H Q I h => ?_⟩
  obtain ⟨hS0, h⟩ := h
  rw [eval_ListComp]
  have hfree : ∀ y ∈ scope.names, y.2 = .free → ∃ c, X.env.cells.lookup y.1 = some c := fun y hy e => by
    rcases ok.free y hy e with k | k
    · exact I.ok.has _ (.inl k)
    · exact I.ok.has _ (.inr k)
  refine wpAny_comprehension_free rfl hs (closure_ok hfree) ok.kind (fun y hy e => by rw [ok.uniq y hy, e]) (thn (hi.run pins s σ H (fun J H' => J = Itr 0 n ∧ H' = H) I (hwi σ H _ ⟨rfl, rfl⟩)) fun xv s1 hx => thn hx fun itv s2 h2 => ?_)
  obtain ⟨it, fp, tn, J, H2, eit, I2, T, st2, f2, eJ, eH⟩ := h2
  subst eit eJ eH
  refine wpAny_newObj_type (newEnv_comp ?_) (by show 0 ≤ sizeLine; decide)
  generalize hD : s2.heap.objs.size = D
  have hDn : H2 D = none := I2.hok.fresh (Nat.le_of_eq hD)
  -- the list so far
  obtain ⟨Hk, eHk⟩ : ∃ Hk : Nat → Hp, ∀ i, Hk i = upd H2 D (.lst ((List.range i).map y)) := ⟨fun i => _, fun _ => rfl⟩
  generalize hs3 : ({ s2 with heap := s2.heap.push { cls := .type "list", data := .seq ([] : List Value).toArray } } : Shared) = s3
  have h3 : s3.heap = s2.heap.push { cls := .type "list", data := .seq ([] : List Value).toArray } := by rw [← hs3]
  have I3 : Inv X pins σ (Hk 0) s3 := by
    rw [← hs3, eHk]
    refine I2.laid (t' := s2.toks) (fun b o e => Heap.get?_push_of_some _ e) (Nat.le_of_eq hD) ⟨Nat.zero_le _, [], 0, .nil, ?_⟩
    rw [← hD]
    exact Heap.get?_push_size _ rfl
  have small : ∀ b ∈ fp, b < s2.heap.objs.size := fun b hb => let ⟨o, e, _⟩ := T.obj _ _ st2 b hb; Heap.lt_size e
  have off : ∀ b ∈ fp, ∀ i, Hk i b = none := fun b hb i => by
    rw [eHk, upd_ne (by rw [← hD]; exact Nat.ne_of_lt (small b hb))]
    exact (f2 b hb).1
  have f3 : ∀ b ∈ fp, FpOk X pins (Hk 0) b ∧ b < s3.heap.objs.size := fun b hb => ⟨⟨off b hb 0, (f2 b hb).2⟩, by rw [h3, Heap.size_push]; exact Nat.lt_succ_of_lt (small b hb)⟩
  have st3 : tn 0 s3.heap := T.keep _ _ _ st2 fun b _ o e => by rw [h3]; exact Heap.get?_push_of_some _ e
  have P3 := I3.pin p (List.mem_append_left _ hp)
  have nst : p.1 ∉ frs X.stack := fun hm => (List.mem_cons.mp (I3.stkSub p.1 hm)).elim P3.2.2.1 P3.2.2.2.1
  have npf : ∀ b ∈ fp, p.1 ≠ b := fun b hb => (f2 b hb).2.2.2.2.2 p (List.mem_append_left _ hp)
  have I4 := addPin (p := p) (block_start I3 ok hN f3) ⟨pushCells_keeps _ _ _ _ (Heap.get?_push_of_some _ P3.1), P3.2.1, Nat.ne_of_lt (Heap.lt_size P3.1), nst, P3.2.2.2.2⟩
  have pg := hg s3 (Hk 0) s3.heap.objs.size (cellsFrom (s3.heap.objs.size + 1) scope.names (cloFrom X.env.cells scope.names [])) fp
  have pe := he s3 (Hk 0) s3.heap.objs.size (cellsFrom (s3.heap.objs.size + 1) scope.names (cloFrom X.env.cells scope.names [])) fp
  show codeAny _ _ (.compStart (.ListComp elt [⟨.Name v vp, iter, [], 0⟩] scope pos) 0 (.ref it) (.ref D) (compEnvC scope (cellsFrom (s3.heap.objs.size + 1) scope.names (cloFrom X.env.cells scope.names [])) s3.heap.objs.size X.env)) (compPost (model X.prog X.w) X.A X.xe _ _ (.ref D) s3.heap.objs.size) { s3 with heap := pushCells (s3.heap.push { cls := .type "dict", data := .dict #[] }) scope.names }
  generalize hce : compEnvC scope (cellsFrom (s3.heap.objs.size + 1) scope.names (cloFrom X.env.cells scope.names [])) s3.heap.objs.size X.env = ce at I4 pg pe ⊢
  have cL : ce.locals = s3.heap.objs.size := by subst hce; rfl
  generalize hs4 : ({ s3 with heap := pushCells (s3.heap.push { cls := .type "dict", data := .dict #[] }) scope.names } : Shared) = s4 at I4 ⊢
  have st4 : tn 0 s4.heap := T.keep _ _ _ st3 fun b _ o e => by rw [← hs4]; exact pushCells_keeps _ _ _ _ (Heap.get?_push_of_some _ e)
  rw [hj] at I4
  have hotC : L2H.HotC (blkP X p s3 (Hk 0) scope ce fp) := ⟨p, hot, List.mem_singleton.mpr rfl⟩
  have stat : ∀ {σ' : L2.St} {s' : Shared} {i : Nat}, Inv (blkP X p s3 (Hk 0) scope ce fp) [] σ' (Hk i) s' → ∀ b ∈ fp, FpOk (blkP X p s3 (Hk 0) scope ce fp) [] (Hk i) b := fun {σ' s' i} I' b hb =>
    ⟨off b hb i, (I'.ok.exf b hb).1, I'.ok.exfs b hb, .inl hb, fun x c e => (I'.ok.exf b hb).2 x c e, fun q hq => by
      have e : q = p := by simpa using (show q ∈ [p] ++ ([] : List (Addr × Obj)) from hq)
      rw [e]
      exact npf b hb⟩
  have loop : codeAny (model X.prog X.w) X.A (.compLoop (.ListComp elt [⟨.Name v vp, iter, [], 0⟩] scope pos) 0 (.ref it) (.ref D) ce) (compPost (model X.prog X.w) X.A X.xe none (EP X pins σ Q) (.ref D) s3.heap.objs.size) s4 := by
    refine compLoop_any (fun m s' => ∃ i, m = n - i ∧ i ≤ n ∧ Inv (blkP X p s3 (Hk 0) scope ce fp) [] (wipe σ [j]) (Hk i) s' ∧ tn i s'.heap) ?_ n ⟨0, rfl, Nat.zero_le _, I4, st4⟩
    rintro m s5 ⟨i, em, hi', I5, st5⟩
    by_cases go : i < n
    · refine thnF (T.item (blkP X p s3 (Hk 0) scope ce fp) rfl rfl rfl hotC i [] s5 _ (Hk i) (fun _ _ => False) I5 (stat I5) st5 go) fun r s6 ⟨u, hr, h6⟩ => ?_
      subst hr
      refine thnF h6 fun _ s7 ⟨x, H7, I7, r7, ⟨e7, ex⟩, st7, _⟩ => ?_
      subst e7 ex
      have I7' := I7.pinned (stat I7) (T.obj _ _ st7)
      refine thnF (pg.run _ s7 (wipe σ [j]) (Hk i) (.int (0 + (i : Int))) u (fun σ8 H8 => σ8 = (wipe σ [j]).set j (some (.int (i : Int))) ∧ H8 = Hk i) I7' r7 ⟨by rw [Int.zero_add], rfl⟩) fun _ s8 ⟨σ8, H8, I8, e8, eH8⟩ => ?_
      subst e8 eH8
      refine wpAny_tests_nil ?_
      rw [if_pos rfl]
      refine thnF (pe.run _ s8 _ (Hk i) (fun yv H10 => yv = y i ∧ H10 = Hk i) I8 (hte σ i (Hk i) _ hS0 go ⟨rfl, rfl⟩)) fun z s10 ⟨yv, H10, I10, r10, ey, eH10⟩ => ?_
      subst ey eH10
      refine app_ok (X := blkP X p s3 (Hk 0) scope ce fp) I10 (xs := (List.range i).map y) (by rw [eHk, upd_same]) (by rw [List.length_map, List.length_range, sizeLine_eq]; omega) r10 fun s11 I11 => ?_
      have eN : upd (Hk i) D (.lst ((List.range i).map y ++ [y i])) = Hk (i + 1) := by
        funext b
        rw [eHk, eHk]
        by_cases e : b = D
        · rw [e, upd_same, upd_same, List.range_succ, List.map_append]
          rfl
        · rw [upd_ne e, upd_ne e, upd_ne e]
      rw [eN] at I11
      have keepP : ∀ b ∈ fp, ∀ o, s7.heap.get? b = some o → s11.heap.get? b = some o := fun b hb o e => (I11.pin (b, o) (List.mem_append_right _ (List.mem_append_right _ (mem_pinsAt hb e)))).1
      refine ⟨n - (i + 1), by omega, i + 1, rfl, by omega, (I11.unpinned (pins := [])).weak (by rw [List.length_set]) (fun a v e => ?_), T.keep _ _ _ st7 keepP⟩
      have ne : a ≠ j := fun e2 => by
        rw [e2] at e
        exact (wipe_some e).2 (List.mem_singleton.mpr rfl)
      rw [List.getElem?_set_ne (Ne.symm ne)]
      exact e
    · have ei : i = n := by omega
      subst ei
      refine thnF (T.done (blkP X p s3 (Hk 0) scope ce fp) rfl rfl rfl hotC i [] s5 _ (Hk i) (fun _ _ => False) I5 (stat I5) st5 (Nat.le_refl _)) fun r s6 ⟨hr, I6⟩ => ?_
      subst hr
      have I7 : Inv X pins σ (Hk i) s6 := I3.call' (ch := fp) I6.os I6.base I6.hok I6.bare fun b hb => ⟨(f3 b hb).1.2.2.2.1, (f3 b hb).1.2.1, (f3 b hb).1.2.2.2.2.1, (f3 b hb).1.2.2.2.2.2⟩
      have nC : Hk i s3.heap.objs.size = none := by
        have z : Hk i ce.locals = none := I6.free
        rw [cL] at z
        exact z
      obtain ⟨m', hn', _⟩ := I6.loc
      have hn' : s6.heap.Ns ce.locals m' := hn'
      rw [cL] at hn'
      obtain ⟨f0, f1, f2', f3', f4, f5⟩ := I3.fpOk (H' := Hk i) (Nat.le_refl _) nC
      have q := h D hDn
      rw [← eHk] at q
      exact ⟨m', hn', fun h'' sb => ⟨.ref D, Hk i, I7.turned (t' := s6.toks) (fun b o hb e => (sb.2 b hb).trans e) f0 f1 f3' f4 f5, rfl, q⟩⟩
  exact codeAny_compStart_list loop (T.self X.A 0 _ _ _ st4 loop)
end
end Tr
set_option Elab.async false
set_option linter.all false
set_option maxRecDepth 100000
set_option maxHeartbeats 4000000
/-! TrX4: what kind of error it is: isinstance of the handled error, rows of such. -/
namespace Tr
open PySem PySem.Spec PyProof.Rows L2
section
variable {X : Cx} {a D : Addr} {oe : Obj} {d : Option Addr} {i : Nat} {b : Bool} {bs : List Bool} {pos : Pos}
/-- isinstance(e, C) of the error in slot i -/
theorem e_isP {ee ce : Expr} {q : Pos} {c : V} {cv : Value} (bl : Blt X "isinstance") (hp : (a, oe) ∈ X.pn) (C : L2.ExcC X.K D) (hz : L2.Zc (.ref D) d oe) (hf : ∃ vs, oe.data = .fields vs) (he : PE X ee (tVar i)) (hc : PE X ce (tC c)) (hv : ∀ u, RelV c u → u = cv)
    (hk : PySem.W.kitOne X.K (.ref D) cv = some b) (s1 : notStar ee = true) (s2 : notStar ce = true) :
    PE X (.Call (.Name "isinstance" q) [ee, ce] [] pos) (fun σ H Q => EAt i a d σ H ∧ Q (.bl b) H) := by
  refine (pe_callB (call_isP hp C hz hf) bl.gl bl.no (by decide +kernel) (pa_cons he (pa_cons hc pa_nil (starEach_cons s2)) (starEach_cons s1)) (by decide) (by decide) (starEach_cons s1) (back_one s2)).weak fun σ H Q h => ?_
  obtain ⟨⟨h1, h0⟩, h2⟩ := h
  exact ⟨_, h1, h0, c, cv, b, rfl, hv, hk, h2⟩
/-- a row of such -/
structure IsRow (X : Cx) (i : Nat) (a : Addr) (d : Option Addr) (es : List Expr) (bs : List Bool) : Prop where
  pa : PA X es (fun σ H Q => EAt i a d σ H ∧ Q (bs.map V.bl) H)
theorem isr_nil : IsRow X i a d [] [] := ⟨pa_nil.weak fun σ H Q q => q.2⟩
theorem isr_cons {e : Expr} {es : List Expr} (h : PE X e (fun σ H Q => EAt i a d σ H ∧ Q (.bl b) H)) (r : IsRow X i a d es bs) (hs : notStar e = true) : IsRow X i a d (e :: es) (b :: bs) :=
  ⟨(pa_cons h r.pa (starEach_cons hs)).weak fun σ H Q q => ⟨q.1, q.1, q.2⟩⟩
theorem IsRow.lst {es : List Expr} (r : IsRow X i a d es bs) (hl : bs.length ≤ 1000) : PE X (.List es pos) (fun σ H Q => EAt i a d σ H ∧ ∀ z, H z = none → Q (.ref z) (upd H z (.lst (bs.map V.bl)))) :=
  (pe_lst r.pa).weak fun σ H Q q => ⟨q.1, by rw [List.length_map, sizeLine_eq]; omega, q.2⟩
/-- found + [..] -/
theorem IsRow.add {f : Expr} {es : List Expr} {j : Nat} {pos2 : Pos} (hf : PE X f (tVar j)) (r : IsRow X i a d es bs) (hl : bs.length ≤ 1000) :
    PE X (.BinOp f .Add (.List es pos2) pos) (fun σ H Q => EAt i a d σ H ∧ ∃ l xs, σ[j]? = some (some (.ref l)) ∧ H l = some (.lst xs) ∧ xs.length ≤ 1000 ∧ ∀ H1 z, Same H H1 → H1 z = none → Q (.ref z) (upd H1 z (.lst (xs ++ bs.map V.bl)))) := by
  refine (pe_op op_cat hf (r.lst hl)).weak fun σ H Q q => ?_
  obtain ⟨q1, l, xs, q2, q3, q4, q5⟩ := q
  refine ⟨_, q2, q1, fun z hz => ⟨l, z, xs, bs.map V.bl, rfl, rfl, ?_, upd_same, ?_, fun p hp => q5 _ p (upd_mono hz) hp⟩⟩
  · rw [upd_ne (ne_of_none q3 hz)]; exact q3
  · rw [List.length_map, sizeLine_eq]; omega
end
section
variable {X : Cx} {a : Addr} {d : Option Addr}
/-- the body of the def that tells the kinds: three rows, put together -/
theorem kinds_body {f : Str} {es1 es2 es3 : List Expr} {b1 b2 b3 : List Bool} {p1 p2 p3 p4 p5 p6 p7 p8 p9 p10 p11 p12 : Pos} (r1 : IsRow X 0 a d es1 b1) (r2 : IsRow X 0 a d es2 b2) (r3 : IsRow X 0 a d es3 b3) (l1 : b1.length ≤ 300) (l2 : b2.length ≤ 300) (l3 : b3.length ≤ 300)
    (hN : X.N.Nodup) (hi : X.N[1]? = some f) (hx : X.env.scope.names.lookup f = some .local) (hd : (f == ("__debug__" : Str)) = false) (hcd : (f == ("__classdict__" : Str)) = false) :
    PSs X [.Assign [.Name f p1] (.List es1 p2) p3, .Assign [.Name f p4] (.BinOp (.Name f p5) .Add (.List es2 p6) p7) p8, .Return (some (.BinOp (.Name f p9) .Add (.List es3 p10) p11)) p12]
      (fun D σ H => σ.length = X.N.length ∧ EAt 0 a d σ H ∧ ∀ H' z, Same H H' → H' z = some (.lst ((b1 ++ b2 ++ b3).map V.bl)) → D.rt (.ref z) H') := by
  have vf : ∀ p, PE X (.Name f p) (tVar 1) := fun p => pe_var hi (.inl hx) hd hcd
  have sf : ∀ {e : Expr} {te : TE} {p q : Pos}, PE X e te → swapsWith e (some (.Name f p)) q.line X.env = pure false → PS X (.Assign [.Name f p] e q) (tAsg te (gName 1)) := fun he hc => ps_set hN hi (.inl hx) he hc (.inr hx)
  refine (pss_cons (sf (r1.lst (by omega)) rfl) (pss_cons (sf (r2.add (vf p5) (by omega)) rfl) (pss_one (ps_ret (r3.add (vf p9) (by omega)))))).weak fun D σ H h => ?_
  obtain ⟨hl, h0, q⟩ := h
  have h1 : 1 < σ.length := by rw [hl]; exact (List.getElem?_eq_some_iff.mp hi).1
  have set0 : ∀ (τ : L2.St) (v : V) (H H' : Hp), EAt 0 a d τ H → Same H H' → EAt 0 a d (τ.set 1 (some v)) H' := fun τ v H H' e g => ⟨by rw [List.getElem?_set_ne (by decide)]; exact e.1, e.2.mono g⟩
  have set1 : ∀ (τ : L2.St) (v : V), 1 < τ.length → (τ.set 1 (some v))[1]? = some (some v) := fun τ v e => List.getElem?_set_self e
  refine ⟨h0, fun z hz => ?_⟩
  have d1 := set0 _ (.ref z) _ _ h0 (upd_mono (o := .lst (b1.map V.bl)) hz)
  refine ⟨d1, z, b1.map V.bl, set1 _ _ h1, upd_same, by rw [List.length_map]; omega, fun H1 z1 S1 hz1 => ?_⟩
  have d2 := set0 _ (.ref z1) _ (upd H1 z1 (.lst (b1.map V.bl ++ b2.map V.bl))) d1 fun b u e => upd_mono hz1 _ _ (S1 _ _ e)
  refine ⟨d2, z1, b1.map V.bl ++ b2.map V.bl, set1 _ _ (by rw [List.length_set]; exact h1), upd_same, by rw [List.length_append, List.length_map, List.length_map]; omega, fun H2 z2 S2 hz2 => ?_⟩
  refine q _ z2 (fun b u e => ?_) (by rw [upd_same, List.map_append, List.map_append])
  exact upd_mono hz2 _ _ (S2 _ _ (upd_mono hz1 _ _ (S1 _ _ (upd_mono hz _ _ e))))
end
end Tr
set_option Elab.async false
set_option linter.all false
set_option maxRecDepth 100000
set_option maxHeartbeats 4000000
/-! TrX5: is it just this kind of error? -/
namespace Tr
open PySem PySem.Spec PyProof.Rows L2
theorem dp_bls {K : PySem.W.Frag} {H : Hp} : ∀ bs : List Bool, DpAll K H (bs.map V.bl) (bs.map PyData.bool)
  | [] => .nil
  | b :: bs => .cons (.bl b) (dp_bls bs)
section
variable {X : Cx} {a : Addr} {d : Option Addr}
theorem is_kind_body {i1 i2 kc lc : Expr} {body : List Stmt} {tb : TS} {q1 q2 q3 q4 q5 q6 : Pos} {bs : List Bool} {y : Nat → Bool} {n : Nat} {S0 : L2.St → Prop} (hu : X.A.units + 64 < cLine)
    (h1 : PE X i1 (fun σ H Q => EAt 0 a d σ H ∧ Q (.bl true) H)) (h2 : PE X i2 (fun σ H Q => EAt 0 a d σ H ∧ Q (.bl true) H)) (e1 : ∀ whole, isTrue i1 X.env whole = (do let v ← whole; standAt i1.pos; holding [v] (truthy v))) (e2 : ∀ whole, isTrue i2 X.env whole = (do let v ← whole; standAt i2.pos; holding [v] (truthy v)))
    (hb : PSs X body tb) (hk : PE X kc (fun σ H Q => EAt 0 a d σ H ∧ ∀ H' z, Same H H' → H' z = some (.lst (bs.map V.bl)) → Q (.ref z) H')) (hc : PE X lc (fun σ H Q => S0 σ ∧ tLcP n (fun k => .bl (y k)) σ H Q)) (hm : behindInMarks .Eq lc = false)
    (s1 : SeqAt.shaped (.list (bs.map PyData.bool)) = true) (s2 : SeqAt.shaped (.list ((List.range n).map fun k => PyData.bool (y k))) = true) (s3 : bs.length ≤ 1000 ∧ n ≤ 1000) :
    PSs X [.If (.BoolOp .Or [.UnaryOp .Not i1 q1, .UnaryOp .Not i2 q2] q3) body [] q4, .Return (some (.Compare kc [.Eq] [lc] q5)) q6]
      (fun D σ H => EAt 0 a d σ H ∧ S0 σ ∧ ∀ H', Same H H' → D.rt (.bl (PyData.eqv (.list (bs.map PyData.bool)) (.list ((List.range n).map fun k => PyData.bool (y k))))) H') := by
  have t1 : PT X i1 (fun σ H Q => EAt 0 a d σ H ∧ Q true H) := (pt_truth h1 e1).weak fun σ H Q q => ⟨q.1, true, rfl, q.2⟩
  have t2 : PT X i2 (fun σ H Q => EAt 0 a d σ H ∧ Q true H) := (pt_truth h2 e2).weak fun σ H Q q => ⟨q.1, true, rfl, q.2⟩
  refine (pss_cons (ps_if (pw_or (pt_not t1) (pw_or1 (pt_not t2))).pt hb pss_nil) (pss_one (ps_ret (pe_cmpR (op_eqD hu) hk hc hm)))).weak fun D σ H h => ?_
  obtain ⟨h0, hS, q⟩ := h
  show (EAt 0 a d σ H ∧ _)
  refine ⟨h0, ?_⟩
  show (EAt 0 a d σ H ∧ _)
  refine ⟨h0, ?_⟩
  show (EAt 0 a d σ H ∧ _)
  refine ⟨h0, fun H1 z S1 hz => ⟨hS, fun D' hD => ?_⟩⟩
  have hz' : upd H1 D' (.lst ((List.range n).map fun k => V.bl (y k))) z = some (.lst (bs.map V.bl)) := by rw [upd_ne (ne_of_none hz hD)]; exact hz
  refine ⟨_, _, .lst (SqL.of hz') (dp_bls bs), .lst (SqL.of upd_same) ?_, s1, s2, q _ fun b u e => upd_mono hD _ _ (S1 _ _ e)⟩
  have := dp_bls (K := X.K) (H := upd H1 D' (.lst ((List.range n).map fun k => V.bl (y k)))) ((List.range n).map y)
  rw [List.map_map, List.map_map] at this
  exact this
end
end Tr
set_option Elab.async false
set_option linter.all false
set_option maxRecDepth 100000
set_option maxHeartbeats 4000000
/-! TrX6: try: .., except C as e: return (a truth by the error's kind). -/
namespace Tr
open PySem PySem.Spec PyProof.Rows L2
theorem Rel.grow {K : PySem.W.Frag} {Hf H H' : Hp} {ρ : Env} {σ : L2.St} {U : UU} (R : Rel K Hf H ρ σ U) (g : Same H H') : Rel K Hf H' ρ σ U :=
  ⟨fun a u q => g a u (R.sub a u q), R.len, fun i o e => by
    obtain ⟨v, h1, h2⟩ := R.own i o e
    exact ⟨v, h1, h2.keep (fun _ _ q => q) (fun b u _ q => g b u q) fun b u _ _ n => n⟩, R.dj, fun i b q => by
    cases e : H b with
    | none => exact absurd e (R.alive i b q)
    | some u => rw [g b u e]; exact fun z => by cases z⟩
section
variable {X : Cx} {ct : Str → Option Addr} {W : WX} {fx : Fix} {mb : Env → R Fl} {hv : Str → Option Bool} {i : Nat} {x n : Str} {c : Value} {body suite : List Stmt} {b₀ : Stmt} {np pos pos' : Pos}
/-- the handler's reading -/
def tHd (K : PySem.W.Frag) (ct : Str → Option Addr) (ok : Str → Bool) (hm : Ex → Env → R D) (i : Nat) : Addr → Value → Option Addr → TS := fun a cls d D σ H => ∃ x Hf ρ U, ok x.cls = true ∧ x.flds.length ≤ 1 ∧ ExR K ct Hf H x cls d ∧ σ[i]? = some (some (.ref a)) ∧ ρ[i]? = some none ∧ Rel K Hf H ρ σ U ∧
  Post K σ Hf H U (fun _ _ _ _ _ => False) (fun d _ Hf' H' _ => ∀ v, Rep K Hf' v d → D.rt v H') (hm x ρ)
theorem ExR.grow {K : PySem.W.Frag} {ct : Str → Option Addr} {Hf H H' : Hp} {x : Ex} {cls : Value} {d : Option Addr} (h : ExR K ct Hf H x cls d) (g : Same H H') : ExR K ct Hf H' x cls d := by
  obtain ⟨C, e1, e2, e3, e4⟩ := h
  exact ⟨C, e1, e2, e3, fun f dd e => let ⟨a, v, q1, q2, q3⟩ := e4 f dd e; ⟨a, v, q1, g _ _ q2, q3⟩⟩
theorem ExR.dok {K : PySem.W.Frag} {ct : Str → Option Addr} {Hf H : Hp} {x : Ex} {cls : Value} {d : Option Addr} (h : ExR K ct Hf H x cls d) (hl : x.flds.length ≤ 1) : DOk d H := by
  obtain ⟨C, _, _, e3, e4⟩ := h
  intro dd e
  cases q : x.flds with
  | nil => rw [e3 q] at e; cases e
  | cons p r =>
    cases r with
    | cons p2 r => rw [q] at hl; simp at hl
    | nil =>
      obtain ⟨a, v, h1, h2, _⟩ := e4 p.1 p.2 q
      rw [h1] at e
      cases e
      exact ⟨_, h2⟩
theorem s_try {ok : Str → Bool} {hm : Ex → Env → R D} (hs : X.stack = X.env :: X.outer) (hf : X.env.frame = some X.env.locals) (hN : X.N.Nodup) (hi : X.N[i]? = some n) (hln : X.env.kindOf n = some .local) (hc : Names X x c) (tk : L2N.Takes X W) (hfx : ¬ fx i)
    (hx : ∀ y C, ct y = some C → ok y = true → PySem.W.exmOne X.K (.ref C) c = some true)
    (hb : ∀ (W' : WX) (pn : List (Addr × Obj)) (xe : Value → Shared → Prop), L2N.Takes (X.tr pn xe) W' → PassesOwn (model X.prog X.w) X.A X.env xe → PSs (X.tr pn xe) body (tS X.K ct W' fx mb))
    (hsu : ∀ (a : Addr) (oe : Obj) (cls : Value) (d : Option Addr) (pn : List (Addr × Obj)), L2N.Zn cls d oe → (∃ vs, oe.data = .fields vs) → PSs (X.suite a ((a, oe) :: pn)) (b₀ :: suite) (tHd X.K ct ok hm i a cls d)) :
    PS X (.Try body [.ExceptHandler (some (.Name x np)) (some n) (b₀ :: suite) pos'] [] [] pos) (tS X.K ct W fx fun ρ => tryF ok hm i (mb ρ)) := by
  refine (L2N.ps_try_as hs hf hN hi hln hc tk hb hsu).weak fun D σ H h => ?_
  obtain ⟨Hf, ρ, U, R, q⟩ := h
  replace q : PostS X.K ct W fx σ Hf H U D (tryF ok hm i (mb ρ)) := q
  refine ⟨Hf, ρ, U, R, ?_⟩
  cases e : mb ρ with
  | bad => rw [e] at q; exact q
  | ok fl ρ' => rw [e] at q; exact q
  | exc y ρ' =>
    rw [e] at q
    unfold tryF at q
    dsimp only at q
    intro σ' Hf' H' U' k' R' S' cls d hE
    obtain ⟨C, e1, rfl, e2, e3⟩ := id hE
    split at q
    · rename_i hfl
      obtain ⟨f1, f2⟩ := Bool.and_eq_true_iff.mp hfl
      obtain ⟨f1, f3⟩ := Bool.and_eq_true_iff.mp f1
      have f3 : y.flds.length ≤ 1 := of_decide_eq_true f3
      have f2 : i < ρ'.length := of_decide_eq_true f2
      refine ⟨true, hx _ _ e1 f1, fun _ a na => ⟨y, Hf', ρ'.set i none, updU U' i fun _ => False, f1, f3, hE, ?_, List.getElem?_set_self f2, ?_, ?_⟩, fun z => by cases z⟩
      · exact List.getElem?_set_self (by rw [← R'.len]; exact f2)
      · have R2 := R'.drop i
        refine ⟨R2.sub, by rw [List.length_set, List.length_set]; exact R'.len, fun j o ej => ?_, R2.dj, R2.alive⟩
        obtain ⟨v, h1, h2⟩ := R2.own j o ej
        refine ⟨v, ?_, h2⟩
        have ne : i ≠ j := fun z => by
          subst z
          rw [List.getElem?_set_self f2] at ej
          cases ej
        rw [List.getElem?_set_ne ne]
        exact h1
      · have R2 := R'.drop i
        cases em : hm y (ρ'.set i none) with
        | bad => rw [em] at q; exact (show False from q).elim
        | exc z ρ2 => rw [em] at q; exact (show False from q).elim
        | ok d0 ρ2 =>
          rw [em] at q
          intro Hf2 H2 U2 R3 S3 v rv
          have S2 : Step Hf' H' (foot U') Hf' H' (foot (updU U' i fun _ => False)) := Step.less (foot_updU fun _ z => z.elim)
          refine q _ Hf2 H2 U2 (k'.trans (Kept.set (σ := σ') (v := some (.ref a)) hfx)) R3 (S'.trans (S2.trans S3)) v (fun _ => False) (.frz rv) fun _ z => z.elim
    · exact q.elim
end
end Tr
set_option Elab.async false
set_option linter.all false
set_option maxRecDepth 100000
set_option maxHeartbeats 4000000
/-! TrX7: the handler: return is_kind(e, n). -/
namespace Tr
open PySem PySem.Spec PyProof.Rows L2
theorem FunD.okP {CX : CXT} {P : Program} {w : World} {K : PySem.W.Frag} {mg : Str → Option Value} {base : Heap} {x qual : Str} {params : Arguments} {body : List Stmt} {scope : Scope} {f : Addr} {fd : FuncData} {N ps : List Str} {k : Nat} {sp : Addr × Obj → Sp}
    (F : FunD K x qual params body scope [] [] f fd) (S : FnScope N ps scope) (len : ∀ p vs H Q E, sp p vs H Q E → vs.length = ps.length)
    (hbody : ∀ (cdv : Value) (A : Around) (outer : List PySem.Env) (s : Shared) (H : Hp) (vs : List V) (Q : VK) (E : XK) (p : Addr × Obj), (A.deeper (envOfC qual scope s.heap.objs.size f cdv)).guards = some [] → L2H.Hot1 A p → L2H.RoomH k (A.deeper (envOfC qual scope s.heap.objs.size f cdv)) → sp p vs H Q E →
      ∃ t, PSs (L2H.cxH CX P w K mg base N qual scope f cdv A outer s H E p) body t ∧ t { nx := fun _ H' => Q .non H', rt := Q } (L2.start N vs) H) : FnP P w K mg base CX (k + 1) f fd ps sp := by
  obtain ⟨oc, od, dV, kV, doc, pm, an, cdv, ct, osl, rfl, lk, hcd, _, _⟩ := F.ex
  exact fn_ofP lk hcd S len fun A outer s H vs Q E p g hot hr hsp => hbody cdv A outer s H vs Q E p g hot hr hsp
/-- what is_kind(e, n) promises: a truth by the error's class -/
def spI (ct : Str → Option Addr) (hv : Str → Int → Option Bool) : Addr × Obj → Sp := fun p vs H Q _ => ∃ y C n b d, ct y = some C ∧ vs = [.ref p.1, .int n] ∧ L2.Zc (.ref C) d p.2 ∧ DOk d H ∧ (∃ u, p.2.data = .fields u) ∧ hv y n = some b ∧ ∀ H', Same H H' → Q (.bl b) H'
def Ha.t : Ha → TE
  | .int m => tC (.int m)
  | .v j => tVar j
def Ha.at (σ : L2.St) (n : Int) : Ha → Prop
  | .int m => n = m
  | .v j => σ[j]? = some (some (.int n))
theorem Ha.run {h : Ha} {σ : L2.St} {n : Int} {H : Hp} {Q : VK} (a : h.at σ n) (q : Q (.int n) H) : h.t σ H Q := by
  cases h with
  | int m => cases (show n = m from a); exact q
  | v j => exact ⟨_, a, q⟩
theorem Ha.at_of {K : PySem.W.Frag} {Hf H : Hp} {ρ : Env} {σ : L2.St} {U : UU} {h : Ha} {n : Int} (R : Rel K Hf H ρ σ U) (e : h.of ρ = some n) : h.at σ n := by
  cases h with
  | int m => cases e; rfl
  | v j =>
    unfold Ha.of at e
    dsimp only at e
    split at e
    · rename_i m hm
      cases e
      obtain ⟨v, h1, h2⟩ := R.own j _ (ldV_of hm)
      cases h2 with
      | frz r =>
        cases r.int_of
        exact h1
    · cases e
theorem Post.grow {α : Type} {K : PySem.W.Frag} {σ : L2.St} {Hf H H' : Hp} {U : UU} {E : Ex → Env → Hp → Hp → UU → Prop} {k : α → Env → Hp → Hp → UU → Prop} {r : R α} (h : Post K σ Hf H U E k r) (g : Same H H') : Post K σ Hf H' U E k r := by
  have st : ∀ {Hf2 H2 F}, Step Hf H' (foot U) Hf2 H2 F → Step Hf H (foot U) Hf2 H2 F := fun S => (⟨fun _ _ h => h, fun _ _ h => .inl h, fun a u _ h => g a u h, fun b q => .inl q⟩ : Step Hf H (foot U) Hf H' (foot U)).trans S
  cases r with
  | bad => exact h
  | exc x ρ' => exact fun Hf2 H2 U2 R S => h Hf2 H2 U2 R (st S)
  | ok a ρ' => exact fun Hf2 H2 U2 R S => h Hf2 H2 U2 R (st S)
theorem Post.noE {α : Type} {K : PySem.W.Frag} {σ : L2.St} {Hf H : Hp} {U : UU} {E : Ex → Env → Hp → Hp → UU → Prop} {k : α → Env → Hp → Hp → UU → Prop} {r : R α} (h : Post K σ Hf H U (fun _ _ _ _ _ => False) k r) : Post K σ Hf H U E k r := by
  cases r with
  | bad => exact h
  | exc x ρ' => exact fun Hf2 H2 U2 R S => (h Hf2 H2 U2 R S).elim
  | ok a ρ' => exact h
/-- str(x), where an error may be handled -/
theorem e_strN {X : Cx} {ct : Str → Option Addr} {W : WX} {a : Expr} {ma : Env → R D} {p pos : Pos} (hg : X.A.guards = some []) (hu : X.A.units + 65 < cLine) (hsys : SysOk X.K) (bl : Blt X "str") (ha : PE X a (tE X.K ct W ma)) (hs : notStar a = true) :
    PE X (.Call (.Name "str" p) [a] [] pos) (tE X.K ct W fun ρ => (ma ρ).bind fun d ρ => R.of (b1D .str d) ρ) := by
  have P1 : PA X [a] (tCons (tE X.K ct W ma) tNil) := pa_cons ha pa_nil (starEach_cons hs)
  have S1 : starEach [a] X.env = (false, eval a X.env) :: starEach [] X.env := starEach_cons hs
  refine (pe_callTy ((SkE.call_str_str).or (cr_strD hg hu hsys)) bl.gl bl.no (by decide +kernel) P1 (by decide) (by decide) S1 back_nil).weak fun σ H Q h => one_sem h fun d e Hf' H' ρ' U' x R0 rx e1 q => ?_
  have rm := rx.mono R0.sub
  cases rx <;> simp only [b1D, Option.some.injEq] at e1
  case str x =>
    subst e1
    exact .inl ⟨_, rfl, q _ _ _ R0 Step.refl _ (.str _)⟩
  case int i =>
    split at e1 <;> first | contradiction | skip
    rename_i hl
    cases e1
    refine .inr ⟨_, _, rfl, rm, rfl, ?_, q _ _ _ R0 Step.refl _ (.str _)⟩
    unfold shownOk
    simp only [PyData.showable, PyData.depth, PyData.shown, Bool.and_eq_true]
    exact ⟨⟨decide_eq_true hl, rfl⟩, decide_eq_true (by rw [← line_eq]; exact int_text_fits hl)⟩
  all_goals
    split at e1 <;> first | contradiction | skip
    rename_i hl
    cases e1
    exact .inr ⟨_, _, rfl, rm, rfl, hl, q _ _ _ R0 Step.refl _ (.str _)⟩
section
variable {X : Cx} {ct : Str → Option Addr} {hv : Str → Int → Option Bool} {ok : Str → Bool} {a : Addr} {oe : Obj} {cls : Value} {d : Option Addr} {pn : List (Addr × Obj)} {k i : Nat} {f : Addr} {fd : FuncData} {ps : List Str} {g n : Str} {h : Ha} {ae b2 : Expr} {q1 q2 q3 q4 q5 : Pos}
/-- is_kind(e, n) in the suite -/
theorem pe_kind (hz : L2N.Zn cls d oe) (hf : ∃ vs, oe.data = .fields vs) (F : FnP X.prog X.w X.K X.mg X.base (L2N.CX X.prog X.w) k f fd ps (spI ct hv)) (gd : X.A.guards = some []) (hr : L2H.RoomH k X.A) (hg : Gl X g) (hm : X.mg g = some (.ref f)) (hk : PySem.W.keepIn X.K (.ref f) = true) (hb : Binds X.K fd ps [])
    (hd : (g == ("__debug__" : Str)) = false) (hn : PE (X.suite a ((a, oe) :: pn)) (.Name n q2) (tVar i)) (hae : PE (X.suite a ((a, oe) :: pn)) ae h.t) (hs : notStar ae = true) :
    PE (X.suite a ((a, oe) :: pn)) (.Call (.Name g q1) [.Name n q2, ae] [] q4) (fun σ H Q => ∃ y C m b, ct y = some C ∧ cls = .ref C ∧ DOk d H ∧ σ[i]? = some (some (.ref a)) ∧ h.at σ m ∧ hv y m = some b ∧ ∀ H', Same H H' → Q (.bl b) H') := by
  have hot : L2H.Hot1 (X.suite a ((a, oe) :: pn)).A (a, oe) := by
    obtain ⟨vs, e⟩ := hf
    exact ⟨rfl, vs, e, hz.2.2 vs e⟩
  have call := pe_callP (X := X.suite a ((a, oe) :: pn)) (E := fun _ => fun _ _ _ => False) (q := q1) (pos := q4) (es := [ae]) (p := (a, oe)) F gd ⟨hr.dp, hr.un⟩ hot List.mem_cons_self hg hm hk hb
    (fun σ => fun _ _ _ _ _ _ h => by obtain ⟨_, _, _, _, _, _, _, _, _, _, _, _, z⟩ := h; exact z.elim)
    (pa_cons hn (pa_cons hae pa_nil (starEach_cons hs)) (starEach_cons rfl)) hd (starEach_cons rfl) (back_one hs)
  refine call.weak fun σ H Q q => ?_
  obtain ⟨y, C, m, b, e1, rfl, e2, e3, e4, e5, e6⟩ := q
  exact ⟨_, e3, Ha.run e4 ⟨y, C, m, b, d, e1, rfl, hz.zc, e2, hf, e5, e6⟩⟩
theorem suite_kind (hc : PE (X.suite a ((a, oe) :: pn)) b2 (fun σ H Q => ∃ y C m b, ct y = some C ∧ cls = .ref C ∧ DOk d H ∧ σ[i]? = some (some (.ref a)) ∧ h.at σ m ∧ hv y m = some b ∧ ∀ H', Same H H' → Q (.bl b) H')) :
    PSs (X.suite a ((a, oe) :: pn)) [.Return (some b2) q5] (tHd X.K ct ok ((Hd.kind h).sem hv) i a cls d) := by
  refine (pss_one (ps_ret hc)).weak fun D σ H q => ?_
  obtain ⟨x, Hf, ρ, U, _, hl, hE, hσ, _, R, p⟩ := q
  obtain ⟨b, e1, q⟩ := p.of R
  cases e2 : (h.of ρ).bind (hv x.cls) with
  | none => rw [e2] at e1; cases e1
  | some t =>
    rw [e2] at e1
    cases e1
    obtain ⟨m, e3, e4⟩ := Option.bind_eq_some_iff.mp e2
    have dk := hE.dok hl
    obtain ⟨C, c1, c2, _⟩ := hE
    refine ⟨x.cls, C, m, t, c1, c2, dk, hσ, Ha.at_of R e3, e4, fun H' g => ?_⟩
    unfold Hd.sem at p
    dsimp only at p
    rw [e2] at p
    exact (p.grow g).ok (R.grow g) _ (.bl _)
theorem suite_kindS {j l : Nat} {e1 : Expr} {q6 : Pos} (hc : PE (X.suite a ((a, oe) :: pn)) e1 (fun σ H Q => ∃ y C m b, ct y = some C ∧ cls = .ref C ∧ DOk d H ∧ σ[i]? = some (some (.ref a)) ∧ h.at σ m ∧ hv y m = some b ∧ ∀ H', Same H H' → Q (.bl b) H'))
    (h2 : PE (X.suite a ((a, oe) :: pn)) b2 (tE X.K ct WF (strEq j l))) :
    PSs (X.suite a ((a, oe) :: pn)) [.Return (some (.BoolOp .And [e1, b2] q6)) q5] (tHd X.K ct ok ((Hd.kindS h j l).sem hv) i a cls d) := by
  refine (pss_one (ps_ret (pe_and hc (pe_one h2)))).weak fun D σ H q => ?_
  obtain ⟨x, Hf, ρ, U, _, hl, hE, hσ, _, R, p⟩ := q
  unfold Hd.sem at p
  dsimp only at p
  cases e2 : (h.of ρ).bind (hv x.cls) with
  | none => rw [e2] at p; exact p.elim
  | some t =>
    obtain ⟨m, e3, e4⟩ := Option.bind_eq_some_iff.mp e2
    have dk := hE.dok hl
    obtain ⟨C, c1, c2, _⟩ := hE
    refine ⟨x.cls, C, m, t, c1, c2, dk, hσ, Ha.at_of R e3, e4, fun H' g => ⟨t, rfl, ?_⟩⟩
    rw [e2] at p
    cases t with
    | false =>
      simp only [Bool.false_eq_true, if_false]
      exact (p.grow g).ok (R.grow g) _ (.bl _)
    | true =>
      simp only [if_true]
      exact ⟨Hf, ρ, U, R.grow g, (p.grow g).noE⟩
end
end Tr
set_option Elab.async false
set_option linter.all false
set_option maxRecDepth 100000
set_option maxHeartbeats 4000000
/-! TrD: the check that an IR text says what a text of the program says. -/
namespace Tr
open PySem PySem.Spec PyProof.Rows L2

/-! ### views -/
def vName : Expr → Option Str
  | .Name x _ => some x
  | _ => none
theorem vName_eq {e : Expr} {x : Str} (h : vName e = some x) : ∃ p, e = .Name x p := by
  cases e <;> first | (cases h; exact ⟨_, rfl⟩) | cases h
def vConst : Expr → Option Const
  | .Constant k _ _ => some k
  | _ => none
theorem vConst_eq {e : Expr} {x : Const} (h : vConst e = some x) : ∃ j p, e = .Constant x j p := by
  cases e <;> first | (cases h; exact ⟨_, _, rfl⟩) | cases h
def vTup : Expr → Option (List Expr)
  | .Tuple l _ _ => some l
  | _ => none
theorem vTup_eq {e : Expr} {x : List Expr} (h : vTup e = some x) : ∃ j p, e = .Tuple x j p := by
  cases e <;> first | (cases h; exact ⟨_, _, rfl⟩) | cases h
def vList : Expr → Option (List Expr)
  | .List l _ => some l
  | _ => none
theorem vList_eq {e : Expr} {x : List Expr} (h : vList e = some x) : ∃ p, e = .List x p := by
  cases e <;> first | (cases h; exact ⟨_, rfl⟩) | cases h
def vSub : Expr → Option (Expr × Expr)
  | .Subscript a b _ => some (a, b)
  | _ => none
theorem vSub_eq {e : Expr} {x : Expr × Expr} (h : vSub e = some x) : ∃ p, e = .Subscript x.1 x.2 p := by
  cases e <;> first | (cases h; exact ⟨_, rfl⟩) | cases h
def vSlice : Expr → Option (Option Expr × Option Expr)
  | .Slice lo hi none _ => some (lo, hi)
  | _ => none
theorem vSlice_eq {e : Expr} {x : Option Expr × Option Expr} (h : vSlice e = some x) : ∃ p, e = .Slice x.1 x.2 none p := by
  cases e <;> try cases h
  case Slice lo hi st p => cases st <;> first | (cases h; exact ⟨_, rfl⟩) | cases h
def vUn : Expr → Option (UnaryOp × Expr)
  | .UnaryOp o a _ => some (o, a)
  | _ => none
theorem vUn_eq {e : Expr} {x : UnaryOp × Expr} (h : vUn e = some x) : ∃ p, e = .UnaryOp x.1 x.2 p := by
  cases e <;> first | (cases h; exact ⟨_, rfl⟩) | cases h
def vBin : Expr → Option (Expr × Operator × Expr)
  | .BinOp a o b _ => some (a, o, b)
  | _ => none
theorem vBin_eq {e : Expr} {x : Expr × Operator × Expr} (h : vBin e = some x) : ∃ p, e = .BinOp x.1 x.2.1 x.2.2 p := by
  cases e <;> first | (cases h; exact ⟨_, rfl⟩) | cases h
def vCmp : Expr → Option (Expr × List CmpOp × List Expr)
  | .Compare a os bs _ => some (a, os, bs)
  | _ => none
theorem vCmp_eq {e : Expr} {x : Expr × List CmpOp × List Expr} (h : vCmp e = some x) : ∃ p, e = .Compare x.1 x.2.1 x.2.2 p := by
  cases e <;> first | (cases h; exact ⟨_, rfl⟩) | cases h
def vBool : Expr → Option (BoolOp × List Expr × Pos)
  | .BoolOp o l p => some (o, l, p)
  | _ => none
theorem vBool_eq {e : Expr} {x : BoolOp × List Expr × Pos} (h : vBool e = some x) : e = .BoolOp x.1 x.2.1 x.2.2 := by
  cases e <;> first | (cases h; rfl) | cases h
def vIf : Expr → Option (Expr × Expr × Expr)
  | .IfExp a b c _ => some (a, b, c)
  | _ => none
theorem vIf_eq {e : Expr} {x : Expr × Expr × Expr} (h : vIf e = some x) : ∃ p, e = .IfExp x.1 x.2.1 x.2.2 p := by
  cases e <;> first | (cases h; exact ⟨_, rfl⟩) | cases h
def vCall : Expr → Option (Str × List Expr)
  | .Call (.Name x _) l [] _ => some (x, l)
  | _ => none
theorem vCall_eq {e : Expr} {x : Str × List Expr} (h : vCall e = some x) : ∃ p q, e = .Call (.Name x.1 p) x.2 [] q := by
  unfold vCall at h
  split at h
  · cases h; exact ⟨_, _, rfl⟩
  · cases h
def vMeth : Expr → Option (Expr × Str × List Expr)
  | .Call (.Attribute o x ap) l [] cp => if ap.endLine == cp.line then some (o, x, l) else none
  | _ => none
theorem vMeth_eq {e : Expr} {x : Expr × Str × List Expr} (h : vMeth e = some x) : ∃ p q, e = .Call (.Attribute x.1 x.2.1 p) x.2.2 [] q ∧ (p.endLine == q.line) = true := by
  unfold vMeth at h
  split at h
  · split at h
    · rename_i hl
      cases h; exact ⟨_, _, rfl, hl⟩
    · cases h
  · cases h
def vDict : Expr → Option (List (Option Expr) × List Expr)
  | .Dict ks vs _ => some (ks, vs)
  | _ => none
theorem vDict_eq {e : Expr} {x : List (Option Expr) × List Expr} (h : vDict e = some x) : ∃ p, e = .Dict x.1 x.2 p := by
  cases e <;> first | (cases h; exact ⟨_, rfl⟩) | cases h
def isKey (k : Key) (e : Expr) : Bool := match vConst e, k with
  | some (.int i), .inl j => decide (i = j)
  | some (.str x), .inr y => decide (x = y)
  | _, _ => false
/-- [::-1] -/
def vRevS : Expr → Option Expr
  | .Subscript a (.Slice none none (some (.UnaryOp .USub (.Constant (.int 1) _ _) _)) _) _ => some a
  | _ => none
theorem vRevS_eq {e : Expr} {x : Expr} (h : vRevS e = some x) : ∃ k p1 p2 p3 p4, e = .Subscript x (.Slice none none (some (.UnaryOp .USub (.Constant (.int 1) k p1) p2)) p3) p4 := by
  unfold vRevS at h
  split at h
  · cases h; exact ⟨_, _, _, _, _, rfl⟩
  · cases h
structure VC where
  elt : Expr
  tg : Expr
  iter : Expr
  ifs : List Expr
  scope : Scope
  pos : Pos
def vComp : Expr → Option VC
  | .ListComp elt [⟨tg, iter, ifs, 0⟩] scope pos => some ⟨elt, tg, iter, ifs, scope, pos⟩
  | _ => none
theorem vComp_eq {e : Expr} {x : VC} (h : vComp e = some x) : e = .ListComp x.elt [⟨x.tg, x.iter, x.ifs, 0⟩] x.scope x.pos := by
  unfold vComp at h
  split at h
  · cases h; rfl
  · cases h
def isComp : Expr → Bool
  | .ListComp .. => true
  | .SetComp .. => true
  | .DictComp .. => true
  | _ => false
def isSet : Expr → Bool
  | .Set .. => true
  | _ => false
theorem folded_of {e : Expr} {env : PySem.Env} (h : isSet e = false) (x : Value) : foldedSetIterable e env x = pure x := by
  cases e <;> first | rfl | cases h
theorem swaps_of {e : Expr} {t : Option Expr} {l : Nat} {env : PySem.Env} (h : isComp e = false) : swapsWith e t l env = pure false := by
  cases e <;> first | rfl | cases h
theorem attr_of {x : Str} {p : Pos} {at_ : Str} {env : PySem.Env} : attributeBase (.Name x p) at_ env (eval (.Name x p) env) = eval (.Name x p) env := rfl
/-- a test that is no test by itself -/
def plainT : Expr → Bool
  | .UnaryOp .Not _ _ => false
  | .BoolOp _ _ _ => false
  | .IfExp _ _ _ _ => false
  | .Compare _ _ _ _ => false
  | _ => true
theorem isTrue_of {a : Expr} {env : PySem.Env} (h : plainT a = true) : ∀ whole, isTrue a env whole = (do let v ← whole; standAt a.pos; holding [v] (truthy v)) := by
  intro whole
  cases a with
  | UnaryOp o b p => cases o <;> first | rfl | cases h
  | BoolOp => cases h
  | IfExp => cases h
  | Compare => cases h
  | _ => rfl
def notTup : Expr → Bool
  | .Tuple .. => false
  | _ => true
theorem swapped_of {ns : List Expr} {k : Nat} {tp : Pos} {e : Expr} {env : PySem.Env} (h : notTup e = true) : swappedStores [.Tuple ns k tp] e env = pure none := by
  cases e <;> first | rfl | cases h

/-! ### what is known of a body's names -/
/-- what is known of errors: the def that asks for the kind, the classes' rows; the classes that are raised; the class of all -/
structure Xs where
  isk : Option (Str × List (Str × List Bool)) := none
  excs : List Str := []
  bas : Str := ""
structure Cs where
  N : List Str
  sc : Scope
  own : Option (List (Str × NameKind))
  fns : List (Str × Nat)
  gls : List (Str × Nat)
  blts : List Str
  xs : Xs
def okName (x : Str) : Bool := !(x == ("__debug__" : Str)) && !(x == ("__classdict__" : Str))
def Cs.var (c : Cs) (i : Nat) (x : Str) : Bool := decide (c.N[i]? = some x) && okName x && (match c.sc.names.lookup x with | some .local => true | some .cell => true | some .free => true | _ => false)
def Cs.isV (c : Cs) (i : Nat) (e : Expr) : Bool := match vName e with
  | some x => c.var i x
  | none => false
/-- a name that may be stored -/
def Cs.fnx (c : Cs) (x : Str) : Bool := match c.own with
  | none => true
  | some names => names.lookup x == some .cell
def Cs.st (c : Cs) (i : Nat) (x : Str) : Bool := decide (c.N[i]? = some x) && (match c.sc.names.lookup x with | some .local => true | some .cell => c.fnx x | _ => false)
def Cs.gl (c : Cs) (x : Str) : Bool := decide (c.sc.names.lookup x = some .globalImplicit) && okName x
def Cs.blt (c : Cs) (x y : Str) : Bool := decide (y = x) && c.gl x && decide (x ∈ c.blts)
def Cs.fn (c : Cs) (x : Str) (k : Nat) : Bool := c.gl x && decide (c.fns.lookup x = some k)
def Cs.glob (c : Cs) (x : Str) (k : Nat) : Bool := c.gl x && decide (c.gls.lookup x = some k)
/-- the block's scope as it is looked into -/
def relab (sc scope : Scope) : Scope := { scope with names := scope.names.map fun (n, k) => if (k == NameKind.free && sc.kind == .function && sc.names.lookup n == some .cell) then (n, NameKind.cell) else (n, k) }
theorem relab_eq (scope : Scope) (env : PySem.Env) : relabel scope env = relab env.scope scope := rfl
def Cs.blk (c : Cs) (s : Scope) : Cs := { c with sc := relab c.sc s, own := some s.names }
def Cs.ownN (c : Cs) (own : List Nat) : List (Str × Nat) := own.map fun i => (c.N.getD i "", i)
structure Fits (X : Cx) (ct : Str → Option Addr) (W : WX) (Φ : Tab) (c : Cs) : Prop where
  N : X.N = c.N
  nd : c.N.Nodup
  sc : X.env.scope = c.sc
  calm : X.calm = true
  gds : X.A.guards = some []
  sys : SysOk X.K
  hu : X.A.units + 65 < cLine
  cel : ∀ x, c.fnx x = true → X.fn x = true
  tk : L2N.Takes X W
  fns : ∀ x k, c.fns.lookup x = some k → ∃ fn, Φ.fn[k]? = some fn ∧ Def1 X ct x fn
  gls : ∀ x k, c.gls.lookup x = some k → ∃ u v d, X.mg x = some u ∧ RelV v u ∧ (∀ H, Rep X.K H v d) ∧ Φ.gl[k]? = some d
  blts : ∀ x ∈ c.blts, X.mg x = none
  isk : ∀ g rows, c.xs.isk = some (g, rows) → ∃ k f fd ps, FnP X.prog X.w X.K X.mg X.base (L2N.CX X.prog X.w) k f fd ps (spI ct (hvOf rows)) ∧ L2H.RoomH k X.A ∧ X.mg g = some (.ref f) ∧ PySem.W.keepIn X.K (.ref f) = true ∧ Binds X.K fd ps []
  excs : ∀ x ∈ c.xs.excs, ExF X.K X.mg ct x
  bas : ∀ g rows, c.xs.isk = some (g, rows) → ∃ C, X.mg c.xs.bas = some (.ref C) ∧ ∀ y D, ct y = some D → okOf rows y = true → PySem.W.exmOne X.K (.ref D) (.ref C) = some true
section
variable {X : Cx} {ct : Str → Option Addr} {W : WX} {Φ : Tab} {c : Cs}
theorem Fits.blk (f : Fits X ct W Φ c) (scope : Scope) (s : Shared) (H : Hp) (C : Addr) (cl : List (Str × Addr)) (fp : List Addr) : Fits (blkX X scope s H C cl fp) ct WF Φ (c.blk scope) where
  N := f.N
  nd := f.nd
  sc := by
    show relab X.env.scope scope = relab c.sc scope
    rw [f.sc]
  calm := f.calm
  gds := f.gds
  sys := f.sys
  hu := f.hu
  cel := fun x h => h
  tk := fun u s' ⟨_, _, _, _, _, _, _, _, _, _, _, _, _, _, _, _, w⟩ => w.elim
  fns := fun x k h => by
    obtain ⟨fn, h1, h2⟩ := f.fns x k h
    exact ⟨fn, h1, ⟨h2.ok⟩⟩
  gls := f.gls
  blts := f.blts
  isk := f.isk
  excs := f.excs
  bas := f.bas
/-- .. within a try -/
theorem Fits.tr (f : Fits X ct W Φ c) {pn : List (Addr × Obj)} {xe : Value → Shared → Prop} {W' : WX} (tk : L2N.Takes (X.tr pn xe) W') : Fits (X.tr pn xe) ct W' Φ c where
  N := f.N
  nd := f.nd
  sc := f.sc
  calm := f.calm
  gds := f.gds
  sys := f.sys
  hu := f.hu
  cel := f.cel
  tk := tk
  fns := fun x k h => by
    obtain ⟨fn, h1, h2⟩ := f.fns x k h
    exact ⟨fn, h1, ⟨h2.ok⟩⟩
  gls := f.gls
  blts := f.blts
  isk := f.isk
  excs := f.excs
  bas := f.bas
theorem okName_d {x : Str} (h : okName x = true) : (x == ("__debug__" : Str)) = false ∧ (x == ("__classdict__" : Str)) = false := by
  unfold okName at h
  simp only [Bool.and_eq_true, Bool.not_eq_true'] at h
  exact h
theorem Fits.var (f : Fits X ct W Φ c) {i : Nat} {x : Str} {p : Pos} (h : c.var i x = true) : PE X (.Name x p) (tVar i) := by
  unfold Cs.var at h
  simp only [Bool.and_eq_true, decide_eq_true_eq] at h
  obtain ⟨⟨h1, h2⟩, h3⟩ := h
  obtain ⟨d1, d2⟩ := okName_d h2
  refine pe_var (by rw [f.N]; exact h1) ?_ d1 d2
  unfold Vis
  rw [f.sc]
  split at h3
  · exact .inl ‹_›
  · exact .inr (.inl ‹_›)
  · exact .inr (.inr ‹_›)
  · cases h3
theorem Fits.isV (f : Fits X ct W Φ c) {i : Nat} {e : Expr} (h : c.isV i e = true) : PE X e (tVar i) := by
  unfold Cs.isV at h
  split at h
  · rename_i x hx
    obtain ⟨p, rfl⟩ := vName_eq hx
    exact f.var h
  · cases h
theorem isV_name {i : Nat} {e : Expr} (h : c.isV i e = true) : ∃ x p, e = .Name x p := by
  unfold Cs.isV at h
  split at h
  · rename_i x hx
    obtain ⟨p, rfl⟩ := vName_eq hx
    exact ⟨x, p, rfl⟩
  · cases h
theorem Fits.st (f : Fits X ct W Φ c) {i : Nat} {x : Str} (h : c.st i x = true) : X.N[i]? = some x ∧ L2.Loc X.env.scope x ∧ (X.fn x = true ∨ X.env.scope.names.lookup x = some .local) := by
  unfold Cs.st at h
  simp only [Bool.and_eq_true, decide_eq_true_eq] at h
  obtain ⟨h1, h3⟩ := h
  rw [f.N, f.sc]
  unfold L2.Loc
  refine ⟨h1, ?_⟩
  split at h3
  · exact ⟨.inl ‹_›, .inr ‹_›⟩
  · exact ⟨.inr ‹_›, .inl (f.cel _ h3)⟩
  · cases h3
theorem Fits.gl (f : Fits X ct W Φ c) {x : Str} (h : c.gl x = true) : Gl X x ∧ (x == ("__debug__" : Str)) = false := by
  unfold Cs.gl at h
  simp only [Bool.and_eq_true, decide_eq_true_eq] at h
  refine ⟨?_, (okName_d h.2).1⟩
  unfold Gl Env.kindOf
  rw [f.sc]
  exact h.1
theorem Fits.blt (f : Fits X ct W Φ c) {x y : Str} (h : c.blt x y = true) : y = x ∧ Blt X x := by
  unfold Cs.blt at h
  simp only [Bool.and_eq_true, decide_eq_true_eq] at h
  exact ⟨h.1.1, (f.gl h.1.2).1, f.blts x h.2⟩
end
structure FitH (X : Cx) (c : Cs) : Prop where
  N : X.N = c.N
  nd : c.N.Nodup
  sc : X.env.scope = c.sc
  hu : X.A.units + 65 < cLine
  cel : ∀ x, c.fnx x = true → X.fn x = true
  blts : ∀ x ∈ c.blts, X.mg x = none
section
variable {X : Cx} {c : Cs}
theorem FitH.var (f : FitH X c) {i : Nat} {x : Str} {p : Pos} (h : c.var i x = true) : PE X (.Name x p) (tVar i) := by
  unfold Cs.var at h
  simp only [Bool.and_eq_true, decide_eq_true_eq] at h
  obtain ⟨⟨h1, h2⟩, h3⟩ := h
  obtain ⟨d1, d2⟩ := okName_d h2
  refine pe_var (by rw [f.N]; exact h1) ?_ d1 d2
  unfold Vis
  rw [f.sc]
  split at h3
  · exact .inl ‹_›
  · exact .inr (.inl ‹_›)
  · exact .inr (.inr ‹_›)
  · cases h3
theorem FitH.isV (f : FitH X c) {i : Nat} {e : Expr} (h : c.isV i e = true) : PE X e (tVar i) ∧ notStar e = true := by
  unfold Cs.isV at h
  split at h
  · rename_i x hx
    obtain ⟨p, rfl⟩ := vName_eq hx
    exact ⟨f.var h, rfl⟩
  · cases h
theorem FitH.st (f : FitH X c) {i : Nat} {x : Str} (h : c.st i x = true) : X.N[i]? = some x ∧ L2.Loc X.env.scope x ∧ (X.fn x = true ∨ X.env.scope.names.lookup x = some .local) := by
  unfold Cs.st at h
  simp only [Bool.and_eq_true, decide_eq_true_eq] at h
  obtain ⟨h1, h3⟩ := h
  rw [f.N, f.sc]
  unfold L2.Loc
  refine ⟨h1, ?_⟩
  split at h3
  · exact ⟨.inl ‹_›, .inr ‹_›⟩
  · exact ⟨.inr ‹_›, .inl (f.cel _ h3)⟩
  · cases h3
theorem FitH.gl (f : FitH X c) {x : Str} (h : c.gl x = true) : Gl X x ∧ (x == ("__debug__" : Str)) = false := by
  unfold Cs.gl at h
  simp only [Bool.and_eq_true, decide_eq_true_eq] at h
  refine ⟨?_, (okName_d h.2).1⟩
  unfold Gl Env.kindOf
  rw [f.sc]
  exact h.1
theorem FitH.blt (f : FitH X c) {x y : Str} (h : c.blt x y = true) : y = x ∧ Blt X x := by
  unfold Cs.blt at h
  simp only [Bool.and_eq_true, decide_eq_true_eq] at h
  exact ⟨h.1.1, (f.gl h.1.2).1, f.blts x h.2⟩
end
theorem Fits.suite {X : Cx} {ct : Str → Option Addr} {W : WX} {Φ : Tab} {c : Cs} (f : Fits X ct W Φ c) (a : Addr) (pn : List (Addr × Obj)) : FitH (X.suite a pn) c where
  N := f.N
  nd := f.nd
  sc := f.sc
  hu := f.hu
  cel := f.cel
  blts := f.blts
def swapped2 (c : Cs) (x y : Str) (px py : Pos) (va vb : Expr) : Bool :=
  decide (c.sc.names.lookup x = some .local) && decide (c.sc.names.lookup y = some .local) && (px.line == py.line) && decide (x ≠ y) && !(foldedForSure 8 va && foldedForSure 8 vb) && !(constantsAlone 8 va && constantsAlone 8 vb)

def swapped3 (c : Cs) (x y z : Str) (px py pz : Pos) (va vb vc : Expr) : Bool :=
  decide (c.sc.names.lookup x = some .local) && decide (c.sc.names.lookup y = some .local) && decide (c.sc.names.lookup z = some .local) && (px.line == py.line) && (px.line == pz.line) && decide (x ≠ y) && decide (x ≠ z) && decide (y ≠ z) && !(foldedForSure 8 va && foldedForSure 8 vb && foldedForSure 8 vc) && !(constantsAlone 8 va && constantsAlone 8 vb && constantsAlone 8 vc)

/-! ### the check -/
mutual
def ckQ (c : Cs) : Qx → Expr → Bool
  | .v i, e => c.isV i e
  | .int i, e => match vConst e with
    | some (.int j) => decide (i = j)
    | _ => false
  | .add a b, e => match vBin e with
    | some (x, .Add, y) => ckQ c a x && ckQ c b y
    | _ => false
  | .sub a b, e => match vBin e with
    | some (x, .Sub, y) => ckQ c a x && ckQ c b y
    | _ => false
  | .neg a, e => match vUn e with
    | some (.USub, x) => ckQ c a x
    | _ => false
  | .p p, e => ckP c p e
def ckP (c : Cs) : P → Expr → Bool
  | .v s, e => c.isV s e
  | .ix p i, e => match vSub e with
    | some (a, b) => notSlice b && ckP c p a && ckQ c i b
    | none => false
end
def ckKs (c : Cs) : List Kd → List Expr → Bool
  | [], [] => true
  | k :: ks, e :: es => (match vName e with
    | some x => c.blt (kdStr k) x
    | none => false) && ckKs c ks es
  | _, _ => false
def ckNs (c : Cs) (modes : List Bool) : List Nat → List Expr → Bool
  | [], [] => true
  | i :: is, e :: es => (match vName e with
    | some x => c.st i x && decide (modes[i]? ≠ some true)
    | none => false) && ckNs c modes is es
  | _, _ => false
def ckNe (c : Cs) (modes : List Bool) : List (Nat ⊕ List Nat) → List Expr → Bool
  | [], [] => true
  | .inl i :: is, e :: es => (match vName e with
    | some x => c.st i x && decide (modes[i]? ≠ some true)
    | none => false) && ckNe c modes is es
  | .inr js :: is, e :: es => (match vTup e with
    | some l => ckNs c modes js l
    | none => false) && ckNe c modes is es
  | _, _ => false
def ckTg (c : Cs) (modes : List Bool) : Tg → Expr → Bool
  | .name i, e => match vName e with
    | some x => c.st i x && decide (modes[i]? ≠ some true)
    | none => false
  | .tup is, e => match vTup e with
    | some l => ckNs c modes is l
    | none => false
  | .nest ts, e => match vTup e with
    | some l => ckNe c modes ts l
    | none => false
/-- the value of a comprehension is stored inside it -/
def swapC (c : Cs) (x : Str) (p : Pos) (v : VC) : Bool := (match c.sc.kind with | .function => true | _ => false) && decide (c.sc.names.lookup x = some .local) && (p.line == v.pos.line) && !(v.scope.names.any fun (n, k) => n == x && (k == .local || k == .cell))
mutual
def ckE (c : Cs) : E → Expr → Bool
  | .v i, e => c.isV i e
  | .int i, e => match vConst e with
    | some (.int j) => decide (i = j)
    | _ => false
  | .bl i, e => match vConst e with
    | some (.bool j) => decide (i = j)
    | _ => false
  | .non, e => match vConst e with
    | some .none => true
    | _ => false
  | .str s, e => match vConst e with
    | some (.str j) => decide (s = j)
    | _ => false
  | .glob k, e => match vName e with
    | some x => c.glob x k
    | none => false
  | .tup es, e => match vTup e with
    | some l => ckEs c es l
    | none => false
  | .dct ks es, e => match vDict e with
    | some (kes, vs) => decide (kes.length ≤ 15) && ckDs c es ks kes vs
    | none => false
  | .ix o i, e => match vSub e with
    | some (a, b) => notSlice b && ckE c o a && ckE c i b
    | none => false
  | .ix1 s i, e => match vSub e with
    | some (a, b) => notSlice b && c.isV s a && ckE c i b
    | none => false
  | .pix p, e => ckP c p e
  | .plen p, e => match vCall e with
    | some (f, [a]) => c.blt "len" f && notStar a && ckP c p a
    | _ => false
  | .ofF f, e => ckF c f e
  | .neg a, e => match vUn e with
    | some (.USub, x) => ckE c a x
    | _ => false
  | .not a, e => match vUn e with
    | some (.Not, x) => ckE c a x
    | _ => false
  | .op o a b, e => match vBin e with
    | some (x, p, y) => decide (p = bopOp o) && ckE c a x && ckE c b y
    | none => false
  | .cmp o a b, e => match vCmp e with
    | some (x, [p], [y]) => decide (p = copOp o) && !behindInMarks (copOp o) y && ckE c a x && ckE c b y
    | _ => false
  | .memS n a s, e => match vCmp e with
    | some (x, [p], [y]) => decide (p = memOp n) && !behindInMarks (memOp n) y && ckE c a x && c.isV s y
    | _ => false
  | .eqS n s b, e => match vCmp e with
    | some (x, [p], [y]) => decide (p = eqOp n) && !behindInMarks (eqOp n) y && c.isV s x && ckE c b y
    | _ => false
  | .chain o p a b d, e => match vCmp e with
    | some (x, [o', p'], [y, z]) => decide (o' = copOp o) && decide (p' = copOp p) && !lastMarks [copOp o, copOp p] [y, z] && ckE c a x && ckE c b y && ckE c d z
    | _ => false
  | .isN n a, e => match vCmp e with
    | some (x, [p], [y]) => decide (p = if n then .IsNot else .Is) && (match vConst y with | some .none => true | _ => false) && ckE c a x
    | _ => false
  | .isB n a b, e => match vCmp e with
    | some (x, [p], [y]) => decide (p = if n then .IsNot else .Is) && (match vConst y with | some (.bool b') => decide (b' = b) | _ => false) && ckE c a x
    | _ => false
  | .and a b, e => match vBool e with
    | some (.And, x :: y :: r, p) => ckE c a x && ckE c b (match r with | [] => y | _ => .BoolOp .And (y :: r) p)
    | _ => false
  | .or a b, e => match vBool e with
    | some (.Or, x :: y :: r, p) => ckE c a x && ckE c b (match r with | [] => y | _ => .BoolOp .Or (y :: r) p)
    | _ => false
  | .ife t a b, e => match vIf e with
    | some (x, y, z) => ckT c t x && ckE c a y && ckE c b z
    | none => false
  | .b1 f a, e => match vCall e with
    | some (g, [x]) => c.blt (b1Name f) g && notStar x && ckE c a x
    | _ => false
  | .b2 f a b, e => match vCall e with
    | some (g, [x, y]) => c.blt (b2Name f) g && notStar x && notStar y && ckE c a x && ckE c b y
    | _ => false
  | .isi a ks, e => match vCall e with
    | some (g, [x, y]) => c.blt "isinstance" g && notStar x && ckE c a x && (match vName y with
      | some k => (match ks with
        | [k'] => c.blt (kdStr k') k
        | _ => false)
      | none => (match vTup y with
        | some l => decide (ks.length ≤ line) && ckKs c ks l
        | none => false))
    | _ => false
  | .lset a, e => match vCall e with
    | some (g, [y]) => (match vCall y with
      | some (g2, [x]) => c.blt "len" g && c.blt "set" g2 && notStar x && ckE c a x
      | _ => false)
    | _ => false
  | .tupRg a, e => match vCall e with
    | some (g, [y]) => (match vCall y with
      | some (g2, [x]) => c.blt "tuple" g && c.blt "range" g2 && notStar x && ckE c a x
      | _ => false)
    | _ => false
def ckEs (c : Cs) : Es → List Expr → Bool
  | .nil, l => match l with
    | [] => true
    | _ => false
  | .cons e es, l => match l with
    | x :: xs => notStar x && ckE c e x && ckEs c es xs
    | [] => false
def ckDs (c : Cs) : Es → List Key → List (Option Expr) → List Expr → Bool
  | .nil, ks, kes, vs => ks.isEmpty && kes.isEmpty && vs.isEmpty
  | .cons e es, ks, kes, vs => match ks, kes, vs with
    | k :: ks, some ke :: kes, v :: vs => isKey k ke && ckE c e v && ckDs c es ks kes vs
    | _, _, _ => false
def ckF (c : Cs) : F → Expr → Bool
  | .ofE a, e => ckE c a e
  | .mv i, e => c.isV i e
  | .lst fs, e => match vList e with
    | some l => ckFs c fs l
    | none => false
  | .add a b, e => match vBin e with
    | some (x, .Add, y) => ckE c a x && ckE c b y
    | _ => false
  | .mul a b, e => match vBin e with
    | some (x, .Mult, y) => ckE c a x && ckE c b y
    | _ => false
  | .slice o lo hi, e => match vSub e with
    | some (a, b) => (match vSlice b with
      | some (l, h) => ckE c o a && ckPt c lo l && ckPt c hi h
      | none => false)
    | none => false
  | .cut s lo hi, e => match vSub e with
    | some (a, b) => (match vSlice b with
      | some (l, h) => c.isV s a && ckPt c lo l && ckPt c hi h
      | none => false)
    | none => false
  | .list a, e => match vCall e with
    | some (g, [x]) => c.blt "list" g && notStar x && ckE c a x
    | _ => false
  | .rev a, e => match vCall e with
    | some (g, [y]) => (match vCall y with
      | some (g2, [x]) => c.blt "list" g && c.blt "reversed" g2 && notStar x && ckE c a x
      | _ => false)
    | _ => false
  | .lzip a b, e => match vCall e with
    | some (g, [z]) => (match vCall z with
      | some (g2, [x, y]) => c.blt "list" g && c.blt "zip" g2 && notStar x && notStar y && ckE c a x && ckE c b y
      | _ => false)
    | _ => false
  | .lend _ f, e => ckF c f e
  | .pick fs i, e => match vSub e with
    | some (a, b) => (match vList a with
      | some l => notSlice b && ckFs c fs l && ckE c i b
      | none => false)
    | none => false
  | .sort a, e => match vCall e with
    | some (g, [x]) => c.blt "sorted" g && notStar x && ckE c a x
    | _ => false
  | .sortS a, e => match vCall e with
    | some (g, [y]) => (match vCall y with
      | some (g2, [x]) => c.blt "sorted" g && c.blt "set" g2 && notStar x && ckE c a x
      | _ => false)
    | _ => false
  | .revL a, e => match vRevS e with
    | some x => ckE c a x
    | none => false
  | .listv s, e => match vCall e with
    | some (g, [x]) => c.blt "list" g && notStar x && c.isV s x
    | _ => false
  | .lrg1 a, e => match vCall e with
    | some (g, [y]) => (match vCall y with
      | some (g2, [x]) => c.blt "list" g && c.blt "range" g2 && notStar x && ckE c a x
      | _ => false)
    | _ => false
  | .lrg2 a b, e => match vCall e with
    | some (g, [y]) => (match vCall y with
      | some (g2, [x, z]) => c.blt "list" g && c.blt "range" g2 && notStar x && notStar z && ckE c a x && ckE c b z
      | _ => false)
    | _ => false
  | .call f as, e => match vCall e with
    | some (g, l) => c.fn g f && noStars l && ckAs c as l
    | none => false
  | .callL f as, e => match vCall e with
    | some (g, x :: l) => c.fn g f && noStars (x :: l) && ckAs c as (x :: l)
    | _ => false
  | .comp t it cs e own, x => match vComp x with
    | some v => ckI c it v.tg v.iter && blkC c.N c.sc v.scope (c.ownN own) && ckTg (c.blk v.scope) [] t v.tg && ckTs (c.blk v.scope) cs v.ifs && ckF (c.blk v.scope) e v.elt && (slotsT t).all (fun i => own.contains i) && !isSet v.iter
    | none => false
  | .pop s, e => match vMeth e with
    | some (o, x, []) => decide (x = "pop") && c.isV s o
    | _ => false
  | .popAt s i, e => match vMeth e with
    | some (o, x, [a]) => decide (x = "pop") && c.isV s o && notStar a && ckE c i a
    | _ => false
def ckPt (c : Cs) : Pt → Option Expr → Bool
  | .none, e => match e with
    | none => true
    | _ => false
  | .some a, e => match e with
    | some x => ckE c a x
    | none => false
def ckFs (c : Cs) : Fs → List Expr → Bool
  | .nil, l => match l with
    | [] => true
    | _ => false
  | .cons e es, l => match l with
    | x :: xs => notStar x && ckF c e x && ckFs c es xs
    | [] => false
def ckAs (c : Cs) : As → List Expr → Bool
  | .nil, l => match l with
    | [] => true
    | _ => false
  | .e a as, l => match l with
    | x :: xs => notStar x && ckE c a x && ckAs c as xs
    | [] => false
  | .r s as, l => match l with
    | x :: xs => notStar x && c.isV s x && ckAs c as xs
    | [] => false
  | .b s as, l => match l with
    | x :: xs => notStar x && c.isV s x && ckAs c as xs
    | [] => false
def ckT (c : Cs) : T → Expr → Bool
  | .cmp o a b, e => match vCmp e with
    | some (x, [p], [y]) => decide (p = copOp o) && !behindInMarks (copOp o) y && ckE c a x && ckE c b y
    | _ => false
  | .memS n a s, e => match vCmp e with
    | some (x, [p], [y]) => decide (p = memOp n) && !behindInMarks (memOp n) y && ckE c a x && c.isV s y
    | _ => false
  | .eqS n s b, e => match vCmp e with
    | some (x, [p], [y]) => decide (p = eqOp n) && !behindInMarks (eqOp n) y && c.isV s x && ckE c b y
    | _ => false
  | .chain o p a b d, e => match vCmp e with
    | some (x, [o', p'], [y, z]) => decide (o' = copOp o) && decide (p' = copOp p) && !lastMarks [copOp o, copOp p] [y, z] && ckE c a x && ckE c b y && ckE c d z
    | _ => false
  | .isN n a, e => match vCmp e with
    | some (x, [p], [y]) => decide (p = if n then .IsNot else .Is) && (match vConst y with | some .none => true | _ => false) && ckE c a x
    | _ => false
  | .isB n a b, e => match vCmp e with
    | some (x, [p], [y]) => decide (p = if n then .IsNot else .Is) && (match vConst y with | some (.bool b') => decide (b' = b) | _ => false) && ckE c a x
    | _ => false
  | .and a b, e => match vBool e with
    | some (.And, x :: y :: r, p) => ckT c a x && ckT c b (match r with | [] => y | _ => .BoolOp .And (y :: r) p)
    | _ => false
  | .or a b, e => match vBool e with
    | some (.Or, x :: y :: r, p) => ckT c a x && ckT c b (match r with | [] => y | _ => .BoolOp .Or (y :: r) p)
    | _ => false
  | .not a, e => match vUn e with
    | some (.Not, x) => ckT c a x
    | _ => false
  | .lend _ t, e => ckT c t e
  | .tru a, e => plainT e && ckE c a e
def ckTs (c : Cs) : Ts → List Expr → Bool
  | .nil, l => match l with
    | [] => true
    | _ => false
  | .one t, l => match l with
    | [x] => ckT c t x
    | _ => false
def ckI (c : Cs) : I → Expr → Expr → Bool
  | .seq a, _, e => ckE c a e
  | .range1 a, _, e => match vCall e with
    | some (g, [x]) => c.blt "range" g && notStar x && ckE c a x
    | _ => false
  | .range2 a b, _, e => match vCall e with
    | some (g, [x, y]) => c.blt "range" g && notStar x && notStar y && ckE c a x && ckE c b y
    | _ => false
  | .enum a, t, e => match vTup t, vCall e with
    | some _, some (g, [x]) => c.blt "enumerate" g && notStar x && ckE c a x
    | _, _ => false
  | .zip a b, t, e => match vTup t, vCall e with
    | some _, some (g, [x, y]) => c.blt "zip" g && notStar x && notStar y && ckE c a x && ckE c b y
    | _, _ => false
end
def vAssign : Stmt → Option (Expr × Expr × Pos)
  | .Assign [t] e p => some (t, e, p)
  | _ => none
theorem vAssign_eq {s : Stmt} {x : Expr × Expr × Pos} (h : vAssign s = some x) : s = .Assign [x.1] x.2.1 x.2.2 := by
  unfold vAssign at h
  split at h
  · cases h; rfl
  · cases h
def vExprS : Stmt → Option Expr
  | .Expr e _ => some e
  | _ => none
theorem vExprS_eq {s : Stmt} {x : Expr} (h : vExprS s = some x) : ∃ p, s = .Expr x p := by
  unfold vExprS at h
  split at h
  · cases h; exact ⟨_, rfl⟩
  · cases h
def vAug : Stmt → Option (Expr × Expr)
  | .AugAssign t .Add e _ => some (t, e)
  | _ => none
theorem vAug_eq {s : Stmt} {x : Expr × Expr} (h : vAug s = some x) : ∃ p, s = .AugAssign x.1 .Add x.2 p := by
  unfold vAug at h
  split at h
  · cases h; exact ⟨_, rfl⟩
  · cases h
def vIfS : Stmt → Option (Expr × List Stmt × List Stmt)
  | .If c a b _ => some (c, a, b)
  | _ => none
theorem vIfS_eq {s : Stmt} {x : Expr × List Stmt × List Stmt} (h : vIfS s = some x) : ∃ p, s = .If x.1 x.2.1 x.2.2 p := by
  unfold vIfS at h
  split at h
  · cases h; exact ⟨_, rfl⟩
  · cases h
def vFor : Stmt → Option (Expr × Expr × List Stmt)
  | .For t i b [] _ => some (t, i, b)
  | _ => none
theorem vFor_eq {s : Stmt} {x : Expr × Expr × List Stmt} (h : vFor s = some x) : ∃ p, s = .For x.1 x.2.1 x.2.2 [] p := by
  unfold vFor at h
  split at h
  · cases h; exact ⟨_, rfl⟩
  · cases h
def vWhile : Stmt → Option (Expr × List Stmt)
  | .While c b [] _ => some (c, b)
  | _ => none
theorem vWhile_eq {s : Stmt} {x : Expr × List Stmt} (h : vWhile s = some x) : ∃ p, s = .While x.1 x.2 [] p := by
  unfold vWhile at h
  split at h
  · cases h; exact ⟨_, rfl⟩
  · cases h
def vRet : Stmt → Option (Option Expr)
  | .Return e _ => some e
  | _ => none
theorem vRet_eq {s : Stmt} {x : Option Expr} (h : vRet s = some x) : ∃ p, s = .Return x p := by
  unfold vRet at h
  split at h
  · cases h; exact ⟨_, rfl⟩
  · cases h
structure VN where
  x : Str
  p : Pos
def vNm : Expr → Option VN
  | .Name x p => some ⟨x, p⟩
  | _ => none
theorem vNm_eq {e : Expr} {v : VN} (h : vNm e = some v) : e = .Name v.x v.p := by
  unfold vNm at h
  split at h
  · cases h; rfl
  · cases h
def vRaise : Stmt → Option (Str × Str)
  | .Raise (some (.Call (.Name y _) [.Constant (.str t) _ _] [] _)) none _ => some (y, t)
  | _ => none
theorem vRaise_eq {s : Stmt} {x : Str × Str} (h : vRaise s = some x) : ∃ p1 j p2 p3 p4, s = .Raise (some (.Call (.Name x.1 p1) [.Constant (.str x.2) j p2] [] p3)) none p4 := by
  unfold vRaise at h
  split at h
  · cases h; exact ⟨_, _, _, _, _, rfl⟩
  · cases h
structure VT where
  body : List Stmt
  bx : Str
  n : Str
  hs : Stmt
def vTry : Stmt → Option VT
  | .Try body [.ExceptHandler (some (.Name bx _)) (some n) [hs] _] [] [] _ => some ⟨body, bx, n, hs⟩
  | _ => none
theorem vTry_eq {s : Stmt} {x : VT} (h : vTry s = some x) : ∃ p1 p2 p3, s = .Try x.body [.ExceptHandler (some (.Name x.bx p1)) (some x.n) [x.hs] p2] [] [] p3 := by
  unfold vTry at h
  split at h
  · cases h; exact ⟨_, _, _, rfl⟩
  · cases h
def ckHa (c : Cs) : Ha → Expr → Bool
  | .int m, e => match vConst e with
    | some (.int j) => decide (m = j)
    | _ => false
  | .v j, e => c.isV j e
/-- is_kind(e, n) -/
def ckKc (c : Cs) (i : Nat) (rows : List (Str × List Bool)) (h : Ha) (e : Expr) : Bool := match vCall e, c.xs.isk with
  | some (g, [n, ae]), some (g', rows') => decide (g' = g) && decide (rows' = rows) && c.gl g && c.isV i n && ckHa c h ae && notStar ae
  | _, _ => false
def ckStrEq (c : Cs) (k l : Nat) (e : Expr) : Bool := match vCmp e with
  | some (x, [.Eq], [y]) => !behindInMarks .Eq y && c.isV l y && (match vCall x with
    | some (g, [a]) => c.blt "str" g && notStar a && c.isV k a
    | _ => false)
  | _ => false
def ckHd (c : Cs) (i : Nat) (rows : List (Str × List Bool)) (h : Hd) (s : Stmt) : Bool := match vRet s with
  | some (some e) => (match h with
    | .kind a => ckKc c i rows a e
    | .kindS a k l => (match vBool e with
      | some (.And, [x, y], _) => ckKc c i rows a x && ckStrEq c k l y
      | _ => false))
  | _ => false
def isCompF : F → Bool
  | .comp .. => true
  | _ => false
mutual
def ckS (c : Cs) (m : List Bool) : S → Stmt → Bool
  | .set i f, st => match vAssign st with
    | some (t, e, _) => (match vNm t with
      | some v => c.st i v.x && decide (m[i]? ≠ some true) && ckF c f e && (match vComp e with
        | none => !isComp e
        | some w => !swapC c v.x v.p w || isCompF f)
      | none => false)
    | none => false
  | .unpack is a, st => match vAssign st with
    | some (t, e, _) => (match vTup t with
      | some ns => ckNs c m is ns && notTup e && ckE c a e
      | none => false)
    | none => false
  | .par i j a b, st => match vAssign st with
    | some (t, e, _) => (match vTup t, vTup e with
      | some [n1, n2], some [va, vb] => (match vNm n1, vNm n2 with
        | some x, some y => c.st i x.x && c.st j y.x && decide (i ≠ j) && decide (m[i]? ≠ some true) && decide (m[j]? ≠ some true) && notStar va && notStar vb && swapped2 c x.x y.x x.p y.p va vb && ckE c a va && ckE c b vb
        | _, _ => false)
      | _, _ => false)
    | none => false
  | .par3 i j l a b d, st => match vAssign st with
    | some (t, e, _) => (match vTup t, vTup e with
      | some [n1, n2, n3], some [va, vb, vd] => (match vNm n1, vNm n2, vNm n3 with
        | some x, some y, some z => c.st i x.x && c.st j y.x && c.st l z.x && decide (i ≠ j) && decide (i ≠ l) && decide (j ≠ l) && decide (m[i]? ≠ some true) && decide (m[j]? ≠ some true) && decide (m[l]? ≠ some true) && notStar va && notStar vb && notStar vd && swapped3 c x.x y.x z.x x.p y.p z.p va vb vd && ckE c a va && ckE c b vb && ckE c d vd
        | _, _, _ => false)
      | _, _ => false)
    | none => false
  | .insert s i a, st => match vExprS st with
    | some e => (match vMeth e with
      | some (o, x, [k, d]) => decide (x = "insert") && c.isV s o && notStar k && notStar d && ckE c i k && ckE c a d
      | _ => false)
    | none => false
  | .store s i f, st => match vAssign st with
    | some (t, e, _) => (match vSub t with
      | some (a, k) => notSlice k && c.isV s a && ckE c i k && ckF c f e
      | none => false)
    | none => false
  | .storeP p q f, st => match vAssign st with
    | some (t, e, _) => (match vSub t with
      | some (a, k) => notSlice k && ckP c p a && ckQ c q k && ckF c f e
      | none => false)
    | none => false
  | .append s f, st => match vExprS st with
    | some e => (match vMeth e with
      | some (o, x, [a]) => decide (x = "append") && c.isV s o && notStar a && ckF c f a
      | _ => false)
    | none => false
  | .extend s f, st => match vExprS st with
    | some e => (match vMeth e with
      | some (o, x, [a]) => decide (x = "extend") && c.isV s o && notStar a && ckE c f a
      | _ => false)
    | none => false
  | .reverse s, st => match vExprS st with
    | some e => (match vMeth e with
      | some (o, x, []) => decide (x = "reverse") && c.isV s o
      | _ => false)
    | none => false
  | .expr f, st => match vExprS st with
    | some e => !isComp e && ckF c f e
    | none => false
  | .aug i a, st => match vAug st with
    | some (t, e) => (match vName t with
      | some x => c.st i x && decide (m[i]? ≠ some true) && ckE c a e
      | none => false)
    | none => false
  | .ite t a b, st => match vIfS st with
    | some (x, y, z) => ckT c t x && ckSs c m a y && ckSs c m b z
    | none => false
  | .loop t it b, st => match vFor st with
    | some (g, e, l) => ckTg c m t g && ckI c it g e && ckSs c m b l && !isSet e
    | none => false
  | .whl t b, st => match vWhile st with
    | some (x, l) => ckT c t x && ckSs c m b l
    | none => false
  | .ret f, st => match vRet st with
    | some (some e) => ckF c f e
    | _ => false
  | .retN, st => match vRet st with
    | some none => true
    | _ => false
  | .pass, st => match st with
    | .Pass _ => true
    | _ => false
  | .brk, st => match st with
    | .Break _ => true
    | _ => false
  | .ct, st => match st with
    | .Continue _ => true
    | _ => false
  | .never, _ => true
  | .raise x z, st => match vRaise st with
    | some (y, t) => decide (y = x) && decide (t = z) && c.gl x && decide (x ∈ c.xs.excs)
    | none => false
  | .tri b i rows h, st => match vTry st with
    | some v => decide (v.bx = c.xs.bas) && c.gl v.bx && decide (c.N[i]? = some v.n) && decide (c.sc.names.lookup v.n = some .local) && decide (m[i]? ≠ some true) && ckSs c m b v.body && ckHd c i rows h v.hs
    | none => false
def ckSs (c : Cs) (m : List Bool) : Ss → List Stmt → Bool
  | .nil, l => match l with
    | [] => true
    | _ => false
  | .cons s ss, l => match l with
    | x :: xs => ckS c m s x && ckSs c m ss xs
    | [] => false
end

/-! ### the check is sound -/
section
variable {X : Cx} {ct : Str → Option Addr} {W : WX} {Φ : Tab} {c : Cs}
mutual
theorem ckQ_ok (f : Fits X ct W Φ c) : ∀ (q : Qx) (e : Expr), ckQ c q e = true → PE X e (tQ X.K q)
  | .v i, e, h => q_v (f.isV (by simpa only [ckQ] using h))
  | .int i, e, h => by
    simp only [ckQ] at h
    split at h
    · rename_i j hj
      obtain ⟨k, p, rfl⟩ := vConst_eq hj
      have := of_decide_eq_true h
      subst this
      exact q_int
    · cases h
  | .add a b, e, h => by
    simp only [ckQ] at h
    split at h
    · rename_i x y hx
      obtain ⟨p, rfl⟩ := vBin_eq hx
      simp only [Bool.and_eq_true] at h
      exact q_add (ckQ_ok f a _ h.1) (ckQ_ok f b _ h.2)
    · cases h
  | .sub a b, e, h => by
    simp only [ckQ] at h
    split at h
    · rename_i x y hx
      obtain ⟨p, rfl⟩ := vBin_eq hx
      simp only [Bool.and_eq_true] at h
      exact q_sub (ckQ_ok f a _ h.1) (ckQ_ok f b _ h.2)
    · cases h
  | .neg a, e, h => by
    simp only [ckQ] at h
    split at h
    · rename_i x hx
      obtain ⟨p, rfl⟩ := vUn_eq hx
      exact q_neg (ckQ_ok f a _ h)
    · cases h
  | .p p, e, h => q_p (ckP_ok f p e (by simpa only [ckQ] using h)).1
theorem ckP_ok (f : Fits X ct W Φ c) : ∀ (q : P) (e : Expr), ckP c q e = true → PE X e (tP X.K q) ∧ PE X e (tBP X.K q)
  | .v i, e, h => ⟨p_v (f.isV (by simpa only [ckP] using h)), bp_v (f.isV (by simpa only [ckP] using h))⟩
  | .ix p i, e, h => by
    simp only [ckP] at h
    split at h
    · rename_i a b hx
      obtain ⟨p', rfl⟩ := vSub_eq hx
      simp only [Bool.and_eq_true] at h
      obtain ⟨h1, h2⟩ := ckP_ok f p _ h.1.2
      exact ⟨p_ix h1 (ckQ_ok f i _ h.2) h.1.1, bp_ix h2 (ckQ_ok f i _ h.2) h.1.1⟩
    · cases h
end
theorem ckKs_ok (f : Fits X ct W Φ c) : ∀ (ks : List Kd) (es : List Expr), ckKs c ks es = true → KdRow X ks es
  | [], [], h => kr_nil
  | [], _ :: _, h => by simp [ckKs] at h
  | _ :: _, [], h => by simp [ckKs] at h
  | k :: ks, e :: es, h => by
    unfold ckKs at h
    rw [Bool.and_eq_true] at h
    obtain ⟨h1, h2⟩ := h
    split at h1
    · rename_i x hx
      obtain ⟨p, rfl⟩ := vName_eq hx
      obtain ⟨rfl, b⟩ := f.blt h1
      exact kr_cons b (ckKs_ok f ks es h2)
    · cases h1
theorem ckNs_ok (f : Fits X ct W Φ c) {m : List Bool} {fx : Fix} (hfx : ∀ i, m[i]? ≠ some true → ¬ fx i) : ∀ (is : List Nat) (es : List Expr), ckNs c m is es = true → NameRow X fx is es
  | [], [], h => .nil
  | [], _ :: _, h => by simp [ckNs] at h
  | _ :: _, [], h => by simp [ckNs] at h
  | k :: ks, e :: es, h => by
    unfold ckNs at h
    rw [Bool.and_eq_true] at h
    obtain ⟨h1, h2⟩ := h
    split at h1
    · rename_i x hx
      obtain ⟨p, rfl⟩ := vName_eq hx
      rw [Bool.and_eq_true, decide_eq_true_eq] at h1
      obtain ⟨a1, a2, a3⟩ := f.st h1.1
      exact .cons a1 a2 a3 (hfx _ h1.2) (ckNs_ok f hfx ks es h2)
    · cases h1
theorem ckNe_ok (f : Fits X ct W Φ c) {m : List Bool} {fx : Fix} (hfx : ∀ i, m[i]? ≠ some true → ¬ fx i) : ∀ (is : List (Nat ⊕ List Nat)) (es : List Expr), ckNe c m is es = true → NestRow X fx is es
  | [], [], h => .nil
  | [], _ :: _, h => by simp [ckNe] at h
  | .inl _ :: _, [], h => by simp [ckNe] at h
  | .inr _ :: _, [], h => by simp [ckNe] at h
  | .inl k :: ks, e :: es, h => by
    unfold ckNe at h
    rw [Bool.and_eq_true] at h
    obtain ⟨h1, h2⟩ := h
    split at h1
    · rename_i x hx
      obtain ⟨p, rfl⟩ := vName_eq hx
      rw [Bool.and_eq_true, decide_eq_true_eq] at h1
      obtain ⟨a1, a2, a3⟩ := f.st h1.1
      exact .one a1 a2 a3 (hfx _ h1.2) (ckNe_ok f hfx ks es h2)
    · cases h1
  | .inr js :: ks, e :: es, h => by
    unfold ckNe at h
    rw [Bool.and_eq_true] at h
    obtain ⟨h1, h2⟩ := h
    split at h1
    · rename_i l hx
      obtain ⟨j, p, rfl⟩ := vTup_eq hx
      exact .row (ckNs_ok f hfx js l h1) (ckNe_ok f hfx ks es h2)
    · cases h1
theorem ckTg_ok (f : Fits X ct W Φ c) {m : List Bool} {fx : Fix} (hfx : ∀ i, m[i]? ≠ some true → ¬ fx i) : ∀ (t : Tg) (e : Expr), ckTg c m t e = true → TgOk X fx t e
  | .name i, e, h => by
    simp only [ckTg] at h
    split at h
    · rename_i x hx
      obtain ⟨p, rfl⟩ := vName_eq hx
      rw [Bool.and_eq_true, decide_eq_true_eq] at h
      obtain ⟨a1, a2, a3⟩ := f.st h.1
      exact .name a1 a2 a3 (hfx _ h.2)
    · cases h
  | .tup is, e, h => by
    simp only [ckTg] at h
    split at h
    · rename_i l hx
      obtain ⟨j, p, rfl⟩ := vTup_eq hx
      exact .tup (ckNs_ok f hfx is l h)
    · cases h
  | .nest is, e, h => by
    simp only [ckTg] at h
    split at h
    · rename_i l hx
      obtain ⟨j, p, rfl⟩ := vTup_eq hx
      exact .nest (ckNe_ok f hfx is l h)
    · cases h
theorem bool_and {p : Pos} {y : Expr} {r : List Expr} {o : BoolOp} {t : TE} (h : PE X (match r with | [] => y | _ => .BoolOp o (y :: r) p) t) : PE X (.BoolOp o (y :: r) p) t := by
  cases r with
  | nil => exact pe_one h
  | cons => exact h
theorem bool_andT {p : Pos} {y : Expr} {r : List Expr} {t : TT} (h : PT X (match r with | [] => y | _ => .BoolOp .And (y :: r) p) t ∧ ((vBool (match r with | [] => y | _ => .BoolOp .And (y :: r) p)).isSome = true → PW X (match r with | [] => y | _ => .BoolOp .And (y :: r) p) t)) : PW X (.BoolOp .And (y :: r) p) t := by
  cases r with
  | nil => exact pw_and1 h.1
  | cons => exact h.2 rfl
theorem bool_orT {p : Pos} {y : Expr} {r : List Expr} {t : TT} (h : PT X (match r with | [] => y | _ => .BoolOp .Or (y :: r) p) t ∧ ((vBool (match r with | [] => y | _ => .BoolOp .Or (y :: r) p)).isSome = true → PW X (match r with | [] => y | _ => .BoolOp .Or (y :: r) p) t)) : PW X (.BoolOp .Or (y :: r) p) t := by
  cases r with
  | nil => exact pw_or1 h.1
  | cons => exact h.2 rfl
theorem cmp_noB {a : Expr} {os : List CmpOp} {bs : List Expr} {p : Pos} {q : Prop} (h : (vBool (.Compare a os bs p)).isSome = true) : q := by cases h
theorem un_noB {o : UnaryOp} {a : Expr} {p : Pos} {q : Prop} (h : (vBool (.UnaryOp o a p)).isSome = true) : q := by cases h
theorem plain_noB {a : Expr} {q : Prop} (hp : plainT a = true) (h : (vBool a).isSome = true) : q := by
  cases a with
  | BoolOp => simp [plainT] at hp
  | _ => cases h
theorem own_map (c : Cs) (own : List Nat) : (c.ownN own).map (·.2) = own := by
  unfold Cs.ownN
  induction own with
  | nil => rfl
  | cons i r ih => rw [List.map_cons, List.map_cons, ih]
end
end Tr
set_option Elab.async false
set_option linter.all false
set_option maxRecDepth 100000
set_option maxHeartbeats 4000000
/-! TrE: the check is sound. -/
namespace Tr
open PySem PySem.Spec PyProof.Rows L2
theorem isSome_none {α : Type} {o : Option α} (h : o = none) : o.isSome = true → False := by rw [h]; exact fun q => by cases q
theorem fx_none : ∀ i, ([] : List Bool)[i]? ≠ some true → ¬ (fun _ : Nat => False) i := fun _ _ q => q
abbrev PTW (X : Cx) (e : Expr) (t : TT) : Prop := PT X e t ∧ ((vBool e).isSome = true → PW X e t)
theorem ptw_cmp {X : Cx} {a : Expr} {os : List CmpOp} {bs : List Expr} {p : Pos} {t : TT} (h : PT X (.Compare a os bs p) t) : PTW X (.Compare a os bs p) t := ⟨h, fun q => cmp_noB q⟩
theorem isKey_ok {X : Cx} {k : Key} {e : Expr} (h : isKey k e = true) : PE X e (tC (kV k)) := by
  unfold isKey at h
  split at h
  · rename_i i j hc
    obtain ⟨q, p, rfl⟩ := vConst_eq hc
    simp only [decide_eq_true_eq] at h
    subst h
    exact pe_int
  · rename_i i j hc
    obtain ⟨q, p, rfl⟩ := vConst_eq hc
    simp only [decide_eq_true_eq] at h
    subst h
    exact pe_str
  · cases h
mutual
theorem ckE_ok {Φ : Tab} : ∀ (m : E) {X : Cx} {ct : Str → Option Addr} {W : WX} {c : Cs} (f : Fits X ct W Φ c) (e : Expr), ckE c m e = true → PE X e (tE X.K ct W (m.sem Φ))
  | .v i, X, ct, W, c, f, e, h => e_v (f.isV h)
  | .int i, X, ct, W, c, f, e, h => by
    simp only [ckE] at h
    split at h
    · rename_i j hj
      obtain ⟨k, p, rfl⟩ := vConst_eq hj
      have := of_decide_eq_true h
      subst this
      exact e_int
    · cases h
  | .bl i, X, ct, W, c, f, e, h => by
    simp only [ckE] at h
    split at h
    · rename_i j hj
      obtain ⟨k, p, rfl⟩ := vConst_eq hj
      have := of_decide_eq_true h
      subst this
      exact e_bl
    · cases h
  | .non, X, ct, W, c, f, e, h => by
    simp only [ckE] at h
    split at h
    · rename_i hj
      obtain ⟨k, p, rfl⟩ := vConst_eq hj
      exact e_non
    · cases h
  | .str i, X, ct, W, c, f, e, h => by
    simp only [ckE] at h
    split at h
    · rename_i j hj
      obtain ⟨k, p, rfl⟩ := vConst_eq hj
      have := of_decide_eq_true h
      subst this
      exact e_str
    · cases h
  | .glob k, X, ct, W, c, f, e, h => by
    simp only [ckE] at h
    split at h
    · rename_i x hx
      obtain ⟨p, rfl⟩ := vName_eq hx
      unfold Cs.glob at h
      rw [Bool.and_eq_true, decide_eq_true_eq] at h
      obtain ⟨u, v, d, h1, h2, h3, h4⟩ := f.gls _ _ h.2
      exact e_glob (f.gl h.1).1 h1 h2 h3 h4 (f.gl h.1).2
    · cases h
  | .tup es, X, ct, W, c, f, e, h => by
    simp only [ckE] at h
    split at h
    · rename_i l hx
      obtain ⟨j, p, rfl⟩ := vTup_eq hx
      exact e_tup (ckEs_ok es f l h)
    · cases h
  | .dct ks es, X, ct, W, c, f, e, h => by
    simp only [ckE] at h
    split at h
    · rename_i kes vs hx
      obtain ⟨p, rfl⟩ := vDict_eq hx
      simp only [Bool.and_eq_true, decide_eq_true_eq] at h
      have d : DRow X ct W p ks kes vs (es.sem Φ) := ckDs_ok es f ks kes vs h.2
      by_cases h0 : kes = []
      · subst h0
        have e1 : ks = [] := List.eq_nil_of_length_eq_zero (by rw [← d.len]; rfl)
        have e2 : vs = [] := List.eq_nil_of_length_eq_zero (by rw [← d.len2]; rfl)
        subst e1
        subst e2
        cases es with
        | nil => exact dct_nil
        | cons _ _ => simp [ckDs] at h
      · exact e_dct d h0 h.1
    · cases h
  | .ix o i, X, ct, W, c, f, e, h => by
    simp only [ckE] at h
    split at h
    · rename_i a b hx
      obtain ⟨p, rfl⟩ := vSub_eq hx
      simp only [Bool.and_eq_true] at h
      exact e_ix (ckE_ok o f a h.1.2) (ckE_ok i f b h.2) h.1.1
    · cases h
  | .ix1 s i, X, ct, W, c, f, e, h => by
    simp only [ckE] at h
    split at h
    · rename_i a b hx
      obtain ⟨p, rfl⟩ := vSub_eq hx
      simp only [Bool.and_eq_true] at h
      exact e_ix1 (f.isV h.1.2) (ckE_ok i f b h.2) h.1.1
    · cases h
  | .pix p, X, ct, W, c, f, e, h => e_pix (ckP_ok f p e h).1
  | .plen p, X, ct, W, c, f, e, h => by
    simp only [ckE] at h
    split at h
    · rename_i g a hx
      obtain ⟨p1, p2, rfl⟩ := vCall_eq hx
      simp only [Bool.and_eq_true] at h
      obtain ⟨e1, b⟩ := f.blt h.1.1
      dsimp only at e1 ⊢
      subst e1
      exact e_plen b (ckP_ok f p a h.2).1 h.1.2
    · cases h
  | .ofF a, X, ct, W, c, f, e, h => e_ofF (ckF_ok a f e h)
  | .neg a, X, ct, W, c, f, e, h => by
    simp only [ckE] at h
    split at h
    · rename_i x hx
      obtain ⟨p, rfl⟩ := vUn_eq hx
      exact e_neg (ckE_ok a f x h)
    · cases h
  | .not a, X, ct, W, c, f, e, h => by
    simp only [ckE] at h
    split at h
    · rename_i x hx
      obtain ⟨p, rfl⟩ := vUn_eq hx
      exact e_not (ckE_ok a f x h)
    · cases h
  | .op o a b, X, ct, W, c, f, e, h => by
    simp only [ckE] at h
    split at h
    · rename_i x p y hx
      obtain ⟨q, rfl⟩ := vBin_eq hx
      simp only [Bool.and_eq_true, decide_eq_true_eq] at h
      obtain ⟨⟨e1, h1⟩, h2⟩ := h
      dsimp only at e1 ⊢
      subst e1
      exact e_op o (ckE_ok a f x h1) (ckE_ok b f y h2)
    · cases h
  | .cmp o a b, X, ct, W, c, f, e, h => by
    simp only [ckE] at h
    split at h
    · rename_i x p y hx
      obtain ⟨q, rfl⟩ := vCmp_eq hx
      simp only [Bool.and_eq_true, decide_eq_true_eq, Bool.not_eq_true'] at h
      obtain ⟨⟨⟨e1, h0⟩, h1⟩, h2⟩ := h
      dsimp only at e1 ⊢
      subst e1
      exact e_cmp f.hu o (ckE_ok a f x h1) (ckE_ok b f y h2) h0
    · cases h
  | .memS n a s, X, ct, W, c, f, e, h => by
    simp only [ckE] at h
    split at h
    · rename_i x p y hx
      obtain ⟨q, rfl⟩ := vCmp_eq hx
      simp only [Bool.and_eq_true, decide_eq_true_eq, Bool.not_eq_true'] at h
      obtain ⟨⟨⟨e1, h0⟩, h1⟩, h2⟩ := h
      dsimp only at e1 ⊢
      subst e1
      exact e_memS f.hu (ckE_ok a f x h1) (f.isV h2) h0
    · cases h
  | .eqS n s b, X, ct, W, c, f, e, h => by
    simp only [ckE] at h
    split at h
    · rename_i x p y hx
      obtain ⟨q, rfl⟩ := vCmp_eq hx
      simp only [Bool.and_eq_true, decide_eq_true_eq, Bool.not_eq_true'] at h
      obtain ⟨⟨⟨e1, h0⟩, h1⟩, h2⟩ := h
      dsimp only at e1 ⊢
      subst e1
      exact e_eqS f.hu (f.isV h1) (ckE_ok b f y h2) h0
    · cases h
  | .chain o p a b d, X, ct, W, c, f, e, h => by
    simp only [ckE] at h
    split at h
    · rename_i x o' p' y z hx
      obtain ⟨q, rfl⟩ := vCmp_eq hx
      simp only [Bool.and_eq_true, decide_eq_true_eq, Bool.not_eq_true'] at h
      obtain ⟨⟨⟨⟨⟨e1, e2⟩, h0⟩, h1⟩, h2⟩, h3⟩ := h
      dsimp only at e1 e2 ⊢
      subst e1
      subst e2
      exact e_chain f.hu o p (ckE_ok a f x h1) (ckE_ok b f y h2) (ckE_ok d f z h3) h0
    · cases h
  | .isN n a, X, ct, W, c, f, e, h => by
    simp only [ckE] at h
    split at h
    · rename_i x p y hx
      obtain ⟨q, rfl⟩ := vCmp_eq hx
      simp only [Bool.and_eq_true, decide_eq_true_eq] at h
      obtain ⟨⟨e1, h0⟩, h1⟩ := h
      dsimp only at e1 ⊢
      subst e1
      split at h0
      · rename_i hk
        obtain ⟨j, p2, rfl⟩ := vConst_eq hk
        exact e_isN (ckE_ok a f x h1)
      · cases h0
    · cases h
  | .isB n a b, X, ct, W, c, f, e, h => by
    simp only [ckE] at h
    split at h
    · rename_i x p y hx
      obtain ⟨q, rfl⟩ := vCmp_eq hx
      simp only [Bool.and_eq_true, decide_eq_true_eq] at h
      obtain ⟨⟨e1, h0⟩, h1⟩ := h
      dsimp only at e1 ⊢
      subst e1
      split at h0
      · rename_i b' hk
        obtain ⟨j, p2, rfl⟩ := vConst_eq hk
        have e2 := of_decide_eq_true h0
        subst e2
        exact e_isB (ckE_ok a f x h1)
      · cases h0
    · cases h
  | .and a b, X, ct, W, c, f, e, h => by
    simp only [ckE] at h
    split at h
    · rename_i x y r p hx
      have e0 := vBool_eq hx
      subst e0
      simp only [Bool.and_eq_true] at h
      exact e_and (ckE_ok a f x h.1) (bool_and (ckE_ok b f _ h.2))
    · cases h
  | .or a b, X, ct, W, c, f, e, h => by
    simp only [ckE] at h
    split at h
    · rename_i x y r p hx
      have e0 := vBool_eq hx
      subst e0
      simp only [Bool.and_eq_true] at h
      exact e_or (ckE_ok a f x h.1) (bool_and (ckE_ok b f _ h.2))
    · cases h
  | .ife t a b, X, ct, W, c, f, e, h => by
    simp only [ckE] at h
    split at h
    · rename_i x y z hx
      obtain ⟨q, rfl⟩ := vIf_eq hx
      simp only [Bool.and_eq_true] at h
      exact e_ife (ckT_ok t f x h.1.1).1 (ckE_ok a f y h.1.2) (ckE_ok b f z h.2)
    · cases h
  | .b1 g a, X, ct, W, c, f, e, h => by
    simp only [ckE] at h
    split at h
    · rename_i gn x hx
      obtain ⟨p1, p2, rfl⟩ := vCall_eq hx
      simp only [Bool.and_eq_true] at h
      obtain ⟨e1, b⟩ := f.blt h.1.1
      dsimp only at e1 ⊢
      subst e1
      exact e_b1 f.gds f.hu f.sys f.calm b (ckE_ok a f x h.2) h.1.2
    · cases h
  | .lset a, X, ct, W, c, f, e, h => by
    simp only [ckE] at h
    split at h
    · rename_i gn y hx
      obtain ⟨p1, p2, rfl⟩ := vCall_eq hx
      split at h
      · rename_i gn2 x hy
        obtain ⟨p3, p4, e3⟩ := vCall_eq hy
        dsimp only at e3
        subst e3
        simp only [Bool.and_eq_true] at h
        obtain ⟨e1, b⟩ := f.blt h.1.1.1
        obtain ⟨e2, b2⟩ := f.blt h.1.1.2
        dsimp only at e1 e2 ⊢
        subst e1
        subst e2
        exact e_lset f.calm b b2 (ckE_ok a f x h.2) h.1.2
      · cases h
    · cases h
  | .tupRg a, X, ct, W, c, f, e, h => by
    simp only [ckE] at h
    split at h
    · rename_i gn y hx
      obtain ⟨p1, p2, rfl⟩ := vCall_eq hx
      split at h
      · rename_i gn2 x hy
        obtain ⟨p3, p4, e3⟩ := vCall_eq hy
        dsimp only at e3
        subst e3
        simp only [Bool.and_eq_true] at h
        obtain ⟨e1, b⟩ := f.blt h.1.1.1
        obtain ⟨e2, b2⟩ := f.blt h.1.1.2
        dsimp only at e1 e2 ⊢
        subst e1
        subst e2
        exact e_tupRg f.calm b b2 (ckE_ok a f x h.2) h.1.2
      · cases h
    · cases h
  | .b2 g a b, X, ct, W, c, f, e, h => by
    simp only [ckE] at h
    split at h
    · rename_i gn x y hx
      obtain ⟨p1, p2, rfl⟩ := vCall_eq hx
      simp only [Bool.and_eq_true] at h
      obtain ⟨e1, bl⟩ := f.blt h.1.1.1.1
      dsimp only at e1 ⊢
      subst e1
      exact e_b2 f.calm bl (ckE_ok a f x h.1.2) (ckE_ok b f y h.2) h.1.1.1.2 h.1.1.2
    · cases h
  | .isi a ks, X, ct, W, c, f, e, h => by
    simp only [ckE] at h
    split at h
    · rename_i gn x y hx
      obtain ⟨p1, p2, rfl⟩ := vCall_eq hx
      simp only [Bool.and_eq_true] at h
      obtain ⟨⟨⟨h1, h2⟩, h3⟩, h4⟩ := h
      obtain ⟨e1, bl⟩ := f.blt h1
      dsimp only at e1 ⊢
      subst e1
      split at h4
      · rename_i k hk
        obtain ⟨q, rfl⟩ := vName_eq hk
        split at h4
        · obtain ⟨e2, bk⟩ := f.blt h4
          subst e2
          exact e_isi1 bl bk (ckE_ok a f x h3) h2
        · cases h4
      · rename_i hk
        split at h4
        · rename_i l hl
          obtain ⟨j, q, rfl⟩ := vTup_eq hl
          simp only [Bool.and_eq_true, decide_eq_true_eq] at h4
          exact e_isi bl (ckKs_ok f ks l h4.2) h4.1 (ckE_ok a f x h3) h2
        · cases h4
    · cases h
theorem ckEs_ok {Φ : Tab} : ∀ (m : Es) {X : Cx} {ct : Str → Option Addr} {W : WX} {c : Cs} (f : Fits X ct W Φ c) (l : List Expr), ckEs c m l = true → PA X l (tEs X.K ct W (m.sem Φ))
  | .nil, X, ct, W, c, f, [], h => a_nil
  | .nil, X, ct, W, c, f, _ :: _, h => by simp [ckEs] at h
  | .cons _ _, X, ct, W, c, f, [], h => by simp [ckEs] at h
  | .cons a as, X, ct, W, c, f, x :: xs, h => by
    simp only [ckEs, Bool.and_eq_true] at h
    exact a_cons (ckE_ok a f x h.1.2) (ckEs_ok as f xs h.2) h.1.1
theorem ckDs_ok {Φ : Tab} : ∀ (m : Es) {X : Cx} {ct : Str → Option Addr} {W : WX} {c : Cs} (f : Fits X ct W Φ c) {p : Pos} (ks : List Key) (kes : List (Option Expr)) (vs : List Expr), ckDs c m ks kes vs = true → DRow X ct W p ks kes vs (m.sem Φ)
  | .nil, X, ct, W, c, f, p, ks, kes, vs, h => by
    simp only [ckDs, Bool.and_eq_true, List.isEmpty_iff] at h
    obtain ⟨⟨rfl, rfl⟩, rfl⟩ := h
    exact drow_nil
  | .cons e es, X, ct, W, c, f, p, ks, kes, vs, h => by
    simp only [ckDs] at h
    split at h
    · rename_i k ks ke kes v vs
      simp only [Bool.and_eq_true] at h
      exact drow_cons (isKey_ok h.1.1) (ckE_ok e f v h.1.2) (ckDs_ok es f ks kes vs h.2)
    · cases h
theorem ckF_ok {Φ : Tab} : ∀ (m : F) {X : Cx} {ct : Str → Option Addr} {W : WX} {c : Cs} (f : Fits X ct W Φ c) (e : Expr), ckF c m e = true → PE X e (tF X.K ct W (m.sem Φ))
  | .ofE a, X, ct, W, c, f, e, h => f_ofE (ckE_ok a f e h)
  | .mv i, X, ct, W, c, f, e, h => f_mv (f.isV h)
  | .lst fs, X, ct, W, c, f, e, h => by
    simp only [ckF] at h
    split at h
    · rename_i l hx
      obtain ⟨p, rfl⟩ := vList_eq hx
      exact f_lst (ckFs_ok fs f l h)
    · cases h
  | .add a b, X, ct, W, c, f, e, h => by
    simp only [ckF] at h
    split at h
    · rename_i x y hx
      obtain ⟨q, rfl⟩ := vBin_eq hx
      simp only [Bool.and_eq_true] at h
      exact f_add (ckE_ok a f x h.1) (ckE_ok b f y h.2)
    · cases h
  | .mul a b, X, ct, W, c, f, e, h => by
    simp only [ckF] at h
    split at h
    · rename_i x y hx
      obtain ⟨q, rfl⟩ := vBin_eq hx
      simp only [Bool.and_eq_true] at h
      exact f_mul (ckE_ok a f x h.1) (ckE_ok b f y h.2)
    · cases h
  | .slice o lo hi, X, ct, W, c, f, e, h => by
    simp only [ckF] at h
    split at h
    · rename_i a b hx
      obtain ⟨p, rfl⟩ := vSub_eq hx
      split at h
      · rename_i l u hy
        obtain ⟨q, e2⟩ := vSlice_eq hy
        dsimp only at e2 ⊢
        subst e2
        simp only [Bool.and_eq_true] at h
        exact f_slice (ckE_ok o f a h.1.1) (ckPt_ok lo f l h.1.2) (ckPt_ok hi f u h.2)
      · cases h
    · cases h
  | .cut s lo hi, X, ct, W, c, f, e, h => by
    simp only [ckF] at h
    split at h
    · rename_i a b hx
      obtain ⟨p, rfl⟩ := vSub_eq hx
      split at h
      · rename_i l u hy
        obtain ⟨q, e2⟩ := vSlice_eq hy
        dsimp only at e2 ⊢
        subst e2
        simp only [Bool.and_eq_true] at h
        exact f_cut (f.isV h.1.1) (ckPt_ok lo f l h.1.2) (ckPt_ok hi f u h.2)
      · cases h
    · cases h
  | .list a, X, ct, W, c, f, e, h => by
    simp only [ckF] at h
    split at h
    · rename_i gn x hx
      obtain ⟨p1, p2, rfl⟩ := vCall_eq hx
      simp only [Bool.and_eq_true] at h
      obtain ⟨e1, b⟩ := f.blt h.1.1
      dsimp only at e1 ⊢
      subst e1
      exact f_list b (ckE_ok a f x h.2) h.1.2
    · cases h
  | .rev a, X, ct, W, c, f, e, h => by
    simp only [ckF] at h
    split at h
    · rename_i gn y hx
      obtain ⟨p1, p2, rfl⟩ := vCall_eq hx
      split at h
      · rename_i gn2 x hy
        obtain ⟨p3, p4, e3⟩ := vCall_eq hy
        dsimp only at e3
        subst e3
        simp only [Bool.and_eq_true] at h
        obtain ⟨e1, b⟩ := f.blt h.1.1.1
        obtain ⟨e2, b2⟩ := f.blt h.1.1.2
        dsimp only at e1 e2 ⊢
        subst e1
        subst e2
        exact f_rev f.calm b b2 (ckE_ok a f x h.2) h.1.2
      · cases h
    · cases h
  | .lend ss g, X, ct, W, c, f, e, h => by
    simp only [ckF] at h
    exact (ckF_ok g f e h).weak fun σ H Q q => f_lend_weak (ss := ss) q
  | .pick fs i, X, ct, W, c, f, e, h => by
    simp only [ckF] at h
    split at h
    · rename_i x y hx
      obtain ⟨p1, rfl⟩ := vSub_eq hx
      split at h
      · rename_i l hl
        obtain ⟨p2, e2⟩ := vList_eq hl
        subst e2
        simp only [Bool.and_eq_true] at h
        exact f_pick (ckFs_ok fs f l h.1.2) (ckE_ok i f y h.2) h.1.1
      · cases h
    · cases h
  | .lzip a b, X, ct, W, c, f, e, h => by
    simp only [ckF] at h
    split at h
    · rename_i gn z hx
      obtain ⟨p1, p2, rfl⟩ := vCall_eq hx
      split at h
      · rename_i gn2 x y hy
        obtain ⟨p3, p4, e3⟩ := vCall_eq hy
        dsimp only at e3
        subst e3
        simp only [Bool.and_eq_true] at h
        obtain ⟨⟨⟨⟨⟨h1, h2⟩, h3⟩, h4⟩, h5⟩, h6⟩ := h
        obtain ⟨e1, bl⟩ := f.blt h1
        obtain ⟨e2, bl2⟩ := f.blt h2
        dsimp only at e1 e2 ⊢
        subst e1
        subst e2
        exact f_lzip f.calm bl bl2 (ckE_ok a f x h5) (ckE_ok b f y h6) h3 h4
      · cases h
    · cases h
  | .sortS a, X, ct, W, c, f, e, h => by
    simp only [ckF] at h
    split at h
    · rename_i gn y hx
      obtain ⟨p1, p2, rfl⟩ := vCall_eq hx
      split at h
      · rename_i gn2 x hy
        obtain ⟨p3, p4, e3⟩ := vCall_eq hy
        dsimp only at e3
        subst e3
        simp only [Bool.and_eq_true] at h
        obtain ⟨e1, b⟩ := f.blt h.1.1.1
        obtain ⟨e2, b2⟩ := f.blt h.1.1.2
        dsimp only at e1 e2 ⊢
        subst e1
        subst e2
        exact f_sortS f.calm b b2 (ckE_ok a f x h.2) h.1.2
      · cases h
    · cases h
  | .sort a, X, ct, W, c, f, e, h => by
    simp only [ckF] at h
    split at h
    · rename_i gn x hx
      obtain ⟨p1, p2, rfl⟩ := vCall_eq hx
      simp only [Bool.and_eq_true] at h
      obtain ⟨e1, b⟩ := f.blt h.1.1
      dsimp only at e1 ⊢
      subst e1
      exact f_sort f.calm b (ckE_ok a f x h.2) h.1.2
    · cases h
  | .revL a, X, ct, W, c, f, e, h => by
    simp only [ckF] at h
    split at h
    · rename_i x hx
      obtain ⟨k, p1, p2, p3, p4, rfl⟩ := vRevS_eq hx
      exact f_revX (ckE_ok a f x h)
    · cases h
  | .listv s, X, ct, W, c, f, e, h => by
    simp only [ckF] at h
    split at h
    · rename_i gn x hx
      obtain ⟨p1, p2, rfl⟩ := vCall_eq hx
      simp only [Bool.and_eq_true] at h
      obtain ⟨e1, b⟩ := f.blt h.1.1
      dsimp only at e1 ⊢
      subst e1
      exact f_listv b (f.isV h.2) h.1.2
    · cases h
  | .lrg1 a, X, ct, W, c, f, e, h => by
    simp only [ckF] at h
    split at h
    · rename_i gn y hx
      obtain ⟨p1, p2, rfl⟩ := vCall_eq hx
      split at h
      · rename_i gn2 x hy
        obtain ⟨p3, p4, e3⟩ := vCall_eq hy
        dsimp only at e3
        subst e3
        simp only [Bool.and_eq_true] at h
        obtain ⟨e1, b⟩ := f.blt h.1.1.1
        obtain ⟨e2, b2⟩ := f.blt h.1.1.2
        dsimp only at e1 e2 ⊢
        subst e1
        subst e2
        exact f_lrg1 f.calm b b2 (ckE_ok a f x h.2) h.1.2
      · cases h
    · cases h
  | .lrg2 a a2, X, ct, W, c, f, e, h => by
    simp only [ckF] at h
    split at h
    · rename_i gn y hx
      obtain ⟨p1, p2, rfl⟩ := vCall_eq hx
      split at h
      · rename_i gn2 x z hy
        obtain ⟨p3, p4, e3⟩ := vCall_eq hy
        dsimp only at e3
        subst e3
        simp only [Bool.and_eq_true] at h
        obtain ⟨⟨⟨⟨⟨h1, h2⟩, h3⟩, h4⟩, h5⟩, h6⟩ := h
        obtain ⟨e1, b⟩ := f.blt h1
        obtain ⟨e2, b2⟩ := f.blt h2
        dsimp only at e1 e2 ⊢
        subst e1
        subst e2
        exact f_lrg2 f.calm b b2 (ckE_ok a f x h5) (ckE_ok a2 f z h6) h3 h4
      · cases h
    · cases h
  | .call k as, X, ct, W, c, f, e, h => by
    simp only [ckF] at h
    split at h
    · rename_i gn l hx
      obtain ⟨p1, p2, rfl⟩ := vCall_eq hx
      simp only [Bool.and_eq_true, Cs.fn, decide_eq_true_eq] at h
      obtain ⟨⟨⟨h1, h2⟩, h3⟩, h4⟩ := h
      obtain ⟨fn, e1, e2⟩ := f.fns _ _ h2
      obtain ⟨g1, g2⟩ := f.gl h1
      cases l with
      | nil =>
        cases as with
        | nil => exact f_call0 e1 e2 g1 f.tk g2
        | e _ _ => simp [ckAs] at h4
        | r _ _ => simp [ckAs] at h4
        | b _ _ => simp [ckAs] at h4
      | cons x xs =>
        have hs : notStar x = true ∧ noStars xs = true := by
          unfold noStars at h3 ⊢
          rw [List.all_cons, Bool.and_eq_true] at h3
          exact h3
        exact f_call e1 e2 g1 f.tk (ckAs_ok as f _ h4) g2 hs.1 hs.2
    · cases h
  | .callL k as, X, ct, W, c, f, e, h => by
    simp only [ckF] at h
    split at h
    · rename_i gn x xs hx
      obtain ⟨p1, p2, rfl⟩ := vCall_eq hx
      simp only [Bool.and_eq_true, Cs.fn, decide_eq_true_eq] at h
      obtain ⟨⟨⟨h1, h2⟩, h3⟩, h4⟩ := h
      obtain ⟨fn, e1, e2⟩ := f.fns _ _ h2
      obtain ⟨g1, g2⟩ := f.gl h1
      have hs : notStar x = true ∧ noStars xs = true := by
        unfold noStars at h3 ⊢
        rw [List.all_cons, Bool.and_eq_true] at h3
        exact h3
      exact f_callL e1 e2 g1 f.tk (ckAs_ok as f _ h4) g2 hs.1 hs.2
    · cases h
  | .comp t it cs el own, X, ct, W, c, f, e, h => by
    simp only [ckF] at h
    split at h
    · rename_i v hx
      have e0 := vComp_eq hx
      subst e0
      simp only [Bool.and_eq_true, Bool.not_eq_true'] at h
      obtain ⟨⟨⟨⟨⟨⟨h1, h2⟩, h3⟩, h4⟩, h5⟩, h6⟩, h7⟩ := h
      have q := f_comp (W := W) (ct := ct) (pos := v.pos) f.calm (by rw [f.N]; exact f.nd) (ckI_ok it f _ _ h1) (by rw [f.N, f.sc]; exact blkOk_by h2)
        (fun s H C cl fp => ckTg_ok (f.blk v.scope s H C cl fp) fx_none _ _ h3) (fun s H C cl fp => ckTs_ok cs (f.blk v.scope s H C cl fp) _ h4) (fun s H C cl fp => ckF_ok el (f.blk v.scope s H C cl fp) _ h5)
        (by rw [own_map]; intro i hi; have := List.all_eq_true.mp h6 i hi; simpa using this) (folded_of h7)
      rw [own_map] at q
      exact q
    · cases h
  | .pop s, X, ct, W, c, f, e, h => by
    simp only [ckF] at h
    split at h
    · rename_i o x hx
      obtain ⟨p, q, rfl, hl⟩ := vMeth_eq hx
      simp only [Bool.and_eq_true, decide_eq_true_eq] at h
      obtain ⟨e1, h1⟩ := h
      dsimp only at e1 hl ⊢
      subst e1
      obtain ⟨y, p2, rfl⟩ := isV_name h1
      exact f_pop (f.isV h1) attr_of hl
    · cases h
  | .popAt s i, X, ct, W, c, f, e, h => by
    simp only [ckF] at h
    split at h
    · rename_i o x a hx
      obtain ⟨p, q, rfl, hl⟩ := vMeth_eq hx
      simp only [Bool.and_eq_true, decide_eq_true_eq] at h
      obtain ⟨⟨⟨e1, h1⟩, h2⟩, h3⟩ := h
      dsimp only at e1 hl ⊢
      subst e1
      obtain ⟨y, p2, rfl⟩ := isV_name h1
      exact f_popAt (f.isV h1) (ckE_ok i f a h3) attr_of hl h2
    · cases h
theorem ckPt_ok {Φ : Tab} : ∀ (m : Pt) {X : Cx} {ct : Str → Option Addr} {W : WX} {c : Cs} (f : Fits X ct W Φ c) (e : Option Expr), ckPt c m e = true → PO X e (tPt X.K ct W (m.sem Φ))
  | .none, X, ct, W, c, f, none, h => part_none
  | .none, X, ct, W, c, f, some _, h => by simp [ckPt] at h
  | .some _, X, ct, W, c, f, none, h => by simp [ckPt] at h
  | .some a, X, ct, W, c, f, some x, h => by
    simp only [ckPt] at h
    exact part_some (ckE_ok a f x h)
theorem ckFs_ok {Φ : Tab} : ∀ (m : Fs) {X : Cx} {ct : Str → Option Addr} {W : WX} {c : Cs} (f : Fits X ct W Φ c) (l : List Expr), ckFs c m l = true → PA X l (tFs X.K ct W (m.sem Φ))
  | .nil, X, ct, W, c, f, [], h => fs_nil
  | .nil, X, ct, W, c, f, _ :: _, h => by simp [ckFs] at h
  | .cons _ _, X, ct, W, c, f, [], h => by simp [ckFs] at h
  | .cons a as, X, ct, W, c, f, x :: xs, h => by
    simp only [ckFs, Bool.and_eq_true] at h
    exact fs_cons (ckF_ok a f x h.1.2) (ckFs_ok as f xs h.2) h.1.1
theorem ckAs_ok {Φ : Tab} : ∀ (m : As) {X : Cx} {ct : Str → Option Addr} {W : WX} {c : Cs} (f : Fits X ct W Φ c) (l : List Expr), ckAs c m l = true → PA X l (tA X.K ct W (m.sem Φ))
  | .nil, X, ct, W, c, f, [], h => ag_nil
  | .nil, X, ct, W, c, f, _ :: _, h => by simp [ckAs] at h
  | .e _ _, X, ct, W, c, f, [], h => by simp [ckAs] at h
  | .r _ _, X, ct, W, c, f, [], h => by simp [ckAs] at h
  | .b _ _, X, ct, W, c, f, [], h => by simp [ckAs] at h
  | .e a as, X, ct, W, c, f, x :: xs, h => by
    simp only [ckAs, Bool.and_eq_true] at h
    exact ag_e (ckE_ok a f x h.1.2) (ckAs_ok as f xs h.2) h.1.1
  | .r s as, X, ct, W, c, f, x :: xs, h => by
    simp only [ckAs, Bool.and_eq_true] at h
    exact ag_slot (.inl rfl) (f.isV h.1.2) (ckAs_ok as f xs h.2) h.1.1
  | .b s as, X, ct, W, c, f, x :: xs, h => by
    simp only [ckAs, Bool.and_eq_true] at h
    exact ag_slot (.inr rfl) (f.isV h.1.2) (ckAs_ok as f xs h.2) h.1.1
theorem ckT_ok {Φ : Tab} : ∀ (m : T) {X : Cx} {ct : Str → Option Addr} {W : WX} {c : Cs} (f : Fits X ct W Φ c) (e : Expr), ckT c m e = true → PTW X e (tT X.K ct W (m.sem Φ))
  | .cmp o a b, X, ct, W, c, f, e, h => by
    simp only [ckT] at h
    split at h
    · rename_i x p y hx
      obtain ⟨q, rfl⟩ := vCmp_eq hx
      simp only [Bool.and_eq_true, decide_eq_true_eq, Bool.not_eq_true'] at h
      obtain ⟨⟨⟨e1, h0⟩, h1⟩, h2⟩ := h
      dsimp only at e1 ⊢
      subst e1
      exact ptw_cmp (t_cmp f.hu o (ckE_ok a f x h1) (ckE_ok b f y h2) h0)
    · cases h
  | .memS n a s, X, ct, W, c, f, e, h => by
    simp only [ckT] at h
    split at h
    · rename_i x p y hx
      obtain ⟨q, rfl⟩ := vCmp_eq hx
      simp only [Bool.and_eq_true, decide_eq_true_eq, Bool.not_eq_true'] at h
      obtain ⟨⟨⟨e1, h0⟩, h1⟩, h2⟩ := h
      dsimp only at e1 ⊢
      subst e1
      exact ptw_cmp (t_memS f.hu (ckE_ok a f x h1) (f.isV h2) h0)
    · cases h
  | .eqS n s b, X, ct, W, c, f, e, h => by
    simp only [ckT] at h
    split at h
    · rename_i x p y hx
      obtain ⟨q, rfl⟩ := vCmp_eq hx
      simp only [Bool.and_eq_true, decide_eq_true_eq, Bool.not_eq_true'] at h
      obtain ⟨⟨⟨e1, h0⟩, h1⟩, h2⟩ := h
      dsimp only at e1 ⊢
      subst e1
      exact ptw_cmp (t_eqS f.hu (f.isV h1) (ckE_ok b f y h2) h0)
    · cases h
  | .chain o p a b d, X, ct, W, c, f, e, h => by
    simp only [ckT] at h
    split at h
    · rename_i x o' p' y z hx
      obtain ⟨q, rfl⟩ := vCmp_eq hx
      simp only [Bool.and_eq_true, decide_eq_true_eq, Bool.not_eq_true'] at h
      obtain ⟨⟨⟨⟨⟨e1, e2⟩, h0⟩, h1⟩, h2⟩, h3⟩ := h
      dsimp only at e1 e2 ⊢
      subst e1
      subst e2
      exact ptw_cmp (t_chain f.hu o p (ckE_ok a f x h1) (ckE_ok b f y h2) (ckE_ok d f z h3) h0)
    · cases h
  | .isN n a, X, ct, W, c, f, e, h => by
    simp only [ckT] at h
    split at h
    · rename_i x p y hx
      obtain ⟨q, rfl⟩ := vCmp_eq hx
      simp only [Bool.and_eq_true, decide_eq_true_eq] at h
      obtain ⟨⟨e1, h0⟩, h1⟩ := h
      dsimp only at e1 ⊢
      subst e1
      split at h0
      · rename_i hk
        obtain ⟨j, p2, rfl⟩ := vConst_eq hk
        exact ptw_cmp (t_isN (ckE_ok a f x h1))
      · cases h0
    · cases h
  | .isB n a b, X, ct, W, c, f, e, h => by
    simp only [ckT] at h
    split at h
    · rename_i x p y hx
      obtain ⟨q, rfl⟩ := vCmp_eq hx
      simp only [Bool.and_eq_true, decide_eq_true_eq] at h
      obtain ⟨⟨e1, h0⟩, h1⟩ := h
      dsimp only at e1 ⊢
      subst e1
      split at h0
      · rename_i b' hk
        obtain ⟨j, p2, rfl⟩ := vConst_eq hk
        have e2 := of_decide_eq_true h0
        subst e2
        exact ptw_cmp (t_isB (ckE_ok a f x h1))
      · cases h0
    · cases h
  | .and a b, X, ct, W, c, f, e, h => by
    simp only [ckT] at h
    split at h
    · rename_i x y r p hx
      have e0 := vBool_eq hx
      subst e0
      simp only [Bool.and_eq_true] at h
      have q := t_and (ckT_ok a f x h.1).1 (bool_andT (p := p) (ckT_ok b f _ h.2))
      exact ⟨q.pt, fun _ => q⟩
    · cases h
  | .or a b, X, ct, W, c, f, e, h => by
    simp only [ckT] at h
    split at h
    · rename_i x y r p hx
      have e0 := vBool_eq hx
      subst e0
      simp only [Bool.and_eq_true] at h
      have q := t_or (ckT_ok a f x h.1).1 (bool_orT (p := p) (ckT_ok b f _ h.2))
      exact ⟨q.pt, fun _ => q⟩
    · cases h
  | .not a, X, ct, W, c, f, e, h => by
    simp only [ckT] at h
    split at h
    · rename_i x hx
      obtain ⟨p, rfl⟩ := vUn_eq hx
      exact ⟨t_not (ckT_ok a f x h).1, fun q => un_noB q⟩
    · cases h
  | .lend ss t, X, ct, W, c, f, e, h => by
    simp only [ckT] at h
    have q := ckT_ok t f e h
    exact ⟨q.1.weak fun σ H Q z => t_lend_weak (ss := ss) z, fun b => (q.2 b).weak fun σ H Q z => t_lend_weak (ss := ss) z⟩
  | .tru a, X, ct, W, c, f, e, h => by
    simp only [ckT, Bool.and_eq_true] at h
    exact ⟨t_tru (ckE_ok a f e h.2) (isTrue_of h.1), fun q => plain_noB h.1 q⟩
theorem ckTs_ok {Φ : Tab} : ∀ (m : Ts) {X : Cx} {ct : Str → Option Addr} {W : WX} {c : Cs} (f : Fits X ct W Φ c) (e : List Expr), ckTs c m e = true → PTs X e (tT X.K ct W (m.sem Φ))
  | .nil, X, ct, W, c, f, [], h => pts_no
  | .nil, X, ct, W, c, f, _ :: _, h => by simp [ckTs] at h
  | .one t, X, ct, W, c, f, [], h => by simp [ckTs] at h
  | .one t, X, ct, W, c, f, [x], h => by
    simp only [ckTs] at h
    exact pts_one (ckT_ok t f x h).1
  | .one t, X, ct, W, c, f, _ :: _ :: _, h => by simp [ckTs] at h
theorem ckI_ok {Φ : Tab} : ∀ (m : I) {X : Cx} {ct : Str → Option Addr} {W : WX} {c : Cs} (f : Fits X ct W Φ c) (t e : Expr), ckI c m t e = true → PI X t e (tI X.K ct W (m.sem Φ))
  | .seq a, X, ct, W, c, f, t, e, h => by
    simp only [ckI] at h
    exact i_seq (ckE_ok a f e h)
  | .range1 a, X, ct, W, c, f, t, e, h => by
    simp only [ckI] at h
    split at h
    · rename_i gn x hx
      obtain ⟨p1, p2, rfl⟩ := vCall_eq hx
      simp only [Bool.and_eq_true] at h
      obtain ⟨e1, b⟩ := f.blt h.1.1
      dsimp only at e1 ⊢
      subst e1
      exact i_range1 b (ckE_ok a f x h.2) h.1.2
    · cases h
  | .range2 a b, X, ct, W, c, f, t, e, h => by
    simp only [ckI] at h
    split at h
    · rename_i gn x y hx
      obtain ⟨p1, p2, rfl⟩ := vCall_eq hx
      simp only [Bool.and_eq_true] at h
      obtain ⟨e1, bl⟩ := f.blt h.1.1.1.1
      dsimp only at e1 ⊢
      subst e1
      exact i_range2 bl (ckE_ok a f x h.1.2) (ckE_ok b f y h.2) h.1.1.1.2 h.1.1.2
    · cases h
  | .enum a, X, ct, W, c, f, t, e, h => by
    simp only [ckI] at h
    split at h
    · rename_i l gn x ht hx
      obtain ⟨p1, p2, rfl⟩ := vCall_eq hx
      obtain ⟨j, p3, rfl⟩ := vTup_eq ht
      simp only [Bool.and_eq_true] at h
      obtain ⟨e1, b⟩ := f.blt h.1.1
      dsimp only at e1 ⊢
      subst e1
      exact i_enum b (ckE_ok a f x h.2) h.1.2
    · cases h
  | .zip a b, X, ct, W, c, f, t, e, h => by
    simp only [ckI] at h
    split at h
    · rename_i l gn x y ht hx
      obtain ⟨p1, p2, rfl⟩ := vCall_eq hx
      obtain ⟨j, p3, rfl⟩ := vTup_eq ht
      simp only [Bool.and_eq_true] at h
      obtain ⟨e1, bl⟩ := f.blt h.1.1.1.1
      dsimp only at e1 ⊢
      subst e1
      exact i_zip bl (ckE_ok a f x h.1.2) (ckE_ok b f y h.2) h.1.1.1.2 h.1.1.2
    · cases h
end
end Tr
set_option Elab.async false
set_option linter.all false
set_option maxRecDepth 100000
set_option maxHeartbeats 4000000
/-! TrF: the check of statements is sound; a def by its check. -/
namespace Tr
open PySem PySem.Spec PyProof.Rows L2
theorem fx_of {m : List Bool} : ∀ i, m[i]? ≠ some true → ¬ fxOf m i := fun _ h q => h q
theorem blockKind_of {env : PySem.Env} (h : env.scope.kind = .function) : env.blockKind = .function := by
  unfold Env.blockKind
  rw [h]
  rfl
theorem swapped2_of {X : Cx} {c : Cs} {ct : Str → Option Addr} {W : WX} {Φ : Tab} (f : Fits X ct W Φ c) (hk : c.sc.kind = .function) {x y : Str} {px py pt : Pos} {va vb : Expr} {kt k2 : Nat} {pt2 : Pos} (sa : notStar va = true) (sb : notStar vb = true) (h : swapped2 c x y px py va vb = true) :
    c.sc.names.lookup x = some .local ∧ c.sc.names.lookup y = some .local ∧ swappedStores [.Tuple [.Name x px, .Name y py] kt pt] (.Tuple [va, vb] k2 pt2) X.env = pure (some [x, y]) := by
  unfold swapped2 at h
  simp only [Bool.and_eq_true, decide_eq_true_eq, Bool.not_eq_true'] at h
  obtain ⟨⟨⟨⟨⟨h1, h2⟩, h3⟩, h4⟩, h5⟩, h6⟩ := h
  refine ⟨h1, h2, ?_⟩
  have k1 : X.env.kindOf x = some .local := by unfold Env.kindOf; rw [f.sc]; exact h1
  have k2 : X.env.kindOf y = some .local := by unfold Env.kindOf; rw [f.sc]; exact h2
  have bk : X.env.blockKind = .function := blockKind_of (by rw [f.sc]; exact hk)
  have n4 : (x == y) = false := by simpa using h4
  have ns : ∀ {e : Expr}, notStar e = true → (match e with | .Starred .. => true | _ => false) = false := by
    intro e he
    cases e <;> first | rfl | cases he
  have h3' : py.line = px.line := by simp only [beq_iff_eq] at h3; exact h3.symm
  unfold swappedStores
  have e5 : ([va, vb].all (foldedForSure 8)) = false := by simpa [List.all_cons] using h5
  have e6 : ([va, vb].all (constantsAlone 8)) = false := by simpa [List.all_cons] using h6
  have e7 : ([va, vb].any fun | .Starred .. => true | _ => false) = false := by
    simp only [List.any_cons, List.any_nil, Bool.or_false, Bool.or_eq_false_iff]
    exact ⟨ns sa, ns sb⟩
  have e9 : [x, y].eraseDups = [x, y] := by
    have : (y == x) = false := by simpa using fun e => h4 e.symm
    simp [List.eraseDups_cons, List.filter_cons, this]
  simp only [List.length_cons, List.length_nil, bk]
  simp only [e7, e5, e6]
  simp [List.filterMap_cons, k1, k2, h3', e9, Expr.pos]
  intro hh
  rcases hh with hh | hh
  · cases va <;> first | exact absurd hh Bool.false_ne_true | exact absurd sa Bool.false_ne_true
  · cases vb <;> first | exact absurd hh Bool.false_ne_true | exact absurd sb Bool.false_ne_true
theorem swapped3_of {X : Cx} {c : Cs} {ct : Str → Option Addr} {W : WX} {Φ : Tab} (f : Fits X ct W Φ c) (hk : c.sc.kind = .function) {x y z : Str} {px py pz pt : Pos} {va vb vc : Expr} {kt k2 : Nat} {pt2 : Pos} (sa : notStar va = true) (sb : notStar vb = true) (sc : notStar vc = true) (h : swapped3 c x y z px py pz va vb vc = true) :
    c.sc.names.lookup x = some .local ∧ c.sc.names.lookup y = some .local ∧ c.sc.names.lookup z = some .local ∧ swappedStores [.Tuple [.Name x px, .Name y py, .Name z pz] kt pt] (.Tuple [va, vb, vc] k2 pt2) X.env = pure (some [x, y, z]) := by
  unfold swapped3 at h
  simp only [Bool.and_eq_true, decide_eq_true_eq, Bool.not_eq_true'] at h
  obtain ⟨⟨⟨⟨⟨⟨⟨⟨⟨h1, h2⟩, h0⟩, h3⟩, h3b⟩, h4⟩, h4b⟩, h4c⟩, h5⟩, h6⟩ := h
  refine ⟨h1, h2, h0, ?_⟩
  have k1 : X.env.kindOf x = some .local := by unfold Env.kindOf; rw [f.sc]; exact h1
  have k2 : X.env.kindOf y = some .local := by unfold Env.kindOf; rw [f.sc]; exact h2
  have k3 : X.env.kindOf z = some .local := by unfold Env.kindOf; rw [f.sc]; exact h0
  have bk : X.env.blockKind = .function := blockKind_of (by rw [f.sc]; exact hk)
  have ns : ∀ {e : Expr}, notStar e = true → (match e with | .Starred .. => true | _ => false) = false := by
    intro e he
    cases e <;> first | rfl | cases he
  have h3' : py.line = px.line := by simp only [beq_iff_eq] at h3; exact h3.symm
  have h3'' : pz.line = px.line := by simp only [beq_iff_eq] at h3b; exact h3b.symm
  unfold swappedStores
  have e5 : ([va, vb, vc].all (foldedForSure 8)) = false := by simpa [List.all_cons, Bool.and_assoc] using h5
  have e6 : ([va, vb, vc].all (constantsAlone 8)) = false := by simpa [List.all_cons, Bool.and_assoc] using h6
  have e7 : ([va, vb, vc].any fun | .Starred .. => true | _ => false) = false := by
    simp only [List.any_cons, List.any_nil, Bool.or_false, Bool.or_eq_false_iff]
    exact ⟨ns sa, ns sb, ns sc⟩
  have e9 : [x, y, z].eraseDups = [x, y, z] := by
    have a1 : (y == x) = false := by simpa using fun e => h4 e.symm
    have a2 : (z == x) = false := by simpa using fun e => h4b e.symm
    have a3 : (z == y) = false := by simpa using fun e => h4c e.symm
    simp [List.eraseDups_cons, List.filter_cons, a1, a2, a3]
  simp only [List.length_cons, List.length_nil, bk]
  simp only [e7, e5, e6]
  simp [List.filterMap_cons, k1, k2, k3, h3', h3'', e9, Expr.pos]
  intro hh
  rcases hh with hh | hh | hh
  · cases va <;> first | exact absurd hh Bool.false_ne_true | exact absurd sa Bool.false_ne_true
  · cases vb <;> first | exact absurd hh Bool.false_ne_true | exact absurd sb Bool.false_ne_true
  · cases vc <;> first | exact absurd hh Bool.false_ne_true | exact absurd sc Bool.false_ne_true
theorem swapC_of {X : Cx} {c : Cs} {ct : Str → Option Addr} {W : WX} {Φ : Tab} (f : Fits X ct W Φ c) (hk : c.sc.kind = .function) {x : Str} {p : Pos} {l : Nat} (v : VC) : swapsWith (.ListComp v.elt [⟨v.tg, v.iter, v.ifs, 0⟩] v.scope v.pos) (some (.Name x p)) l X.env = pure (swapC c x p v) := by
  have bk : X.env.blockKind = .function := blockKind_of (by rw [f.sc]; exact hk)
  have k1 : X.env.kindOf x = c.sc.names.lookup x := by unfold Env.kindOf; rw [f.sc]
  unfold swapsWith swapC
  rw [hk]
  simp only [bk, k1]
  have e1 : (c.sc.names.lookup x == some NameKind.local) = decide (c.sc.names.lookup x = some NameKind.local) := by
    by_cases h : c.sc.names.lookup x = some NameKind.local
    · rw [h]; rfl
    · rw [decide_eq_false h]
      simpa using h
  rw [e1]
  rfl
section
variable {X : Cx} {ct : Str → Option Addr} {W : WX} {Φ : Tab} {c : Cs}
structure FitS (X : Cx) (ct : Str → Option Addr) (W : WX) (Φ : Tab) (c : Cs) : Prop extends Fits X ct W Φ c where
  po : PassesOwn (model X.prog X.w) X.A X.env X.xe
  kd : c.sc.kind = .function
  stk : X.stack = X.env :: X.outer
  frm : X.env.frame = some X.env.locals
theorem ckHa_ok {X : Cx} {c : Cs} (f : FitH X c) {h : Ha} {e : Expr} (k : ckHa c h e = true) : PE X e h.t := by
  cases h with
  | int m =>
    simp only [ckHa] at k
    split at k
    · rename_i j hj
      obtain ⟨q, p, rfl⟩ := vConst_eq hj
      have := of_decide_eq_true k
      subst this
      exact pe_int
    · cases k
  | v j => exact (f.isV k).1
theorem ckKc_ok (f : Fits X ct W Φ c) {a : Addr} {oe : Obj} {cls : Value} {d : Option Addr} {pn : List (Addr × Obj)} {i : Nat} {rows : List (Str × List Bool)} {h : Ha} {e : Expr} (hz : L2N.Zn cls d oe) (hf : ∃ vs, oe.data = .fields vs) (k : ckKc c i rows h e = true) :
    PE (X.suite a ((a, oe) :: pn)) e (fun σ H Q => ∃ y C m b, ct y = some C ∧ cls = .ref C ∧ DOk d H ∧ σ[i]? = some (some (.ref a)) ∧ h.at σ m ∧ hvOf rows y m = some b ∧ ∀ H', Same H H' → Q (.bl b) H') := by
  unfold ckKc at k
  split at k
  · rename_i g n ae g' rows' hx hk
    obtain ⟨q1, q4, rfl⟩ := vCall_eq hx
    simp only [Bool.and_eq_true, decide_eq_true_eq] at k
    obtain ⟨⟨⟨⟨⟨rfl, rfl⟩, k1⟩, k2⟩, k3⟩, k4⟩ := k
    obtain ⟨kk, f', fd, ps, F, hr, hm, hkp, hb⟩ := f.isk _ _ hk
    obtain ⟨x, p, rfl⟩ := isV_name k2
    have S := f.suite a ((a, oe) :: pn)
    exact pe_kind hz hf F f.gds hr (f.gl k1).1 hm hkp hb (f.gl k1).2 (S.isV k2).1 (ckHa_ok S k3) k4
  · cases k
theorem ckStrEq_ok (f : Fits X ct W Φ c) {a : Addr} {pn : List (Addr × Obj)} {j l : Nat} {e : Expr} (k : ckStrEq c j l e = true) : PE (X.suite a pn) e (tE X.K ct WF (strEq j l)) := by
  unfold ckStrEq at k
  split at k
  · rename_i x y hx
    obtain ⟨p, rfl⟩ := vCmp_eq hx
    simp only [Bool.and_eq_true, Bool.not_eq_true'] at k
    obtain ⟨⟨k1, k2⟩, k3⟩ := k
    split at k3
    · rename_i g b hy
      obtain ⟨q1, q2, rfl⟩ := vCall_eq hy
      simp only [Bool.and_eq_true] at k3
      have S := f.suite a pn
      obtain ⟨e1, bl⟩ := S.blt k3.1.1
      dsimp only at e1 ⊢
      subst e1
      exact e_cmp (X := X.suite a pn) f.hu .eq (e_strN (X := X.suite a pn) f.gds f.hu f.sys bl (e_v (S.isV k3.2).1) k3.1.2) (e_v (S.isV k2).1) k1
    · cases k3
  · cases k
theorem ckHd_ok (f : Fits X ct W Φ c) {ok : Str → Bool} {a : Addr} {oe : Obj} {cls : Value} {d : Option Addr} {pn : List (Addr × Obj)} {i : Nat} {rows : List (Str × List Bool)} {h : Hd} {s : Stmt} (hz : L2N.Zn cls d oe) (hf : ∃ vs, oe.data = .fields vs) (k : ckHd c i rows h s = true) :
    PSs (X.suite a ((a, oe) :: pn)) [s] (tHd X.K ct ok (h.sem (hvOf rows)) i a cls d) := by
  unfold ckHd at k
  split at k
  · rename_i e hx
    obtain ⟨p, rfl⟩ := vRet_eq hx
    cases h with
    | kind h => exact suite_kind (ckKc_ok f hz hf k)
    | kindS h j l =>
      dsimp only at k
      split at k
      · rename_i x y _ hy
        have e0 := vBool_eq hy
        dsimp only at e0
        subst e0
        rw [Bool.and_eq_true] at k
        exact suite_kindS (ckKc_ok f hz hf k.1) (ckStrEq_ok f k.2)
      · cases k
  · cases k
mutual
theorem ckS_ok {Φ : Tab} {ct : Str → Option Addr} {c : Cs} {m : List Bool} : ∀ (s : S) {X : Cx} {W : WX} (f : FitS X ct W Φ c) (st : Stmt), ckS c m s st = true → PS X st (tS X.K ct W (fxOf m) (s.sem Φ))
  | .set i g, X, W, f, st, h => by
    simp only [ckS] at h
    split at h
    · rename_i t e ps hx
      have e0 := vAssign_eq hx
      subst e0
      split at h
      · rename_i v hv
        have e1 := vNm_eq hv
        dsimp only at e1 ⊢
        subst e1
        simp only [Bool.and_eq_true, decide_eq_true_eq] at h
        obtain ⟨⟨⟨h1, h2⟩, h3⟩, h4⟩ := h
        obtain ⟨a1, a2, a3⟩ := f.toFits.st h1
        split at h4
        · exact s_set (by rw [f.N]; exact f.nd) a1 a2 (ckF_ok g f.toFits e h3) (swaps_of (by simpa using h4)) a3 (fx_of i h2)
        · rename_i w hw
          have e2 := vComp_eq hw
          subst e2
          cases hs : swapC c v.x v.p w with
          | false => exact s_set (by rw [f.N]; exact f.nd) a1 a2 (ckF_ok g f.toFits _ h3) (by rw [swapC_of f.toFits f.kd, hs]) a3 (fx_of i h2)
          | true =>
            rw [hs] at h4
            cases g with
            | comp t it cs el own =>
              simp only [ckF] at h3
              rw [hw] at h3
              dsimp only at h3
              simp only [Bool.and_eq_true, Bool.not_eq_true'] at h3
              obtain ⟨⟨⟨⟨⟨⟨g1, g2⟩, g3⟩, g4⟩, g5⟩, g6⟩, g7⟩ := h3
              have hl : c.sc.names.lookup v.x = some .local := by
                unfold swapC at hs
                simp only [Bool.and_eq_true, decide_eq_true_eq] at hs
                exact hs.1.1.2
              have F := f.toFits
              have q := s_setLc (W := W) (ct := ct) (pos := w.pos) (spos := ps) (py := v.p) (fx := fxOf m) F.calm (by rw [F.N]; exact F.nd) a1 (by rw [F.sc]; exact hl) (by rw [swapC_of F f.kd, hs]) (ckI_ok it F _ _ g1) (by rw [F.N, F.sc]; exact blkOk_by g2)
                (fun s H C cl fp => ckTg_ok (F.blk w.scope s H C cl fp) fx_none _ _ g3) (fun s H C cl fp => ckTs_ok cs (F.blk w.scope s H C cl fp) _ g4) (fun s H C cl fp => ckF_ok el (F.blk w.scope s H C cl fp) _ g5)
                (by rw [own_map]; intro i hi; have := List.all_eq_true.mp g6 i hi; simpa using this) (folded_of g7) (fx_of i h2)
              rw [own_map] at q
              exact q
            | _ => simp [isCompF] at h4
      · cases h
    · cases h
  | .unpack is a, X, W, f, st, h => by
    simp only [ckS] at h
    split at h
    · rename_i t e ps hx
      have e0 := vAssign_eq hx
      subst e0
      split at h
      · rename_i ns hv
        obtain ⟨k, p, e1⟩ := vTup_eq hv
        dsimp only at e1 ⊢
        subst e1
        simp only [Bool.and_eq_true] at h
        exact s_unpack f.calm (by rw [f.N]; exact f.nd) (ckNs_ok f.toFits fx_of is ns h.1.1) (ckE_ok a f.toFits e h.2) (swapped_of h.1.2)
      · cases h
    · cases h
  | .par i j a b, X, W, f, st, h => by
    simp only [ckS] at h
    split at h
    · rename_i t e ps hx
      have e0 := vAssign_eq hx
      subst e0
      split at h
      · rename_i n1 n2 va vb ht he
        obtain ⟨k, p, e1⟩ := vTup_eq ht
        obtain ⟨k2, p2, e2⟩ := vTup_eq he
        dsimp only at e1 e2 ⊢
        subst e1
        subst e2
        split at h
        · rename_i x y hn1 hn2
          have e3 := vNm_eq hn1
          have e4 := vNm_eq hn2
          subst e3
          subst e4
          simp only [Bool.and_eq_true, decide_eq_true_eq] at h
          obtain ⟨⟨⟨⟨⟨⟨⟨⟨⟨h1, h2⟩, h3⟩, h4⟩, h5⟩, h6⟩, h7⟩, h8⟩, h9⟩, h10⟩ := h
          obtain ⟨a1, _, _⟩ := f.toFits.st h1
          obtain ⟨b1, _, _⟩ := f.toFits.st h2
          obtain ⟨l1, l2, l3⟩ := swapped2_of (pt := p) (kt := k) (k2 := k2) (pt2 := p2) f.toFits f.kd h6 h7 h8
          exact s_par f.calm (by rw [f.N]; exact f.nd) a1 b1 h3 (by rw [f.sc]; exact l1) (by rw [f.sc]; exact l2) (ckE_ok a f.toFits va h9) (ckE_ok b f.toFits vb h10) h6 h7 l3 (fx_of i h4) (fx_of j h5)
        · cases h
      · cases h
    · cases h
  | .store s i g, X, W, f, st, h => by
    simp only [ckS] at h
    split at h
    · rename_i t e ps hx
      have e0 := vAssign_eq hx
      subst e0
      split at h
      · rename_i a k hv
        obtain ⟨p, e1⟩ := vSub_eq hv
        dsimp only at e1 ⊢
        subst e1
        simp only [Bool.and_eq_true] at h
        exact s_store (f.toFits.isV h.1.1.2) (ckE_ok i f.toFits k h.1.2) (ckF_ok g f.toFits e h.2) h.1.1.1
      · cases h
    · cases h
  | .storeP p q g, X, W, f, st, h => by
    simp only [ckS] at h
    split at h
    · rename_i t e ps hx
      have e0 := vAssign_eq hx
      subst e0
      split at h
      · rename_i a k hv
        obtain ⟨p', e1⟩ := vSub_eq hv
        dsimp only at e1 ⊢
        subst e1
        simp only [Bool.and_eq_true] at h
        exact s_storeP (ckP_ok f.toFits p a h.1.1.2).2 (ckQ_ok f.toFits q k h.1.2) (ckF_ok g f.toFits e h.2) h.1.1.1
      · cases h
    · cases h
  | .par3 i j l a b d, X, W, f, st, h => by
    simp only [ckS] at h
    split at h
    · rename_i t e ps hx
      have e0 := vAssign_eq hx
      subst e0
      split at h
      · rename_i n1 n2 n3 va vb vd ht he
        obtain ⟨k, p, e1⟩ := vTup_eq ht
        obtain ⟨k2, p2, e2⟩ := vTup_eq he
        dsimp only at e1 e2 ⊢
        subst e1
        subst e2
        split at h
        · rename_i x y z hn1 hn2 hn3
          have e3 := vNm_eq hn1
          have e4 := vNm_eq hn2
          have e5 := vNm_eq hn3
          subst e3
          subst e4
          subst e5
          simp only [Bool.and_eq_true, decide_eq_true_eq] at h
          obtain ⟨⟨⟨⟨⟨⟨⟨⟨⟨⟨⟨⟨⟨⟨⟨h1, h2⟩, h3⟩, d1⟩, d2⟩, d3⟩, m1⟩, m2⟩, m3⟩, s1⟩, s2⟩, s3⟩, sw⟩, c1⟩, c2⟩, c3⟩ := h
          obtain ⟨a1, _, _⟩ := f.toFits.st h1
          obtain ⟨b1, _, _⟩ := f.toFits.st h2
          obtain ⟨b2, _, _⟩ := f.toFits.st h3
          obtain ⟨l1, l2, l3, l4⟩ := swapped3_of (pt := p) (kt := k) (k2 := k2) (pt2 := p2) f.toFits f.kd s1 s2 s3 sw
          exact s_par3 f.calm (by rw [f.N]; exact f.nd) a1 b1 b2 d1 d2 d3 (by rw [f.sc]; exact l1) (by rw [f.sc]; exact l2) (by rw [f.sc]; exact l3) (ckE_ok a f.toFits va c1) (ckE_ok b f.toFits vb c2) (ckE_ok d f.toFits vd c3) s1 s2 s3 l4 (fx_of i m1) (fx_of j m2) (fx_of l m3)
        · cases h
      · cases h
    · cases h
  | .insert s i g, X, W, f, st, h => by
    simp only [ckS] at h
    split at h
    · rename_i e hx
      obtain ⟨ps, rfl⟩ := vExprS_eq hx
      split at h
      · rename_i o x k a hm
        obtain ⟨p, q, rfl, hl⟩ := vMeth_eq hm
        simp only [Bool.and_eq_true, decide_eq_true_eq] at h
        obtain ⟨⟨⟨⟨⟨e1, h1⟩, h2⟩, h3⟩, h4⟩, h5⟩ := h
        dsimp only at e1 hl ⊢
        subst e1
        obtain ⟨y, p2, rfl⟩ := isV_name h1
        exact s_insert (f.toFits.isV h1) (ckE_ok i f.toFits k h4) (ckE_ok g f.toFits a h5) attr_of hl h2 h3
      · cases h
    · cases h
  | .append s g, X, W, f, st, h => by
    simp only [ckS] at h
    split at h
    · rename_i e hx
      obtain ⟨ps, rfl⟩ := vExprS_eq hx
      split at h
      · rename_i o x a hm
        obtain ⟨p, q, rfl, hl⟩ := vMeth_eq hm
        simp only [Bool.and_eq_true, decide_eq_true_eq] at h
        obtain ⟨⟨⟨e1, h1⟩, h2⟩, h3⟩ := h
        dsimp only at e1 hl ⊢
        subst e1
        obtain ⟨y, p2, rfl⟩ := isV_name h1
        exact s_append (f.toFits.isV h1) (ckF_ok g f.toFits a h3) attr_of hl h2
      · cases h
    · cases h
  | .extend s g, X, W, f, st, h => by
    simp only [ckS] at h
    split at h
    · rename_i e hx
      obtain ⟨ps, rfl⟩ := vExprS_eq hx
      split at h
      · rename_i o x a hm
        obtain ⟨p, q, rfl, hl⟩ := vMeth_eq hm
        simp only [Bool.and_eq_true, decide_eq_true_eq] at h
        obtain ⟨⟨⟨e1, h1⟩, h2⟩, h3⟩ := h
        dsimp only at e1 hl ⊢
        subst e1
        obtain ⟨y, p2, rfl⟩ := isV_name h1
        exact s_extend (f.toFits.isV h1) (ckE_ok g f.toFits a h3) attr_of hl h2
      · cases h
    · cases h
  | .reverse s, X, W, f, st, h => by
    simp only [ckS] at h
    split at h
    · rename_i e hx
      obtain ⟨ps, rfl⟩ := vExprS_eq hx
      split at h
      · rename_i o x hm
        obtain ⟨p, q, rfl, hl⟩ := vMeth_eq hm
        simp only [Bool.and_eq_true, decide_eq_true_eq] at h
        obtain ⟨e1, h1⟩ := h
        dsimp only at e1 hl ⊢
        subst e1
        obtain ⟨y, p2, rfl⟩ := isV_name h1
        exact s_reverse (f.toFits.isV h1) attr_of hl
      · cases h
    · cases h
  | .expr g, X, W, f, st, h => by
    simp only [ckS] at h
    split at h
    · rename_i e hx
      obtain ⟨ps, rfl⟩ := vExprS_eq hx
      simp only [Bool.and_eq_true, Bool.not_eq_true'] at h
      exact s_expr (ckF_ok g f.toFits e h.2) (swaps_of h.1)
    · cases h
  | .aug i a, X, W, f, st, h => by
    simp only [ckS] at h
    split at h
    · rename_i t e hx
      obtain ⟨ps, e0⟩ := vAug_eq hx
      dsimp only at e0
      subst e0
      split at h
      · rename_i x hv
        obtain ⟨p, rfl⟩ := vName_eq hv
        simp only [Bool.and_eq_true, decide_eq_true_eq] at h
        obtain ⟨⟨h1, h2⟩, h3⟩ := h
        obtain ⟨a1, a2, a3⟩ := f.toFits.st h1
        exact s_aug (by rw [f.N]; exact f.nd) a1 a2 (ckE_ok a f.toFits e h3) a3 (fx_of i h2)
      · cases h
    · cases h
  | .ite t a b, X, W, f, st, h => by
    simp only [ckS] at h
    split at h
    · rename_i x y z hx
      obtain ⟨ps, e0⟩ := vIfS_eq hx
      dsimp only at e0
      subst e0
      simp only [Bool.and_eq_true] at h
      exact s_if (ckT_ok t f.toFits x h.1.1).1 (ckSs_ok a f y h.1.2) (ckSs_ok b f z h.2)
    · cases h
  | .loop t it b, X, W, f, st, h => by
    simp only [ckS] at h
    split at h
    · rename_i g e l hx
      obtain ⟨ps, e0⟩ := vFor_eq hx
      dsimp only at e0
      subst e0
      simp only [Bool.and_eq_true, Bool.not_eq_true'] at h
      exact s_for f.po f.calm (by rw [f.N]; exact f.nd) (ckI_ok it f.toFits _ _ h.1.1.2) (ckTg_ok f.toFits fx_of t g h.1.1.1) (ckSs_ok b f l h.1.2) (folded_of h.2)
    · cases h
  | .whl t b, X, W, f, st, h => by
    simp only [ckS] at h
    split at h
    · rename_i x l hx
      obtain ⟨ps, e0⟩ := vWhile_eq hx
      dsimp only at e0
      subst e0
      simp only [Bool.and_eq_true] at h
      exact s_while f.po (ckT_ok t f.toFits x h.1).1 (ckSs_ok b f l h.2)
    · cases h
  | .ret g, X, W, f, st, h => by
    simp only [ckS] at h
    split at h
    · rename_i e hx
      obtain ⟨ps, rfl⟩ := vRet_eq hx
      exact s_ret (ckF_ok g f.toFits e h)
    · cases h
  | .retN, X, W, f, st, h => by
    simp only [ckS] at h
    split at h
    · rename_i hx
      obtain ⟨ps, rfl⟩ := vRet_eq hx
      exact s_retN
    · cases h
  | .pass, X, W, f, st, h => by
    simp only [ckS] at h
    split at h
    · exact s_pass
    · cases h
  | .brk, X, W, f, st, h => by
    simp only [ckS] at h
    split at h
    · exact s_brk
    · cases h
  | .ct, X, W, f, st, h => by
    simp only [ckS] at h
    split at h
    · exact s_ct
    · cases h
  | .never, X, W, f, st, h => s_never
  | .raise x z, X, W, f, st, h => by
    simp only [ckS] at h
    split at h
    · rename_i y t hx
      obtain ⟨p1, j, p2, p3, p4, rfl⟩ := vRaise_eq hx
      simp only [Bool.and_eq_true, decide_eq_true_eq] at h
      obtain ⟨⟨⟨rfl, rfl⟩, h1⟩, h2⟩ := h
      exact s_raise f.calm f.tk (f.excs _ h2) (f.gl h1).1 (f.gl h1).2
    · cases h
  | .tri b i rows hd, X, W, f, st, h => by
    simp only [ckS] at h
    split at h
    · rename_i v hv
      obtain ⟨p1, p2, p3, rfl⟩ := vTry_eq hv
      simp only [Bool.and_eq_true, decide_eq_true_eq] at h
      obtain ⟨⟨⟨⟨⟨⟨h1, h2⟩, h3⟩, h4⟩, h5⟩, h6⟩, h7⟩ := h
      have hisk : ∃ g, c.xs.isk = some (g, rows) := by
        have : ∀ (a : Ha) (e : Expr), ckKc c i rows a e = true → ∃ g, c.xs.isk = some (g, rows) := fun a e q => by
          unfold ckKc at q
          split at q
          · rename_i g' rows' _ hk
            simp only [Bool.and_eq_true, decide_eq_true_eq] at q
            obtain ⟨⟨⟨⟨⟨_, rfl⟩, _⟩, _⟩, _⟩, _⟩ := q
            exact ⟨_, hk⟩
          · cases q
        unfold ckHd at h7
        split at h7
        · cases hd with
          | kind a => exact this _ _ h7
          | kindS a k l =>
            dsimp only at h7
            split at h7
            · rw [Bool.and_eq_true] at h7
              exact this _ _ h7.1
            · cases h7
        · cases h7
      obtain ⟨g, hg⟩ := hisk
      obtain ⟨C, hC, hex⟩ := f.bas g rows hg
      have hi : X.N[i]? = some v.n := by rw [f.N]; exact h3
      have hl : X.env.kindOf v.n = some .local := by unfold Env.kindOf; rw [f.sc]; exact h4
      rw [← h1] at hC
      exact s_try f.stk f.frm (by rw [f.N]; exact f.nd) hi hl ⟨(f.gl h2).1, (f.gl h2).2, .inl hC⟩ f.tk (fx_of i h5) hex
        (fun W' pn xe tk po => ckSs_ok b (X := X.tr pn xe) ⟨f.toFits.tr tk, po, f.kd, f.stk, f.frm⟩ v.body h6)
        fun a oe cls d pn hz hf => ckHd_ok f.toFits hz hf h7
    · cases h
theorem ckSs_ok {Φ : Tab} {ct : Str → Option Addr} {c : Cs} {m : List Bool} : ∀ (s : Ss) {X : Cx} {W : WX} (f : FitS X ct W Φ c) (st : List Stmt), ckSs c m s st = true → PSs X st (tS X.K ct W (fxOf m) (s.sem Φ))
  | .nil, X, W, f, [], h => ss_nil
  | .nil, X, W, f, _ :: _, h => by simp [ckSs] at h
  | .cons _ _, X, W, f, [], h => by simp [ckSs] at h
  | .cons a as, X, W, f, x :: xs, h => by
    simp only [ckSs, Bool.and_eq_true] at h
    exact ss_cons (ckS_ok a f x h.1) (ckSs_ok as f xs h.2)
end
end
end Tr
set_option Elab.async false
set_option linter.all false
set_option maxRecDepth 100000
set_option maxHeartbeats 4000000
/-! TrX8: the two defs that tell what kind of error it is: their texts, checked. -/
namespace Tr
open PySem PySem.Spec PyProof.Rows L2
/-- isinstance(e, x), e the first parameter -/
def vIs (c : Cs) (e : Expr) : Option Str := match vCall e with
  | some (g, [a, b]) => match vName b with
    | some x => if c.blt "isinstance" g && c.isV 0 a then some x else none
    | none => none
  | _ => none
theorem vIs_eq {c : Cs} {e : Expr} {x : Str} (h : vIs c e = some x) : ∃ q a p pos, e = .Call (.Name "isinstance" q) [a, .Name x p] [] pos ∧ c.blt "isinstance" "isinstance" = true ∧ c.isV 0 a = true := by
  unfold vIs at h
  split at h
  · rename_i g a b hx
    obtain ⟨q, pos, rfl⟩ := vCall_eq hx
    split at h
    · rename_i y hy
      obtain ⟨p, rfl⟩ := vName_eq hy
      split at h
      · rename_i hc
        cases h
        rw [Bool.and_eq_true] at hc
        have e1 : g = "isinstance" := by
          have h1 := hc.1
          unfold Cs.blt at h1
          simp only [Bool.and_eq_true, decide_eq_true_eq] at h1
          exact h1.1.1
        subst e1
        exact ⟨q, a, p, pos, rfl, hc.1, hc.2⟩
      · cases h
    · cases h
  · cases h
/-- what is known of the classes: st the class of all, cs the nine, rows: for each class that is raised, of which it is -/
structure KdF (K : PySem.W.Frag) (mg : Str → Option Value) (ct : Str → Option Addr) (st : Str) (cs : List Str) (rows : List (Str × List Bool)) : Prop where
  cls : ∀ x ∈ st :: cs, ∃ C, mg x = some (.ref C)
  exc : ∀ y bs, rows.lookup y = some bs → bs.length = cs.length ∧ bs.length ≤ 20 ∧ ∀ D, ct y = some D → ExcC K D ∧ PySem.W.kitOne K (.ref D) (.type "ValueError") = some true ∧ (∀ C, mg st = some (.ref C) → PySem.W.kitOne K (.ref D) (.ref C) = some true) ∧
    ∀ (k : Nat) x b C, cs[k]? = some x → bs[k]? = some b → mg x = some (.ref C) → PySem.W.kitOne K (.ref D) (.ref C) = some b
section
variable {X : Cx} {c : Cs} {a D : Addr} {oe : Obj} {d : Option Addr}
theorem isx_of (f : FitH X c) (hp : (a, oe) ∈ X.pn) (C : L2.ExcC X.K D) (hz : L2.Zc (.ref D) d oe) (hf : ∃ vs, oe.data = .fields vs) {e : Expr} {x : Str} {b : Bool} {Cx : Addr} (h : vIs c e = some x) (hg : c.gl x = true) (hm : X.mg x = some (.ref Cx)) (hk : PySem.W.kitOne X.K (.ref D) (.ref Cx) = some b) :
    PE X e (fun σ H Q => EAt 0 a d σ H ∧ Q (.bl b) H) ∧ notStar e = true ∧ plainT e = true := by
  obtain ⟨q, y, p, pos, rfl, h1, h2⟩ := vIs_eq h
  obtain ⟨_, bl⟩ := f.blt h1
  obtain ⟨he, s1⟩ := f.isV h2
  exact ⟨e_isP (c := .ref Cx) (cv := .ref Cx) bl hp C hz hf he (pe_glob (f.gl hg).1 hm rfl (f.gl hg).2) (fun u r => r) hk s1 rfl, rfl, rfl⟩
theorem isrow_of (f : FitH X c) (hp : (a, oe) ∈ X.pn) (C : L2.ExcC X.K D) (hz : L2.Zc (.ref D) d oe) (hf : ∃ vs, oe.data = .fields vs) : ∀ (es : List Expr) (xs : List Str) (bs : List Bool), es.map (vIs c) = xs.map some → xs.length = bs.length → (∀ x ∈ xs, c.gl x = true) →
      (∀ (k : Nat) x b, xs[k]? = some x → bs[k]? = some b → ∃ Cx, X.mg x = some (.ref Cx) ∧ PySem.W.kitOne X.K (.ref D) (.ref Cx) = some b) → IsRow X 0 a d es bs
  | [], [], [], _, _, _, _ => isr_nil
  | [], [], _ :: _, _, h, _, _ => by cases h
  | [], _ :: _, _, h, _, _, _ => by cases h
  | _ :: _, [], _, h, _, _, _ => by cases h
  | _ :: _, _ :: _, [], _, h, _, _ => by cases h
  | e :: es, x :: xs, b :: bs, h, hl, hg, hk => by
    simp only [List.map_cons, List.cons.injEq] at h
    obtain ⟨Cx, h1, h2⟩ := hk 0 x b rfl rfl
    obtain ⟨p1, p2, _⟩ := isx_of f hp C hz hf h.1 (hg x List.mem_cons_self) h1 h2
    exact isr_cons p1 (isrow_of f hp C hz hf es xs bs h.2 (by simpa using hl) (fun y hy => hg y (List.mem_cons_of_mem _ hy)) fun k x b q1 q2 => hk (k + 1) x b (by simpa using q1) (by simpa using q2)) p2
end
theorem take_get {α : Type} {l : List α} {n k : Nat} {x : α} (h : (l.take n)[k]? = some x) : l[k]? = some x := by
  rw [List.getElem?_take] at h
  split at h
  · exact h
  · cases h
/-- the text of the def that tells the kinds -/
def ckKinds (c : Cs) (cs : List Str) (b : List Stmt) : Bool := match b with
  | [.Assign [.Name f1 _] (.List es1 _) _, .Assign [.Name f2 _] (.BinOp (.Name f3 _) .Add (.List es2 _) _) _, .Return (some (.BinOp (.Name f4 _) .Add (.List es3 _) _)) _] =>
    decide (f2 = f1) && decide (f3 = f1) && decide (f4 = f1) && decide (c.N[1]? = some f1) && decide (c.sc.names.lookup f1 = some .local) && okName f1 && decide ((es1 ++ es2 ++ es3).map (vIs c) = cs.map some) && cs.all c.gl && decide (cs.length ≤ 20)
  | _ => false
def spK (ct : Str → Option Addr) (rows : List (Str × List Bool)) : Addr × Obj → Sp := fun p vs H Q _ => ∃ y C bs d, ct y = some C ∧ rows.lookup y = some bs ∧ vs = [.ref p.1] ∧ L2.Zc (.ref C) d p.2 ∧ DOk d H ∧ (∃ u, p.2.data = .fields u) ∧ ∀ H' z, Same H H' → H' z = some (.lst (bs.map V.bl)) → Q (.ref z) H'
section
variable {CX : CXT} {P : Program} {w : World} {K : PySem.W.Frag} {mg : Str → Option Value} {base : Heap} {ct : Str → Option Addr} {st : Str} {cs : List Str} {rows : List (Str × List Bool)} {blts : List Str} {x qual p0 : Str} {params : Arguments} {body : List Stmt} {scope : Scope} {f : Addr} {fd : FuncData} {N : List Str} {k : Nat}
theorem fitH_cxH (S : FnScope N ps scope) (hb : ∀ x ∈ blts, mg x = none) {cdv : Value} {A : Around} {outer : List PySem.Env} {s : Shared} {H : Hp} {E : XK} {p : Addr × Obj} (hr : L2H.RoomH k (A.deeper (envOfC qual scope s.heap.objs.size f cdv))) :
    FitH (L2H.cxH CX P w K mg base N qual scope f cdv A outer s H E p) ⟨N, scope, none, [], [], blts, {}⟩ := by
  refine ⟨rfl, S.nd, rfl, ?_, fun x _ => rfl, hb⟩
  have := hr.un
  show (A.deeper (envOfC qual scope s.heap.objs.size f cdv)).units + 65 < cLine
  omega
theorem kinds_fnP (F : FunD K x qual params body scope [] [] f fd) (S : FnScope N [p0] scope) (hb : ∀ x ∈ blts, mg x = none) (KF : KdF K mg ct st cs rows) (ok : ckKinds ⟨N, scope, none, [], [], blts, {}⟩ cs body = true) : FnP P w K mg base CX (k + 1) f fd [p0] (spK ct rows) := by
  refine FunD.okP F S (fun p vs H Q E h => ?_) fun cdv A outer s H vs Q E p g hot hr hsp => ?_
  · obtain ⟨y, C, bs, _, _, _, rfl, _⟩ := h
    rfl
  obtain ⟨y, C, bs, d, e1, e2, rfl, hz, dk, hf, q⟩ := hsp
  have fit := fitH_cxH (CX := CX) (P := P) (w := w) (K := K) (base := base) (f := f) (qual := qual) (cdv := cdv) (A := A) (outer := outer) (s := s) (H := H) (E := E) (p := p) S hb hr
  obtain ⟨hl, hl2, ex⟩ := KF.exc y bs e2
  obtain ⟨xc, _, _, kit⟩ := ex C e1
  unfold ckKinds at ok
  split at ok
  · rename_i f1 _ es1 _ _ f2 _ f3 _ es2 _ _ _ f4 _ es3 _ _ _
    simp only [Bool.and_eq_true, decide_eq_true_eq, List.all_eq_true] at ok
    obtain ⟨⟨⟨⟨⟨⟨⟨⟨rfl, rfl⟩, rfl⟩, k1⟩, k2⟩, k3⟩, k4⟩, k5⟩, k6⟩ := ok
    have el : es1.length + es2.length + es3.length = cs.length := by
      have := congrArg List.length k4
      simp only [List.length_map, List.length_append] at this
      omega
    rw [List.map_append, List.map_append] at k4
    have c1 : es1.map (vIs ⟨N, scope, none, [], [], blts, {}⟩) = (cs.take es1.length).map some := by
      have := congrArg (List.take es1.length) k4
      rw [List.append_assoc, List.take_left' (by simp), ← List.map_take] at this
      exact this
    have c23 : es2.map (vIs ⟨N, scope, none, [], [], blts, {}⟩) ++ es3.map (vIs ⟨N, scope, none, [], [], blts, {}⟩) = (cs.drop es1.length).map some := by
      have := congrArg (List.drop es1.length) k4
      rw [List.append_assoc, List.drop_left' (by simp), ← List.map_drop] at this
      exact this
    have c2 : es2.map (vIs ⟨N, scope, none, [], [], blts, {}⟩) = ((cs.drop es1.length).take es2.length).map some := by
      have := congrArg (List.take es2.length) c23
      rw [List.take_left' (by simp), ← List.map_take] at this
      exact this
    have c3 : es3.map (vIs ⟨N, scope, none, [], [], blts, {}⟩) = ((cs.drop es1.length).drop es2.length).map some := by
      have := congrArg (List.drop es2.length) c23
      rw [List.drop_left' (by simp), ← List.map_drop] at this
      exact this
    have fact : ∀ (k : Nat) x b, cs[k]? = some x → bs[k]? = some b → ∃ Cx, mg x = some (.ref Cx) ∧ PySem.W.kitOne K (.ref C) (.ref Cx) = some b := fun k x b q1 q2 => by
      obtain ⟨Cx, hm⟩ := KF.cls x (List.mem_cons_of_mem _ (List.mem_of_getElem? q1))
      exact ⟨Cx, hm, kit k x b Cx q1 q2 hm⟩
    have hp : (p.1, p.2) ∈ (L2H.cxH CX P w K mg base N qual scope f cdv A outer s H E p).pn := List.mem_singleton.mpr rfl
    have r1 := isrow_of fit hp xc hz hf es1 _ (bs.take es1.length) c1 (by simp only [List.length_take]; omega) (fun x hx => k5 x (List.mem_of_mem_take hx)) fun k x b q1 q2 => fact k x b (take_get q1) (take_get q2)
    have r2 := isrow_of fit hp xc hz hf es2 _ ((bs.drop es1.length).take es2.length) c2 (by simp only [List.length_take, List.length_drop]; omega) (fun x hx => k5 x (List.mem_of_mem_drop (List.mem_of_mem_take hx))) fun k x b q1 q2 => by
      have q1 := take_get q1
      have q2 := take_get q2
      rw [List.getElem?_drop] at q1 q2
      exact fact _ x b q1 q2
    have r3 := isrow_of fit hp xc hz hf es3 _ ((bs.drop es1.length).drop es2.length) c3 (by simp only [List.length_drop]; omega) (fun x hx => k5 x (List.mem_of_mem_drop (List.mem_of_mem_drop hx))) fun k x b q1 q2 => by
      rw [List.getElem?_drop, List.getElem?_drop] at q1 q2
      exact fact _ x b q1 q2
    have hi : N[1]? = some _ := k1
    refine ⟨_, kinds_body r1 r2 r3 (by simp only [List.length_take]; omega) (by simp only [List.length_take]; omega) (by simp only [List.length_drop]; omega) S.nd hi k2 (okName_d k3).1 (okName_d k3).2, ?_⟩
    have hN : 1 < N.length := (List.getElem?_eq_some_iff.mp hi).1
    refine ⟨by unfold L2.start; show _ = N.length; simp only [List.length_append, List.length_map, List.length_replicate, List.length_cons, List.length_nil]; omega, ⟨start_get rfl, dk⟩, fun H' z sm hz' => q H' z sm ?_⟩
    rw [List.append_assoc, List.take_append_drop, List.take_append_drop] at hz'
    exact hz'
  · cases ok
end
theorem shaped_bools (bs : List Bool) : SeqAt.shaped (.list (bs.map PyData.bool)) = true := by
  have h1 : PyData.canLayAll0 (bs.map PyData.bool) = true ∧ PyData.depthAll (bs.map PyData.bool) = 0 := by
    induction bs with
    | nil => exact ⟨by simp [PyData.canLayAll0], by simp [PyData.depthAll]⟩
    | cons b bs ih =>
      refine ⟨?_, ?_⟩
      · rw [List.map_cons, PyData.canLayAll0, ih.1]
        simp [PyData.canLay0]
      · rw [List.map_cons, PyData.depthAll, ih.2]
        simp [PyData.depth]
  unfold SeqAt.shaped
  rw [Bool.and_eq_true]
  refine ⟨?_, ?_⟩
  · rw [PyData.canLay0, h1.1]
  · rw [PyData.depth, h1.2]
    decide
/-- the text of the def that asks for one kind: st the class of all, kn the def that tells the kinds -/
def ckIsk (c : Cs) (st kn : Str) (b : List Stmt) : Bool := match b with
  | [.If (.BoolOp .Or [.UnaryOp .Not i1 _, .UnaryOp .Not i2 _] _) [.Return (some (.Constant (.bool false) _ _)) _] [] _, .Return (some (.Compare (.Call (.Name k _) [a] [] _) [.Eq] [.ListComp (.Compare (.Name v _) [.Eq] [.Name w _] _) [⟨.Name v2 _, .Call (.Name r _) [.Constant (.int 9) _ _] [] _, [], 0⟩] scope _] _)) _] =>
    decide (vIs c i1 = some st) && decide (vIs c i2 = some "ValueError") && c.gl st && c.blt "ValueError" "ValueError" && decide (k = kn) && c.gl kn && c.isV 0 a && decide (v2 = v) && c.blt "range" r && blkC c.N c.sc scope [(v, 2)] && (c.blk scope).var 2 v && (c.blk scope).var 1 w && (c.blk scope).st 2 v
  | _ => false
section
variable {X : Cx} {c : Cs} {a D : Addr} {oe : Obj} {d : Option Addr}
theorem isVE_of (f : FitH X c) (hp : (a, oe) ∈ X.pn) (C : L2.ExcC X.K D) (hz : L2.Zc (.ref D) d oe) (hf : ∃ vs, oe.data = .fields vs) {e : Expr} {b : Bool} (h : vIs c e = some "ValueError") (hv : c.blt "ValueError" "ValueError" = true) (hk : PySem.W.kitOne X.K (.ref D) (.type "ValueError") = some b) :
    PE X e (fun σ H Q => EAt 0 a d σ H ∧ Q (.bl b) H) ∧ notStar e = true ∧ plainT e = true := by
  obtain ⟨q, y, p, pos, rfl, h1, h2⟩ := vIs_eq h
  obtain ⟨_, bl⟩ := f.blt h1
  obtain ⟨_, bv⟩ := f.blt hv
  obtain ⟨he, s1⟩ := f.isV h2
  exact ⟨e_isP (c := .ty "ValueError") (cv := .type "ValueError") bl hp C hz hf he (pe_bltn bv.gl bv.no (by decide +kernel) rfl) (fun u r => r) hk s1 rfl, rfl, rfl⟩
theorem FitH.blk (f : FitH X c) (p : Addr × Obj) (scope : Scope) (s : Shared) (H : Hp) (C : Addr) (cl : List (Str × Addr)) (fp : List Addr) : FitH (blkP X p s H scope (compEnvC scope cl C X.env) fp) (c.blk scope) where
  N := f.N
  nd := f.nd
  sc := by
    show relab X.env.scope scope = relab c.sc scope
    rw [f.sc]
  hu := f.hu
  cel := fun x h => h
  blts := f.blts
end
section
variable {P : Program} {w : World} {K : PySem.W.Frag} {mg : Str → Option Value} {base : Heap} {ct : Str → Option Addr} {st : Str} {cs : List Str} {rows : List (Str × List Bool)} {blts : List Str} {x qual p0 p1 kn : Str} {params : Arguments} {body : List Stmt} {scope : Scope} {f fk : Addr} {fd fdk : FuncData} {N pk : List Str} {k : Nat}
theorem isk_fnP (F : FunD K x qual params body scope [] [] f fd) (S : FnScope N [p0, p1] scope) (hb : ∀ x ∈ blts, mg x = none) (KF : KdF K mg ct st cs rows) (FK : FnP P w K mg base (L2N.CX P w) k fk fdk pk (spK ct rows)) (hm : mg kn = some (.ref fk)) (hk : PySem.W.keepIn K (.ref fk) = true) (hbk : Binds K fdk pk [])
    (ok : ckIsk ⟨N, scope, none, [], [], blts, {}⟩ st kn body = true) : FnP P w K mg base (L2N.CX P w) (k + 1) f fd [p0, p1] (spI ct (hvOf rows)) := by
  refine FunD.okP F S (fun p vs H Q E h => ?_) fun cdv A outer s H vs Q E p g hot hr hsp => ?_
  · obtain ⟨y, C, n, b, d, _, rfl, _⟩ := h
    rfl
  obtain ⟨y, C, n, b, d, e1, rfl, hz, dk, hf, ev, q⟩ := hsp
  have fit := fitH_cxH (CX := L2N.CX P w) (P := P) (w := w) (K := K) (base := base) (f := f) (qual := qual) (cdv := cdv) (A := A) (outer := outer) (s := s) (H := H) (E := E) (p := p) S hb hr
  unfold hvOf at ev
  cases e2 : rows.lookup y with
  | none => rw [e2] at ev; cases ev
  | some bs =>
    rw [e2] at ev
    obtain ⟨hl, hl2, ex⟩ := KF.exc y bs e2
    obtain ⟨xc, kve, kst, _⟩ := ex C e1
    unfold ckIsk at ok
    split at ok
    · rename_i i1 _ i2 _ _ _ _ _ _ _ kk _ a _ v _ ww _ _ v2 vp r _ _ _ _ scope2 _ _ _
      simp only [Bool.and_eq_true, decide_eq_true_eq] at ok
      obtain ⟨⟨⟨⟨⟨⟨⟨⟨⟨⟨⟨⟨o1, o2⟩, o3⟩, o4⟩, o5⟩, o6⟩, o7⟩, o8⟩, o9⟩, o10⟩, o11⟩, o12⟩, o13⟩ := ok
      subst o5 o8
      have hp : (p.1, p.2) ∈ (L2H.cxH (L2N.CX P w) P w K mg base N qual scope f cdv A outer s H E p).pn := List.mem_singleton.mpr rfl
      obtain ⟨er, blr⟩ := fit.blt o9
      subst er
      obtain ⟨C0, hms⟩ := KF.cls st List.mem_cons_self
      obtain ⟨p1, _, t1⟩ := isx_of fit hp xc hz hf o1 o3 hms (kst C0 hms)
      obtain ⟨p2, _, t2⟩ := isVE_of fit hp xc hz hf o2 o4 kve
      have ev : some (PyData.eqv (.list (bs.map PyData.bool)) (.list ((List.range 9).map fun (k : Nat) => PyData.bool (decide ((k : Int) = n))))) = some b := ev
      cases ev
      refine ⟨_, is_kind_body (bs := bs) (y := fun k => decide ((k : Int) = n)) (n := 9) (S0 := fun σ => σ[1]? = some (some (.int n)) ∧ 2 < σ.length) (by have := fit.hu; omega) p1 p2 (isTrue_of t1) (isTrue_of t2) (pss_one (ps_ret pe_bl))
        ((pe_callP (X := L2H.cxH (L2N.CX P w) P w K mg base N qual scope f cdv A outer s H E p) (E := fun _ => fun _ _ _ => False) (es := []) (p := p) FK g (hr.mono (by omega)) hot hp (fit.gl o6).1 hm hk hbk
          (fun σ => fun _ _ _ _ _ _ h => by obtain ⟨_, _, _, _, _, _, _, _, _, _, _, _, z⟩ := h; exact z.elim)
          (pa_cons (fit.isV o7).1 pa_nil (starEach_cons (fit.isV o7).2)) (fit.gl o6).2 (starEach_cons (fit.isV o7).2) rfl).weak fun σ H Q q => ⟨_, q.1.1, y, C, bs, d, e1, e2, rfl, hz, q.1.2, hf, q.2⟩)
        ?_
        rfl (shaped_bools bs) (by have := shaped_bools ((List.range 9).map fun (k : Nat) => decide ((k : Int) = n)); rwa [List.map_map] at this) ⟨by omega, by decide⟩, ⟨start_get rfl, dk⟩, ⟨start_get rfl, ?_⟩, fun H' sm => q H' sm⟩
      · refine pe_lcP (n := 9) (own := [(_, 2)]) (j := 2) (te := tOp rEq (tVar 2) (tVar 1)) (by decide) hp hot S.nd (L2H.pi_range1H blr.gl blr.no (pa_cons pe_int pa_nil (starEach_cons rfl)) (starEach_cons rfl)) (blkOk_by o10)
            (fun σ H R q => ⟨9, rfl, by decide, by decide, q⟩) rfl
            (fun s2 H2 C2 cl fp => by
              obtain ⟨z1, z2, z3⟩ := (fit.blk p scope2 s2 H2 C2 cl fp).st o13
              exact pg_name (pos := vp) S.nd z1 z2 z3)
            (fun s2 H2 C2 cl fp => pe_cmpR op_eq ((fit.blk p scope2 s2 H2 C2 cl fp).var o11) ((fit.blk p scope2 s2 H2 C2 cl fp).var o12) rfl) (fun _ => rfl)
            fun σ i H2 Q2 hS hi hq => ?_
        obtain ⟨h1, h2⟩ := hS
        have e0 : ((wipe σ [2]).set 2 (some (.int (i : Int))))[1]? = some (some (.int n)) := by
          rw [List.getElem?_set_ne (by decide)]
          show (σ.set 2 none)[1]? = _
          rw [List.getElem?_set_ne (by decide)]
          exact h1
        refine ⟨.int i, List.getElem?_set_self (by show 2 < (σ.set 2 none).length; rw [List.length_set]; exact h2), .int n, e0, rfl, ?_⟩
        have e3 : decide (V.int (i : Int) = V.int n) = decide ((i : Int) = n) := by simp
        rw [e3]
        exact hq
      · have hN : 2 < N.length := by
          have q0 := o13
          unfold Cs.st at q0
          simp only [Bool.and_eq_true, decide_eq_true_eq] at q0
          exact (List.getElem?_eq_some_iff.mp q0.1).1
        unfold L2.start
        simp only [List.length_append, List.length_map, List.length_replicate, List.length_cons, List.length_nil]
        omega
    · cases ok
end
end Tr
set_option Elab.async false
set_option linter.all false
set_option maxRecDepth 100000
set_option maxHeartbeats 4000000
/-! TrG: a program of checked defs; the law's end. -/
namespace Tr
open PySem PySem.Spec PyProof.Rows L2

structure Dcl where
  /-- the global's name -/
  x : Str
  /-- the def's own name -/
  nm : Str
  st : Stmt
  N : List Str
  np : Nat
  modes : List Bool
  /-- 0: it doesn't call itself; else how deep it may -/
  dep : Nat
  ir : Ss
def Dcl.ps (d : Dcl) : List Str := d.N.take d.np
def Dcl.cs (d : Dcl) (fns gls : List (Str × Nat)) (blts : List Str) (xs : Xs) : Cs := ⟨d.N, defScope d.st, none, fns, gls, blts, xs⟩
def isFn : ScopeKind → Bool
  | .function => true
  | _ => false
theorem isFn_eq {k : ScopeKind} (h : isFn k = true) : k = .function := by cases k <;> first | rfl | cases h
def Dcl.ok (d : Dcl) (fns gls : List (Str × Nat)) (blts : List Str) (xs : Xs) : Bool :=
  isFn (defScope d.st).kind && !(defScope d.st).isCoroutine && !(defScope d.st).isGenerator && decide d.N.Nodup && decide (d.np ≤ d.N.length) && (d.ps.all fun x => decide ((defScope d.st).names.lookup x = some .local) || decide ((defScope d.st).names.lookup x = some .cell)) &&
    ((defScope d.st).names.all fun y => decide (y.2 ≠ .free)) && decide (d.modes.length = d.np) && ckSs (d.cs fns gls blts xs) d.modes d.ir (defBody d.st)
def okAll (gls : List (Str × Nat)) (blts : List Str) (xs : Xs) : List Dcl → List (Str × Nat) → Nat → Bool
  | [], _, _ => true
  | d :: ds, fns, n => d.ok (if d.dep = 0 then fns else (d.x, n) :: fns) gls blts xs && okAll gls blts xs ds ((d.x, n) :: fns) (n + 1)
/-- a def that calls itself, so many calls deep -/
noncomputable def recFn (gl : List D) (acc : List Fn) (n : Nat) (modes : List Bool) (ir : Ss) : Nat → Fn
  | 0 => ⟨modes, fun _ => .bad⟩
  | k + 1 => mkFn n modes (ir.sem ⟨acc ++ [recFn gl acc n modes ir k], gl⟩)
noncomputable def fnOf (gl : List D) (acc : List Fn) (d : Dcl) : Fn := match d.dep with
  | 0 => mkFn d.N.length d.modes (d.ir.sem ⟨acc, gl⟩)
  | k + 1 => recFn gl acc d.N.length d.modes d.ir (k + 1)
noncomputable def build (gl : List D) : List Dcl → List Fn → List Fn
  | [], acc => acc
  | d :: ds, acc => build gl ds (acc ++ [fnOf gl acc d])
def lvl (d : Dcl) : Nat := d.dep + 1
def lvs : List Dcl → Nat
  | [] => 0
  | d :: ds => lvl d + lvs ds
theorem build_get {gl : List D} : ∀ {ds : List Dcl} {acc : List Fn} {k : Nat} {fn : Fn}, acc[k]? = some fn → (build gl ds acc)[k]? = some fn
  | [], acc, k, fn, h => h
  | d :: ds, acc, k, fn, h => by
    unfold build
    refine build_get ?_
    rw [List.getElem?_append_left (List.getElem?_eq_some_iff.mp h).1]
    exact h
/-- a def as it stands -/
structure Stands (K : PySem.W.Frag) (mg : Str → Option Value) (d : Dcl) : Prop where
  fd : ∃ f fd, FunD K d.nm d.nm (defArgs d.st) (defBody d.st) (defScope d.st) [] [] f fd ∧ mg d.x = some (.ref f) ∧ Binds K fd d.ps []
structure Done (P : Program) (w : World) (K : PySem.W.Frag) (mg : Str → Option Value) (base : Heap) (ct : Str → Option Addr) (m : Nat) (x : Str) (fn : Fn) : Prop where
  ok : ∃ f fd ps, FnG P w K mg base (L2N.CX P w) m f fd ps (spF K ct fn) ∧ mg x = some (.ref f) ∧ PySem.W.keepIn K (.ref f) = true ∧ Binds K fd ps []
theorem Done.mono {P : Program} {w : World} {K : PySem.W.Frag} {mg : Str → Option Value} {base : Heap} {ct : Str → Option Addr} {m m' : Nat} {x : Str} {fn : Fn} (h : Done P w K mg base ct m x fn) (hm : m ≤ m') : Done P w K mg base ct m' x fn := by
  obtain ⟨f, fd, ps, F, h⟩ := h.ok
  exact ⟨f, fd, ps, F.mono hm, h⟩
/-- what is known of errors -/
structure XOk (P : Program) (w : World) (K : PySem.W.Frag) (mg : Str → Option Value) (base : Heap) (ct : Str → Option Addr) (xs : Xs) : Prop where
  isk : ∀ g rows, xs.isk = some (g, rows) → ∃ f fd ps, FnP P w K mg base (L2N.CX P w) 2 f fd ps (spI ct (hvOf rows)) ∧ mg g = some (.ref f) ∧ PySem.W.keepIn K (.ref f) = true ∧ Binds K fd ps []
  excs : ∀ x ∈ xs.excs, ExF K mg ct x
  bas : ∀ g rows, xs.isk = some (g, rows) → ∃ C, mg xs.bas = some (.ref C) ∧ ∀ y D, ct y = some D → okOf rows y = true → PySem.W.exmOne K (.ref D) (.ref C) = some true
/-- def_ok, the frame told too -/
theorem def_okS {P : Program} {w : World} {K : PySem.W.Frag} {mg : Str → Option Value} {base : Heap} {ct : Str → Option Addr} {x qual : Str} {params : Arguments} {body : List Stmt} {scope : Scope} {f : Addr} {fd : FuncData} {N ps : List Str} {k : Nat} {modes : List Bool} {mb : Env → R Fl}
    (F : FunD K x qual params body scope [] [] f fd) (S : FnScope N ps scope) (hm : modes.length = ps.length)
    (hbody : ∀ X : Cx, X.prog = P → X.w = w → X.K = K → X.mg = mg → X.base = base → X.N = N → X.env.scope = scope → X.calm = true → (∀ x, X.fn x = true) → X.A.guards = some [] → Room k X.A → ∀ W, L2N.Takes X W → PassesOwn (model X.prog X.w) X.A X.env X.xe → X.stack = X.env :: X.outer → X.env.frame = some X.env.locals → PSs X body (tS X.K ct W (fxOf modes) mb)) :
    FnG P w K mg base (L2N.CX P w) (k + 1) f fd ps (spF K ct (mkFn N.length modes mb)) := by
  have hpl : ps.length ≤ N.length := by have := congrArg List.length S.pre; rw [List.length_take] at this; omega
  refine FunD.okG F S (fun vs H Q E h => ?_) (fun cdv A outer s H vs Q E g hr h => ⟨_, ?_, def_sem rfl (by omega) h⟩)
  · obtain ⟨Hf, os, Ua, _, hl, _⟩ := h
    exact hl.trans hm
  · exact hbody (cxOf (L2N.CX P w) P w K mg base N qual scope f cdv A outer s H E) rfl rfl rfl rfl rfl rfl rfl rfl (fun _ => rfl) g hr _ (L2N.takes_of rfl rfl rfl rfl) (passes_of rfl) rfl rfl
theorem lookup_cons' {x y : Str} {n k : Nat} {fns : List (Str × Nat)} (h : ((y, n) :: fns).lookup x = some k) : (x = y ∧ n = k) ∨ fns.lookup x = some k := by
  rw [List.lookup_cons] at h
  split at h
  · rename_i e
    cases h
    exact .inl ⟨eq_of_beq e, rfl⟩
  · exact .inr h
section
variable {P : Program} {w : World} {K : PySem.W.Frag} {mg : Str → Option Value} {base : Heap} {ct : Str → Option Addr} {gl : List D} {gls : List (Str × Nat)} {blts : List Str} {d : Dcl} {m n : Nat} {fns : List (Str × Nat)} {acc : List Fn} {xs : Xs}
theorem dcl_body (hm2 : 2 ≤ m) (hx : XOk P w K mg base ct xs) (hsys : SysOk K) (hg : ∀ x k, gls.lookup x = some k → ∃ u v d, mg x = some u ∧ RelV v u ∧ (∀ H, Rep K H v d) ∧ gl[k]? = some d) (hb : ∀ x ∈ blts, mg x = none) {f : Addr} {fd : FuncData} (F : FunD K d.nm d.nm (defArgs d.st) (defBody d.st) (defScope d.st) [] [] f fd)
    (hf : ∀ x k, fns.lookup x = some k → ∃ fn, acc[k]? = some fn ∧ Done P w K mg base ct m x fn) (ok : d.ok fns gls blts xs = true) :
    FnG P w K mg base (L2N.CX P w) (m + 1) f fd d.ps (spF K ct (mkFn d.N.length d.modes (d.ir.sem ⟨acc, gl⟩))) := by
  unfold Dcl.ok at ok
  simp only [Bool.and_eq_true, Bool.not_eq_true', decide_eq_true_eq, List.all_eq_true, Bool.or_eq_true] at ok
  obtain ⟨⟨⟨⟨⟨⟨⟨⟨k1, k2⟩, k3⟩, k4⟩, k5⟩, k6⟩, k7⟩, k8⟩, k9⟩ := ok
  have hlen : d.ps.length = d.np := by unfold Dcl.ps; rw [List.length_take]; omega
  have sc : FnScope d.N d.ps (defScope d.st) := ⟨isFn_eq k1, k2, k3, k4, by unfold Dcl.ps; rw [List.length_take, Nat.min_eq_left k5], k6, k7⟩
  refine def_okS (ct := ct) F sc (by omega) fun X e1 e2 e3 e4 e5 e6 e7 e8 e9 gd hr W tk po stk frm => ?_
  subst e1 e2 e3 e4 e5
  refine ckSs_ok (Φ := ⟨acc, gl⟩) (c := d.cs fns gls blts xs) d.ir ⟨⟨e6, k4, e7, e8, gd, hsys, by have := hr.un; omega, fun x _ => e9 x, tk, fun x k h => ?_, hg, hb, fun g rows h => ?_, hx.excs, hx.bas⟩, po, isFn_eq k1, stk, frm⟩ _ k9
  · obtain ⟨fn, h1, h2⟩ := hf x k h
    obtain ⟨f', fd', ps', g1, g2, g3, g4⟩ := h2.ok
    exact ⟨fn, h1, ⟨m, f', fd', ps', g1, gd, hr, g2, g3, g4⟩⟩
  · obtain ⟨f', fd', ps', g1, g2, g3, g4⟩ := hx.isk g rows h
    exact ⟨2, f', fd', ps', g1, (L2H.roomH_of hr).mono hm2, g2, g3, g4⟩
theorem dcl_done (hm2 : 2 ≤ m) (hx : XOk P w K mg base ct xs) (hsys : SysOk K) (hg : ∀ x k, gls.lookup x = some k → ∃ u v d, mg x = some u ∧ RelV v u ∧ (∀ H, Rep K H v d) ∧ gl[k]? = some d) (hb : ∀ x ∈ blts, mg x = none) (hl : acc.length = n)
    (hf : ∀ x k, fns.lookup x = some k → ∃ fn, acc[k]? = some fn ∧ Done P w K mg base ct m x fn) (S : Stands K mg d) (ok : d.ok (if d.dep = 0 then fns else (d.x, n) :: fns) gls blts xs = true) :
    ∃ f fd, FnG P w K mg base (L2N.CX P w) (m + lvl d) f fd d.ps (spF K ct (fnOf gl acc d)) ∧ mg d.x = some (.ref f) ∧ FunD K d.nm d.nm (defArgs d.st) (defBody d.st) (defScope d.st) [] [] f fd ∧ Binds K fd d.ps [] := by
  obtain ⟨f, fd, F, hm, hbd⟩ := S.fd
  refine ⟨f, fd, ?_, hm, F, hbd⟩
  unfold fnOf lvl
  cases e : d.dep with
  | zero =>
    rw [e, if_pos rfl] at ok
    exact dcl_body hm2 hx hsys hg hb F hf ok
  | succ r =>
    rw [e, if_neg (Nat.succ_ne_zero r)] at ok
    have key : ∀ j, FnG P w K mg base (L2N.CX P w) (m + j) f fd d.ps (spF K ct (recFn gl acc d.N.length d.modes d.ir j)) := by
      intro j
      induction j with
      | zero => exact ⟨fun vs H Q E ⟨_, _, _, _, _, _, _, h⟩ => h.elim, fun A _ outer s H args us vs Q E _ _ _ _ ⟨_, _, _, _, _, _, _, h⟩ => h.elim⟩
      | succ j ih =>
        have q := dcl_body (P := P) (w := w) (base := base) (ct := ct) (m := m + j) (acc := acc ++ [recFn gl acc d.N.length d.modes d.ir j]) (by omega) hx hsys hg hb F (fun x k h => ?_) ok
        · exact q
        · rcases lookup_cons' h with ⟨rfl, rfl⟩ | h
          · exact ⟨_, by rw [List.getElem?_append_right (by omega), hl, Nat.sub_self]; rfl, ⟨f, fd, d.ps, ih, hm, F.kp, hbd⟩⟩
          · obtain ⟨fn, h1, h2⟩ := hf x k h
            exact ⟨fn, by rw [List.getElem?_append_left (List.getElem?_eq_some_iff.mp h1).1]; exact h1, h2.mono (by omega)⟩
    exact (key (r + 1)).mono (by omega)
end
theorem prog_done {P : Program} {w : World} {K : PySem.W.Frag} {mg : Str → Option Value} {base : Heap} {ct : Str → Option Addr} {gl : List D} {gls : List (Str × Nat)} {blts : List Str} {xs : Xs}
    (hx : XOk P w K mg base ct xs) (hsys : SysOk K) (hg : ∀ x k, gls.lookup x = some k → ∃ u v d, mg x = some u ∧ RelV v u ∧ (∀ H, Rep K H v d) ∧ gl[k]? = some d) (hb : ∀ x ∈ blts, mg x = none) : ∀ (ds : List Dcl) (m n : Nat) (fns : List (Str × Nat)) (acc : List Fn), 2 ≤ m → acc.length = n →
      (∀ x k, fns.lookup x = some k → ∃ fn, acc[k]? = some fn ∧ Done P w K mg base ct m x fn) → (∀ d ∈ ds, Stands K mg d) → okAll gls blts xs ds fns n = true →
      ∀ k d, ds[k]? = some d → ∃ f fd fn, (build gl ds acc)[n + k]? = some fn ∧ FnG P w K mg base (L2N.CX P w) (m + lvs ds) f fd d.ps (spF K ct fn) ∧ mg d.x = some (.ref f) ∧ FunD K d.nm d.nm (defArgs d.st) (defBody d.st) (defScope d.st) [] [] f fd
  | [], m, n, fns, acc, hm2, hl, hf, hs, ok, k, d, h => by simp at h
  | d :: ds, m, n, fns, acc, hm2, hl, hf, hs, ok, k, d', h => by
    unfold okAll at ok
    rw [Bool.and_eq_true] at ok
    obtain ⟨f, fd, F, hm, FD, hbd⟩ := dcl_done (gl := gl) (base := base) (w := w) (P := P) (ct := ct) hm2 hx hsys hg hb hl hf (hs d List.mem_cons_self) ok.1
    have hn : (acc ++ [fnOf gl acc d])[n]? = some (fnOf gl acc d) := by
      rw [List.getElem?_append_right (by omega), hl, Nat.sub_self]
      rfl
    have hlv : lvs (d :: ds) = lvl d + lvs ds := rfl
    cases k with
    | zero =>
      have e : d = d' := by simpa using h
      subst e
      exact ⟨f, fd, _, by unfold build; rw [Nat.add_zero]; exact build_get hn, F.mono (by omega), hm, FD⟩
    | succ k =>
      have ih := prog_done (ct := ct) (base := base) (w := w) (P := P) hx hsys hg hb ds (m + lvl d) (n + 1) ((d.x, n) :: fns) (acc ++ [fnOf gl acc d]) (by omega) (by simp [hl]) (fun x k h => ?_) (fun d hd => hs d (List.mem_cons_of_mem _ hd)) ok.2 k d' (by simpa using h)
      · rw [show n + (k + 1) = n + 1 + k by omega, hlv, ← Nat.add_assoc]
        exact ih
      · rcases lookup_cons' h with ⟨rfl, rfl⟩ | h
        · exact ⟨_, hn, ⟨f, fd, d.ps, F, hm, FD.kp, hbd⟩⟩
        · obtain ⟨fn, h2, h3⟩ := hf x k h
          exact ⟨fn, by rw [List.getElem?_append_left (List.getElem?_eq_some_iff.mp h2).1]; exact h2, h3.mono (by omega)⟩
/-- the law's own promise -/
theorem law_sp {K : PySem.W.Frag} {ct : Str → Option Addr} {fn : Fn} {ns : List Int} {refs : Env} (hm : fn.modes = [false]) (h : fn.run [.scr ns] = .ok (.frz (.bool true)) refs) (hr : refs = []) {H : Hp} {a : Addr} (hs : SqL K H a (ns.map V.int)) :
    spF K ct fn [.ref a] H (fun v _ => v = .bl true) fun _ _ _ => False := by
  refine ⟨H, [.scr ns], fun _ _ => False, Same.refl _, by rw [hm]; rfl, ⟨rfl, fun i v o e1 e2 => ?_, fun _ _ _ _ q => q.elim⟩, fun _ _ q => q.elim, ?_⟩
  · cases i with
    | zero =>
      cases e1
      cases e2
      exact .scr hs
    | succ i => simp at e1
  · rw [h]
    intro v Hf' H' Ur T _ _ _ _ _ ov _
    cases ov with
    | frz r => exact r.bool_of
end Tr
namespace Tr
theorem build_step {gl : List D} {d : Dcl} {ds : List Dcl} {acc r : List Fn} {f : Fn} (h : fnOf gl acc d = f) (h2 : build gl ds (acc ++ [f]) = r) : build gl (d :: ds) acc = r := by
  unfold build
  rw [h]
  exact h2
theorem build_end {gl : List D} {acc : List Fn} : build gl [] acc = acc := rfl
end Tr
set_option Elab.async false
set_option linter.all false
set_option maxRecDepth 100000
set_option maxHeartbeats 4000000
/-! TrH: from the head's facts to the law. -/
namespace Tr
open PySem PySem.Spec PyProof.Rows L2

/-- nothing comes out of it but a value -/
theorem calmed {P : Program} {w : World} {K : PySem.W.Frag} {mg : Str → Option Value} {base : Heap} {k : Nat} {f : Addr} {fd : FuncData} {ps : List Str} {sp : Sp} (F : FnG P w K mg base (L2N.CX P w) k f fd ps sp) :
    FnG P w K mg base CX0 k f fd ps (fun vs H Q _ => sp vs H Q fun _ _ _ => False) :=
  ⟨fun vs H Q _ q => F.len _ _ _ _ q, fun A g out s H az us vs Q E room he hb hv hs => codeAny_mono (F.go A g out s H az us vs Q _ room he hb hv hs) fun r s' h => match r, h with
    | .ok (.ret _), h => h
    | .ok .next, h => h
    | .ok .brk, h => h
    | .ok .cont, h => h
    | .error _, ⟨_, _, _, _, _, _, _, _, _, _, _, _, hf⟩ => hf.elim⟩
section
variable {P : Program} {w : World} {K : PySem.W.Frag} {mg mb : Str → Option Value} {CX : CXT} {k : Nat} {fa a : Addr} {fd : FuncData} {x : Str} {sp : Sp} {s : Shared} {vs : List Value} {ns : List Int}
/-- how the law's call must end -/
abbrev LawEnd (s : Shared) : Result → Shared → Prop := fun r s2 => r = .ok (.ret (.bool true)) ∧ OldK s.heap s2.heap ∧ s2.os = s.os ∧ AllBare s2.gens
/-- the law's call from a heap of which at most the script is followed -/
theorem law_from {H : Hp} (kin : K.In s.heap) (g1 : s.heap.Ns mainGlobals mg) (g2 : s.heap.Ns builtinsNs mb) (g3 : ∀ y : Str, y ≠ "__name__" → mb y = bootBuiltins y) (g4 : s.heap.NoLimit) (g5 : s.gens = #[])
    (obj : s.heap.get? a = some { cls := .type "list", data := .seq vs.toArray }) (room : Room k callerA) (F : ∀ base : Heap, K.In base → base.Ns mainGlobals mg → FnG P w K mg base CX k fa fd [x] sp) (bnd : ∀ (s : Shared) (u : Value), BindsTo s fd ⟨[u], []⟩ [(x, u)])
    (just : ∀ b, H b ≠ none → b = a) (free : H a ≠ none → K.lookup a = none) (only : Only H) (good : HOk P w H s.heap) (hs : sp [.ref a] H (fun v _ => v = .bl true) fun _ _ _ => False)
    (hCX : ∀ e s2, CX [] H s (fun _ _ _ => False) e s2 → False) : codeAny (model P w) callerA (.call (.ref fa) ⟨[.ref a], []⟩) (LawEnd s) s := by
  have off : ∀ (b : Addr), (b = a → H b = none) → H b = none := fun b h => (Classical.em (H b = none)).elim id fun n => h (just b n)
  have kin2 : K.In (hidT s.heap H) := fun b o e => hidT_get (kin b o e) (off b fun eb => by
    subst eb
    exact Classical.byContradiction fun n => by rw [free n] at e; cases e)
  have dic : ∀ {b : Addr} {m : Str → Option Value}, s.heap.Ns b m → (hidT s.heap H).Ns b m := fun {b m} ⟨o, es, ep, e, d, r⟩ => ⟨o, es, ep, hidT_get e (off b fun eb => by
    subst eb
    rw [e] at obj
    have := congrArg Obj.data (Option.some.inj obj)
    rw [d] at this
    cases this), d, r⟩
  have md : Mod K mg (hidT s.heap H) := ⟨kin2, dic g1, ⟨mb, dic g2, g3⟩, g4.elim fun mc h => ⟨mc, dic h.1, h.2⟩⟩
  have env : Env0 P w K mg (hidT s.heap H) callerA [] s H := ⟨rfl, md, fun b o e => of_hidT e, Nat.le_of_eq (hidT_size _ _), trivial, fun b hb => absurd (show b ∈ ([] : List Addr) from hb) List.not_mem_nil, good, .of_eq g5⟩
  refine codeAny_mono ((F _ kin2 (dic g1)).go callerA rfl [] s H ⟨[.ref a], []⟩ [.ref a] [.ref a] _ _ room env (bnd s _) (.cons rfl .nil) hs) fun r s2 h => ?_
  match r, h with
  | .error e, h => exact (hCX e s2 h).elim
  | .ok .next, h => exact False.elim h
  | .ok .brk, h => exact False.elim h
  | .ok .cont, h => exact False.elim h
  | .ok (.ret u), ⟨v, H2, os, bare, un, good2, rv, q⟩ =>
    have q2 : v = .bl true := q
    subst q2
    have ru : u = Value.bool true := rv
    subst ru
    refine ⟨rfl, OldK.of_keep fun b o e => ?_, os, bare⟩
    rcases only b with z | ⟨ob, xs, z⟩
    · exact un.keep b o e z (fun y => absurd (show b ∈ ([] : List Addr) from y) List.not_mem_nil) (by simp)
    · obtain ⟨e1, _⟩ := good b _ z
      obtain ⟨e2, _⟩ := good2 b _ (un.frzs b ob _ z)
      rw [e] at e1
      cases e1
      exact e2
theorem law_callG (kin : K.In s.heap) (g1 : s.heap.Ns mainGlobals mg) (g2 : s.heap.Ns builtinsNs mb) (g3 : ∀ y : Str, y ≠ "__name__" → mb y = bootBuiltins y) (g4 : s.heap.NoLimit) (g5 : s.gens = #[])
    (obj : s.heap.get? a = some { cls := .type "list", data := .seq vs.toArray }) (hi : IntsAre vs ns) (hl : ns.length ≤ sizeLine) (room : Room k callerA) (F : ∀ base : Heap, K.In base → base.Ns mainGlobals mg → FnG P w K mg base CX k fa fd [x] sp)
    (bnd : ∀ (s : Shared) (u : Value), BindsTo s fd ⟨[u], []⟩ [(x, u)]) (hsp : ∀ H : Hp, Only H → SqL K H a (ns.map V.int) → sp [.ref a] H (fun v _ => v = .bl true) fun _ _ _ => False)
    (hCX : ∀ H e s2, CX [] H s (fun _ _ _ => False) e s2 → False) : codeAny (model P w) callerA (.call (.ref fa) ⟨[.ref a], []⟩) (LawEnd s) s := by
  have rv := vals_ints hi
  have len := hi.length
  cases hk : K.lookup a with
  | some o =>
    have e := kin a o hk
    rw [obj] at e
    cases e
    have on : Only (fun _ => none : Hp) := fun _ => .inl rfl
    exact law_from kin g1 g2 g3 g4 g5 obj room F bnd (fun b z => absurd rfl z) (fun z => absurd rfl z) on (fun b u z => absurd (show (none : Option HO) = some u from z) nofun) (hsp _ on (.inr ⟨_, vs.toArray, _, hk, rfl, rfl, rfl, by rw [List.size_toArray, len]; exact hl, by simpa using rv⟩)) (hCX _)
  | none =>
    let H : Hp := fun b => if b = a then some (.frz { cls := .type "list", data := .seq vs.toArray } (.lst (ns.map V.int))) else none
    have at_ : H a = _ := if_pos rfl
    have no : ∀ b, b ≠ a → H b = none := fun b n => if_neg n
    have on : Only H := fun b => (Classical.em (b = a)).elim (fun e => by subst e; exact .inr ⟨_, _, at_⟩) fun n => .inl (no b n)
    refine law_from kin g1 g2 g3 g4 g5 obj room F bnd (fun b z => Classical.byContradiction fun n => z (no b n)) (fun _ => hk) on (fun b u z => ?_) (hsp H on (.inl (.inr ⟨_, at_⟩))) (hCX H)
    by_cases hb : b = a
    · subst hb
      rw [at_] at z
      cases z
      exact ⟨obj, by rw [List.length_map]; exact hl, vs, _, rv, obj⟩
    · rw [no b hb] at z
      cases z
end
/-- the goal of a law's walk, from the law's promise -/
theorem walk_ofG {l : PySem.W.OpenLaw} {n k : Nat} {q : Program} {loose : List Str} {XP : (Str → Option Value) → Heap → Prop} {YP : World → Heap → Prop} {d : DefRec} {CX : CXT} {x : Str} (hn : l.most = some n) (hn2 : n ≤ sizeLine) (hdf : d.params.defaults = []) (room : Room k callerA)
    (F : ∀ (w : World) (mg : Str → Option Value) (fa : Addr) (h : Heap), YP w h → h.Ns mainGlobals mg → mg d.name = some (.ref fa) → ∃ (K : PySem.W.Frag) (fd : FuncData) (sp : Sp), K.In h ∧ (∀ (s : Shared) (u : Value), BindsTo s fd ⟨[u], []⟩ [(x, u)]) ∧
      (∀ (H : Hp) (a : Addr) (ns : List Int), ns.length ≤ n → Only H → SqL K H a (ns.map V.int) → sp [.ref a] H (fun v _ => v = .bl true) fun _ _ _ => False) ∧ ∀ base : Heap, K.In base → base.Ns mainGlobals mg → FnG l.prog w K mg base CX k fa fd [x] sp)
    (hCX : ∀ (H : Hp) (s : Shared) (e : Value) (s2 : Shared), CX [] H s (fun _ _ _ => False) e s2 → False) : PySem.W.WalkO q loose XP YP l.row.toRowW d [] (fun f vs => PySem.call f vs) :=
  Att.attach_call hn hdf fun w s₀ s mg mb fa o pm cd doc a vs ns G Y ho hd hcd hmg obj hints hlen hg => by
    obtain ⟨K, fd, sp, kin, bnd, hsp, hF⟩ := F w mg fa _ Y G.T.g hmg
    exact law_callG kin G.T.g G.T.b G.T.builtins G.T.nolimit hg obj hints (Nat.le_trans hlen hn2) room hF bnd (fun H hO hS => hsp H a ns hlen hO hS) fun H e s2 => hCX H s e s2
def toD (d : Dcl) : He.DefD := ⟨(d.x, none), d.nm, d.nm, defArgs d.st, defBody d.st, defScope d.st, [], []⟩
/-- a constant of the module: a whole number, a text, a row of them -/
inductive GD where
  | int (x : Str) (i : Int)
  | str (x z : Str)
  | tup (x : Str) (l : List (Int ⊕ Str))
def GD.x : GD → Str
  | .int x _ => x
  | .str x _ => x
  | .tup x _ => x
def atD' : Int ⊕ Str → D
  | .inl i => .int i
  | .inr s => .str s
def atV : Int ⊕ Str → He.Dv
  | .inl i => .int i
  | .inr s => .str s
def GD.d : GD → D
  | .int _ i => .int i
  | .str _ z => .str z
  | .tup _ l => .tuple (l.map atD')
def GD.fa : GD → He.Fa
  | .int x i => .int x i
  | .str x z => .str x z
  | .tup x _ => .glo x
def GD.tb (K : PySem.W.Frag) : GD → Bool
  | .tup x l => He.tupB K x (l.map atV)
  | _ => true
def glsOf : List GD → Nat → List (Str × Nat)
  | [], _ => []
  | g :: gs, n => (g.x, n) :: glsOf gs (n + 1)
def fas (ds : List Dcl) (gs : List GD) (blts : List Str) : List He.Fa := ds.map (fun d => .glo d.x) ++ (blts.map .free ++ gs.map GD.fa)
def BndD (d : Dcl) : Prop := ∀ (kV doc pm : Value) (an : Option Addr) (cdv ct : Value) (us : List Value), us.length = d.ps.length → bindArgs (PySem.W.fnOf d.nm d.nm (defArgs d.st) (defBody d.st) (defScope d.st) .none kV doc pm an cdv ct) ⟨us, []⟩ = pure (d.ps.zip us)
/-! ### the hook, with the rows -/
/-- the modules are kept in a dict -/
def sysB (K : PySem.W.Frag) : Bool := match K.lookup sysModules with
  | some o => (match o.cls with
    | .type x => x == "dict"
    | _ => false)
  | none => false
theorem sysB_ok {K : PySem.W.Frag} (h : sysB K = true) : SysOk K := by
  unfold sysB at h
  split at h
  · rename_i o e
    refine ⟨o, e, ?_⟩
    split at h
    · rename_i x e2
      rw [e2, eq_of_beq h]
    · cases h
  · cases h
/-- the two defs that tell an error's kind, the class of all, the nine, which of them each raised class is -/
structure Xd where
  kinds : Dcl
  isk : Dcl
  bas : Str
  nine : List Str
  rows : List (Str × List Bool)
def xds : Option Xd → List Dcl
  | none => []
  | some x => [x.kinds, x.isk]
def xcl : Option Xd → List Str
  | none => []
  | some x => x.bas :: x.nine
def xsOf : Option Xd → Xs
  | none => {}
  | some x => ⟨some (x.isk.x, x.rows), x.rows.map (·.1), x.bas⟩
def excB (K : PySem.W.Frag) (D : Addr) : Bool := decide (PySem.W.findIn K (.ref D) "__getattribute__" = some (some (.builtin "BaseException.__getattribute__"))) && (decide (PySem.W.findIn K (.ref D) "__getattr__" = some none) && (decide (PySem.W.subIn K (.ref D) (.type "BaseException") = some true) && (PySem.W.hasDictIn K D &&
  (decide (PySem.W.findIn K (.ref D) "__class__" = some (some (.builtin "object.__class__"))) && (decide (PySem.W.specialIn K (.builtin "object.__class__") "__get__" = some (some (.builtin "getset_descriptor.__get__"))) && (decide (PySem.W.takesIn K (.builtin "object.__class__") = some true) && decide (PySem.W.mroIn K D (.type "object") = some true)))))))
theorem excB_ok {K : PySem.W.Frag} {D : Addr} (h : excB K D = true) : ExcC K D := by
  unfold excB at h
  simp only [Bool.and_eq_true, decide_eq_true_eq] at h
  obtain ⟨h1, h2, h3, h4, h5, h6, h7, h8⟩ := h
  exact ⟨h1, h2, h3, h4, h5, h6, h7, h8⟩
def rowB (K : PySem.W.Frag) (st : Str) (nine : List Str) (p : Str × List Bool) : Bool :=
  decide (p.2.length = nine.length) && (decide (p.2.length ≤ 20) && (excB K (He.ga K p.1) && (decide (PySem.W.kitOne K (.ref (He.ga K p.1)) (.type "ValueError") = some true) && (decide (PySem.W.kitOne K (.ref (He.ga K p.1)) (.ref (He.ga K st)) = some true) &&
    ((nine.zip p.2).all (fun q => decide (PySem.W.kitOne K (.ref (He.ga K p.1)) (.ref (He.ga K q.1)) = some q.2)) && (decide (PySem.W.exmOne K (.ref (He.ga K p.1)) (.ref (He.ga K st)) = some true) && (He.Fa.exc p.1).ok K))))))
def xdB (K : PySem.W.Frag) : Option Xd → Bool
  | none => true
  | some x => x.rows.all (rowB K x.bas x.nine)
/-- a def's scope is a plain one -/
def Dcl.sok (d : Dcl) : Bool := isFn (defScope d.st).kind && !(defScope d.st).isCoroutine && !(defScope d.st).isGenerator && decide d.N.Nodup && decide (d.np ≤ d.N.length) && (d.ps.all fun x => decide ((defScope d.st).names.lookup x = some .local) || decide ((defScope d.st).names.lookup x = some .cell)) && ((defScope d.st).names.all fun y => decide (y.2 ≠ .free))
theorem Dcl.sok_ok {d : Dcl} (h : d.sok = true) : FnScope d.N d.ps (defScope d.st) ∧ d.ps.length = d.np := by
  unfold Dcl.sok at h
  simp only [Bool.and_eq_true, Bool.not_eq_true', decide_eq_true_eq, List.all_eq_true, Bool.or_eq_true] at h
  obtain ⟨⟨⟨⟨⟨⟨k1, k2⟩, k3⟩, k4⟩, k5⟩, k6⟩, k7⟩ := h
  exact ⟨⟨isFn_eq k1, k2, k3, k4, by unfold Dcl.ps; rw [List.length_take, Nat.min_eq_left k5], k6, k7⟩, by unfold Dcl.ps; rw [List.length_take]; omega⟩
def okX (blts : List Str) : Option Xd → Bool
  | none => true
  | some x => x.kinds.sok && x.isk.sok && decide (x.kinds.np = 1) && decide (x.isk.np = 2) && ckKinds ⟨x.kinds.N, defScope x.kinds.st, none, [], [], blts, {}⟩ x.nine (defBody x.kinds.st) && ckIsk ⟨x.isk.N, defScope x.isk.st, none, [], [], blts, {}⟩ x.bas x.kinds.x (defBody x.isk.st) && x.rows.all fun p => x.nine.contains p.1
abbrev AlG : Type := He.AlD × Bool
def obsG (xd : Option Xd) (gs : List GD) (fa : List He.Fa) (fn : List He.DefD) (K : PySem.W.Frag) : AlG := (He.obsD fa fn K, sysB K && (gs.all (fun g => g.tb K) && xdB K xd))
def valG (fn : List He.DefD) : AlG := (He.valD fn, true)
def SaysG (xd : Option Xd) (gs : List GD) (fa : List He.Fa) (fn : List He.DefD) (K : PySem.W.Frag) : Prop := obsG xd gs fa fn K = valG fn
def obsGG (n : Nat) (xd : Option Xd) (gs : List GD) (fa : List He.Fa) (fn : List He.DefD) (g : Addr → Option Obj) : AlG := obsG xd gs fa fn (He.frG g (sysModules :: He.asD g n))
def hookG (n : Nat) (xd : Option Xd) (gs : List GD) (fa : List He.Fa) (fn : List He.DefD) : PySem.W.Hook where
  α := AlG
  obs := fun s => obsGG n xd gs fa fn s.heap.get?
  val := fun _ => valG fn
  says := fun _ h => ∃ K : PySem.W.Frag, K.In h ∧ SaysG xd gs fa fn K
  of := fun _ _ e => ⟨_, He.frG_in, e⟩
  keeps := fun _ _ _ ⟨K, hK, c⟩ k => ⟨K, PySem.W.Frag.In.keeps hK k, c⟩
theorem obsGG_eq {n : Nat} {xd : Option Xd} {gs : List GD} {fa : List He.Fa} {fn : List He.DefD} {g : Addr → Option Obj} {s : Shared} (h : ∀ a, g a = s.heap.get? a) : obsGG n xd gs fa fn g = (hookG n xd gs fa fn).obs s := by
  have e : g = s.heap.get? := funext h
  rw [e] <;> rfl
/-- all facts that are asked of the module -/
def fasX (xd : Option Xd) (ds : List Dcl) (gs : List GD) (blts : List Str) : List He.Fa := fas (ds ++ xds xd) gs blts ++ (xcl xd).map .glo
section
variable {K : PySem.W.Frag} {h : Heap} {mg : Str → Option Value} {ds : List Dcl} {blts : List Str} {gs : List GD} {xd : Option Xd} {T : List He.Fa}
theorem SaysG.d {fa : List He.Fa} {fn : List He.DefD} (c : SaysG xd gs fa fn K) : He.SaysD fa fn K := congrArg Prod.fst c
theorem SaysG.bb {fa : List He.Fa} {fn : List He.DefD} (c : SaysG xd gs fa fn K) : (sysB K && (gs.all (fun g => g.tb K) && xdB K xd)) = true := congrArg Prod.snd c
theorem SaysG.t {fa : List He.Fa} {fn : List He.DefD} (c : SaysG xd gs fa fn K) : ∀ g ∈ gs, g.tb K = true := List.all_eq_true.mp (Bool.and_eq_true_iff.mp (Bool.and_eq_true_iff.mp c.bb).2).1
theorem SaysG.s {fa : List He.Fa} {fn : List He.DefD} (c : SaysG xd gs fa fn K) : SysOk K := sysB_ok (Bool.and_eq_true_iff.mp c.bb).1
theorem SaysG.x {fa : List He.Fa} {fn : List He.DefD} (c : SaysG xd gs fa fn K) : xdB K xd = true := (Bool.and_eq_true_iff.mp (Bool.and_eq_true_iff.mp c.bb).2).2
theorem app_get {α : Type} {l m : List α} {i : Nat} {x : α} (h : l[i]? = some x) : (l ++ m)[i]? = some x := by
  rw [List.getElem?_append_left (List.getElem?_eq_some_iff.mp h).1]
  exact h
theorem stands (X : K.In h) (G : h.Ns mainGlobals mg) (c : He.SaysD (fas ds gs blts ++ T) (ds.map toD) K) (hB : ∀ d ∈ ds, BndD d) : ∀ d ∈ ds, Stands K mg d := fun d hd => by
  obtain ⟨i, hi⟩ := List.getElem?_of_mem hd
  obtain ⟨fd, F⟩ := c.def_ i (d := toD d) (by rw [List.getElem?_map, hi]; rfl)
  have hl := (List.getElem?_eq_some_iff.mp hi).1
  have g := He.glo_ok X G (c.fact i (f := .glo d.x) (app_get (by unfold fas; rw [List.getElem?_append_left (by simpa using hl), List.getElem?_map, hi]; rfl)))
  exact ⟨_, fd, F, g, FunD.bindsN (ps := d.ps) F (hB d hd)⟩
theorem frees (X : K.In h) (G : h.Ns mainGlobals mg) (c : He.SaysD (fas ds gs blts ++ T) (ds.map toD) K) : ∀ x ∈ blts, mg x = none := fun x hx => by
  obtain ⟨i, hi⟩ := List.getElem?_of_mem hx
  have hl := (List.getElem?_eq_some_iff.mp hi).1
  exact He.free_ok X G (c.fact (ds.length + i) (f := .free x) (app_get (by unfold fas; rw [List.getElem?_append_right (by simp), List.length_map, Nat.add_sub_cancel_left, List.getElem?_append_left (by simpa using hl), List.getElem?_map, hi]; rfl)))
theorem rep_at {H : Hp} {K : PySem.W.Frag} : ∀ a : Int ⊕ Str, Rep K H ((atV a).v K) (atD' a)
  | .inl i => .int i
  | .inr s => .str s
theorem consts (X : K.In h) (G : h.Ns mainGlobals mg) (c : SaysG xd gs (fas ds gs blts ++ T) (ds.map toD) K) : ∀ x k, (glsOf gs 0).lookup x = some k → ∃ u v d, mg x = some u ∧ RelV v u ∧ (∀ H, Rep K H v d) ∧ (gs.map GD.d)[k]? = some d := fun x k hx => by
  have look : ∀ (l : List GD) (n : Nat), (glsOf l n).lookup x = some k → ∃ i g, l[i]? = some g ∧ k = n + i ∧ g.x = x := by
    intro l
    induction l with
    | nil => intro n h; simp [glsOf] at h
    | cons g l ih =>
      intro n h
      unfold glsOf at h
      rcases lookup_cons' h with ⟨rfl, rfl⟩ | h
      · exact ⟨0, g, rfl, rfl, rfl⟩
      · obtain ⟨i, g', h1, h2, h3⟩ := ih (n + 1) h
        exact ⟨i + 1, g', by simpa using h1, by omega, h3⟩
  obtain ⟨i, g, h1, h2, rfl⟩ := look gs 0 hx
  rw [Nat.zero_add] at h2
  subst h2
  have hf := c.d.fact (ds.length + (blts.length + k)) (f := g.fa) (app_get (by
    unfold fas
    rw [List.getElem?_append_right (by simp), List.length_map, Nat.add_sub_cancel_left, List.getElem?_append_right (by simp), List.length_map, Nat.add_sub_cancel_left, List.getElem?_map, h1]
    rfl))
  have ht := c.t g (List.mem_of_getElem? h1)
  have hk : (gs.map GD.d)[k]? = some g.d := by rw [List.getElem?_map, h1]; rfl
  cases g with
  | int x i =>
    obtain ⟨t, e⟩ := He.int_ok X G hf
    exact ⟨_, .int i, _, e, ⟨t, rfl⟩, fun _ => .int i, hk⟩
  | str x z =>
    obtain ⟨t, e⟩ := He.str_ok X G hf
    exact ⟨_, .str z, _, e, ⟨t, rfl⟩, fun _ => .str z, hk⟩
  | tup x l =>
    have e := He.glo_ok X G hf
    refine ⟨_, .ref _, _, e, rfl, fun H => ?_, hk⟩
    refine .tup (He.tupB_ok ht H) (by simp) fun i v d e1 e2 => ?_
    rw [List.map_map, List.getElem?_map] at e1
    rw [List.getElem?_map] at e2
    cases ea : l[i]? with
    | none => rw [ea] at e1; cases e1
    | some a =>
      rw [ea] at e1 e2
      cases e1
      cases e2
      exact rep_at a
theorem lookup_some {β : Type} {l : List (Str × β)} {p : Str × β} (h : p ∈ l) : (l.lookup p.1).isSome = true := by
  induction l with
  | nil => cases h
  | cons q r ih =>
    rw [List.lookup_cons]
    split
    · rfl
    · rename_i ne
      rcases List.mem_cons.mp h with e | h
      · rw [e] at ne
        simp at ne
      · exact ih h
/-- the classes as they stand -/
def ctOf (K : PySem.W.Frag) : Option Xd → Str → Option Addr
  | none, _ => none
  | some x, y => if okOf x.rows y then some (He.ga K y) else none
theorem ctOf_some {x : Xd} {y : Str} {D : Addr} (h : ctOf K (some x) y = some D) : D = He.ga K y := by
  have h' : (if okOf x.rows y then some (He.ga K y) else none) = some D := h
  by_cases q : okOf x.rows y = true
  · rw [if_pos q] at h'
    exact (Option.some.inj h').symm
  · rw [if_neg q] at h'
    cases h'
theorem xok {P : Program} {w : World} {base : Heap} (X : K.In h) (G : h.Ns mainGlobals mg) (c : SaysG xd gs (fasX xd ds gs blts) ((ds ++ xds xd).map toD) K) (hB : ∀ d ∈ ds ++ xds xd, BndD d) (ok : okX blts xd = true) : XOk P w K mg base (ctOf K xd) (xsOf xd) := by
  have c' : SaysG xd gs (fas (ds ++ xds xd) gs blts ++ (xcl xd).map .glo) ((ds ++ xds xd).map toD) K := c
  have st := stands X G c'.d hB
  have fr := frees X G c'.d
  cases xd with
  | none => exact ⟨(fun g rows e => by cases e), (fun x hx => by cases hx), (fun g rows e => by cases e)⟩
  | some x =>
    have cls : ∀ y ∈ x.bas :: x.nine, mg y = some (.ref (He.ga K y)) := fun y hy => by
      obtain ⟨i, hi⟩ := List.getElem?_of_mem hy
      refine He.glo_ok X G (c'.d.fact ((fas (ds ++ xds (some x)) gs blts).length + i) (f := .glo y) ?_)
      rw [List.getElem?_append_right (by omega), Nat.add_sub_cancel_left, List.getElem?_map]
      show (x.bas :: x.nine)[i]?.map He.Fa.glo = _
      rw [hi]
      rfl
    have rowsOk : ∀ p ∈ x.rows, rowB K x.bas x.nine p = true := List.all_eq_true.mp c'.x
    unfold okX at ok
    simp only [Bool.and_eq_true, decide_eq_true_eq, List.all_eq_true] at ok
    obtain ⟨⟨⟨⟨⟨⟨o1, o2⟩, o3⟩, o4⟩, o5⟩, o6⟩, o7⟩ := ok
    have inNine : ∀ p ∈ x.rows, p.1 ∈ x.nine := fun p hp => by simpa using o7 p hp
    have look : ∀ {y bs}, x.rows.lookup y = some bs → (y, bs) ∈ x.rows := fun e => PySem.mem_of_lookup e
    have KF : KdF K mg (ctOf K (some x)) x.bas x.nine x.rows := by
      refine ⟨fun y hy => ⟨_, cls y hy⟩, fun y bs e => ?_⟩
      have r := rowsOk _ (look e)
      unfold rowB at r
      simp only [Bool.and_eq_true, decide_eq_true_eq, List.all_eq_true] at r
      obtain ⟨r1, r2, r3, r4, r5, r6, r7, r8⟩ := r
      refine ⟨r1, r2, fun D eD => ?_⟩
      have : D = He.ga K y := ctOf_some eD
      subst this
      refine ⟨excB_ok r3, r4, fun C eC => ?_, fun k z b C q1 q2 eC => ?_⟩
      · rw [cls x.bas List.mem_cons_self] at eC
        cases eC
        exact r5
      · rw [cls z (List.mem_cons_of_mem _ (List.mem_of_getElem? q1))] at eC
        cases eC
        exact r6 (z, b) (List.mem_of_getElem? (i := k) (by rw [List.getElem?_zip_eq_some]; exact ⟨q1, q2⟩))
    obtain ⟨s1, l1⟩ := Dcl.sok_ok o1
    obtain ⟨s2, l2⟩ := Dcl.sok_ok o2
    obtain ⟨fk, fdk, Fk, mk, bk⟩ := (st x.kinds (List.mem_append_right _ (by simp [xds]))).fd
    obtain ⟨fi, fdi, Fi, mi, bi⟩ := (st x.isk (List.mem_append_right _ (by simp [xds]))).fd
    obtain ⟨p0, e0⟩ : ∃ p0, x.kinds.ps = [p0] := by
      match q : x.kinds.ps, l1.trans o3 with
      | [p0], _ => exact ⟨p0, rfl⟩
    obtain ⟨p1, p2, e1⟩ : ∃ p1 p2, x.isk.ps = [p1, p2] := by
      match q : x.isk.ps, l2.trans o4 with
      | [p1, p2], _ => exact ⟨p1, p2, rfl⟩
    rw [e0] at s1 bk
    rw [e1] at s2 bi
    have FK := kinds_fnP (CX := L2N.CX P w) (P := P) (w := w) (base := base) (k := 0) Fk s1 fr KF o5
    have FI := isk_fnP (P := P) (w := w) (base := base) (k := 1) Fi s2 fr KF FK mk Fk.kp bk o6
    refine ⟨fun g rows e => ?_, fun y hy => ?_, fun g rows e => ?_⟩
    · cases e
      exact ⟨fi, fdi, _, FI, mi, Fi.kp, bi⟩
    · obtain ⟨p, hp, rfl⟩ := List.mem_map.mp (show y ∈ x.rows.map (·.1) from hy)
      have r := rowsOk p hp
      unfold rowB at r
      simp only [Bool.and_eq_true, decide_eq_true_eq, List.all_eq_true] at r
      obtain ⟨r1, r2, r3, r4, r5, r6, r7, r8⟩ := r
      obtain ⟨x1, x2, x3, x4⟩ := He.exc_ok r8
      refine ⟨He.ga K p.1, ?_, cls _ (List.mem_cons_of_mem _ (inNine p hp)), x1, x2, x3, x4⟩
      show (if okOf x.rows p.1 then some (He.ga K p.1) else none) = _
      rw [if_pos]
      unfold okOf
      exact lookup_some hp
    · cases e
      refine ⟨_, cls _ List.mem_cons_self, fun y D eD oy => ?_⟩
      have : D = He.ga K y := ctOf_some eD
      subst this
      unfold okOf at oy
      obtain ⟨bs, eb⟩ := Option.isSome_iff_exists.mp oy
      have r := rowsOk _ (look eb)
      unfold rowB at r
      simp only [Bool.and_eq_true, decide_eq_true_eq, List.all_eq_true] at r
      exact r.2.2.2.2.2.2.1
/-- the law walked: its def is the last -/
theorem law_walk {P : Program} {w : World} {dl : Dcl} {n k : Nat} {fn : Fn} {fa : Addr} {x : Str} (X : K.In h) (G : h.Ns mainGlobals mg) (c : SaysG xd gs (fasX xd ds gs blts) ((ds ++ xds xd).map toD) K) (hB : ∀ d ∈ ds ++ xds xd, BndD d) (okx : okX blts xd = true)
    (ok : okAll (glsOf gs 0) blts (xsOf xd) ds [] 0 = true) (hl : ds[n]? = some dl) (hp : dl.ps = [x]) (hx : mg dl.x = some (.ref fa)) (hfn : (build (gs.map GD.d) ds [])[n]? = some fn) (hm : fn.modes = [false]) (hk : 2 + lvs ds = k)
    (hrun : ∀ ns : List Int, ns.length ≤ 63 → fn.run [.scr ns] = .ok (.frz (.bool true)) []) :
    ∃ (K : PySem.W.Frag) (fd : FuncData) (sp : Sp), K.In h ∧ (∀ (s : Shared) (u : Value), BindsTo s fd ⟨[u], []⟩ [(x, u)]) ∧
        (∀ (H : Hp) (a : Addr) (ns : List Int), ns.length ≤ 63 → Only H → SqL K H a (ns.map V.int) → sp [.ref a] H (fun v _ => v = .bl true) fun _ _ _ => False) ∧
        ∀ base : Heap, K.In base → base.Ns mainGlobals mg → FnG P w K mg base CX0 k fa fd [x] sp := by
  have c' : SaysG xd gs (fas (ds ++ xds xd) gs blts ++ (xcl xd).map .glo) ((ds ++ xds xd).map toD) K := c
  have st := stands X G c'.d hB
  have mem : dl ∈ ds := List.mem_of_getElem? hl
  obtain ⟨f, fd, hFD, hmx, _⟩ := (st dl (List.mem_append_left _ mem)).fd
  rw [hx] at hmx
  cases hmx
  refine ⟨K, fd, fun vs H Q _ => spF K (ctOf K xd) fn vs H Q fun _ _ _ => False, X, fun s u => ?_, fun H a ns h1 _ hs => law_sp hm (hrun ns h1) rfl hs, fun base _ _ => ?_⟩
  · have b := FunD.bindsA (ps := dl.ps) hFD (hB dl (List.mem_append_left _ mem)) s [u] (by rw [hp]; rfl)
    rw [hp] at b
    exact b
  · obtain ⟨f', fd', fn', e1, F, e2, e3⟩ := prog_done (P := P) (w := w) (base := base) (ct := ctOf K xd) (xok X G c hB okx) c'.s (consts X G c') (frees X G c'.d) ds 2 0 [] [] (Nat.le_refl _) rfl (fun _ _ q => by simp at q) (fun d hd => st d (List.mem_append_left _ hd)) ok n dl hl
    rw [Nat.zero_add] at e1
    rw [hfn] at e1
    cases e1
    rw [hx] at e2
    cases e2
    obtain ⟨oc, od, dV, kV, doc, pm, an, cdv, ct2, osl, r1, lk1, _⟩ := hFD.ex
    obtain ⟨oc', od', dV', kV', doc', pm', an', cdv', ct2', osl', r2, lk2, _⟩ := e3.ex
    rw [lk1] at lk2
    cases lk2
    rw [hp, hk] at F
    exact calmed F
end
end Tr
set_option Elab.async false
set_option linter.all false
set_option maxRecDepth 100000
set_option maxHeartbeats 4000000
/-! TrP: plain reasoning over the IR's meaning: what comes out, outside in. -/
namespace Tr
open PySem

@[irreducible] def R.wp {α : Type} (r : R α) (Q : α → Env → Prop) : Prop := match r with
  | .ok a ρ => Q a ρ
  | _ => False
@[irreducible] def FR.wp (r : FR) (Q : O → Env → Prop) : Prop := match r with
  | .ok o refs => Q o refs
  | _ => False
theorem R.wpO {α : Type} (a : α) (ρ : Env) (Q : α → Env → Prop) : (R.ok a ρ).wp Q = Q a ρ := by unfold R.wp; rfl
theorem R.wpB {α : Type} (Q : α → Env → Prop) : (R.bad : R α).wp Q = False := by unfold R.wp; rfl
theorem R.wpE {α : Type} (x : Ex) (ρ : Env) (Q : α → Env → Prop) : (R.exc x ρ : R α).wp Q = False := by unfold R.wp; rfl
theorem R.wpB_elim {α : Type} {Q : α → Env → Prop} {P : Prop} (h : (R.bad : R α).wp Q) : P := by rw [R.wpB] at h; exact h.elim
theorem R.wpE_elim {α : Type} {x : Ex} {ρ : Env} {Q : α → Env → Prop} {P : Prop} (h : (R.exc x ρ : R α).wp Q) : P := by rw [R.wpE] at h; exact h.elim
/-- the same, to look into -/
def R.wpD {α : Type} (r : R α) (Q : α → Env → Prop) : Prop := match r with
  | .ok a ρ => Q a ρ
  | _ => False
theorem wp_eqD : @R.wp = @R.wpD := by
  funext α r Q
  unfold R.wp R.wpD
  rfl
theorem FR.wpO (a : O) (ρ : Env) (Q : O → Env → Prop) : (FR.ok a ρ).wp Q = Q a ρ := by unfold FR.wp; rfl
theorem FR.wpB (Q : O → Env → Prop) : FR.bad.wp Q = False := by unfold FR.wp; rfl
theorem FR.wpE (x : Ex) (ρ : Env) (Q : O → Env → Prop) : (FR.exc x ρ).wp Q = False := by unfold FR.wp; rfl
theorem FR.wpB_elim {Q : O → Env → Prop} {P : Prop} (h : FR.bad.wp Q) : P := by rw [FR.wpB] at h; exact h.elim
theorem FR.wpE_elim {x : Ex} {ρ : Env} {Q : O → Env → Prop} {P : Prop} (h : (FR.exc x ρ).wp Q) : P := by rw [FR.wpE] at h; exact h.elim
section
variable {α β : Type} {Q : α → Env → Prop} {Q' : β → Env → Prop} {ρ : Env} {Φ : Tab}
@[simp ↓] theorem wp_ok (a : α) : (R.ok a ρ).wp Q = Q a ρ := R.wpO a ρ Q
@[simp ↓] theorem wp_bad : (R.bad : R α).wp Q = False := R.wpB Q
@[simp ↓] theorem wp_exc (x : Ex) : (R.exc x ρ : R α).wp Q = False := R.wpE x ρ Q
theorem wp_bind (r : R α) (f : α → Env → R β) : (r.bind f).wp Q' = r.wp fun a ρ => (f a ρ).wp Q' := by cases r <;> simp [R.bind, R.wpO, R.wpB, R.wpE]
@[simp ↓] theorem wp_ofs (a : α) : (R.of (some a) ρ).wp Q = Q a ρ := R.wpO a ρ Q
@[simp ↓] theorem wp_ofn : (R.of (none : Option α) ρ).wp Q = False := R.wpB Q
@[simp ↓] theorem wp_if {p : Prop} [Decidable p] (r : R α) : (if p then r else .bad).wp Q = (p ∧ r.wp Q) := by by_cases h : p <;> simp [h, R.wp]
@[simp ↓] theorem wp_ifof {p : Prop} [Decidable p] (a : α) : (R.of (if p then some a else none) ρ).wp Q = (p ∧ Q a ρ) := by by_cases h : p <;> simp [h, R.wp, R.of]
@[simp ↓] theorem wp_ifofn {p : Prop} [Decidable p] (a : α) : (R.of (if p then none else some a) ρ).wp Q = (¬p ∧ Q a ρ) := by by_cases h : p <;> simp [h, R.wp, R.of]
theorem R.wp_mono {r : R α} {Q Q' : α → Env → Prop} (h : r.wp Q) (m : ∀ a ρ, Q a ρ → Q' a ρ) : r.wp Q' := by
  cases r with
  | ok a ρ => rw [R.wpO] at h ⊢; exact m _ _ h
  | bad => exact R.wpB_elim h
  | exc x ρ => exact R.wpE_elim h
theorem FR.wp_mono {r : FR} {Q Q' : O → Env → Prop} (h : r.wp Q) (m : ∀ a ρ, Q a ρ → Q' a ρ) : r.wp Q' := by
  cases r with
  | ok a ρ => rw [FR.wpO] at h ⊢; exact m _ _ h
  | bad => exact FR.wpB_elim h
  | exc x ρ => exact FR.wpE_elim h
@[simp ↓] theorem fwp_ok {Q : O → Env → Prop} (o : O) (refs : Env) : (FR.ok o refs).wp Q = Q o refs := FR.wpO o refs Q
theorem FR.wp_iff {r : FR} {Q : O → Env → Prop} : r.wp Q ↔ ∃ o refs, r = .ok o refs ∧ Q o refs := by
  cases r with
  | ok o refs => exact ⟨fun h => ⟨o, refs, rfl, by rw [FR.wpO] at h; exact h⟩, fun ⟨_, _, e, h⟩ => by cases e; rw [FR.wpO]; exact h⟩
  | exc x ρ => exact ⟨fun h => FR.wpE_elim h, fun ⟨_, _, e, h⟩ => by cases e⟩
  | bad => exact ⟨fun h => FR.wpB_elim h, fun ⟨_, _, e, h⟩ => by cases e⟩
end

/-! ### names -/
section
variable {Q : D → Env → Prop} {QO : O → Env → Prop} {r : Env} {x : Option O} {i : Nat} {d : D} {l : List O}
@[simp ↓] theorem rd_frz : (rdV 0 (some (.frz d) :: r)).wp Q = Q d (some (.frz d) :: r) := R.wpO _ _ _
@[simp ↓] theorem rd_box : (rdV 0 (some (.box l) :: r)).wp Q = (cleans l = true ∧ Q (.list (fzs l)) (some (.frz (.list (fzs l))) :: r)) := by
  by_cases h : cleans l = true <;> simp [rdV, h, R.wp, putO]
@[simp ↓] theorem rd_succ : (rdV (i + 1) (x :: r)).wp Q = (rdV i r).wp fun d r' => Q d (x :: r') := by
  unfold rdV
  rw [List.getElem?_cons_succ]
  cases e : r[i]? with
  | none => (unfold R.wp; rfl)
  | some o => cases o with
    | none => (unfold R.wp; rfl)
    | some o => cases o with
      | frz d => (unfold R.wp; rfl)
      | scr l => (unfold R.wp; rfl)
      | box l => by_cases h : cleans l = true <;> simp [h, R.wp, putO]
@[simp ↓] theorem mv_frz : (mvV 0 (some (.frz d) :: r)).wp QO = QO (.frz d) (some (.frz d) :: r) := R.wpO _ _ _
@[simp ↓] theorem mv_box : (mvV 0 (some (.box l) :: r)).wp QO = QO (.box l) (none :: r) := R.wpO _ _ _
@[simp ↓] theorem mv_scr {s : List Int} : (mvV 0 (some (.scr s) :: r)).wp QO = QO (.scr s) (some (.scr s) :: r) := R.wpO _ _ _
@[simp ↓] theorem mv_succ : (mvV (i + 1) (x :: r)).wp QO = (mvV i r).wp fun d r' => QO d (x :: r') := by
  unfold mvV
  rw [List.getElem?_cons_succ]
  cases e : r[i]? with
  | none => (unfold R.wp; rfl)
  | some o => cases o with
    | none => (unfold R.wp; rfl)
    | some o => cases o <;> (unfold R.wp; rfl)
@[simp] theorem ld_some {o : O} : ldV 0 (some o :: r) = some o := rfl
@[simp] theorem ld_none : ldV 0 (none :: r) = none := rfl
@[simp] theorem ld_succ : ldV (i + 1) (x :: r) = ldV i r := by unfold ldV; rw [List.getElem?_cons_succ]
@[simp] theorem isBox_0 : isBox 0 (some (.box l) :: r) = true := rfl
@[simp] theorem isBox_s : isBox (i + 1) (x :: r) = isBox i r := by unfold isBox; rw [List.getElem?_cons_succ]
@[simp] theorem put_0 {o : O} : putO (x :: r) 0 o = some o :: r := rfl
@[simp] theorem put_s {o : O} : putO (x :: r) (i + 1) o = x :: putO r i o := rfl
end

/-! ### expressions -/
section
variable {Φ : Tab} {ρ : Env} {Q : D → Env → Prop} {QO : O → Env → Prop} {QB : Bool → Env → Prop} {QL : List D → Env → Prop} {QF : List O → Env → Prop} {QA : List Ag → Env → Prop} {QP : Option Int → Env → Prop}
@[simp ↓] theorem w_v {i : Nat} : (E.sem Φ (.v i) ρ).wp Q = (rdV i ρ).wp Q := by simp only [E.sem]
@[simp ↓] theorem w_int {i : Int} : (E.sem Φ (.int i) ρ).wp Q = Q (.int i) ρ := by simp only [E.sem, wp_ok]
@[simp ↓] theorem w_bl {i : Bool} : (E.sem Φ (.bl i) ρ).wp Q = Q (.bool i) ρ := by simp only [E.sem, wp_ok]
@[simp ↓] theorem w_non : (E.sem Φ .non ρ).wp Q = Q .none ρ := by simp only [E.sem, wp_ok]
@[simp ↓] theorem w_str {s : Str} : (E.sem Φ (.str s) ρ).wp Q = Q (.str s) ρ := by simp only [E.sem, wp_ok]
@[simp ↓] theorem w_tup {es : Es} : (E.sem Φ (.tup es) ρ).wp Q = (es.sem Φ ρ).wp fun l ρ => l.length ≤ line ∧ Q (.tuple l) ρ := by simp only [E.sem, wp_bind, wp_if, wp_ok]
@[simp ↓] theorem w_dct {ks : List L2.Key} {es : Es} : (E.sem Φ (.dct ks es) ρ).wp Q = (es.sem Φ ρ).wp fun l ρ => (R.of (dctD ks l) ρ).wp Q := by simp only [E.sem, wp_bind]
@[simp ↓] theorem w_ix {o i : E} : (E.sem Φ (.ix o i) ρ).wp Q = (o.sem Φ ρ).wp fun d ρ => (i.sem Φ ρ).wp fun k ρ => (R.of (ixD d k) ρ).wp Q := by simp only [E.sem, wp_bind]
@[simp ↓] theorem w_ix1 {s : Nat} {i : E} : (E.sem Φ (.ix1 s i) ρ).wp Q = ((ldV s ρ).isSome = true ∧ (i.sem Φ ρ).wp fun k ρ => (rdP s [k] ρ).wp Q) := by simp only [E.sem, wp_if, wp_bind]
@[simp ↓] theorem w_pix {p : P} : (E.sem Φ (.pix p) ρ).wp Q = (R.of (p.sem ρ) ρ).wp fun l ρ => (rdP l.1 l.2 ρ).wp Q := by simp only [E.sem, wp_bind]
@[simp ↓] theorem w_plen {p : P} : (E.sem Φ (.plen p) ρ).wp Q = (R.of (p.sem ρ) ρ).wp fun l ρ => (lenP l.1 l.2 ρ).wp Q := by simp only [E.sem, wp_bind]
@[simp ↓] theorem w_ofF {f : F} : (E.sem Φ (.ofF f) ρ).wp Q = (f.sem Φ ρ).wp fun o ρ => o.clean = true ∧ Q o.fz ρ := by simp only [E.sem, wp_bind, wp_if, wp_ok]
@[simp ↓] theorem w_neg {a : E} : (E.sem Φ (.neg a) ρ).wp Q = (a.sem Φ ρ).wp fun d ρ => (R.of (negD d) ρ).wp Q := by simp only [E.sem, wp_bind]
@[simp ↓] theorem w_not {a : E} : (E.sem Φ (.not a) ρ).wp Q = (a.sem Φ ρ).wp fun d ρ => (R.of (notD d) ρ).wp Q := by simp only [E.sem, wp_bind]
@[simp ↓] theorem w_op {o : BOp} {a b : E} : (E.sem Φ (.op o a b) ρ).wp Q = (a.sem Φ ρ).wp fun d ρ => (b.sem Φ ρ).wp fun e ρ => (R.of (opD o d e) ρ).wp Q := by simp only [E.sem, wp_bind]
@[simp ↓] theorem w_cmp {o : COp} {a b : E} : (E.sem Φ (.cmp o a b) ρ).wp Q = (a.sem Φ ρ).wp fun d ρ => (b.sem Φ ρ).wp fun e ρ => (R.of (cmpD o d e) ρ).wp Q := by simp only [E.sem, wp_bind]
@[simp ↓] theorem w_memS {n : Bool} {a : E} {s : Nat} : (E.sem Φ (.memS n a s) ρ).wp Q = (a.sem Φ ρ).wp fun d ρ => (R.of (((ldV s ρ).bind (memO n d)).map .bool) ρ).wp Q := by simp only [E.sem, wp_bind]
@[simp ↓] theorem w_eqS {n : Bool} {s : Nat} {b : E} : (E.sem Φ (.eqS n s b) ρ).wp Q = ((ldV s ρ).isSome = true ∧ (b.sem Φ ρ).wp fun e ρ => (R.of ((ldV s ρ).bind fun o => eqO n o e) ρ).wp Q) := by simp only [E.sem, wp_if, wp_bind]
@[simp ↓] theorem w_isN {n : Bool} {a : E} : (E.sem Φ (.isN n a) ρ).wp Q = (a.sem Φ ρ).wp fun d ρ => Q (.bool (if n then !isNoneD d else isNoneD d)) ρ := by simp only [E.sem, wp_bind, wp_ok]
@[simp ↓] theorem w_isB {n : Bool} {a : E} {b : Bool} : (E.sem Φ (.isB n a b) ρ).wp Q = (a.sem Φ ρ).wp fun d ρ => (R.of ((boolD d).map fun c => .bool (if n then c != b else c == b)) ρ).wp Q := by simp only [E.sem, wp_bind]
@[simp ↓] theorem w_and {a b : E} : (E.sem Φ (.and a b) ρ).wp Q = (a.sem Φ ρ).wp fun d ρ => (R.of (boolD d) ρ).wp fun t ρ => (t = true → (b.sem Φ ρ).wp Q) ∧ (t = false → Q (.bool false) ρ) := by
  simp only [E.sem, wp_bind]
  congr; funext d ρ; congr; funext t ρ
  cases t <;> simp [R.wp]
@[simp ↓] theorem w_or {a b : E} : (E.sem Φ (.or a b) ρ).wp Q = (a.sem Φ ρ).wp fun d ρ => (R.of (boolD d) ρ).wp fun t ρ => (t = true → Q (.bool true) ρ) ∧ (t = false → (b.sem Φ ρ).wp Q) := by
  simp only [E.sem, wp_bind]
  congr; funext d ρ; congr; funext t ρ
  cases t <;> simp [R.wp]
@[simp ↓] theorem w_chain {o p : COp} {a b c : E} : (E.sem Φ (.chain o p a b c) ρ).wp Q = (a.sem Φ ρ).wp fun d ρ => (b.sem Φ ρ).wp fun e ρ => (R.of ((cmpD o d e).bind boolD) ρ).wp fun t ρ => (t = true → (c.sem Φ ρ).wp fun f ρ => (R.of (cmpD p e f) ρ).wp Q) ∧ (t = false → Q (.bool false) ρ) := by
  simp only [E.sem, wp_bind]
  congr; funext d ρ; congr; funext e ρ; congr; funext t ρ
  cases t <;> simp only [Bool.false_eq_true, if_false, if_true, wp_bind, wp_ok, false_implies, true_and, and_true, forall_const, reduceCtorEq, implies_true]
@[simp ↓] theorem w_ife {t : T} {a b : E} : (E.sem Φ (.ife t a b) ρ).wp Q = (t.sem Φ ρ).wp fun c ρ => (c = true → (a.sem Φ ρ).wp Q) ∧ (c = false → (b.sem Φ ρ).wp Q) := by
  simp only [E.sem, wp_bind]
  congr; funext c ρ
  cases c <;> simp
@[simp ↓] theorem w_b1 {f : B1} {a : E} : (E.sem Φ (.b1 f a) ρ).wp Q = (a.sem Φ ρ).wp fun d ρ => (R.of (b1D f d) ρ).wp Q := by simp only [E.sem, wp_bind]
@[simp ↓] theorem w_b2 {f : B2} {a b : E} : (E.sem Φ (.b2 f a b) ρ).wp Q = (a.sem Φ ρ).wp fun d ρ => (b.sem Φ ρ).wp fun e ρ => (R.of (b2D f d e) ρ).wp Q := by simp only [E.sem, wp_bind]
@[simp ↓] theorem w_isi {a : E} {ks : List Kd} : (E.sem Φ (.isi a ks) ρ).wp Q = (a.sem Φ ρ).wp fun d ρ => Q (.bool (ks.any (isK d))) ρ := by simp only [E.sem, wp_bind, wp_ok]
@[simp ↓] theorem w_lset {a : E} : (E.sem Φ (.lset a) ρ).wp Q = (a.sem Φ ρ).wp fun d ρ => (R.of (lsetD d) ρ).wp Q := by simp only [E.sem, wp_bind]
@[simp ↓] theorem w_tupRg {a : E} : (E.sem Φ (.tupRg a) ρ).wp Q = (a.sem Φ ρ).wp fun d ρ => (R.of (tupRgD d) ρ).wp Q := by simp only [E.sem, wp_bind]
@[simp ↓] theorem w_glob {k : Nat} : (E.sem Φ (.glob k) ρ).wp Q = (R.of Φ.gl[k]? ρ).wp Q := by simp only [E.sem]
@[simp ↓] theorem ws_nil : (Es.sem Φ .nil ρ).wp QL = QL [] ρ := by simp only [Es.sem, wp_ok]
@[simp ↓] theorem ws_cons {e : E} {es : Es} : (Es.sem Φ (.cons e es) ρ).wp QL = (e.sem Φ ρ).wp fun d ρ => (es.sem Φ ρ).wp fun l ρ => QL (d :: l) ρ := by simp only [Es.sem, wp_bind, wp_ok]
@[simp ↓] theorem wf_ofE {e : E} : (F.sem Φ (.ofE e) ρ).wp QO = (e.sem Φ ρ).wp fun d ρ => QO (.frz d) ρ := by simp only [F.sem, wp_bind, wp_ok]
@[simp ↓] theorem wf_mv {i : Nat} : (F.sem Φ (.mv i) ρ).wp QO = (mvV i ρ).wp QO := by simp only [F.sem]
@[simp ↓] theorem wf_lst {fs : Fs} : (F.sem Φ (.lst fs) ρ).wp QO = (fs.sem Φ ρ).wp fun l ρ => l.length ≤ line ∧ QO (.box l) ρ := by simp only [F.sem, wp_bind, wp_if, wp_ok]
@[simp ↓] theorem wf_add {a b : E} : (F.sem Φ (.add a b) ρ).wp QO = (a.sem Φ ρ).wp fun d ρ => (b.sem Φ ρ).wp fun e ρ => (R.of (addO d e) ρ).wp QO := by simp only [F.sem, wp_bind]
@[simp ↓] theorem wf_mul {a b : E} : (F.sem Φ (.mul a b) ρ).wp QO = (a.sem Φ ρ).wp fun d ρ => (b.sem Φ ρ).wp fun e ρ => (R.of (mulO d e) ρ).wp QO := by simp only [F.sem, wp_bind]
@[simp ↓] theorem wf_slice {o : E} {lo hi : Pt} : (F.sem Φ (.slice o lo hi) ρ).wp QO = (o.sem Φ ρ).wp fun d ρ => (lo.sem Φ ρ).wp fun l ρ => (hi.sem Φ ρ).wp fun h ρ => (R.of (sliceO d l h) ρ).wp QO := by simp only [F.sem, wp_bind]
@[simp ↓] theorem wf_cut {s : Nat} {lo hi : Pt} : (F.sem Φ (.cut s lo hi) ρ).wp QO = ((ldV s ρ).isSome = true ∧ (lo.sem Φ ρ).wp fun l ρ => (hi.sem Φ ρ).wp fun h ρ => (R.of ((ldV s ρ).bind fun o => cutO o l h) ρ).wp QO) := by simp only [F.sem, wp_if, wp_bind]
@[simp ↓] theorem wf_list {e : E} : (F.sem Φ (.list e) ρ).wp QO = (e.sem Φ ρ).wp fun d ρ => (R.of (listO d) ρ).wp QO := by simp only [F.sem, wp_bind]
@[simp ↓] theorem wf_rev {e : E} : (F.sem Φ (.rev e) ρ).wp QO = (e.sem Φ ρ).wp fun d ρ => (R.of (revO d) ρ).wp QO := by simp only [F.sem, wp_bind]
@[simp ↓] theorem wf_sort {e : E} : (F.sem Φ (.sort e) ρ).wp QO = (e.sem Φ ρ).wp fun d ρ => (R.of (sortO d) ρ).wp QO := by simp only [F.sem, wp_bind]
@[simp ↓] theorem wf_sortS {e : E} : (F.sem Φ (.sortS e) ρ).wp QO = (e.sem Φ ρ).wp fun d ρ => (R.of (sortSO d) ρ).wp QO := by simp only [F.sem, wp_bind]
@[simp ↓] theorem wf_lzip {a b : E} : (F.sem Φ (.lzip a b) ρ).wp QO = (a.sem Φ ρ).wp fun d ρ => (b.sem Φ ρ).wp fun e ρ => (R.of (lzipO d e) ρ).wp QO := by simp only [F.sem, wp_bind]
theorem wp_lendF {α : Type} {ss : List Nat} {m : Env → R α} {ok : α → Bool} {Q : α → Env → Prop} : (lendF ss m ok ρ).wp Q = (R.of (lendE ss ρ (dropB ρ)) ρ).wp fun ρ1 ρ => (m ρ1).wp fun a _ => ok a = true ∧ Q a ρ := by
  unfold lendF
  rw [wp_bind]
  congr 1
  funext ρ1 ρ
  cases m ρ1 with
  | bad => simp [R.wp]
  | exc x ρ2 => simp [R.wp]
  | ok a ρ2 =>
    dsimp only
    rw [wp_if, wp_ok, wp_ok]
@[simp ↓] theorem wf_lend {ss : List Nat} {f : F} : (F.sem Φ (.lend ss f) ρ).wp QO = (R.of (lendE ss ρ (dropB ρ)) ρ).wp fun ρ1 ρ => (f.sem Φ ρ1).wp fun o _ => noLB o = true ∧ QO o ρ := by simp only [F.sem]; exact wp_lendF
@[simp ↓] theorem wf_pick {fs : Fs} {i : E} : (F.sem Φ (.pick fs i) ρ).wp QO = (fs.sem Φ ρ).wp fun l ρ => l.length ≤ line ∧ (i.sem Φ ρ).wp fun k ρ => (R.of (pickO l k) ρ).wp QO := by simp only [F.sem, wp_bind, wp_if]
@[simp ↓] theorem wf_revL {e : E} : (F.sem Φ (.revL e) ρ).wp QO = (e.sem Φ ρ).wp fun d ρ => (R.of (revX d) ρ).wp QO := by simp only [F.sem, wp_bind]
@[simp ↓] theorem wf_listv {s : Nat} : (F.sem Φ (.listv s) ρ).wp QO = (R.of ((ldV s ρ).bind scrO) ρ).wp QO := by simp only [F.sem]
@[simp ↓] theorem wf_lrg1 {e : E} : (F.sem Φ (.lrg1 e) ρ).wp QO = (e.sem Φ ρ).wp fun d ρ => (R.of (lrg1D d) ρ).wp QO := by simp only [F.sem, wp_bind]
@[simp ↓] theorem wf_lrg2 {a b : E} : (F.sem Φ (.lrg2 a b) ρ).wp QO = (a.sem Φ ρ).wp fun d ρ => (b.sem Φ ρ).wp fun e ρ => (R.of (lrg2D d e) ρ).wp QO := by simp only [F.sem, wp_bind]
@[simp ↓] theorem wf_call {k : Nat} {as : As} : (F.sem Φ (.call k as) ρ).wp QO = (as.sem Φ ρ).wp fun l ρ => (callF Φ k l ρ).wp QO := by simp only [F.sem, wp_bind]
@[simp ↓] theorem wf_callL {k : Nat} {as : As} : (F.sem Φ (.callL k as) ρ).wp QO = (as.sem Φ ρ).wp fun l ρ => (callLF Φ k l ρ).wp QO := by simp only [F.sem, wp_bind]
@[simp ↓] theorem wf_comp {t : Tg} {it : I} {c : Ts} {e : F} {own : List Nat} : (F.sem Φ (.comp t it c e own) ρ).wp QO = (it.sem Φ ρ).wp fun ds ρ => (compL own (asgT t) (c.sem Φ) (e.sem Φ) ds (wipeE own ρ)).wp fun l ρ' => l.length ≤ line ∧ QO (.box l) (keepE own ρ ρ') := by simp only [F.sem, wp_bind, wp_if, wp_ok]
@[simp ↓] theorem wf_pop {s : Nat} : (F.sem Φ (.pop s) ρ).wp QO = (mdP popF s [] ρ).wp QO := by simp only [F.sem]
@[simp ↓] theorem wf_popAt {s : Nat} {i : E} : (F.sem Φ (.popAt s i) ρ).wp QO = (isBox s ρ = true ∧ (i.sem Φ ρ).wp fun k ρ => (mdP (popAtF k) s [] ρ).wp QO) := by simp only [F.sem, wp_if, wp_bind]
@[simp ↓] theorem wpt_none : (Pt.sem Φ .none ρ).wp QP = QP none ρ := by simp only [Pt.sem, wp_ok]
@[simp ↓] theorem wpt_some {e : E} : (Pt.sem Φ (.some e) ρ).wp QP = (e.sem Φ ρ).wp fun d ρ => (R.of (partD d) ρ).wp QP := by simp only [Pt.sem, wp_bind]
@[simp ↓] theorem wfs_nil : (Fs.sem Φ .nil ρ).wp QF = QF [] ρ := by simp only [Fs.sem, wp_ok]
@[simp ↓] theorem wfs_cons {e : F} {es : Fs} : (Fs.sem Φ (.cons e es) ρ).wp QF = (e.sem Φ ρ).wp fun d ρ => (es.sem Φ ρ).wp fun l ρ => QF (d :: l) ρ := by simp only [Fs.sem, wp_bind, wp_ok]
@[simp ↓] theorem was_nil : (As.sem Φ .nil ρ).wp QA = QA [] ρ := by simp only [As.sem, wp_ok]
@[simp ↓] theorem was_e {a : E} {as : As} : (As.sem Φ (.e a as) ρ).wp QA = (a.sem Φ ρ).wp fun d ρ => (as.sem Φ ρ).wp fun l ρ => QA (.d d :: l) ρ := by simp only [As.sem, wp_bind, wp_ok]
@[simp ↓] theorem was_r {s : Nat} {as : As} : (As.sem Φ (.r s as) ρ).wp QA = ((ldV s ρ).isSome = true ∧ (as.sem Φ ρ).wp fun l ρ => QA (.r s :: l) ρ) := by simp only [As.sem, wp_if, wp_bind, wp_ok]
@[simp ↓] theorem was_b {s : Nat} {as : As} : (As.sem Φ (.b s as) ρ).wp QA = ((ldV s ρ).isSome = true ∧ (as.sem Φ ρ).wp fun l ρ => QA (.b s :: l) ρ) := by simp only [As.sem, wp_if, wp_bind, wp_ok]
@[simp ↓] theorem wt_cmp {o : COp} {a b : E} : (T.sem Φ (.cmp o a b) ρ).wp QB = (a.sem Φ ρ).wp fun d ρ => (b.sem Φ ρ).wp fun e ρ => (R.of ((cmpD o d e).bind boolD) ρ).wp QB := by simp only [T.sem, wp_bind]
@[simp ↓] theorem wt_memS {n : Bool} {a : E} {s : Nat} : (T.sem Φ (.memS n a s) ρ).wp QB = (a.sem Φ ρ).wp fun d ρ => (R.of ((ldV s ρ).bind (memO n d)) ρ).wp QB := by simp only [T.sem, wp_bind]
@[simp ↓] theorem wt_eqS {n : Bool} {s : Nat} {b : E} : (T.sem Φ (.eqS n s b) ρ).wp QB = ((ldV s ρ).isSome = true ∧ (b.sem Φ ρ).wp fun e ρ => (R.of ((ldV s ρ).bind fun o => (eqO n o e).bind boolD) ρ).wp QB) := by simp only [T.sem, wp_if, wp_bind]
@[simp ↓] theorem wt_chain {o p : COp} {a b c : E} : (T.sem Φ (.chain o p a b c) ρ).wp QB = (a.sem Φ ρ).wp fun d ρ => (b.sem Φ ρ).wp fun e ρ => (R.of ((cmpD o d e).bind boolD) ρ).wp fun t ρ => (t = true → (c.sem Φ ρ).wp fun f ρ => (R.of ((cmpD p e f).bind boolD) ρ).wp QB) ∧ (t = false → QB false ρ) := by
  simp only [T.sem, wp_bind]
  congr; funext d ρ; congr; funext e ρ; congr; funext t ρ
  cases t <;> simp only [Bool.false_eq_true, if_false, if_true, wp_bind, wp_ok, false_implies, true_and, and_true, forall_const, reduceCtorEq, implies_true]
@[simp ↓] theorem wt_isN {n : Bool} {a : E} : (T.sem Φ (.isN n a) ρ).wp QB = (a.sem Φ ρ).wp fun d ρ => QB (if n then !isNoneD d else isNoneD d) ρ := by simp only [T.sem, wp_bind, wp_ok]
@[simp ↓] theorem wt_isB {n : Bool} {a : E} {b : Bool} : (T.sem Φ (.isB n a b) ρ).wp QB = (a.sem Φ ρ).wp fun d ρ => (R.of ((boolD d).map fun c => if n then c != b else c == b) ρ).wp QB := by simp only [T.sem, wp_bind]
@[simp ↓] theorem wt_and {a b : T} : (T.sem Φ (.and a b) ρ).wp QB = (a.sem Φ ρ).wp fun t ρ => (t = true → (b.sem Φ ρ).wp QB) ∧ (t = false → QB false ρ) := by
  simp only [T.sem, wp_bind]
  congr; funext c ρ
  cases c <;> simp [R.wp]
@[simp ↓] theorem wt_or {a b : T} : (T.sem Φ (.or a b) ρ).wp QB = (a.sem Φ ρ).wp fun t ρ => (t = true → QB true ρ) ∧ (t = false → (b.sem Φ ρ).wp QB) := by
  simp only [T.sem, wp_bind]
  congr; funext c ρ
  cases c <;> simp [R.wp]
@[simp ↓] theorem wt_not {a : T} : (T.sem Φ (.not a) ρ).wp QB = (a.sem Φ ρ).wp fun t ρ => QB (!t) ρ := by simp only [T.sem, wp_bind, wp_ok]
@[simp ↓] theorem wt_lend {ss : List Nat} {t : T} : (T.sem Φ (.lend ss t) ρ).wp QB = (R.of (lendE ss ρ (dropB ρ)) ρ).wp fun ρ1 ρ => (t.sem Φ ρ1).wp fun b _ => QB b ρ := by simp only [T.sem, wp_lendF, true_and]
@[simp ↓] theorem wt_tru {e : E} : (T.sem Φ (.tru e) ρ).wp QB = (e.sem Φ ρ).wp fun d ρ => (R.of (truD d) ρ).wp QB := by simp only [T.sem, wp_bind]
@[simp ↓] theorem wts_nil : (Ts.sem Φ .nil ρ).wp QB = QB true ρ := by simp only [Ts.sem, wp_ok]
@[simp ↓] theorem wts_one {t : T} : (Ts.sem Φ (.one t) ρ).wp QB = (t.sem Φ ρ).wp QB := by simp only [Ts.sem]
@[simp ↓] theorem wi_seq {e : E} : (I.sem Φ (.seq e) ρ).wp QL = (e.sem Φ ρ).wp fun d ρ => (R.of (itemsD d) ρ).wp QL := by simp only [I.sem, wp_bind]
@[simp ↓] theorem wi_range1 {e : E} : (I.sem Φ (.range1 e) ρ).wp QL = (e.sem Φ ρ).wp fun d ρ => (R.of (range1D d) ρ).wp QL := by simp only [I.sem, wp_bind]
@[simp ↓] theorem wi_range2 {a b : E} : (I.sem Φ (.range2 a b) ρ).wp QL = (a.sem Φ ρ).wp fun d ρ => (b.sem Φ ρ).wp fun e ρ => (R.of (range2D d e) ρ).wp QL := by simp only [I.sem, wp_bind]
@[simp ↓] theorem wi_enum {e : E} : (I.sem Φ (.enum e) ρ).wp QL = (e.sem Φ ρ).wp fun d ρ => (R.of ((itemsD d).map (enumFrom 0)) ρ).wp QL := by simp only [I.sem, wp_bind]
@[simp ↓] theorem wi_zip {a b : E} : (I.sem Φ (.zip a b) ρ).wp QL = (a.sem Φ ρ).wp fun d ρ => (b.sem Φ ρ).wp fun e ρ => (R.of (pairsD d e) ρ).wp QL := by simp only [I.sem, wp_bind]
end

/-! ### statements -/
section
variable {Φ : Tab} {ρ : Env} {Q : Fl → Env → Prop}
/-- what is left of a body -/
def seqK (Φ : Tab) (ss : Ss) (Q : Fl → Env → Prop) : Fl → Env → Prop := fun fl ρ => match fl with
  | .nx => (ss.sem Φ ρ).wp Q
  | fl => Q fl ρ
@[simp ↓] theorem seqK_nx {ss : Ss} : seqK Φ ss Q .nx ρ = (ss.sem Φ ρ).wp Q := id rfl
@[simp ↓] theorem seqK_ret {ss : Ss} {o : O} : seqK Φ ss Q (.ret o) ρ = Q (.ret o) ρ := id rfl
@[simp ↓] theorem seqK_brk {ss : Ss} : seqK Φ ss Q .brk ρ = Q .brk ρ := id rfl
@[simp ↓] theorem seqK_ct {ss : Ss} : seqK Φ ss Q .ct ρ = Q .ct ρ := id rfl
@[simp ↓] theorem wss_nil : (Ss.sem Φ .nil ρ).wp Q = Q .nx ρ := by simp only [Ss.sem, wp_ok]
@[simp ↓] theorem wss_cons {s : S} {ss : Ss} : (Ss.sem Φ (.cons s ss) ρ).wp Q = (s.sem Φ ρ).wp (seqK Φ ss Q) := by
  simp only [Ss.sem, wp_bind]
  congr; funext fl ρ
  cases fl <;> simp [seqK]
@[simp ↓] theorem wst_set {i : Nat} {f : F} : (S.sem Φ (.set i f) ρ).wp Q = (f.sem Φ ρ).wp fun o ρ => Q .nx (putO ρ i o) := by simp only [S.sem, wp_bind, wp_ok]
/-- a row taken apart -/
def unpK (is : List Nat) (d : D) (ρ : Env) (Q : Fl → Env → Prop) : Prop := match itemsD d with
  | some l => l.length = is.length ∧ Q .nx ((is.zip l).foldl (fun r p => putO r p.1 (.frz p.2)) ρ)
  | none => False
@[simp] theorem unpK_tup {is : List Nat} {l : List D} : unpK is (.tuple l) ρ Q = (l.length = is.length ∧ Q .nx ((is.zip l).foldl (fun r p => putO r p.1 (.frz p.2)) ρ)) := rfl
@[simp] theorem unpK_list {is : List Nat} {l : List D} : unpK is (.list l) ρ Q = (l.length = is.length ∧ Q .nx ((is.zip l).foldl (fun r p => putO r p.1 (.frz p.2)) ρ)) := rfl
@[simp ↓] theorem wst_unpack {is : List Nat} {e : E} : (S.sem Φ (.unpack is e) ρ).wp Q = (e.sem Φ ρ).wp fun d ρ => unpK is d ρ Q := by
  simp only [S.sem, wp_bind]
  congr; funext d ρ
  simp only [asgT, unpK]
  cases itemsD d with
  | none => (unfold R.wp; rfl)
  | some l =>
    dsimp only
    by_cases h : l.length = is.length
    · rw [if_pos h, eq_true h, true_and]; (unfold R.wp; rfl)
    · rw [if_neg h, eq_false h, false_and]; (unfold R.wp; rfl)
@[simp ↓] theorem wst_par {i j : Nat} {a b : E} : (S.sem Φ (.par i j a b) ρ).wp Q = (a.sem Φ ρ).wp fun d ρ => (b.sem Φ ρ).wp fun e ρ => Q .nx (putO (putO ρ i (.frz d)) j (.frz e)) := by simp only [S.sem, wp_bind, wp_ok]
@[simp ↓] theorem wst_store {s : Nat} {i : E} {f : F} : (S.sem Φ (.store s i f) ρ).wp Q = (f.sem Φ ρ).wp fun o ρ => isBox s ρ = true ∧ (i.sem Φ ρ).wp fun k ρ => (mdP (storeF k o) s [] ρ).wp fun _ ρ => Q .nx ρ := by simp only [S.sem, wp_bind, wp_if, wp_ok]
@[simp ↓] theorem wst_storeP {p : P} {q : Qx} {f : F} : (S.sem Φ (.storeP p q f) ρ).wp Q = (f.sem Φ ρ).wp fun o ρ => (R.of (p.sem ρ) ρ).wp fun l ρ => (R.of (q.sem ρ) ρ).wp fun k ρ => (mdP (storeF (.int k) o) l.1 l.2 ρ).wp fun _ ρ => Q .nx ρ := by simp only [S.sem, wp_bind, wp_ok]
@[simp ↓] theorem wst_par3 {i j k : Nat} {a b c : E} : (S.sem Φ (.par3 i j k a b c) ρ).wp Q = (a.sem Φ ρ).wp fun d ρ => (b.sem Φ ρ).wp fun e ρ => (c.sem Φ ρ).wp fun f ρ => Q .nx (putO (putO (putO ρ i (.frz d)) j (.frz e)) k (.frz f)) := by simp only [S.sem, wp_bind, wp_ok]
@[simp ↓] theorem wst_insert {s : Nat} {i a : E} : (S.sem Φ (.insert s i a) ρ).wp Q = (isBox s ρ = true ∧ (i.sem Φ ρ).wp fun k ρ => (a.sem Φ ρ).wp fun d ρ => (mdP (insF k d) s [] ρ).wp fun _ ρ => Q .nx ρ) := by simp only [S.sem, wp_if, wp_bind, wp_ok]
@[simp ↓] theorem wst_append {s : Nat} {f : F} : (S.sem Φ (.append s f) ρ).wp Q = (isBox s ρ = true ∧ (f.sem Φ ρ).wp fun o ρ => (mdP (appF o) s [] ρ).wp fun _ ρ => Q .nx ρ) := by simp only [S.sem, wp_if, wp_bind, wp_ok]
@[simp ↓] theorem wst_extend {s : Nat} {e : E} : (S.sem Φ (.extend s e) ρ).wp Q = (isBox s ρ = true ∧ (e.sem Φ ρ).wp fun d ρ => (R.of (listD d) ρ).wp fun ds ρ => (mdP (extF ds) s [] ρ).wp fun _ ρ => Q .nx ρ) := by simp only [S.sem, wp_if, wp_bind, wp_ok]
@[simp ↓] theorem wst_reverse {s : Nat} : (S.sem Φ (.reverse s) ρ).wp Q = (mdP revF s [] ρ).wp fun _ ρ => Q .nx ρ := by simp only [S.sem, wp_bind, wp_ok]
@[simp ↓] theorem wst_expr {f : F} : (S.sem Φ (.expr f) ρ).wp Q = (f.sem Φ ρ).wp fun _ ρ => Q .nx ρ := by simp only [S.sem, wp_bind, wp_ok]
@[simp ↓] theorem wst_ite {t : T} {a b : Ss} : (S.sem Φ (.ite t a b) ρ).wp Q = (t.sem Φ ρ).wp fun c ρ => (c = true → (a.sem Φ ρ).wp Q) ∧ (c = false → (b.sem Φ ρ).wp Q) := by
  simp only [S.sem, wp_bind]
  congr; funext c ρ
  cases c <;> simp
@[simp ↓] theorem wst_loop {t : Tg} {it : I} {b : Ss} : (S.sem Φ (.loop t it b) ρ).wp Q = (it.sem Φ ρ).wp fun ds ρ => (loopL (asgT t) (b.sem Φ) ds ρ).wp Q := by simp only [S.sem, wp_bind]
@[simp ↓] theorem wst_whl {t : T} {b : Ss} : (S.sem Φ (.whl t b) ρ).wp Q = (whlS (t.sem Φ) (b.sem Φ) ρ).wp Q := by simp only [S.sem]
@[simp ↓] theorem wst_ret {f : F} : (S.sem Φ (.ret f) ρ).wp Q = (f.sem Φ ρ).wp fun o ρ => Q (.ret o) ρ := by simp only [S.sem, wp_bind, wp_ok]
@[simp ↓] theorem wst_retN : (S.sem Φ .retN ρ).wp Q = Q (.ret (.frz .none)) ρ := by simp only [S.sem, wp_ok]
@[simp ↓] theorem wst_pass : (S.sem Φ .pass ρ).wp Q = Q .nx ρ := by simp only [S.sem, wp_ok]
@[simp ↓] theorem wst_brk : (S.sem Φ .brk ρ).wp Q = Q .brk ρ := by simp only [S.sem, wp_ok]
@[simp ↓] theorem wst_ct : (S.sem Φ .ct ρ).wp Q = Q .ct ρ := by simp only [S.sem, wp_ok]
@[simp ↓] theorem wst_never : (S.sem Φ .never ρ).wp Q = False := by simp only [S.sem, wp_bad]
end

/-! ### data -/
section
variable {ρ : Env} {Q : D → Env → Prop} {QO : O → Env → Prop} {QB : Bool → Env → Prop} {QL : List D → Env → Prop} {i j : Int} {a b : Bool} {l m : List D} {x y : Str}
@[simp] theorem op_sub_ : opD .sub (.int i) (.int j) = some (.int (i - j)) := rfl
@[simp] theorem op_fdiv_ : opD .fdiv (.int i) (.int j) = if j ≠ 0 ∧ j.natAbs.log2 < 9000 then some (.int (i.fdiv j)) else none := rfl
@[simp] theorem op_mod_ : opD .mod (.int i) (.int j) = if j ≠ 0 then some (.int (i.fmod j)) else none := rfl
@[simp] theorem op_pow_ : opD .pow (.int i) (.int j) = if 0 ≤ j ∧ j ≤ 1000000 ∧ i.natAbs < 2 ^ 64 then some (.int (i ^ j.toNat)) else none := rfl
@[simp] theorem op_shl_ : opD .shl (.int i) (.int j) = if 0 ≤ j ∧ j ≤ 1000000 ∧ i.natAbs < 2 ^ 64 then some (.int (i * 2 ^ j.toNat)) else none := rfl
@[simp] theorem op_shr_ : opD .shr (.int i) (.int j) = if 0 ≤ j then some (.int (i / 2 ^ j.toNat)) else none := rfl
@[simp] theorem op_band_ : opD .band (.int i) (.int j) = some (.int (Builtin.bitAnd i j)) := rfl
@[simp] theorem neg_ : negD (.int i) = some (.int (-i)) := rfl
@[simp] theorem add_ii : addO (.int i) (.int j) = some (.frz (.int (i + j))) := rfl
@[simp] theorem add_ss : addO (.str x) (.str y) = if x.length + y.length ≤ line then some (.frz (.str (x ++ y))) else none := rfl
@[simp] theorem add_tt : addO (.tuple l) (.tuple m) = if l.length + m.length ≤ line then some (.frz (.tuple (l ++ m))) else none := rfl
@[simp] theorem add_ll : addO (.list l) (.list m) = if l.length + m.length ≤ line then some (.box ((l ++ m).map .frz)) else none := rfl
@[simp] theorem mul_ii : mulO (.int i) (.int j) = if i.natAbs.log2 + j.natAbs.log2 < 1000000 then some (.frz (.int (i * j))) else none := rfl
@[simp] theorem mul_ti : mulO (.tuple l) (.int j) = if (((l = [] ∨ j ≤ 1) ∧ -(2 ^ 63) ≤ j ∧ j < 2 ^ 63) ∨ (l ≠ [] ∧ 2 ≤ j ∧ j ≤ 1000 ∧ l.length ≤ 1000)) then some (.frz (.tuple (List.replicate j.toNat l).flatten)) else none := rfl
@[simp] theorem lrg1_i : lrg1D (.int j) = if -(2 ^ 62) ≤ j ∧ j ≤ 16777216 then some (.box ((rng 0 j.toNat).map .frz)) else none := rfl
@[simp] theorem lrg2_ii : lrg2D (.int i) (.int j) = if -(2 ^ 62) ≤ i ∧ i < 2 ^ 62 ∧ -(2 ^ 62) ≤ j ∧ j < 2 ^ 62 ∧ (j - i).toNat ≤ line then some (.box ((rng i (j - i).toNat).map .frz)) else none := rfl
@[simp] theorem scr_o {l : List Int} : scrO (.scr l) = some (.box (l.map fun i => .frz (.int i))) := rfl
@[simp] theorem mul_li : mulO (.list l) (.int j) = if j < 2 ^ 63 ∧ -(2 ^ 63) ≤ j ∧ l.length * j.toNat ≤ line then some (.box ((List.replicate j.toNat l).flatten.map .frz)) else none := rfl
@[simp] theorem tru_b : truD (.bool a) = some a := rfl
@[simp] theorem tru_i : truD (.int i) = some (i != 0) := rfl
@[simp] theorem tru_n : truD .none = some false := rfl
@[simp] theorem not_b : notD (.bool a) = some (.bool (!a)) := rfl
@[simp] theorem bool_b : boolD (.bool a) = some a := rfl
@[simp] theorem cmp_lt_ii : cmpD .lt (.int i) (.int j) = some (.bool (decide (i < j))) := rfl
@[simp] theorem cmp_le_ii : cmpD .le (.int i) (.int j) = some (.bool (decide (i ≤ j))) := rfl
@[simp] theorem cmp_gt_ii : cmpD .gt (.int i) (.int j) = some (.bool (decide (j < i))) := rfl
@[simp] theorem cmp_ge_ii : cmpD .ge (.int i) (.int j) = some (.bool (decide (j ≤ i))) := rfl
@[simp] theorem eqOk_ii : eqOk (.int i) (.int j) = true := rfl
@[simp] theorem eqOk_bb : eqOk (.bool a) (.bool b) = true := rfl
@[simp] theorem cmp_eq_ii : cmpD .eq (.int i) (.int j) = some (.bool (decide (i = j))) := by
  simp only [cmpD, eqOk_ii, if_true, PyData.eqv]
  by_cases h : i = j <;> simp [h]
@[simp] theorem cmp_ne_ii : cmpD .ne (.int i) (.int j) = some (.bool (decide (i ≠ j))) := by
  simp only [cmpD, eqOk_ii, if_true, PyData.eqv]
  by_cases h : i = j <;> simp [h]
@[simp] theorem cmp_eq_bb : cmpD .eq (.bool a) (.bool b) = some (.bool (a == b)) := by
  simp only [cmpD, eqOk_bb, Bool.or_true, if_true, PyData.eqv]
@[simp] theorem cmp_ne_bb : cmpD .ne (.bool a) (.bool b) = some (.bool (a != b)) := by
  simp only [cmpD, eqOk_bb, Bool.or_true, if_true, PyData.eqv]
  cases a <;> cases b <;> rfl
@[simp] theorem cmp_eq_ss {x y : Str} : cmpD .eq (.str x) (.str y) = some (.bool (decide (x = y))) := by
  simp only [cmpD, strs2, Bool.true_or, if_true, PyData.eqv]
  by_cases h : x = y <;> simp [h]
@[simp] theorem cmp_ne_ss {x y : Str} : cmpD .ne (.str x) (.str y) = some (.bool (decide (x ≠ y))) := by
  simp only [cmpD, strs2, Bool.true_or, if_true, PyData.eqv]
  by_cases h : x = y <;> simp [h]
@[simp] theorem b1_abs : b1D .abs (.int i) = some (.int (if i < 0 then -i else i)) := rfl
@[simp] theorem b1_int : b1D .int (.int i) = some (.int i) := rfl
@[simp] theorem b1_intb : b1D .int (.bool a) = some (.int (if a then 1 else 0)) := rfl
@[simp] theorem b1_lenL : b1D .len (.list l) = some (.int l.length) := rfl
@[simp] theorem b1_lenT : b1D .len (.tuple l) = some (.int l.length) := rfl
@[simp] theorem b1_tupL : b1D .tuple (.list l) = some (.tuple l) := rfl
@[simp] theorem b1_tupT : b1D .tuple (.tuple l) = some (.tuple l) := rfl
@[simp] theorem b2_max : b2D .max (.int i) (.int j) = some (.int (if j > i then j else i)) := rfl
@[simp] theorem b2_min : b2D .min (.int i) (.int j) = some (.int (if j < i then j else i)) := rfl
@[simp] theorem ix_L : ixD (.list l) (.int i) = atD l i := rfl
@[simp] theorem ix_T : ixD (.tuple l) (.int i) = atD l i := rfl
@[simp] theorem items_L : itemsD (.list l) = some l := rfl
@[simp] theorem items_T : itemsD (.tuple l) = some l := rfl
@[simp] theorem listD_L : listD (.list l) = some l := rfl
@[simp] theorem listO_L : listO (.list l) = some (.box (l.map .frz)) := rfl
@[simp] theorem listO_T : listO (.tuple l) = some (.box (l.map .frz)) := rfl
@[simp] theorem revO_L : revO (.list l) = if l.length ≤ line then some (.box (l.reverse.map .frz)) else none := rfl
@[simp] theorem revX_L : revX (.list l) = if l.length ≤ line then some (.box (l.reverse.map .frz)) else none := rfl
@[simp] theorem revX_T : revX (.tuple l) = some (.frz (.tuple l.reverse)) := rfl
@[simp] theorem part_i : partD (.int i) = some (some i) := rfl
@[simp] theorem range1_i : range1D (.int j) = if -(2 ^ 62) ≤ j ∧ j < 2 ^ 62 then some (rng 0 j.toNat) else none := rfl
@[simp] theorem range2_i : range2D (.int i) (.int j) = if -(2 ^ 62) ≤ i ∧ i < 2 ^ 62 ∧ -(2 ^ 62) ≤ j ∧ j < 2 ^ 62 then some (rng i (j - i).toNat) else none := rfl
@[simp] theorem sl_L {lo hi : Option Int} : sliceO (.list l) lo hi = some (.box ((cutL l lo hi).map .frz)) := rfl
@[simp] theorem sl_T {lo hi : Option Int} : sliceO (.tuple l) lo hi = some (.frz (.tuple (cutL l lo hi))) := rfl
@[simp] theorem clean_f {d : D} : (O.frz d).clean = true := by simp [O.clean]
@[simp] theorem clean_b {l : List O} : (O.box l).clean = cleans l := by simp [O.clean]
@[simp] theorem fz_f {d : D} : (O.frz d).fz = d := by simp [O.fz]
@[simp] theorem fz_b {l : List O} : (O.box l).fz = .list (fzs l) := by simp [O.fz]
@[simp] theorem cleans_n : cleans [] = true := by simp [cleans]
@[simp] theorem cleans_c {o : O} {l : List O} : cleans (o :: l) = (o.clean && cleans l) := by simp [cleans]
@[simp] theorem fzs_n : fzs [] = [] := by simp [fzs]
@[simp] theorem fzs_c {o : O} {l : List O} : fzs (o :: l) = o.fz :: fzs l := by simp [fzs]
@[simp] theorem cleans_map {l : List D} : cleans (l.map .frz) = true := by induction l <;> simp_all
@[simp] theorem fzs_map {l : List D} : fzs (l.map .frz) = l := by induction l <;> simp_all
@[simp] theorem fzs_comp {α : Type} {f : α → D} {l : List α} : fzs (l.map fun x => .frz (f x)) = l.map f := by induction l <;> simp_all
@[simp] theorem cleans_comp {α : Type} {f : α → D} {l : List α} : cleans (l.map fun x => .frz (f x)) = true := by induction l <;> simp_all
theorem fzs_len {l : List O} : (fzs l).length = l.length := by rw [fzs_eq, List.length_map]
end

/-! ### places -/
theorem atD_ok {α : Type} {l : List α} {i : Int} {a : α} (h0 : 0 ≤ i) (h : l[i.toNat]? = some a) : atD l i = some a := by
  unfold atD ixN
  have hl := (List.getElem?_eq_some_iff.mp h).1
  rw [if_pos h0, if_pos (by omega)]
  exact h
@[simp] theorem atD_0 {α : Type} {a : α} {l : List α} : atD (a :: l) 0 = some a := by
  unfold atD ixN
  simp
@[simp] theorem atD_1 {α : Type} {a b : α} {l : List α} : atD (a :: b :: l) 1 = some b := by
  refine atD_ok (by decide) rfl
@[simp] theorem atD_2 {α : Type} {a b c : α} {l : List α} : atD (a :: b :: c :: l) 2 = some c := atD_ok (by decide) rfl
@[simp] theorem atD_3 {α : Type} {a b c d : α} {l : List α} : atD (a :: b :: c :: d :: l) 3 = some d := atD_ok (by decide) rfl
theorem atD_lt {α : Type} {l : List α} {i : Int} (h0 : 0 ≤ i) (h : i < l.length) : atD l i = some (l[i.toNat]'(by omega)) := atD_ok h0 (List.getElem?_eq_getElem _)

/-! ### loops -/
theorem wpD_ok {α : Type} {Q : α → Env → Prop} {ρ : Env} (a : α) : (R.ok a ρ).wpD Q = Q a ρ := rfl
theorem wpD_bind {α β : Type} {Q' : β → Env → Prop} (r : R α) (f : α → Env → R β) : (r.bind f).wpD Q' = r.wpD fun a ρ => (f a ρ).wpD Q' := by cases r <;> rfl
theorem R.wpD_mono {α : Type} {r : R α} {Q Q' : α → Env → Prop} (h : r.wpD Q) (m : ∀ a ρ, Q a ρ → Q' a ρ) : r.wpD Q' := by
  cases r with
  | ok a ρ => exact m _ _ h
  | _ => exact h
theorem loop_wpD {asg : D → Env → Option Env} {body : Env → R Fl} {Q : Fl → Env → Prop} (Inv : Nat → Env → Prop) : ∀ {ds : List D} {ρ : Env} (i0 : Nat), Inv i0 ρ →
    (∀ i d ρ, ds[i]? = some d → Inv (i0 + i) ρ → ∃ ρ1, asg d ρ = some ρ1 ∧ (body ρ1).wpD fun fl ρ2 => match fl with
      | .nx => Inv (i0 + i + 1) ρ2 | .ct => Inv (i0 + i + 1) ρ2 | .brk => Q .nx ρ2 | .ret o => Q (.ret o) ρ2) → (∀ ρ, Inv (i0 + ds.length) ρ → Q .nx ρ) → (loopL asg body ds ρ).wpD Q
  | [], ρ, i0, h0, _, fin => fin ρ h0
  | d :: ds, ρ, i0, h0, st, fin => by
    obtain ⟨ρ1, e1, h1⟩ := st 0 d ρ rfl h0
    unfold loopL
    rw [e1]
    dsimp only
    have next : ∀ ρ2, Inv (i0 + 0 + 1) ρ2 → (loopL asg body ds ρ2).wpD Q := fun ρ2 h2 =>
      loop_wpD Inv (i0 + 1) h2 (fun i d ρ e hi => by
        have q := st (i + 1) d ρ (by simpa using e) (by rw [show i0 + (i + 1) = i0 + 1 + i by omega]; exact hi)
        rw [show i0 + (i + 1) + 1 = i0 + 1 + i + 1 by omega] at q
        exact q) fun ρ hf => fin ρ (by rw [List.length_cons, show i0 + (ds.length + 1) = i0 + 1 + ds.length by omega]; exact hf)
    cases eb : body ρ1 with
    | bad => rw [eb] at h1; exact h1
    | exc x ρ2 => rw [eb] at h1; exact h1
    | ok fl ρ2 =>
      rw [eb] at h1
      cases fl with
      | nx => exact next ρ2 h1
      | ct => exact next ρ2 h1
      | brk => exact h1
      | ret o => exact h1
/-- a loop, by what is left -/
theorem loop_restD {asg : D → Env → Option Env} {body : Env → R Fl} {Q : Fl → Env → Prop} (Inv : List D → Env → Prop) : ∀ {ds : List D} {ρ : Env}, Inv ds ρ →
    (∀ d rest ρ, Inv (d :: rest) ρ → ∃ ρ1, asg d ρ = some ρ1 ∧ (body ρ1).wpD fun fl ρ2 => match fl with
      | .nx => Inv rest ρ2 | .ct => Inv rest ρ2 | .brk => Q .nx ρ2 | .ret o => Q (.ret o) ρ2) → (∀ ρ, Inv [] ρ → Q .nx ρ) → (loopL asg body ds ρ).wpD Q
  | [], ρ, h0, _, fin => fin ρ h0
  | d :: ds, ρ, h0, st, fin => by
    obtain ⟨ρ1, e1, h1⟩ := st d ds ρ h0
    unfold loopL
    rw [e1]
    dsimp only
    cases eb : body ρ1 with
    | bad => rw [eb] at h1; exact h1
    | exc x ρ2 => rw [eb] at h1; exact h1
    | ok fl ρ2 =>
      rw [eb] at h1
      cases fl with
      | nx => exact loop_restD Inv h1 st fin
      | ct => exact loop_restD Inv h1 st fin
      | brk => exact h1
      | ret o => exact h1
theorem whl_wpD {c : Env → R Bool} {body : Env → R Fl} {Q : Fl → Env → Prop} (Inv : Nat → Env → Prop) (st : ∀ n ρ, Inv n ρ → (c ρ).wpD fun b ρ1 => (b = true → (body ρ1).wpD fun fl ρ2 => match fl with
      | .nx => ∃ m, m < n ∧ Inv m ρ2 | .ct => ∃ m, m < n ∧ Inv m ρ2 | .brk => Q .nx ρ2 | .ret o => Q (.ret o) ρ2) ∧ (b = false → Q .nx ρ1)) : ∀ (n : Nat) {ρ : Env}, Inv n ρ → (whlS c body ρ).wpD Q := by
  intro n
  induction n using Nat.strongRecOn with
  | _ n ih =>
    intro ρ h
    rw [whlS_unfold]
    have q := st n ρ h
    cases ec : c ρ with
    | bad => rw [ec] at q; exact q
    | exc x ρ1 => rw [ec] at q; exact q.elim
    | ok b ρ1 =>
      rw [ec] at q
      cases b with
      | false => exact q.2 rfl
      | true =>
        have q := q.1 rfl
        dsimp only
        cases eb : body ρ1 with
        | bad => rw [eb] at q; exact q
        | exc x ρ2 => rw [eb] at q; exact q.elim
        | ok fl ρ2 =>
          rw [eb] at q
          cases fl with
          | nx => obtain ⟨m, hm, hi⟩ := q; exact ih m hm hi
          | ct => obtain ⟨m, hm, hi⟩ := q; exact ih m hm hi
          | brk => exact q
          | ret o => exact q
theorem comp_wpD {own : List Nat} {asg : D → Env → Option Env} {tst : Env → R Bool} {elt : Env → R O} {Q : List O → Env → Prop} (Inv : Nat → List O → Env → Prop) : ∀ {ds : List D} {ρ : Env} (i0 : Nat) (acc : List O), Inv i0 acc ρ →
    (∀ i d acc ρ, ds[i]? = some d → Inv (i0 + i) acc ρ → ∃ ρ1, asg d ρ = some ρ1 ∧ (tst ρ1).wpD fun b ρ2 => (b = true → (elt ρ2).wpD fun o ρ3 => Inv (i0 + i + 1) (acc ++ [o]) (wipeE own ρ3)) ∧ (b = false → Inv (i0 + i + 1) acc (wipeE own ρ2))) →
    (∀ l ρ, Inv (i0 + ds.length) (acc ++ l) ρ → Q l ρ) → (compL own asg tst elt ds ρ).wpD Q
  | [], ρ, i0, acc, h0, _, fin => fin [] ρ (by rw [List.append_nil]; exact h0)
  | d :: ds, ρ, i0, acc, h0, st, fin => by
    obtain ⟨ρ1, e1, h1⟩ := st 0 d acc ρ rfl h0
    unfold compL
    rw [e1]
    dsimp only
    rw [wpD_bind]
    have st' : ∀ i d acc ρ, ds[i]? = some d → Inv (i0 + 1 + i) acc ρ → ∃ ρ1, asg d ρ = some ρ1 ∧ (tst ρ1).wpD fun b ρ2 => (b = true → (elt ρ2).wpD fun o ρ3 => Inv (i0 + 1 + i + 1) (acc ++ [o]) (wipeE own ρ3)) ∧ (b = false → Inv (i0 + 1 + i + 1) acc (wipeE own ρ2)) := fun i d acc ρ e hi => by
      have q := st (i + 1) d acc ρ (by simpa using e) (by rw [show i0 + (i + 1) = i0 + 1 + i by omega]; exact hi)
      rw [show i0 + (i + 1) + 1 = i0 + 1 + i + 1 by omega] at q
      exact q
    have ln : i0 + (d :: ds).length = i0 + 1 + ds.length := by rw [List.length_cons]; omega
    rw [ln] at fin
    cases et : tst ρ1 with
    | bad => rw [et] at h1; exact h1
    | exc x ρ2 => rw [et] at h1; exact h1
    | ok b ρ2 =>
      rw [et] at h1
      rw [R.calm_ok, wpD_ok]
      cases b with
      | false =>
        rw [if_neg Bool.false_ne_true]
        exact comp_wpD Inv (i0 + 1) acc (h1.2 rfl) st' fin
      | true =>
        rw [if_pos rfl, wpD_bind]
        have h2 := h1.1 rfl
        cases ee : elt ρ2 with
        | bad => rw [ee] at h2; exact h2
        | exc x ρ3 => rw [ee] at h2; exact h2.elim
        | ok o ρ3 =>
          rw [ee] at h2
          rw [R.calm_ok, wpD_ok, wpD_bind]
          exact comp_wpD Inv (i0 + 1) (acc ++ [o]) h2 st' fun l ρ hl => fin (o :: l) ρ (by rw [List.append_assoc] at hl; exact hl)
/-- a comprehension whose items leave the names as they are -/
theorem comp_pureD {own : List Nat} {asg : D → Env → Option Env} {tst : Env → R Bool} {elt : Env → R O} {Q : List O → Env → Prop} {ds : List D} {ρ : Env} (g : D → Option O)
    (h : ∀ d ∈ ds, ∃ ρ1, asg d ρ = some ρ1 ∧ (tst ρ1).wpD fun b ρ2 => (b = true → (elt ρ2).wpD fun o ρ3 => g d = some o ∧ wipeE own ρ3 = ρ) ∧ (b = false → g d = none ∧ wipeE own ρ2 = ρ)) (q : Q (ds.filterMap g) ρ) : (compL own asg tst elt ds ρ).wpD Q := by
  refine comp_wpD (fun i acc ρ' => ρ' = ρ ∧ acc = (ds.take i).filterMap g) 0 [] ⟨rfl, rfl⟩ (fun i d acc ρ' e hi => ?_) fun l ρ' hl => ?_
  · obtain ⟨rfl, rfl⟩ := hi
    obtain ⟨ρ1, e1, h1⟩ := h d (List.mem_of_getElem? e)
    refine ⟨ρ1, e1, R.wpD_mono h1 fun b ρ2 h2 => ?_⟩
    have et : ds.take (0 + i + 1) = ds.take (0 + i) ++ [d] := by rw [List.take_succ, Nat.zero_add, e]; rfl
    refine ⟨fun hb => R.wpD_mono (h2.1 hb) fun o ρ3 h3 => ⟨h3.2, ?_⟩, fun hb => ⟨(h2.2 hb).2, ?_⟩⟩
    · rw [et, List.filterMap_append, List.filterMap_cons, h3.1]; rfl
    · rw [et, List.filterMap_append, List.filterMap_cons, (h2.2 hb).1, List.filterMap_nil, List.append_nil]
  · obtain ⟨rfl, hl⟩ := hl
    rw [Nat.zero_add, List.take_length] at hl
    have hl : l = ds.filterMap g := hl
    rw [hl]
    exact q

theorem loop_wp {asg : D → Env → Option Env} {body : Env → R Fl} {Q : Fl → Env → Prop} (Inv : Nat → Env → Prop) : ∀ {ds : List D} {ρ : Env} (i0 : Nat), Inv i0 ρ →
    (∀ i d ρ, ds[i]? = some d → Inv (i0 + i) ρ → ∃ ρ1, asg d ρ = some ρ1 ∧ (body ρ1).wp fun fl ρ2 => match fl with
      | .nx => Inv (i0 + i + 1) ρ2 | .ct => Inv (i0 + i + 1) ρ2 | .brk => Q .nx ρ2 | .ret o => Q (.ret o) ρ2) → (∀ ρ, Inv (i0 + ds.length) ρ → Q .nx ρ) → (loopL asg body ds ρ).wp Q := by
  rw [wp_eqD]
  exact loop_wpD Inv
theorem loop_rest {asg : D → Env → Option Env} {body : Env → R Fl} {Q : Fl → Env → Prop} (Inv : List D → Env → Prop) : ∀ {ds : List D} {ρ : Env}, Inv ds ρ →
    (∀ d rest ρ, Inv (d :: rest) ρ → ∃ ρ1, asg d ρ = some ρ1 ∧ (body ρ1).wp fun fl ρ2 => match fl with
      | .nx => Inv rest ρ2 | .ct => Inv rest ρ2 | .brk => Q .nx ρ2 | .ret o => Q (.ret o) ρ2) → (∀ ρ, Inv [] ρ → Q .nx ρ) → (loopL asg body ds ρ).wp Q := by
  rw [wp_eqD]
  exact loop_restD Inv
theorem whl_wp {c : Env → R Bool} {body : Env → R Fl} {Q : Fl → Env → Prop} (Inv : Nat → Env → Prop) (st : ∀ n ρ, Inv n ρ → (c ρ).wp fun b ρ1 => (b = true → (body ρ1).wp fun fl ρ2 => match fl with
      | .nx => ∃ m, m < n ∧ Inv m ρ2 | .ct => ∃ m, m < n ∧ Inv m ρ2 | .brk => Q .nx ρ2 | .ret o => Q (.ret o) ρ2) ∧ (b = false → Q .nx ρ1)) : ∀ (n : Nat) {ρ : Env}, Inv n ρ → (whlS c body ρ).wp Q := by
  rw [wp_eqD] at st ⊢
  exact whl_wpD Inv st
theorem comp_wp {own : List Nat} {asg : D → Env → Option Env} {tst : Env → R Bool} {elt : Env → R O} {Q : List O → Env → Prop} (Inv : Nat → List O → Env → Prop) : ∀ {ds : List D} {ρ : Env} (i0 : Nat) (acc : List O), Inv i0 acc ρ →
    (∀ i d acc ρ, ds[i]? = some d → Inv (i0 + i) acc ρ → ∃ ρ1, asg d ρ = some ρ1 ∧ (tst ρ1).wp fun b ρ2 => (b = true → (elt ρ2).wp fun o ρ3 => Inv (i0 + i + 1) (acc ++ [o]) (wipeE own ρ3)) ∧ (b = false → Inv (i0 + i + 1) acc (wipeE own ρ2))) →
    (∀ l ρ, Inv (i0 + ds.length) (acc ++ l) ρ → Q l ρ) → (compL own asg tst elt ds ρ).wp Q := by
  rw [wp_eqD]
  exact comp_wpD Inv
theorem comp_pure {own : List Nat} {asg : D → Env → Option Env} {tst : Env → R Bool} {elt : Env → R O} {Q : List O → Env → Prop} {ds : List D} {ρ : Env} (g : D → Option O)
    (h : ∀ d ∈ ds, ∃ ρ1, asg d ρ = some ρ1 ∧ (tst ρ1).wp fun b ρ2 => (b = true → (elt ρ2).wp fun o ρ3 => g d = some o ∧ wipeE own ρ3 = ρ) ∧ (b = false → g d = none ∧ wipeE own ρ2 = ρ)) (q : Q (ds.filterMap g) ρ) : (compL own asg tst elt ds ρ).wp Q := by
  rw [wp_eqD] at h ⊢
  exact comp_pureD g h q
/-! ### defs and calls -/
/-- behind a body -/
def retK (modes : List Bool) (Q : O → Env → Prop) : Fl → Env → Prop := fun fl ρ => match fl with
  | .nx => Q (.frz .none) (refsOf ρ modes 0)
  | .ret o => Q o (refsOf ρ modes 0)
  | _ => False
@[simp ↓] theorem retK_nx {m : List Bool} {Q : O → Env → Prop} {ρ : Env} : retK m Q .nx ρ = Q (.frz .none) (refsOf ρ m 0) := id rfl
@[simp ↓] theorem retK_ret {m : List Bool} {Q : O → Env → Prop} {ρ : Env} {o : O} : retK m Q (.ret o) ρ = Q o (refsOf ρ m 0) := id rfl
theorem fn_wp {n : Nat} {modes : List Bool} {body : Env → R Fl} {os : List O} {Q : O → Env → Prop} : ((mkFn n modes body).run os).wp Q = (os.length = modes.length ∧ (body (os.map some ++ List.replicate (n - os.length) none)).wp (retK modes Q)) := by
  by_cases h : os.length = modes.length
  · simp only [mkFn, h, if_true, true_and]
    cases body (os.map some ++ List.replicate (n - modes.length) none) with
    | bad => (unfold R.wp FR.wp; rfl)
    | exc x ρ => (unfold R.wp FR.wp; rfl)
    | ok fl ρ => cases fl <;> (unfold R.wp FR.wp; rfl)
  · simp [mkFn, h, FR.wp]
/-- behind a call -/
def callK (as : List Ag) (ρ : Env) (Q : O → Env → Prop) : O → Env → Prop := fun o refs => refs.length = (slotsR as).length ∧ Q o (if plainO o && (slotsR as).isEmpty then ρ else fzAll (slotsB as) (putBack (slotsR as) refs ρ))
theorem call_wp {Φ : Tab} {k : Nat} {as : List Ag} {ρ : Env} {fn : Fn} {os : List O} {Q : O → Env → Prop} (hf : Φ.fn[k]? = some fn) (hc : callOk as fn = true) (hg : gather ρ as = some os) (h : (fn.run os).wp (callK as ρ Q)) : (callF Φ k as ρ).wp Q := by
  unfold callF
  rw [hf]
  dsimp only
  rw [hc]
  dsimp only
  rw [hg]
  dsimp only
  cases e : fn.run os with
  | bad => rw [e] at h; exact FR.wpB_elim h
  | exc x r => rw [e] at h; exact FR.wpE_elim h
  | ok o refs =>
    rw [e, FR.wpO] at h
    dsimp only
    rw [if_pos h.1, R.wpO]
    exact h.2
theorem callL_wp {Φ : Tab} {k : Nat} {as : List Ag} {ρ : Env} {fn : Fn} {os : List O} {Q : O → Env → Prop} (hf : Φ.fn[k]? = some fn) (hc : callOk as fn = true) (hg : gather ρ as = some os) (hs : slotsR as = []) (h : (fn.run os).wp fun o _ => noLO o = true ∧ Q o ρ) : (callLF Φ k as ρ).wp Q := by
  unfold callLF
  rw [hf]
  dsimp only
  rw [hc]
  dsimp only
  rw [hg]
  dsimp only
  cases e : fn.run os with
  | bad => rw [e] at h; exact FR.wpB_elim h
  | exc x r => rw [e] at h; exact FR.wpE_elim h
  | ok o refs =>
    rw [e, FR.wpO] at h
    dsimp only
    rw [if_pos (by rw [h.1, hs]; rfl), R.wpO]
    exact h.2
end Tr
namespace Tr
open PySem
/-! ### lists that change -/
def optK {α : Type} (r : Option (α × O)) (K : α → O → Prop) : Prop := match r with
  | some (a, o) => K a o
  | none => False
@[simp] theorem optK_some {α : Type} {a : α} {o : O} {K : α → O → Prop} : optK (some (a, o)) K = K a o := rfl
@[simp] theorem optK_none {α : Type} {K : α → O → Prop} : optK none K = False := rfl
section
variable {α : Type} {f : O → Option (α × O)} {is : List D} {s : Nat} {x : Option O} {o : O} {r : Tr.Env} {Q : α → Tr.Env → Prop}
@[simp ↓] theorem md_0 : (mdP f 0 is (some o :: r)).wp Q = optK (modP f o is) fun a o' => Q a (some o' :: r) := by
  unfold mdP
  rw [ld_some]
  dsimp only
  cases modP f o is with
  | none => (unfold R.wp; rfl)
  | some p => (unfold R.wp; rfl)
@[simp ↓] theorem md_s : (mdP f (s + 1) is (x :: r)).wp Q = (mdP f s is r).wp fun a r' => Q a (x :: r') := by
  unfold mdP
  rw [ld_succ]
  cases ldV s r with
  | none => (unfold R.wp; rfl)
  | some o =>
    dsimp only
    cases modP f o is with
    | none => (unfold R.wp; rfl)
    | some p => (unfold R.wp; rfl)
theorem modP_nl : modP f o [] = f o := by cases o <;> simp [modP]
@[simp] theorem modP_n {K : α → O → Prop} : optK (modP f o []) K = optK (f o) K := by rw [modP_nl]
theorem modP_c {l : List O} {i : Int} {K : α → O → Prop} {j : Nat} {o : O} (h : ixN l.length i = some j) (e : l[j]? = some o) : optK (modP f (.box l) (.int i :: is)) K = optK (modP f o is) fun a o' => K a (.box (l.set j o')) := by
  rw [modP]
  simp only [h, e]
  cases modP f o is with
  | none => rfl
  | some p => rfl
@[simp ↓] theorem rdp_0 {Q : D → Tr.Env → Prop} : (rdP 0 is (some o :: r)).wp Q = (match lookP o is with | some (.frz d) => Q d (some o :: r) | _ => False) := by
  unfold rdP
  rw [ld_some]
  dsimp only
  cases lookP o is with
  | none => (unfold R.wp; rfl)
  | some o' => cases o' <;> (unfold R.wp; rfl)
@[simp ↓] theorem rdp_s {Q : D → Tr.Env → Prop} : (rdP (s + 1) is (x :: r)).wp Q = (rdP s is r).wp fun d r' => Q d (x :: r') := by
  unfold rdP
  rw [ld_succ]
  cases ldV s r with
  | none => (unfold R.wp; rfl)
  | some o =>
    dsimp only
    cases lookP o is with
    | none => (unfold R.wp; rfl)
    | some o' => cases o' <;> (unfold R.wp; rfl)
end
section
variable {l : List O} {o : O} {d : D} {K : O → O → Prop} {KU : Unit → O → Prop} {is : List D} {i : Int} {ds : List D}
@[simp] theorem pop_b : optK (popF (.box l)) K = ∃ o, l.getLast? = some o ∧ K o (.box l.dropLast) := by
  simp only [popF]
  rw [List.getLast?_eq_getElem?]
  cases l[l.length - 1]? with
  | none => simp
  | some o => simp
@[simp] theorem app_b : optK (appF o (.box l)) KU = (l.length < line ∧ KU () (.box (l ++ [o]))) := by
  simp only [appF]
  by_cases h : l.length < line <;> simp [h]
@[simp] theorem ext_b : optK (extF ds (.box l)) KU = (l.length + ds.length ≤ line ∧ KU () (.box (l ++ ds.map .frz))) := by
  simp only [extF]
  by_cases h : l.length + ds.length ≤ line <;> simp [h]
@[simp] theorem rev_b : optK (revF (.box l)) KU = KU () (.box l.reverse) := rfl
theorem sto_b {j : Nat} (h : ixN l.length i = some j) : optK (storeF (.int i) o (.box l)) KU = KU () (.box (l.set j o)) := by
  simp only [storeF, h, optK_some]
@[simp] theorem look_n : lookP o [] = some o := by cases o <;> simp [lookP]
@[simp] theorem look_b : lookP (.box l) (.int i :: is) = (match atD l i with | some o => lookP o is | none => none) := by first | (simp only [lookP]; done) | (simp only [lookP]; cases atD l i <;> rfl)
@[simp] theorem look_f : lookP (.frz d) (.int i :: is) = (match ixD d (.int i) with | some e => lookP (.frz e) is | none => none) := by first | (simp only [lookP]; done) | (simp only [lookP]; cases ixD d (.int i) <;> rfl)
@[simp] theorem look_s {s : List Int} : lookP (.scr s) (.int i :: is) = (match atD s i with | some k => lookP (.frz (.int k)) is | none => none) := by first | (simp only [lookP]; done) | (simp only [lookP]; cases atD s i <;> rfl)
@[simp] theorem cleans_app {m : List O} : cleans (l ++ m) = (cleans l && cleans m) := by induction l <;> simp_all [Bool.and_assoc]
@[simp] theorem fzs_app {m : List O} : fzs (l ++ m) = fzs l ++ fzs m := by induction l <;> simp_all
@[simp] theorem cleans_mapc {α : Type} {f : α → D} {l : List α} : cleans (l.map (O.frz ∘ f)) = true := cleans_comp
@[simp] theorem fzs_mapc {α : Type} {f : α → D} {l : List α} : fzs (l.map (O.frz ∘ f)) = l.map f := fzs_comp
@[simp] theorem cleans_rep {n : Nat} : cleans (List.replicate n (.frz d)) = true := by induction n <;> simp_all [List.replicate_succ]
@[simp] theorem fzs_rep {n : Nat} : fzs (List.replicate n (.frz d)) = List.replicate n d := by induction n <;> simp_all [List.replicate_succ]
@[simp] theorem fzs_length : (fzs l).length = l.length := fzs_len
end
theorem cutL_len {α : Type} {l : List α} {lo hi : Option Int} : (cutL l lo hi).length ≤ l.length := by
  unfold cutL
  rw [List.length_take, List.length_drop]
  omega
theorem cutL_mem {α : Type} {l : List α} {lo hi : Option Int} {a : α} (h : a ∈ cutL l lo hi) : a ∈ l := List.mem_of_mem_drop (List.mem_of_mem_take h)
theorem cutL_map {α β : Type} {f : α → β} {l : List α} {lo hi : Option Int} : cutL (l.map f) lo hi = (cutL l lo hi).map f := by
  unfold cutL
  rw [List.length_map, List.map_take, List.map_drop]
theorem ixN_ok {n : Nat} {i : Int} (h0 : 0 ≤ i) (h : i < n) : ixN n i = some i.toNat := by
  unfold ixN
  rw [if_pos h0, if_pos h]
@[simp] theorem wipe_n {ρ : Tr.Env} : wipeE [] ρ = ρ := rfl
@[simp] theorem wipe_c {i : Nat} {r : List Nat} {ρ : Tr.Env} : wipeE (i :: r) ρ = (wipeE r ρ).set i none := rfl
@[simp] theorem keep_n {ρ ρ0 : Tr.Env} : keepE [] ρ0 ρ = ρ := rfl
@[simp] theorem keep_c {i : Nat} {r : List Nat} {ρ ρ0 : Tr.Env} : keepE (i :: r) ρ0 ρ = (keepE r ρ0 ρ).set i ((ρ0[i]?).join) := rfl
@[simp] theorem refs_n {ρ : Tr.Env} {i : Nat} : refsOf ρ [] i = [] := rfl
@[simp] theorem refs_t {ρ : Tr.Env} {i : Nat} {m : List Bool} : refsOf ρ (true :: m) i = (ρ[i]?).join :: refsOf ρ m (i + 1) := rfl
@[simp] theorem refs_f {ρ : Tr.Env} {i : Nat} {m : List Bool} : refsOf ρ (false :: m) i = refsOf ρ m (i + 1) := rfl
@[simp] theorem asg_n {ρ : Tr.Env} {i : Nat} {d : D} : asgT (.name i) d ρ = some (putO ρ i (.frz d)) := rfl
@[simp] theorem slR_n : slotsR [] = [] := rfl
@[simp] theorem slR_d {d : D} {r : List Ag} : slotsR (.d d :: r) = slotsR r := rfl
@[simp] theorem slR_r {i : Nat} {r : List Ag} : slotsR (.r i :: r) = i :: slotsR r := rfl
@[simp] theorem slR_b {i : Nat} {r : List Ag} : slotsR (.b i :: r) = slotsR r := rfl
@[simp] theorem slB_n : slotsB [] = [] := rfl
@[simp] theorem slB_d {d : D} {r : List Ag} : slotsB (.d d :: r) = slotsB r := rfl
@[simp] theorem slB_r {i : Nat} {r : List Ag} : slotsB (.r i :: r) = slotsB r := rfl
@[simp] theorem slB_b {i : Nat} {r : List Ag} : slotsB (.b i :: r) = i :: slotsB r := rfl
@[simp] theorem pb_n {refs ρ : Tr.Env} : putBack [] refs ρ = ρ := by cases refs <;> rfl
@[simp] theorem pb_c {i : Nat} {is : List Nat} {o : Option O} {os ρ : Tr.Env} : putBack (i :: is) (o :: os) ρ = putBack is os (ρ.set i o) := rfl
@[simp] theorem fzAll_n {ρ : Tr.Env} : fzAll [] ρ = ρ := rfl
@[simp] theorem pl_n : plainO (.frz .none) = true := rfl
@[simp] theorem pl_b {b : Bool} : plainO (.frz (.bool b)) = true := rfl
@[simp] theorem pl_i {i : Int} : plainO (.frz (.int i)) = true := rfl
@[simp] theorem pl_s {s : Str} : plainO (.frz (.str s)) = true := rfl
@[simp] theorem pl_t {l : List D} : plainO (.frz (.tuple l)) = false := rfl
@[simp] theorem pl_l {l : List D} : plainO (.frz (.list l)) = false := rfl
@[simp] theorem pl_x {l : List O} : plainO (.box l) = false := rfl
@[simp] theorem line_val : line = 16777216 := rfl
end Tr
set_option Elab.async false
set_option linter.all false
set_option maxRecDepth 100000
set_option maxHeartbeats 4000000
/-! TrQ: data of whole numbers. -/
namespace Tr
open PySem
/-- items of a list being all these -/
def boxI (l : List Int) : O := .box (l.map fun i => .frz (.int i))
def IsI (d : D) (l : List Int) : Prop := itemsD d = some (l.map .int)
@[simp] theorem isI_L {l : List Int} : IsI (.list (l.map .int)) l := rfl
@[simp] theorem isI_T {l : List Int} : IsI (.tuple (l.map .int)) l := rfl
theorem canAll_ints (l : List Int) : PyData.canLayAll0 (l.map PyData.int) = true := by
  induction l with
  | nil => rfl
  | cons x l ih => simp [PyData.canLayAll0, PyData.canLay0, ih]
theorem depthAll_ints (l : List Int) : PyData.depthAll (l.map PyData.int) = 0 := by
  induction l with
  | nil => rfl
  | cons x l ih => simp [PyData.depthAll, PyData.depth, ih]
theorem memOk_ints (i : Int) (l : List Int) : memOk (.int i) (l.map .int) = true := by
  unfold memOk SeqAt.shaped
  simp [PyData.canLay0, PyData.depth, canAll_ints, depthAll_ints]
theorem memD_ints (i : Int) (l : List Int) : memD (.int i) (l.map .int) = decide (i ∈ l) := by
  unfold memD
  rw [List.any_map]
  induction l with
  | nil => simp
  | cons x l ih =>
    rw [List.any_cons, ih]
    simp only [Function.comp, PyData.eqv, List.mem_cons]
    by_cases h : x = i
    · simp [h]
    · simp [h, Ne.symm h]
theorem cmp_mem_I {d : D} {l : List Int} {i : Int} (h : IsI d l) : cmpD .mem (.int i) d = some (.bool (decide (i ∈ l))) := by
  unfold IsI at h
  simp only [cmpD, h, memOk_ints, memD_ints, if_true]
theorem cmp_nmem_I {d : D} {l : List Int} {i : Int} (h : IsI d l) : cmpD .nmem (.int i) d = some (.bool (decide (i ∉ l))) := by
  unfold IsI at h
  simp only [cmpD, h, memOk_ints, memD_ints, if_true, decide_not]
theorem len_I {d : D} {l : List Int} (h : IsI d l) : b1D .len d = some (.int l.length) := by
  cases d <;> simp only [IsI, itemsD, reduceCtorEq, Option.some.injEq] at h
  · subst h; simp
  · subst h; simp
theorem items_I {d : D} {l : List Int} (h : IsI d l) : itemsD d = some (l.map .int) := h
end Tr
namespace Tr
abbrev PQ := O → Tr.Env → Prop
end Tr
namespace Tr
theorem filterMap_of {α : Type} {c : α → D} {p : α → Bool} {f : α → O} {g : D → Option O} : ∀ {xs : List α}, (∀ x ∈ xs, g (c x) = if p x then some (f x) else none) → (xs.map c).filterMap g = (xs.filter p).map f
  | [], _ => rfl
  | x :: xs, h => by
    rw [List.map_cons, List.filterMap_cons, h x List.mem_cons_self, List.filter_cons]
    have ih := filterMap_of (xs := xs) fun y hy => h y (List.mem_cons_of_mem _ hy)
    by_cases hp : p x = true
    · rw [if_pos hp, if_pos hp, List.map_cons, ih]
    · rw [if_neg hp, if_neg hp, ih]
/-- a comprehension over the items c x, x in xs, that pass p: f x -/
theorem comp_map {α : Type} {own : List Nat} {asg : D → Tr.Env → Option Tr.Env} {tst : Tr.Env → R Bool} {elt : Tr.Env → R O} {Q : List O → Tr.Env → Prop} {ρ : Tr.Env} {c : α → D} (p : α → Bool) (f : α → O) : ∀ {xs : List α},
    (∀ x ∈ xs, ∃ ρ1, asg (c x) ρ = some ρ1 ∧ (tst ρ1).wp fun b ρ2 => b = p x ∧ (p x = true → (elt ρ2).wp fun o ρ3 => o = f x ∧ wipeE own ρ3 = ρ) ∧ (p x = false → wipeE own ρ2 = ρ)) → Q ((xs.filter p).map f) ρ → (compL own asg tst elt (xs.map c) ρ).wp Q
  | [], _, q => by rw [List.map_nil, compL, R.wpO]; exact q
  | x :: xs, h, q => by
    obtain ⟨ρ1, e1, h1⟩ := h x List.mem_cons_self
    have h' := fun y (hy : y ∈ xs) => h y (List.mem_cons_of_mem _ hy)
    rw [List.map_cons]
    unfold compL
    rw [e1]
    dsimp only
    rw [wp_bind]
    cases et : tst ρ1 with
    | bad => rw [et] at h1; exact R.wpB_elim h1
    | exc x ρ2 => rw [et] at h1; exact R.wpE_elim h1
    | ok b ρ2 =>
      rw [et, R.wpO] at h1
      obtain ⟨rfl, h2, h3⟩ := h1
      rw [R.calm_ok, wp_ok]
      cases hp : p x with
      | false =>
        rw [if_neg Bool.false_ne_true, h3 hp]
        rw [List.filter_cons, hp, if_neg Bool.false_ne_true] at q
        exact comp_map p f h' q
      | true =>
        rw [if_pos rfl, wp_bind]
        have h2 := h2 hp
        cases ee : elt ρ2 with
        | bad => rw [ee] at h2; exact R.wpB_elim h2
        | exc x ρ3 => rw [ee] at h2; exact R.wpE_elim h2
        | ok o ρ3 =>
          rw [ee, R.wpO] at h2
          obtain ⟨rfl, e3⟩ := h2
          rw [R.calm_ok, wp_ok, wp_bind, e3]
          rw [List.filter_cons, hp, if_pos rfl, List.map_cons] at q
          exact comp_map p f h' (by rw [R.wpO]; exact q)
end Tr
namespace Tr
theorem log2_le {a n : Nat} (h : a < 2 ^ (n + 1)) : a.log2 ≤ n := by
  by_cases h0 : a = 0
  · subst h0; simp
  · have := (Nat.log2_lt h0).mpr h
    omega
theorem two_mono {k m : Nat} (h : k ≤ m) : (2 : Nat) ^ k ≤ 2 ^ m := Nat.pow_le_pow_right (by decide) h
/-- a number of at most n + 1 bits -/
def Bits (n : Nat) (i : Int) : Prop := i.natAbs < 2 ^ (n + 1)
instance {n : Nat} {i : Int} : Decidable (Bits n i) := inferInstanceAs (Decidable (_ < _))
theorem Bits.log {n : Nat} {i : Int} (h : Bits n i) : i.natAbs.log2 ≤ n := log2_le h
theorem Bits.mono {n m : Nat} {i : Int} (h : Bits n i) (hm : n ≤ m) : Bits m i := Nat.lt_of_lt_of_le h (two_mono (by omega))
theorem Bits.mul {n m : Nat} {i j : Int} (h : Bits n i) (h' : Bits m j) : Bits (n + m + 1) (i * j) := by
  unfold Bits at *
  rw [Int.natAbs_mul, show n + m + 1 + 1 = (n + 1) + (m + 1) by omega, Nat.pow_add]
  exact Nat.mul_lt_mul'' h h'
theorem Bits.add {n m k : Nat} {i j : Int} (h : Bits n i) (h' : Bits m j) (hn : n < k) (hm : m < k) : Bits k (i + j) := by
  unfold Bits at *
  have h1 := two_mono (show n + 1 ≤ k by omega)
  have h2 := two_mono (show m + 1 ≤ k by omega)
  have h3 := Int.natAbs_add_le i j
  have : 2 ^ (k + 1) = 2 ^ k + 2 ^ k := by rw [Nat.pow_succ]; omega
  omega
theorem Bits.sub {n m k : Nat} {i j : Int} (h : Bits n i) (h' : Bits m j) (hn : n < k) (hm : m < k) : Bits k (i - j) := by
  rw [Int.sub_eq_add_neg]
  exact h.add (by unfold Bits at *; rwa [Int.natAbs_neg]) hn hm
theorem Bits.of_lt {n : Nat} {i : Int} (h : -(2 ^ (n + 1)) < i) (h' : i < 2 ^ (n + 1)) : Bits n i := by
  unfold Bits
  have e : ((2 : Nat) ^ (n + 1) : Nat) = (2 : Int) ^ (n + 1) := by simp
  omega
theorem mod_rng {i m : Int} (h : 0 < m) : 0 ≤ i.fmod m ∧ i.fmod m < m := ⟨Int.fmod_nonneg_of_pos _ h, Int.fmod_lt_of_pos _ h⟩
theorem Bits.mod {n : Nat} {i m : Int} (h : 0 < m) (hb : m ≤ 2 ^ (n + 1)) : Bits n (i.fmod m) := by
  have q := mod_rng (i := i) h
  exact .of_lt (by have : (0 : Int) < 2 ^ (n + 1) := Int.pow_pos (by decide); omega) (by omega)
theorem mul_okn {n b : Nat} {i : Int} (h : Bits n i) (hn : n + b.log2 < 1000000) : i.natAbs.log2 + b.log2 < 1000000 := by
  have := h.log
  omega
theorem mul_okm {n b : Nat} {i : Int} (h : Bits n i) (hn : n + b.log2 < 1000000) : b.log2 + i.natAbs.log2 < 1000000 := by
  have := h.log
  omega
theorem mul_ok {n m : Nat} {i j : Int} (h : Bits n i) (h' : Bits m j) (hn : n + m < 1000000) : i.natAbs.log2 + j.natAbs.log2 < 1000000 := by
  have := h.log
  have := h'.log
  omega
end Tr
namespace Tr
open PySem
theorem eqvAll_ints : ∀ (l m : List Int), PyData.eqvAll (l.map .int) (m.map .int) = decide (l = m)
  | [], [] => by simp [PyData.eqvAll]
  | [], _ :: _ => by simp [PyData.eqvAll]
  | _ :: _, [] => by simp [PyData.eqvAll]
  | x :: l, y :: m => by
    rw [List.map_cons, List.map_cons, PyData.eqvAll, eqvAll_ints l m]
    by_cases h : x = y
    · by_cases h2 : l = m <;> simp [PyData.eqv, h, h2]
    · simp [PyData.eqv, h]
theorem eqOk_TT (l m : List Int) : eqOk (.tuple (l.map .int)) (.tuple (m.map .int)) = true := by
  simp [eqOk, PyData.canLay0, PyData.depth, canAll_ints, depthAll_ints]
theorem eqOk_LL (l m : List Int) : eqOk (.list (l.map .int)) (.list (m.map .int)) = true := by
  simp [eqOk, PyData.canLay0, PyData.depth, canAll_ints, depthAll_ints]
@[simp] theorem cmp_eq_TT (l m : List Int) : cmpD .eq (.tuple (l.map .int)) (.tuple (m.map .int)) = some (.bool (decide (l = m))) := by
  simp [cmpD, eqOk_TT, PyData.eqv, eqvAll_ints]
@[simp] theorem cmp_eq_LL (l m : List Int) : cmpD .eq (.list (l.map .int)) (.list (m.map .int)) = some (.bool (decide (l = m))) := by
  simp [cmpD, eqOk_LL, PyData.eqv, eqvAll_ints]
@[simp] theorem cmp_eq_T0 (l : List Int) : cmpD .eq (.tuple (l.map .int)) (.tuple []) = some (.bool (decide (l = []))) := cmp_eq_TT l []
@[simp] theorem cmp_eq_L0 (l : List Int) : cmpD .eq (.list (l.map .int)) (.list []) = some (.bool (decide (l = []))) := cmp_eq_LL l []
theorem rng_eq (a : Int) (n : Nat) : rng a n = ((List.range n).map fun (k : Nat) => a + (k : Int)).map .int := by
  unfold rng
  rw [List.map_map]
  rfl
/-- the whole numbers from a on, n of them -/
def upI (a : Int) (n : Nat) : List Int := (List.range n).map fun (k : Nat) => a + (k : Int)
theorem rng_up (a : Int) (n : Nat) : rng a n = (upI a n).map .int := rng_eq a n
theorem mem_up {a : Int} {n : Nat} {i : Int} : i ∈ upI a n ↔ a ≤ i ∧ i < a + n := by
  unfold upI
  simp only [List.mem_map, List.mem_range]
  constructor
  · rintro ⟨k, hk, rfl⟩; omega
  · rintro ⟨h1, h2⟩; exact ⟨(i - a).toNat, by omega, by omega⟩
theorem len_up {a : Int} {n : Nat} : (upI a n).length = n := by simp [upI]
theorem mod_ok {P : Int → Prop} {i m : Int} (h : 0 < m) (q : ∀ r, 0 ≤ r → r < m → P r) : P (i.fmod m) := q _ (mod_rng h).1 (mod_rng h).2
end Tr
namespace Tr
open PySem
theorem comp_each {α : Type} {own : List Nat} {asg : D → Tr.Env → Option Tr.Env} {tst : Tr.Env → R Bool} {elt : Tr.Env → R O} {Q : List O → Tr.Env → Prop} {ρ : Tr.Env} {c : α → D} (f : α → O) {xs : List α}
    (h : ∀ x ∈ xs, ∃ ρ1, asg (c x) ρ = some ρ1 ∧ (tst ρ1).wp fun b ρ2 => b = true ∧ (elt ρ2).wp fun o ρ3 => o = f x ∧ wipeE own ρ3 = ρ) (q : Q (xs.map f) ρ) : (compL own asg tst elt (xs.map c) ρ).wp Q := by
  refine comp_map (fun _ => true) f (fun x hx => ?_) ?_
  · obtain ⟨ρ1, e1, h1⟩ := h x hx
    exact ⟨ρ1, e1, R.wp_mono h1 fun b ρ2 h2 => ⟨h2.1, fun _ => h2.2, fun z => by cases z⟩⟩
  · rw [List.filter_eq_self.mpr fun _ _ => rfl]
    exact q
theorem loop0 {asg : D → Tr.Env → Option Tr.Env} {body : Tr.Env → R Fl} {Q : Fl → Tr.Env → Prop} {ds : List D} {ρ : Tr.Env} (Inv : Nat → Tr.Env → Prop) (h0 : Inv 0 ρ)
    (st : ∀ i d ρ, ds[i]? = some d → Inv i ρ → ∃ ρ1, asg d ρ = some ρ1 ∧ (body ρ1).wp fun fl ρ2 => match fl with
      | .nx => Inv (i + 1) ρ2 | .ct => Inv (i + 1) ρ2 | .brk => Q .nx ρ2 | .ret o => Q (.ret o) ρ2) (fin : ∀ ρ, Inv ds.length ρ → Q .nx ρ) : (loopL asg body ds ρ).wp Q :=
  loop_wp Inv 0 h0 (fun i d ρ e hi => by rw [Nat.zero_add] at hi ⊢; exact st i d ρ e hi) fun ρ h => fin ρ (by rw [Nat.zero_add] at h; exact h)
/-- a loop over the items c x, x in xs -/
theorem loopM {α : Type} {c : α → D} {xs : List α} {asg : D → Tr.Env → Option Tr.Env} {body : Tr.Env → R Fl} {Q : Fl → Tr.Env → Prop} {ρ : Tr.Env} (Inv : Nat → Tr.Env → Prop) (h0 : Inv 0 ρ)
    (st : ∀ i x ρ, xs[i]? = some x → Inv i ρ → ∃ ρ1, asg (c x) ρ = some ρ1 ∧ (body ρ1).wp fun fl ρ2 => match fl with
      | .nx => Inv (i + 1) ρ2 | .ct => Inv (i + 1) ρ2 | .brk => Q .nx ρ2 | .ret o => Q (.ret o) ρ2) (fin : ∀ ρ, Inv xs.length ρ → Q .nx ρ) : (loopL asg body (xs.map c) ρ).wp Q :=
  loop0 Inv h0 (fun i d ρ e hi => by
    rw [List.getElem?_map] at e
    cases ex : xs[i]? with
    | none => rw [ex] at e; cases e
    | some x => rw [ex] at e; cases e; exact st i x ρ ex hi) fun ρ h => fin ρ (by rw [List.length_map] at h; exact h)
theorem rng_at {a : Int} {n i : Nat} {d : D} (h : (rng a n)[i]? = some d) : d = .int (a + i) ∧ i < n := by
  unfold rng at h
  rw [List.getElem?_map] at h
  cases e : (List.range n)[i]? with
  | none => rw [e] at h; cases h
  | some k =>
    rw [e] at h
    cases h
    have hl := (List.getElem?_eq_some_iff.mp e).1
    rw [List.length_range] at hl
    rw [List.getElem?_range hl] at e
    cases e
    exact ⟨rfl, hl⟩
@[simp] theorem rng_length {a : Int} {n : Nat} : (rng a n).length = n := by simp [rng]
end Tr
namespace Tr
open PySem
theorem atD_map {α β : Type} {f : α → β} {l : List α} {i : Int} {n : Nat} (h0 : 0 ≤ i) (e : i.toNat = n) (h : n < l.length) : atD (l.map f) i = some (f l[n]) := by
  subst e
  exact atD_ok h0 (by rw [List.getElem?_map, List.getElem?_eq_getElem h]; rfl)
end Tr
namespace Tr
open PySem
/-- .. with what is known of those that pass -/
theorem comp_flt {α : Type} {own : List Nat} {asg : D → Tr.Env → Option Tr.Env} {tst : Tr.Env → R Bool} {elt : Tr.Env → R O} {Q : List O → Tr.Env → Prop} {ρ : Tr.Env} {c : α → D} (p : α → Bool) (f : α → O) {xs : List α}
    (h : ∀ x ∈ xs, ∃ ρ1, asg (c x) ρ = some ρ1 ∧ (tst ρ1).wp fun b ρ2 => b = p x ∧ (p x = true → (elt ρ2).wp fun o ρ3 => o = f x ∧ wipeE own ρ3 = ρ) ∧ (p x = false → wipeE own ρ2 = ρ))
    (q : ∀ ys : List α, (∀ y, y ∈ ys ↔ y ∈ xs ∧ p y = true) → ys.length ≤ xs.length → ys.Sublist xs → Q (ys.map f) ρ) : (compL own asg tst elt (xs.map c) ρ).wp Q :=
  comp_map p f h (q _ (fun y => List.mem_filter) (List.length_filter_le _ _) List.filter_sublist)
end Tr
set_option Elab.async false
set_option linter.all false
set_option maxRecDepth 100000
set_option maxHeartbeats 4000000
/-! TrR: fractions. -/
namespace Tr
open PySem
/-- a fraction as data -/
def frD (q : Rat) : D := .tuple [.int q.num, .int q.den]
theorem frac_pos {a : Int} {n : Nat} (h : n ≠ 0) : (Rat.divInt a n).num = a / (a.natAbs.gcd n : Nat) ∧ (Rat.divInt a n).den = n / a.natAbs.gcd n := by
  have e : Rat.divInt a n = Rat.normalize a n h := by
    rw [Rat.divInt_ofNat, Rat.normalize_eq_mkRat]
  rw [e, Rat.normalize_eq]
  exact ⟨rfl, rfl⟩
theorem fdiv_dvd {a g : Int} (hg : 0 < g) : a.fdiv g = a / g := Int.fdiv_eq_ediv_of_nonneg a (by omega)
theorem fdiv_neg_dvd {a g : Int} (h : g ∣ a) : a.fdiv (-g) = (-a) / g := by
  obtain ⟨c, rfl⟩ := h
  by_cases hg : g = 0
  · subst hg; rw [Int.zero_mul]; rfl
  · rw [show -(g * c) = g * (-c) by rw [Int.mul_neg], Int.mul_ediv_cancel_left _ hg, show g * c = (-g) * (-c) from (Int.neg_mul_neg g c).symm, Int.mul_fdiv_cancel_left _ (by omega)]
theorem frac_eq {a b : Int} (hb : b ≠ 0) : .tuple [.int (a.fdiv (if b < 0 then -(a.gcd b : Int) else (a.gcd b : Int))), .int (b.fdiv (if b < 0 then -(a.gcd b : Int) else (a.gcd b : Int)))] = frD (Rat.divInt a b) := by
  have hg : 0 < a.gcd b := Int.gcd_pos_of_ne_zero_right _ hb
  unfold frD
  by_cases h : b < 0
  · rw [if_pos h]
    obtain ⟨n, rfl⟩ : ∃ n : Nat, b = -(n : Int) := ⟨b.natAbs, by omega⟩
    have hn : n ≠ 0 := by omega
    have e : Rat.divInt a (-(n : Int)) = Rat.divInt (-a) n := by have := Rat.neg_divInt_neg (-a) n; rw [Int.neg_neg] at this; exact this
    obtain ⟨h1, h2⟩ := frac_pos (a := -a) hn
    have eg : (a.gcd (-(n : Int)) : Nat) = (-a).natAbs.gcd n := by simp [Int.gcd]
    rw [e, h1, h2, ← eg]
    rw [fdiv_neg_dvd (Int.gcd_dvd_left ..), fdiv_neg_dvd (Int.gcd_dvd_right ..)]
    simp
  · rw [if_neg h]
    obtain ⟨n, rfl⟩ : ∃ n : Nat, b = (n : Int) := ⟨b.natAbs, by omega⟩
    have hn : n ≠ 0 := by omega
    obtain ⟨h1, h2⟩ := frac_pos (a := a) hn
    have eg : (a.gcd (n : Int) : Nat) = a.natAbs.gcd n := by simp [Int.gcd]
    rw [h1, h2, ← eg, fdiv_dvd (by omega), fdiv_dvd (by omega)]
    simp
theorem gcd_fmod {a b : Nat} (hb : 0 < b) : ((a : Int).fmod b) = ((a % b : Nat) : Int) := by
  rw [Int.fmod_eq_emod_of_nonneg _ (by omega)]
  simp
/-- size: at most n bits above and below -/
structure Sz (n : Nat) (q : Rat) : Prop where
  num : q.num.natAbs < 2 ^ n
  den : q.den < 2 ^ n
theorem Sz.mono {n m : Nat} {q : Rat} (h : Sz n q) (hm : n ≤ m) : Sz m q := ⟨Nat.lt_of_lt_of_le h.num (two_mono hm), Nat.lt_of_lt_of_le h.den (two_mono hm)⟩
theorem sz_divInt {a b : Int} {n : Nat} (hb : b ≠ 0) (h1 : a.natAbs < 2 ^ n) (h2 : b.natAbs < 2 ^ n) : Sz n (Rat.divInt a b) := by
  by_cases h : b < 0
  · obtain ⟨m, rfl⟩ : ∃ n : Nat, b = -(n : Int) := ⟨b.natAbs, by omega⟩
    have e : Rat.divInt a (-(m : Int)) = Rat.divInt (-a) m := by have := Rat.neg_divInt_neg (-a) m; rw [Int.neg_neg] at this; exact this
    obtain ⟨k1, k2⟩ := frac_pos (a := -a) (n := m) (by omega)
    rw [e]
    refine ⟨?_, ?_⟩
    · rw [k1]
      have := Int.natAbs_ediv_le_natAbs (-a) (((-a).natAbs.gcd m : Nat) : Int)
      omega
    · rw [k2]
      have := Nat.div_le_self m ((-a).natAbs.gcd m)
      omega
  · obtain ⟨m, rfl⟩ : ∃ n : Nat, b = (n : Int) := ⟨b.natAbs, by omega⟩
    obtain ⟨k1, k2⟩ := frac_pos (a := a) (n := m) (by omega)
    refine ⟨?_, ?_⟩
    · rw [k1]
      have := Int.natAbs_ediv_le_natAbs a ((a.natAbs.gcd m : Nat) : Int)
      omega
    · rw [k2]
      have := Nat.div_le_self m (a.natAbs.gcd m)
      omega
theorem den0 (q : Rat) : (q.den : Int) ≠ 0 := by have := q.den_pos; omega
theorem add_divInt (p q : Rat) : p + q = Rat.divInt (p.num * q.den + q.num * p.den) (p.den * q.den) := by
  have h := Rat.divInt_add_divInt p.num q.num (den0 p) (den0 q)
  rw [Rat.num_divInt_den, Rat.num_divInt_den] at h
  exact h
theorem sub_divInt (p q : Rat) : p - q = Rat.divInt (p.num * q.den - q.num * p.den) (p.den * q.den) := by
  have h := Rat.divInt_sub_divInt p.num q.num (den0 p) (den0 q)
  rw [Rat.num_divInt_den, Rat.num_divInt_den] at h
  exact h
theorem mul_divInt (p q : Rat) : p * q = Rat.divInt (p.num * q.num) (p.den * q.den) := by
  have h := Rat.divInt_mul_divInt p.num q.num (d₁ := p.den) (d₂ := q.den)
  rw [Rat.num_divInt_den, Rat.num_divInt_den] at h
  exact h
theorem div_divInt (p q : Rat) : p / q = Rat.divInt (p.num * q.den) (p.den * q.num) := by
  rw [Rat.div_def]
  have e : q⁻¹ = Rat.divInt q.den q.num := by
    have := Rat.inv_divInt q.num q.den
    rw [Rat.num_divInt_den] at this
    exact this
  rw [e]
  have h := Rat.divInt_mul_divInt p.num (q.den : Int) (d₁ := p.den) (d₂ := q.num)
  rw [Rat.num_divInt_den] at h
  exact h
theorem Sz.bn {n : Nat} {q : Rat} (h : Sz (n + 1) q) : Bits n q.num := h.num
theorem Sz.bd {n : Nat} {q : Rat} (h : Sz (n + 1) q) : Bits n (q.den : Int) := by unfold Bits; simpa using h.den
/-- sizes of results -/
theorem Sz.mul {n m : Nat} {p q : Rat} (h : Sz n p) (h' : Sz m q) : Sz (n + m) (p * q) := by
  rw [mul_divInt]
  refine sz_divInt (Int.mul_ne_zero (den0 p) (den0 q)) ?_ ?_
  · rw [Int.natAbs_mul, Nat.pow_add]; exact Nat.mul_lt_mul'' h.num h'.num
  · rw [Int.natAbs_mul, Nat.pow_add]; exact Nat.mul_lt_mul'' (by simpa using h.den) (by simpa using h'.den)
theorem Sz.div {n m : Nat} {p q : Rat} (h : Sz n p) (h' : Sz m q) (h0 : q ≠ 0) : Sz (n + m) (p / q) := by
  rw [div_divInt]
  refine sz_divInt (Int.mul_ne_zero (den0 p) fun e => h0 (Rat.num_eq_zero.mp e)) ?_ ?_
  · rw [Int.natAbs_mul, Nat.pow_add]; exact Nat.mul_lt_mul'' h.num (by simpa using h'.den)
  · rw [Int.natAbs_mul, Nat.pow_add]; exact Nat.mul_lt_mul'' (by simpa using h.den) h'.num
theorem sum_lt {a b : Int} {n : Nat} (h : a.natAbs < 2 ^ n) (h' : b.natAbs < 2 ^ n) : (a + b).natAbs < 2 ^ (n + 1) := by
  have := Int.natAbs_add_le a b
  have e : 2 ^ (n + 1) = 2 ^ n + 2 ^ n := by rw [Nat.pow_succ]; omega
  omega
theorem Sz.add {n m : Nat} {p q : Rat} (h : Sz n p) (h' : Sz m q) : Sz (n + m + 1) (p + q) := by
  rw [add_divInt]
  refine sz_divInt (Int.mul_ne_zero (den0 p) (den0 q)) (sum_lt ?_ ?_) ?_
  · rw [Int.natAbs_mul, Nat.pow_add]; exact Nat.mul_lt_mul'' h.num (by simpa using h'.den)
  · rw [Int.natAbs_mul, Nat.add_comm, Nat.pow_add]; exact Nat.mul_lt_mul'' h'.num (by simpa using h.den)
  · rw [Int.natAbs_mul]
    refine Nat.lt_of_lt_of_le (Nat.mul_lt_mul'' (show (p.den : Int).natAbs < 2 ^ n by simpa using h.den) (show (q.den : Int).natAbs < 2 ^ m by simpa using h'.den)) ?_
    rw [← Nat.pow_add]
    exact two_mono (by omega)
theorem Sz.neg {n : Nat} {q : Rat} (h : Sz n q) : Sz n (-q) := ⟨by rw [Rat.neg_num, Int.natAbs_neg]; exact h.num, by rw [Rat.neg_den]; exact h.den⟩
theorem Sz.sub {n m : Nat} {p q : Rat} (h : Sz n p) (h' : Sz m q) : Sz (n + m + 1) (p - q) := by
  rw [Rat.sub_eq_add_neg]
  exact h.add h'.neg
end Tr
namespace Tr
open PySem
theorem frD_inj {p q : Rat} : frD p = frD q ↔ p = q := by
  constructor
  · intro h
    unfold frD at h
    injection h with h
    injection h with h1 h
    injection h with h2 _
    injection h1 with h1
    injection h2 with h2
    exact Rat.ext h1 (by omega)
  · rintro rfl; rfl
theorem eqv_fr {p q : Rat} : PyData.eqv (frD p) (frD q) = decide (p = q) := by
  have : PyData.eqv (frD p) (frD q) = decide ([p.num, (p.den : Int)] = [q.num, (q.den : Int)]) := eqvAll_ints [p.num, p.den] [q.num, q.den]
  rw [this]
  by_cases h : p = q
  · subst h; simp
  · rw [decide_eq_false h]
    rw [decide_eq_false]
    intro e
    injection e with e1 e
    injection e with e2 _
    exact h (Rat.ext e1 (by omega))
theorem eqOk_fr {p q : Rat} : eqOk (frD p) (frD q) = true := eqOk_TT [p.num, p.den] [q.num, q.den]
theorem cmp_eq_fr {p q : Rat} : cmpD .eq (frD p) (frD q) = some (.bool (decide (p = q))) := by simp [cmpD, eqOk_fr, eqv_fr]
theorem cmp_ne_fr {p q : Rat} : cmpD .ne (frD p) (frD q) = some (.bool (decide (p ≠ q))) := by simp [cmpD, eqOk_fr, eqv_fr]
theorem fr_lit {a : Int} {b : Nat} {q : Rat} (h1 : q.num = a) (h2 : q.den = b) : .tuple [.int a, .int b] = frD q := by unfold frD; rw [h1, h2]
theorem fr_01 : .tuple [.int 0, .int 1] = frD 0 := rfl
theorem fr_11 : .tuple [.int 1, .int 1] = frD 1 := rfl
theorem fr_21 : .tuple [.int 2, .int 1] = frD 2 := rfl
theorem fr_12 : .tuple [.int 1, .int 2] = frD (1/2) := by apply fr_lit <;> decide +kernel
end Tr
set_option Elab.async false
set_option linter.all false
set_option maxRecDepth 100000
set_option maxHeartbeats 4000000
/-! TrP2: plain reasoning over errors: what is raised, what a try tells. -/
namespace Tr
open PySem
/-- it raises, and E of it -/
def R.wpe {α : Type} (r : R α) (E : Ex → Env → Prop) : Prop := ∃ x ρ, r = .exc x ρ ∧ E x ρ
def FR.wpe (r : FR) (E : Ex → Env → Prop) : Prop := ∃ x ρ, r = .exc x ρ ∧ E x ρ
theorem R.wp_ex {α : Type} {r : R α} {Q : α → Env → Prop} (h : r.wp Q) : ∃ a ρ, r = .ok a ρ ∧ Q a ρ := by
  cases r with
  | ok a ρ => exact ⟨a, ρ, rfl, by rw [R.wpO] at h; exact h⟩
  | exc x ρ => exact R.wpE_elim h
  | bad => exact R.wpB_elim h
theorem R.wpe_mono {α : Type} {r : R α} {E E' : Ex → Env → Prop} (h : r.wpe E) (m : ∀ x ρ, E x ρ → E' x ρ) : r.wpe E' := let ⟨x, ρ, e, q⟩ := h; ⟨x, ρ, e, m _ _ q⟩
theorem FR.wpe_mono {r : FR} {E E' : Ex → Env → Prop} (h : r.wpe E) (m : ∀ x ρ, E x ρ → E' x ρ) : r.wpe E' := let ⟨x, ρ, e, q⟩ := h; ⟨x, ρ, e, m _ _ q⟩
section
variable {α β : Type} {Φ : Tab} {ρ : Env} {Q : Fl → Env → Prop} {E : Ex → Env → Prop}
theorem wpe_bind1 {r : R α} {f : α → Env → R β} (h : r.wpe E) : (r.bind f).wpe E := by
  obtain ⟨x, ρ, rfl, q⟩ := h
  exact ⟨x, ρ, rfl, q⟩
theorem wpe_bind2 {r : R α} {f : α → Env → R β} (h : r.wp fun a ρ => (f a ρ).wpe E) : (r.bind f).wpe E := by
  obtain ⟨a, ρ, rfl, q⟩ := R.wp_ex h
  exact q
theorem wpe_cons1 {s : S} {ss : Ss} (h : (s.sem Φ ρ).wpe E) : (Ss.sem Φ (.cons s ss) ρ).wpe E := by
  simp only [Ss.sem]
  exact wpe_bind1 h
theorem wpe_cons2 {s : S} {ss : Ss} (h : (s.sem Φ ρ).wp fun fl ρ => fl = .nx ∧ (ss.sem Φ ρ).wpe E) : (Ss.sem Φ (.cons s ss) ρ).wpe E := by
  simp only [Ss.sem]
  refine wpe_bind2 (R.wp_mono h fun fl ρ q => ?_)
  obtain ⟨rfl, q⟩ := q
  exact q
theorem wpe_ite {t : T} {a b : Ss} (h : (t.sem Φ ρ).wp fun c ρ => (c = true → (a.sem Φ ρ).wpe E) ∧ (c = false → (b.sem Φ ρ).wpe E)) : (S.sem Φ (.ite t a b) ρ).wpe E := by
  simp only [S.sem]
  refine wpe_bind2 (R.wp_mono h fun c ρ q => ?_)
  cases c with
  | true => rw [if_pos rfl]; exact q.1 rfl
  | false => rw [if_neg (by decide)]; exact q.2 rfl
theorem wpe_raise {x z : Str} (h : E ⟨x, []⟩ ρ) : (S.sem Φ (.raise x z) ρ).wpe E := ⟨_, ρ, by simp only [S.sem], h⟩
theorem wpe_ret {f : F} (h : (f.sem Φ ρ).wpe E) : (S.sem Φ (.ret f) ρ).wpe E := by
  simp only [S.sem]
  exact wpe_bind1 h
theorem wpe_expr {f : F} (h : (f.sem Φ ρ).wpe E) : (S.sem Φ (.expr f) ρ).wpe E := by
  simp only [S.sem]
  exact wpe_bind1 h
theorem wpe_set {i : Nat} {f : F} (h : (f.sem Φ ρ).wpe E) : (S.sem Φ (.set i f) ρ).wpe E := by
  simp only [S.sem]
  exact wpe_bind1 h
theorem wpe_callF {k : Nat} {as : List Ag} {fn : Fn} {os : List O} (hf : Φ.fn[k]? = some fn) (hc : callOk as fn = true) (hg : gather ρ as = some os) (h : (fn.run os).wpe fun x refs => refs.length = (slotsR as).length ∧ E x (fzAll (slotsB as) (putBack (slotsR as) refs ρ))) : (callF Φ k as ρ).wpe E := by
  obtain ⟨x, refs, e, h1, h2⟩ := h
  refine ⟨x, _, ?_, h2⟩
  unfold callF
  rw [hf]
  dsimp only
  rw [hc]
  dsimp only
  rw [hg]
  dsimp only
  rw [e]
  dsimp only
  rw [if_pos h1]
theorem wpe_call {k : Nat} {as : As} (h : (as.sem Φ ρ).wp fun l ρ => (callF Φ k l ρ).wpe E) : (F.sem Φ (.call k as) ρ).wpe E := by
  simp only [F.sem]
  exact wpe_bind2 h
theorem fn_wpe {n : Nat} {modes : List Bool} {body : Env → R Fl} {os : List O} (hl : os.length = modes.length) (h : (body (os.map some ++ List.replicate (n - os.length) none)).wpe fun x ρ => E x (refsOf ρ modes 0)) : ((mkFn n modes body).run os).wpe E := by
  obtain ⟨x, ρ, e, q⟩ := h
  refine ⟨x, _, ?_, q⟩
  simp only [mkFn]
  rw [if_pos hl, e]
/-- nothing is raised -/
theorem wst_tri {b : Ss} {i : Nat} {rows : List (Str × List Bool)} {h : Hd} (hb : (b.sem Φ ρ).wp Q) : (S.sem Φ (.tri b i rows h) ρ).wp Q := by
  obtain ⟨fl, ρ', e, q⟩ := R.wp_ex hb
  simp only [S.sem]
  rw [e]
  unfold tryF
  rw [R.wpO]
  exact q
/-- an error is caught -/
theorem wst_caught {b : Ss} {i : Nat} {rows : List (Str × List Bool)} {h : Hd} (hb : (b.sem Φ ρ).wpe fun x ρ => okOf rows x.cls = true ∧ x.flds.length ≤ 1 ∧ i < ρ.length ∧ (h.sem (hvOf rows) x (ρ.set i none)).wp fun d ρ => Q (.ret (.frz d)) ρ) : (S.sem Φ (.tri b i rows h) ρ).wp Q := by
  obtain ⟨x, ρ', e, q1, q2, q3, q4⟩ := hb
  simp only [S.sem]
  rw [e]
  unfold tryF
  dsimp only
  rw [if_pos (by rw [q1, decide_eq_true q2, decide_eq_true q3]; rfl)]
  obtain ⟨d, ρ2, e2, q5⟩ := R.wp_ex q4
  rw [e2]
  simp only [R.calm_ok, R.bind_ok]
  rw [R.wpO]
  exact q5
end
end Tr
set_option Elab.async false
set_option linter.all false
set_option maxRecDepth 100000
set_option maxHeartbeats 4000000
/-! LibN: the program's numbers, once for all laws. -/
namespace Lib
open PySem Tr
def ir_common : Ss := (.cons (.set 2 (.ofE (.b1 .abs (.v 0)))) (.cons (.set 3 (.ofE (.b1 .abs (.v 1)))) (.cons (.whl (.cmp .gt (.v 3) (.int 0)) (.cons (.par 2 3 (.v 3) (.op .mod (.v 2) (.v 3))) .nil)) (.cons (.ret (.ofE (.v 2))) .nil))))
noncomputable def fn_common (Φ : Tab) : Fn := mkFn 4 [false, false] ((ir_common).sem Φ)
def ir_fraction (k0 : Nat) : Ss := (.cons (.ite (.cmp .eq (.v 1) (.int 0)) (.cons .never .nil) .nil) (.cons (.set 2 (.call k0 (.e (.v 0) (.e (.v 1) .nil)))) (.cons (.ite (.cmp .lt (.v 1) (.int 0)) (.cons (.set 2 (.ofE (.op .sub (.int 0) (.v 2)))) .nil) .nil) (.cons (.ret (.ofE (.tup (.cons (.op .fdiv (.v 0) (.v 2)) (.cons (.op .fdiv (.v 1) (.v 2)) .nil))))) .nil))))
noncomputable def fn_fraction (Φ : Tab) (k0 : Nat) : Fn := mkFn 3 [false, false] ((ir_fraction k0).sem Φ)
def ir_plus (k0 : Nat) : Ss := (.cons (.ret (.call k0 (.e (.ofF (.add (.ofF (.mul (.ix (.v 0) (.int 0)) (.ix (.v 1) (.int 1)))) (.ofF (.mul (.ix (.v 1) (.int 0)) (.ix (.v 0) (.int 1)))))) (.e (.ofF (.mul (.ix (.v 0) (.int 1)) (.ix (.v 1) (.int 1)))) .nil)))) .nil)
noncomputable def fn_plus (Φ : Tab) (k0 : Nat) : Fn := mkFn 2 [false, false] ((ir_plus k0).sem Φ)
def ir_less (k0 : Nat) : Ss := (.cons (.ret (.call k0 (.e (.op .sub (.ofF (.mul (.ix (.v 0) (.int 0)) (.ix (.v 1) (.int 1)))) (.ofF (.mul (.ix (.v 1) (.int 0)) (.ix (.v 0) (.int 1))))) (.e (.ofF (.mul (.ix (.v 0) (.int 1)) (.ix (.v 1) (.int 1)))) .nil)))) .nil)
noncomputable def fn_less (Φ : Tab) (k0 : Nat) : Fn := mkFn 2 [false, false] ((ir_less k0).sem Φ)
def ir_times (k0 : Nat) : Ss := (.cons (.ret (.call k0 (.e (.ofF (.mul (.ix (.v 0) (.int 0)) (.ix (.v 1) (.int 0)))) (.e (.ofF (.mul (.ix (.v 0) (.int 1)) (.ix (.v 1) (.int 1)))) .nil)))) .nil)
noncomputable def fn_times (Φ : Tab) (k0 : Nat) : Fn := mkFn 2 [false, false] ((ir_times k0).sem Φ)
def ir_over (k0 : Nat) : Ss := (.cons (.ret (.call k0 (.e (.ofF (.mul (.ix (.v 0) (.int 0)) (.ix (.v 1) (.int 1)))) (.e (.ofF (.mul (.ix (.v 0) (.int 1)) (.ix (.v 1) (.int 0)))) .nil)))) .nil)
noncomputable def fn_over (Φ : Tab) (k0 : Nat) : Fn := mkFn 2 [false, false] ((ir_over k0).sem Φ)
def ir_order : Ss := (.cons (.set 2 (.ofE (.op .sub (.ofF (.mul (.ix (.v 0) (.int 0)) (.ix (.v 1) (.int 1)))) (.ofF (.mul (.ix (.v 1) (.int 0)) (.ix (.v 0) (.int 1))))))) (.cons (.ret (.ofE (.op .sub (.b1 .int (.cmp .gt (.v 2) (.int 0))) (.b1 .int (.cmp .lt (.v 2) (.int 0)))))) .nil))
noncomputable def fn_order (Φ : Tab) : Fn := mkFn 3 [false, false] ((ir_order).sem Φ)
def ir_next : Ss := (.cons (.ite (.cmp .gt (.ix1 0 (.int 2)) (.int 0)) (.cons (.set 3 (.ofE (.op .mod (.ix1 0 (.int 2)) (.v 1)))) (.cons (.store 0 (.int 2) (.ofE (.op .fdiv (.ix1 0 (.int 2)) (.v 1)))) (.cons (.ret (.ofE (.v 3))) .nil))) .nil) (.cons (.set 2 (.ofE (.int 0))) (.cons (.ite (.cmp .lt (.ix1 0 (.int 1)) (.plen (.ix (.v 0) (.int 0)))) (.cons (.set 2 (.ofE (.pix (.ix (.ix (.v 0) (.int 0)) (.p (.ix (.v 0) (.int 1))))))) .nil) .nil) (.cons (.store 0 (.int 1) (.add (.ix1 0 (.int 1)) (.int 1))) (.cons (.ite (.cmp .ge (.v 2) (.op .pow (.int 10) (.int 18))) (.cons (.store 0 (.int 2) (.ofE (.op .fdiv (.v 2) (.v 1)))) (.cons (.ret (.ofE (.op .mod (.v 2) (.v 1)))) .nil)) .nil) (.cons (.store 0 (.int 3) (.ofE (.op .mod (.ofF (.add (.ofF (.add (.ofF (.mul (.ix1 0 (.int 3)) (.int 48271))) (.op .mod (.v 2) (.int 2147483629)))) (.ofF (.mul (.int 7) (.ix1 0 (.int 1)))))) (.int 2147483647)))) (.cons (.ret (.ofE (.op .mod (.op .fdiv (.op .mod (.ofF (.mul (.ix1 0 (.int 3)) (.int 69621))) (.int 2147483629)) (.int 64)) (.v 1)))) .nil)))))))
noncomputable def fn_next (Φ : Tab) : Fn := mkFn 4 [true, false] ((ir_next).sem Φ)
def ir_lcommon : Ss := (.cons (.whl (.cmp .ne (.v 1) (.int 0)) (.cons (.par 0 1 (.v 1) (.op .mod (.v 0) (.v 1))) .nil)) (.cons (.ret (.ofE (.b1 .abs (.v 0)))) .nil))
noncomputable def fn_lcommon (Φ : Tab) : Fn := mkFn 2 [false, false] ((ir_lcommon).sem Φ)
def ir_lowest (k0 : Nat) : Ss := (.cons (.set 2 (.call k0 (.e (.v 0) (.e (.v 1) .nil)))) (.cons (.ite (.cmp .lt (.v 1) (.int 0)) (.cons (.set 2 (.ofE (.op .sub (.int 0) (.v 2)))) .nil) .nil) (.cons (.ret (.ofE (.tup (.cons (.op .fdiv (.v 0) (.v 2)) (.cons (.op .fdiv (.v 1) (.v 2)) .nil))))) .nil)))
noncomputable def fn_lowest (Φ : Tab) (k0 : Nat) : Fn := mkFn 3 [false, false] ((ir_lowest k0).sem Φ)
theorem call_sp {Φ : Tab} {k : Nat} {as : List Ag} {ρ : Tr.Env} {fn : Fn} {os : List O} {Q : PQ} (hf : Φ.fn[k]? = some fn) (hm : fn.modes = modesOf as) (hc : (decide (slotsR as).Nodup && (slotsB as).all fun i => !(slotsR as).contains i) = true) (hg : gather ρ as = some os) (h : (fn.run os).wp (callK as ρ Q)) : (callF Φ k as ρ).wp Q :=
  call_wp hf (by unfold callOk; rw [hm, decide_eq_true rfl, Bool.true_and]; exact hc) hg h
/-- gcd -/
structure SpCommon (f : Fn) : Prop where
  modes : f.modes = [false, false]
  run : ∀ {a b : Int} {Q : PQ}, Q (.frz (.int (Int.gcd a b))) [] → (f.run [.frz (.int a), .frz (.int b)]).wp Q
theorem gcd_step {a b : Nat} (h : 0 < b) : (b.gcd (a % b)) = a.gcd b := by rw [Nat.gcd_comm a b, Nat.gcd_rec b a, Nat.gcd_comm]
theorem abs_nat (a : Int) : (if a < 0 then -a else a) = (a.natAbs : Int) := by split <;> omega
theorem sp_common {Φ : Tab} : SpCommon (fn_common Φ) := ⟨rfl, fun {a b Q} q => by
  unfold fn_common
  rw [fn_wp]
  refine ⟨rfl, ?_⟩
  simp [ir_common, abs_nat]
  refine whl_wp (fun n ρ => ∃ x : Nat, x.gcd n = Int.gcd a b ∧ ρ = [some (.frz (.int a)), some (.frz (.int b)), some (.frz (.int x)), some (.frz (.int n))]) (fun n ρ hi => ?_) b.natAbs ⟨a.natAbs, rfl, rfl⟩
  obtain ⟨x, hx, rfl⟩ := hi
  simp
  refine ⟨fun h0 => ⟨by omega, x % n, Nat.mod_lt _ h0, n, (gcd_step h0).trans hx, rfl, gcd_fmod h0⟩, fun h0 => ?_⟩
  subst h0
  rw [Nat.gcd_zero_right] at hx
  subst hx
  exact q⟩
theorem sp_lcommon {Φ : Tab} : SpCommon (fn_lcommon Φ) := ⟨rfl, fun {a b Q} q => by
  unfold fn_lcommon
  rw [fn_wp]
  refine ⟨rfl, ?_⟩
  simp [ir_lcommon]
  refine whl_wp (fun n ρ => ∃ x y : Int, y.natAbs = n ∧ Int.gcd x y = Int.gcd a b ∧ ρ = [some (.frz (.int x)), some (.frz (.int y))]) (fun n ρ hi => ?_) b.natAbs ⟨a, b, rfl, rfl, rfl⟩
  obtain ⟨x, y, hn, hx, rfl⟩ := hi
  simp [abs_nat]
  refine ⟨fun h0 => ⟨h0, (x.fmod y).natAbs, ?_, y, x.fmod y, rfl, ?_, rfl, rfl⟩, fun h0 => ?_⟩
  · subst hn
    by_cases hy : 0 < y
    · have := mod_rng (i := x) hy; omega
    · have h1 := mod_rng (i := -x) (m := -y) (by omega)
      rw [Int.neg_fmod_neg] at h1
      omega
  · rw [← hx]
    have e : x.fmod y = x - y * x.fdiv y := Int.fmod_def ..
    rw [e, Int.gcd_sub_mul_left_right, Int.gcd_comm]
  · subst h0
    rw [Int.gcd_zero_right] at hx
    rw [hx]
    exact q⟩
/-- a fraction of two whole numbers -/
structure SpFrac (f : Fn) : Prop where
  modes : f.modes = [false, false]
  run : ∀ {a b : Int} {Q : PQ}, b ≠ 0 → Bits 8000 b → Q (.frz (frD (Rat.divInt a b))) [] → (f.run [.frz (.int a), .frz (.int b)]).wp Q
theorem gcd_bits {a b : Int} (hb : b ≠ 0) (h : Bits 8000 b) : (a.gcd b : Int) ≠ 0 ∧ (a.gcd b).log2 < 9000 := by
  have hg : 0 < a.gcd b := Int.gcd_pos_of_ne_zero_right _ hb
  refine ⟨by omega, ?_⟩
  have h1 : a.gcd b ≤ b.natAbs := Nat.le_of_dvd (by omega) (Int.gcd_dvd_natAbs_right a b)
  have : (a.gcd b).log2 ≤ 8000 := log2_le (Nat.lt_of_le_of_lt h1 h)
  omega
theorem sp_fraction {Φ : Tab} {k : Nat} {f : Fn} (hf : Φ.fn[k]? = some f) (s : SpCommon f) : SpFrac (fn_fraction Φ k) := ⟨rfl, fun {a b Q} h0 hb q => by
  unfold fn_fraction
  rw [fn_wp]
  refine ⟨rfl, ?_⟩
  simp [ir_fraction, h0]
  refine call_sp hf s.modes rfl rfl (s.run ?_)
  simp [callK]
  obtain ⟨g1, g2⟩ := gcd_bits (a := a) h0 hb
  have g1' : a.gcd b ≠ 0 := by omega
  have fin := frac_eq (a := a) h0
  refine ⟨fun h1 => ?_, fun h1 => ?_⟩
  · rw [if_pos h1] at fin
    simp [g2, h0] at g1' ⊢
    rw [fin]
    exact q
  · rw [if_neg (by omega)] at fin
    simp [g2, h0]
    rw [fin]
    exact q⟩
/-- sums and their like -/
structure SpTwo (g : Rat → Rat → Rat) (ok : Rat → Rat → Prop) (f : Fn) : Prop where
  modes : f.modes = [false, false]
  run : ∀ {p q : Rat} {Q : PQ}, Sz 4000 p → Sz 4000 q → ok p q → Q (.frz (frD (g p q))) [] → (f.run [.frz (frD p), .frz (frD q)]).wp Q
abbrev SpPlus := SpTwo (fun p q => p + q) fun _ _ => True
abbrev SpLess := SpTwo (fun p q => p - q) fun _ _ => True
abbrev SpTimes := SpTwo (fun p q => p * q) fun _ _ => True
abbrev SpOver := SpTwo (fun p q => p / q) fun _ q => q ≠ 0
theorem num_ne {q : Rat} (h : q ≠ 0) : q.num ≠ 0 := fun e => h (Rat.num_eq_zero.mp e)
section
variable {Φ : Tab} {k : Nat} {f : Fn}
theorem m_ok {i j : Int} (h : Bits 3999 i) (h' : Bits 3999 j) : i.natAbs.log2 + j.natAbs.log2 < 1000000 := mul_ok h h' (by decide)
theorem b_ok {i j : Int} (h : Bits 3999 i) (h' : Bits 3999 j) : Bits 8000 (i * j) := (h.mul h').mono (by decide)
theorem sp_plus (hf : Φ.fn[k]? = some f) (s : SpFrac f) : SpPlus (fn_plus Φ k) := ⟨rfl, fun {p q Q} hp hq _ w => by
  unfold fn_plus
  rw [fn_wp]
  refine ⟨rfl, ?_⟩
  have h1 := m_ok hp.bn hq.bd
  have h2 := m_ok hq.bn hp.bd
  have h3 := m_ok hp.bd hq.bd
  simp at h1 h2 h3
  simp [ir_plus, frD, h1, h2, h3]
  refine call_sp hf s.modes rfl rfl (s.run (Int.mul_ne_zero (den0 p) (den0 q)) (b_ok hp.bd hq.bd) ?_)
  rw [← add_divInt]
  simpa [callK, frD] using w⟩
theorem sp_less (hf : Φ.fn[k]? = some f) (s : SpFrac f) : SpLess (fn_less Φ k) := ⟨rfl, fun {p q Q} hp hq _ w => by
  unfold fn_less
  rw [fn_wp]
  refine ⟨rfl, ?_⟩
  have h1 := m_ok hp.bn hq.bd
  have h2 := m_ok hq.bn hp.bd
  have h3 := m_ok hp.bd hq.bd
  simp at h1 h2 h3
  simp [ir_less, frD, h1, h2, h3]
  refine call_sp hf s.modes rfl rfl (s.run (Int.mul_ne_zero (den0 p) (den0 q)) (b_ok hp.bd hq.bd) ?_)
  rw [← sub_divInt]
  simpa [callK, frD] using w⟩
theorem sp_times (hf : Φ.fn[k]? = some f) (s : SpFrac f) : SpTimes (fn_times Φ k) := ⟨rfl, fun {p q Q} hp hq _ w => by
  unfold fn_times
  rw [fn_wp]
  refine ⟨rfl, ?_⟩
  have h1 := m_ok hp.bn hq.bn
  have h3 := m_ok hp.bd hq.bd
  simp at h1 h3
  simp [ir_times, frD, h1, h3]
  refine call_sp hf s.modes rfl rfl (s.run (Int.mul_ne_zero (den0 p) (den0 q)) (b_ok hp.bd hq.bd) ?_)
  rw [← mul_divInt]
  simpa [callK, frD] using w⟩
theorem sp_over (hf : Φ.fn[k]? = some f) (s : SpFrac f) : SpOver (fn_over Φ k) := ⟨rfl, fun {p q Q} hp hq h0 w => by
  unfold fn_over
  rw [fn_wp]
  refine ⟨rfl, ?_⟩
  have h1 := m_ok hp.bn hq.bd
  have h3 := m_ok hp.bd hq.bn
  simp at h1 h3
  simp [ir_over, frD, h1, h3]
  refine call_sp hf s.modes rfl rfl (s.run (Int.mul_ne_zero (den0 p) (num_ne h0)) (b_ok hp.bd hq.bn) ?_)
  rw [← div_divInt]
  simpa [callK, frD] using w⟩
/-- -1, 0, 1 -/
def ordI (p q : Rat) : Int := if p < q then -1 else if q < p then 1 else 0
structure SpOrder (f : Fn) : Prop where
  modes : f.modes = [false, false]
  run : ∀ {p q : Rat} {Q : PQ}, Sz 4000 p → Sz 4000 q → Q (.frz (.int (ordI p q))) [] → (f.run [.frz (frD p), .frz (frD q)]).wp Q
theorem sp_order : SpOrder (fn_order Φ) := ⟨rfl, fun {p q Q} hp hq w => by
  unfold fn_order
  rw [fn_wp]
  refine ⟨rfl, ?_⟩
  have h1 := m_ok hp.bn hq.bd
  have h2 := m_ok hq.bn hp.bd
  simp at h1 h2
  simp [ir_order, frD, h1, h2]
  have e1 := Rat.lt_iff p q
  have e2 := Rat.lt_iff q p
  unfold ordI at w
  by_cases c1 : p < q
  · have := e1.mp c1
    rw [if_pos c1] at w
    rw [if_neg (by omega), if_pos (by omega)]
    exact w
  · rw [if_neg c1] at w
    by_cases c2 : q < p
    · have := e2.mp c2
      rw [if_pos c2] at w
      rw [if_pos (by omega), if_neg (by omega)]
      exact w
    · have k1 := mt e1.mpr c1
      have k2 := mt e2.mpr c2
      rw [if_neg c2] at w
      rw [if_neg (by omega), if_neg (by omega)]
      exact w⟩
end
end Lib
namespace Lib
open PySem Tr
section
variable {Φ : Tab} {k : Nat} {f : Fn} {ρ : Tr.Env} {p q : Rat}
theorem run_eq {f : Fn} {os : List O} {o : O} {refs : Tr.Env} (h : (f.run os).wp fun o' refs' => o' = o ∧ refs' = refs) : f.run os = .ok o refs := by
  obtain ⟨o', refs', e, rfl, rfl⟩ := FR.wp_iff.mp h
  exact e
theorem call_eq {as : List Ag} {os : List O} {o : O} (hf : Φ.fn[k]? = some f) (hm : f.modes = modesOf as) (hn : slotsR as = []) (hb : slotsB as = []) (hg : gather ρ as = some os) (h : f.run os = .ok o []) : callF Φ k as ρ = .ok o ρ := by
  have hc : callOk as f = true := by
    unfold callOk
    rw [hm, hn, hb, decide_eq_true rfl]
    rfl
  unfold callF
  rw [hf]
  dsimp only
  rw [hc]
  dsimp only
  rw [hg]
  dsimp only
  rw [h]
  dsimp only
  rw [hn, hb]
  simp
theorem call2_eq {g : Rat → Rat → Rat} {ok : Rat → Rat → Prop} (hf : Φ.fn[k]? = some f) (s : SpTwo g ok f) (hp : Sz 4000 p) (hq : Sz 4000 q) (o : ok p q) : callF Φ k [.d (frD p), .d (frD q)] ρ = .ok (.frz (frD (g p q))) ρ :=
  call_eq hf s.modes rfl rfl rfl (run_eq (s.run hp hq o ⟨rfl, rfl⟩))
theorem callO_eq (hf : Φ.fn[k]? = some f) (s : SpOrder f) (hp : Sz 4000 p) (hq : Sz 4000 q) : callF Φ k [.d (frD p), .d (frD q)] ρ = .ok (.frz (.int (ordI p q))) ρ :=
  call_eq hf s.modes rfl rfl rfl (run_eq (s.run hp hq ⟨rfl, rfl⟩))
end
end Lib
namespace Lib
open PySem Tr
theorem ord_neg (p q : Rat) : ordI q p = 0 - ordI p q := by
  unfold ordI
  by_cases h1 : p < q
  · have : ¬ q < p := by grind
    simp [h1, this]
  · by_cases h2 : q < p
    · simp [h1, h2]
    · simp [h1, h2]
theorem ord_add (p q r : Rat) : ordI (p + r) (q + r) = ordI p q := by
  unfold ordI
  have e1 : p + r < q + r ↔ p < q := by grind
  have e2 : q + r < p + r ↔ q < p := by grind
  simp [e1, e2]
theorem ord_mid (p q : Rat) : ordI p ((p + q) / 2) = ordI p q ∧ ordI ((p + q) / 2) q = ordI p q := by
  unfold ordI
  have e1 : p < (p + q) / 2 ↔ p < q := by grind
  have e2 : (p + q) / 2 < p ↔ q < p := by grind
  have e3 : (p + q) / 2 < q ↔ p < q := by grind
  have e4 : q < (p + q) / 2 ↔ q < p := by grind
  simp [e1, e2, e3, e4]
theorem ord_mul (p q r : Rat) : ordI (p * r) (q * r) = ordI p q * (if 0 < r then 1 else if r < 0 then -1 else 0) := by
  unfold ordI
  by_cases h : 0 < r
  · have e1 : p * r < q * r ↔ p < q := Rat.mul_lt_mul_right h
    have e2 : q * r < p * r ↔ q < p := Rat.mul_lt_mul_right h
    simp [e1, e2, h]
  · by_cases h' : r < 0
    · have h2 : 0 < -r := by grind
      have e1 : q * -r < p * -r ↔ q < p := Rat.mul_lt_mul_right h2
      have e2 : p * -r < q * -r ↔ p < q := Rat.mul_lt_mul_right h2
      have e3 : p * r < q * r ↔ q * -r < p * -r := by grind
      have e4 : q * r < p * r ↔ p * -r < q * -r := by grind
      simp only [e3, e4, e1, e2, h, h', if_true, if_false]
      by_cases a : p < q
      · have : ¬ q < p := by grind
        simp [a, this]
      · by_cases b : q < p <;> simp [a, b]
    · have : r = 0 := by grind
      subst this
      simp
@[simp] theorem ix_fr0 {q : Rat} : ixD (frD q) (.int 0) = some (.int q.num) := rfl
@[simp] theorem ix_fr1 {q : Rat} : ixD (frD q) (.int 1) = some (.int q.den) := rfl
theorem num_zero {q : Rat} : q.num = 0 ↔ q = 0 := Rat.num_eq_zero
theorem num_pos' {q : Rat} : 0 < q.num ↔ 0 < q := by
  have := Rat.lt_iff 0 q
  simpa using this.symm
theorem num_neg' {q : Rat} : q.num < 0 ↔ q < 0 := by
  have := Rat.lt_iff q 0
  simpa using this.symm
end Lib
set_option Elab.async false
set_option linter.all false
set_option maxRecDepth 100000
set_option maxHeartbeats 4000000
/-! LibS: the laws' draws out of a state. -/
namespace Lib
open PySem Tr
/-- the drawing state -/
def stO (ns : List Int) (a r s : Int) : O := .box [.scr ns, .frz (.int a), .frz (.int r), .frz (.int s)]
structure OkSt (n : Nat) (o : O) : Prop where
  ex : ∃ ns a r s, o = stO ns a r s ∧ 0 ≤ a ∧ a ≤ n ∧ 0 ≤ s ∧ s < 2147483647
theorem OkSt.mono {n m : Nat} {o : O} (h : OkSt n o) (hm : n ≤ m) : OkSt m o := by
  obtain ⟨ns, a, r, s, e, h1, h2, h3⟩ := h.ex
  exact ⟨ns, a, r, s, e, h1, by omega, h3⟩
theorem okSt_start {ns : List Int} {s : Int} (h : 0 ≤ s ∧ s < 2147483647) : OkSt 0 (stO ns 0 0 s) := ⟨ns, 0, 0, s, rfl, by decide, by decide, h⟩
structure SpNext (f : Fn) : Prop where
  modes : f.modes = [true, false]
  run : ∀ {n : Nat} {st : O} {m : Int} {Q : PQ}, OkSt n st → n < 2 ^ 60 → 0 < m → m < 2 ^ 200 → (∀ v st', 0 ≤ v → v < m → OkSt (n + 1) st' → Q (.frz (.int v)) [some st']) → (f.run [st, .frz (.int m)]).wp Q
theorem log_lt {m : Int} (h0 : 0 < m) (h : m < 2 ^ 200) : m.natAbs.log2 < 9000 := by
  have : m.natAbs.log2 ≤ 199 := log2_le (by omega)
  omega
@[simp] theorem ixN_4_2 : ixN 4 2 = some 2 := rfl
@[simp] theorem ixN_4_1 : ixN 4 1 = some 1 := rfl
@[simp] theorem ixN_4_3 : ixN 4 3 = some 3 := rfl
@[simp] theorem ixN_4_0 : ixN 4 0 = some 0 := rfl
theorem sp_next {Φ : Tab} : SpNext (fn_next Φ) := ⟨rfl, fun {n st m Q} hst hn h0 h1 q => by
  obtain ⟨ns, a, r, s, rfl, a0, an, s0, s1⟩ := hst.ex
  unfold fn_next stO
  rw [fn_wp]
  refine ⟨rfl, ?_⟩
  have m0 : m ≠ 0 := by omega
  have lm := log_lt h0 h1
  simp [ir_next, P.sem, Qx.sem, lenP, lenO, storeF, m0, lm]
  have fin : ∀ x : Int, (x.fmod 2147483647).natAbs.log2 + Nat.log2 69621 < 1000000 ∧ Nat.log2 64 < 9000 ∧
      Q (.frz (.int ((((x.fmod 2147483647 * 69621).fmod 2147483629).fdiv 64).fmod m))) [some (.box [.scr ns, .frz (.int (a + 1)), .frz (.int r), .frz (.int (x.fmod 2147483647))])] := fun x => by
    have hx := mod_rng (i := x) (m := 2147483647) (by decide)
    have hm := mod_rng (i := ((x.fmod 2147483647 * 69621).fmod 2147483629).fdiv 64) h0
    exact ⟨mul_okn (n := 31) (.of_lt (by omega) (by omega)) (by decide +kernel), by decide +kernel, q _ (stO ns (a + 1) r _) hm.1 hm.2 ⟨ns, a + 1, r, _, rfl, by omega, by omega, hx.1, hx.2⟩⟩
  refine ⟨fun hr => ?_, fun hr => ⟨fun ha => ?_, fun ha => ?_⟩⟩
  · have := mod_rng (i := r) h0
    exact q _ (stO ns a (r.fdiv m) s) this.1 this.2 ⟨ns, a, _, s, rfl, a0, by omega, s0, s1⟩
  · have e : atD ns a = some (ns[a.toNat]'(by omega)) := atD_lt a0 ha
    simp [e, storeF, m0, lm]
    have sb : s.natAbs.log2 + Nat.log2 48271 < 1000000 := mul_okn (n := 31) (.of_lt (by omega) (by omega)) (by decide +kernel)
    have ab : Nat.log2 7 + (a + 1).natAbs.log2 < 1000000 := mul_okm (n := 61) (.of_lt (by omega) (by omega)) (by decide +kernel)
    refine ⟨fun h2 => ?_, fun h2 => ⟨sb, ab, ?_⟩⟩
    · have := mod_rng (i := ns[a.toNat]'(by omega)) h0
      exact q _ (stO ns (a + 1) _ s) this.1 this.2 ⟨ns, a + 1, _, s, rfl, by omega, by omega, s0, s1⟩
    · exact fin _
  · have sb : s.natAbs.log2 + Nat.log2 48271 < 1000000 := mul_okn (n := 31) (.of_lt (by omega) (by omega)) (by decide +kernel)
    have ab : Nat.log2 7 + (a + 1).natAbs.log2 < 1000000 := mul_okm (n := 61) (.of_lt (by omega) (by omega)) (by decide +kernel)
    exact ⟨sb, ab, fin _⟩⟩
end Lib
set_option Elab.async false
set_option linter.all false
set_option maxRecDepth 100000
set_option maxHeartbeats 4000000
/-! LibF: fractions as tuples or lists, rows and squares of them. -/
namespace Lib
open PySem Tr
/-- the number that a row of two whole numbers tells -/
def valR (d : D) : Rat := match itemsD d with
  | some [.int a, .int b] => Rat.divInt a b
  | _ => 0
/-- a fraction as a tuple or a list, of at most so many bits -/
structure Fr (n : Nat) (d : D) : Prop where
  is : d = frD (valR d) ∨ d = .list [.int (valR d).num, .int (valR d).den]
  sz : Sz n (valR d)
@[simp] theorem valR_fr {p : Rat} : valR (frD p) = p := by
  show Rat.divInt p.num p.den = p
  exact Rat.num_divInt_den p
@[simp] theorem valR_frL {p : Rat} : valR (.list [.int p.num, .int p.den]) = p := by
  show Rat.divInt p.num p.den = p
  exact Rat.num_divInt_den p
theorem fr_frD {n : Nat} {p : Rat} (h : Sz n p) : Fr n (frD p) := ⟨.inl (by rw [valR_fr]), by rw [valR_fr]; exact h⟩
theorem fr_frL {n : Nat} {p : Rat} (h : Sz n p) : Fr n (.list [.int p.num, .int p.den]) := ⟨.inr (by rw [valR_frL]), by rw [valR_frL]; exact h⟩
section
variable {n m : Nat} {d e : D}
theorem Fr.mono (h : Fr n d) (hm : n ≤ m) : Fr m d := ⟨h.is, h.sz.mono hm⟩
theorem Fr.items (h : Fr n d) : itemsD d = some [.int (valR d).num, .int (valR d).den] := by
  rcases h.is with e | e
  · conv => lhs; rw [e]
    rfl
  · conv => lhs; rw [e]
    rfl
theorem Fr.ix0 (h : Fr n d) : ixD d (.int 0) = some (.int (valR d).num) := by
  rcases h.is with e | e
  · conv => lhs; rw [e]
    simp [frD]
  · conv => lhs; rw [e]
    simp
theorem Fr.ix1 (h : Fr n d) : ixD d (.int 1) = some (.int (valR d).den) := by
  rcases h.is with e | e
  · conv => lhs; rw [e]
    simp [frD]
  · conv => lhs; rw [e]
    simp
end
theorem sz_zero : Sz 1 0 := ⟨by decide, by decide⟩
theorem sz_one : Sz 1 1 := ⟨by decide, by decide⟩
theorem sz_abs {n : Nat} {p : Rat} (h : Sz n p) : Sz n p.abs := by
  unfold Rat.abs
  split
  · exact h
  · exact h.neg

/-- a fraction of two whole numbers, the second above 0 -/
structure SpLow (f : Fn) : Prop where
  modes : f.modes = [false, false]
  eq : ∀ {a b : Int}, 0 < b → Bits 8000 b → f.run [.frz (.int a), .frz (.int b)] = .ok (.frz (frD (Rat.divInt a b))) []
theorem SpFrac.low {f : Fn} (s : SpFrac f) : SpLow f := ⟨s.modes, fun h hb => run_eq (s.run (by omega) hb ⟨rfl, rfl⟩)⟩
section
variable {Φ : Tab} {k k0 k1 k2 k3 g0 : Nat} {f : Fn} {ρ : Tr.Env} {d e : D}
theorem call_pure {as : List Ag} {os : List O} {Q : PQ} (hf : Φ.fn[k]? = some f) (hm : f.modes = modesOf as) (hn : slotsR as = []) (hb : slotsB as = []) (hg : gather ρ as = some os) (h : (f.run os).wp fun o refs => refs = [] ∧ Q o ρ) : (callF Φ k as ρ).wp Q := by
  refine call_sp hf hm (by rw [hn, hb]; rfl) hg (FR.wp_mono h fun o refs q => ?_)
  obtain ⟨rfl, q⟩ := q
  simpa [callK, hn, hb] using q
theorem call_st {as : List Ag} {os : List O} {s : Nat} {Q : PQ} (hf : Φ.fn[k]? = some f) (hm : f.modes = modesOf as) (hn : slotsR as = [s]) (hb : slotsB as = []) (hg : gather ρ as = some os) (h : (f.run os).wp fun o refs => ∃ st', refs = [some st'] ∧ Q o (ρ.set s (some st'))) : (callF Φ k as ρ).wp Q := by
  refine call_sp hf hm (by rw [hn, hb]; simp) hg (FR.wp_mono h fun o refs q => ?_)
  obtain ⟨st', rfl, q⟩ := q
  simpa [callK, hn, hb] using q
theorem pure1 {a : D} {Q : PQ} (hf : Φ.fn[k]? = some f) (hm : f.modes = [false]) (h : (f.run [.frz a]).wp fun o refs => refs = [] ∧ Q o ρ) : (callF Φ k [.d a] ρ).wp Q := call_pure hf hm rfl rfl rfl h
theorem pure2 {a b : D} {Q : PQ} (hf : Φ.fn[k]? = some f) (hm : f.modes = [false, false]) (h : (f.run [.frz a, .frz b]).wp fun o refs => refs = [] ∧ Q o ρ) : (callF Φ k [.d a, .d b] ρ).wp Q := call_pure hf hm rfl rfl rfl h
theorem pure3 {a b c : D} {Q : PQ} (hf : Φ.fn[k]? = some f) (hm : f.modes = [false, false, false]) (h : (f.run [.frz a, .frz b, .frz c]).wp fun o refs => refs = [] ∧ Q o ρ) : (callF Φ k [.d a, .d b, .d c] ρ).wp Q := call_pure hf hm rfl rfl rfl h
theorem pure4 {a b c g : D} {Q : PQ} (hf : Φ.fn[k]? = some f) (hm : f.modes = [false, false, false, false]) (h : (f.run [.frz a, .frz b, .frz c, .frz g]).wp fun o refs => refs = [] ∧ Q o ρ) : (callF Φ k [.d a, .d b, .d c, .d g] ρ).wp Q := call_pure hf hm rfl rfl rfl h
theorem state1 {s : Nat} {st : O} {Q : PQ} (hf : Φ.fn[k]? = some f) (hm : f.modes = [true]) (hs : ldV s ρ = some st) (h : (f.run [st]).wp fun o refs => ∃ st', refs = [some st'] ∧ Q o (ρ.set s (some st'))) : (callF Φ k [.r s] ρ).wp Q := call_st hf hm rfl rfl (by simp [gather, hs]) h
theorem state2 {s : Nat} {st : O} {a : D} {Q : PQ} (hf : Φ.fn[k]? = some f) (hm : f.modes = [true, false]) (hs : ldV s ρ = some st) (h : (f.run [st, .frz a]).wp fun o refs => ∃ st', refs = [some st'] ∧ Q o (ρ.set s (some st'))) : (callF Φ k [.r s, .d a] ρ).wp Q := call_st hf hm rfl rfl (by simp [gather, hs]) h
theorem state3 {s : Nat} {st : O} {a b : D} {Q : PQ} (hf : Φ.fn[k]? = some f) (hm : f.modes = [true, false, false]) (hs : ldV s ρ = some st) (h : (f.run [st, .frz a, .frz b]).wp fun o refs => ∃ st', refs = [some st'] ∧ Q o (ρ.set s (some st'))) : (callF Φ k [.r s, .d a, .d b] ρ).wp Q := call_st hf hm rfl rfl (by simp [gather, hs]) h
theorem SpLow.cl (s : SpLow f) (hf : Φ.fn[k]? = some f) {a b : Int} (h : 0 < b) (hb : Bits 8000 b) : callF Φ k [.d (.int a), .d (.int b)] ρ = .ok (.frz (frD (Rat.divInt a b))) ρ :=
  call_eq hf s.modes rfl rfl rfl (s.eq h hb)
/-- sums and their like, of two fractions -/
structure Sp2 (g : Rat → Rat → Rat) (ok : Rat → Rat → Prop) (f : Fn) : Prop where
  modes : f.modes = [false, false]
  eq : ∀ {d e : D}, Fr 4000 d → Fr 4000 e → ok (valR d) (valR e) → f.run [.frz d, .frz e] = .ok (.frz (frD (g (valR d) (valR e)))) []
theorem Sp2.cl {g : Rat → Rat → Rat} {ok : Rat → Rat → Prop} (s : Sp2 g ok f) (hf : Φ.fn[k]? = some f) (hd : Fr 4000 d) (he : Fr 4000 e) (o : ok (valR d) (valR e)) : callF Φ k [.d d, .d e] ρ = .ok (.frz (frD (g (valR d) (valR e)))) ρ :=
  call_eq hf s.modes rfl rfl rfl (s.eq hd he o)
abbrev any2 (_ _ : Rat) : Prop := True
theorem sp2_plus (hf : Φ.fn[k]? = some f) (s : SpLow f) : Sp2 (fun p q => p + q) any2 (fn_plus Φ k) := ⟨rfl, fun {d e} hd he _ => run_eq (by
  unfold fn_plus
  rw [fn_wp]
  refine ⟨rfl, ?_⟩
  have h1 := m_ok hd.sz.bn he.sz.bd
  have h2 := m_ok he.sz.bn hd.sz.bd
  have h3 := m_ok hd.sz.bd he.sz.bd
  simp at h1 h2 h3
  have p1 := Int.mul_pos (show (0 : Int) < (valR d).den by have := (valR d).den_pos; omega) (show (0 : Int) < (valR e).den by have := (valR e).den_pos; omega)
  simp [ir_plus, hd.ix0, hd.ix1, he.ix0, he.ix1, h1, h2, h3, s.cl hf p1 (b_ok hd.sz.bd he.sz.bd), ← add_divInt])⟩
theorem sp2_less (hf : Φ.fn[k]? = some f) (s : SpLow f) : Sp2 (fun p q => p - q) any2 (fn_less Φ k) := ⟨rfl, fun {d e} hd he _ => run_eq (by
  unfold fn_less
  rw [fn_wp]
  refine ⟨rfl, ?_⟩
  have h1 := m_ok hd.sz.bn he.sz.bd
  have h2 := m_ok he.sz.bn hd.sz.bd
  have h3 := m_ok hd.sz.bd he.sz.bd
  simp at h1 h2 h3
  have p1 := Int.mul_pos (show (0 : Int) < (valR d).den by have := (valR d).den_pos; omega) (show (0 : Int) < (valR e).den by have := (valR e).den_pos; omega)
  simp [ir_less, hd.ix0, hd.ix1, he.ix0, he.ix1, h1, h2, h3, s.cl hf p1 (b_ok hd.sz.bd he.sz.bd), ← sub_divInt])⟩
theorem sp2_times (hf : Φ.fn[k]? = some f) (s : SpLow f) : Sp2 (fun p q => p * q) any2 (fn_times Φ k) := ⟨rfl, fun {d e} hd he _ => run_eq (by
  unfold fn_times
  rw [fn_wp]
  refine ⟨rfl, ?_⟩
  have h1 := m_ok hd.sz.bn he.sz.bn
  have h3 := m_ok hd.sz.bd he.sz.bd
  simp at h1 h3
  have p1 := Int.mul_pos (show (0 : Int) < (valR d).den by have := (valR d).den_pos; omega) (show (0 : Int) < (valR e).den by have := (valR e).den_pos; omega)
  simp [ir_times, hd.ix0, hd.ix1, he.ix0, he.ix1, h1, h3, s.cl hf p1 (b_ok hd.sz.bd he.sz.bd), ← mul_divInt])⟩
theorem sp2_over (hf : Φ.fn[k]? = some f) (s : SpFrac f) : Sp2 (fun p q => p / q) (fun _ q => q ≠ 0) (fn_over Φ k) := ⟨rfl, fun {d e} hd he h0 => run_eq (by
  unfold fn_over
  rw [fn_wp]
  refine ⟨rfl, ?_⟩
  have h1 := m_ok hd.sz.bn he.sz.bd
  have h3 := m_ok hd.sz.bd he.sz.bn
  simp at h1 h3
  simp [ir_over, hd.ix0, hd.ix1, he.ix0, he.ix1, h1, h3]
  refine call_sp hf s.modes rfl rfl (s.run (Int.mul_ne_zero (den0 _) (num_ne h0)) (b_ok hd.sz.bd he.sz.bn) ?_)
  rw [← div_divInt]
  simp [callK])⟩
/-- -1, 0 or 1 -/
structure SpOrd (f : Fn) : Prop where
  modes : f.modes = [false, false]
  eq : ∀ {d e : D}, Fr 4000 d → Fr 4000 e → f.run [.frz d, .frz e] = .ok (.frz (.int (ordI (valR d) (valR e)))) []
theorem SpOrd.cl (s : SpOrd f) (hf : Φ.fn[k]? = some f) (hd : Fr 4000 d) (he : Fr 4000 e) : callF Φ k [.d d, .d e] ρ = .ok (.frz (.int (ordI (valR d) (valR e)))) ρ :=
  call_eq hf s.modes rfl rfl rfl (s.eq hd he)
theorem sp2_order : SpOrd (fn_order Φ) := ⟨rfl, fun {d e} hd he => run_eq (by
  unfold fn_order
  rw [fn_wp]
  refine ⟨rfl, ?_⟩
  have h1 := m_ok hd.sz.bn he.sz.bd
  have h2 := m_ok he.sz.bn hd.sz.bd
  simp at h1 h2
  simp [ir_order, hd.ix0, hd.ix1, he.ix0, he.ix1, h1, h2]
  have e1 := Rat.lt_iff (valR d) (valR e)
  have e2 := Rat.lt_iff (valR e) (valR d)
  unfold ordI
  by_cases c1 : valR d < valR e
  · have := e1.mp c1
    rw [if_pos c1, if_neg (by omega), if_pos (by omega)]
    rfl
  · rw [if_neg c1]
    by_cases c2 : valR e < valR d
    · have := e2.mp c2
      rw [if_pos c2, if_pos (by omega), if_neg (by omega)]
      rfl
    · have k1 := mt e1.mpr c1
      have k2 := mt e2.mpr c2
      rw [if_neg c2, if_neg (by omega), if_neg (by omega)]
      rfl)⟩
theorem ord_pos {p q : Rat} : 0 < ordI p q ↔ q < p := by
  unfold ordI
  by_cases h : p < q
  · have : ¬ q < p := by grind
    simp [h, this]
  · by_cases h' : q < p <;> simp [h, h']
theorem ord_neg' {p q : Rat} : ordI p q < 0 ↔ p < q := by
  unfold ordI
  by_cases h : p < q
  · simp [h]
  · by_cases h' : q < p <;> simp [h, h']
theorem ord_zero {p q : Rat} : ordI p q = 0 ↔ p = q := by
  unfold ordI
  by_cases h : p < q
  · have : p ≠ q := by grind
    simp [h, this]
  · by_cases h' : q < p
    · have : p ≠ q := by grind
      simp [h, h', this]
    · have : p = q := by grind
      simp [h, h', this]
end
end Lib
set_option Elab.async false
set_option linter.all false
set_option maxRecDepth 100000
set_option maxHeartbeats 4000000
/-! LibXc: fractions by nought. -/
namespace Lib
open PySem Tr
abbrev PE1 := Ex → Tr.Env → Prop
@[simp ↓] theorem wst_raise {Φ : Tab} {ρ : Tr.Env} {Q : Fl → Tr.Env → Prop} {x z : Str} : (S.sem Φ (.raise x z) ρ).wp Q = False := by simp only [S.sem]; exact R.wpE _ _ _
def ir_fractionX (k0 : Nat) : Ss := (.cons (.ite (.cmp .eq (.v 1) (.int 0)) (.cons (.raise "NoFraction" "nothing is shared by nought") .nil) .nil) (.cons (.set 2 (.call k0 (.e (.v 0) (.e (.v 1) .nil)))) (.cons (.ite (.cmp .lt (.v 1) (.int 0)) (.cons (.set 2 (.ofE (.op .sub (.int 0) (.v 2)))) .nil) .nil) (.cons (.ret (.ofE (.tup (.cons (.op .fdiv (.v 0) (.v 2)) (.cons (.op .fdiv (.v 1) (.v 2)) .nil))))) .nil))))
noncomputable def fn_fractionX (Φ : Tab) (k0 : Nat) : Fn := mkFn 3 [false, false] ((ir_fractionX k0).sem Φ)
theorem sp_fractionX {Φ : Tab} {k : Nat} {f : Fn} (hf : Φ.fn[k]? = some f) (s : SpCommon f) : SpFrac (fn_fractionX Φ k) := ⟨rfl, fun {a b Q} h0 hb q => by
  unfold fn_fractionX
  rw [fn_wp]
  refine ⟨rfl, ?_⟩
  simp [ir_fractionX, h0]
  refine call_sp hf s.modes rfl rfl (s.run ?_)
  simp [callK]
  obtain ⟨g1, g2⟩ := gcd_bits (a := a) h0 hb
  have g1' : a.gcd b ≠ 0 := by omega
  have fin := frac_eq (a := a) h0
  refine ⟨fun h1 => ?_, fun h1 => ?_⟩
  · rw [if_pos h1] at fin
    simp [g2, h0] at g1' ⊢
    rw [fin]
    exact q
  · rw [if_neg (by omega)] at fin
    simp [g2, h0]
    rw [fin]
    exact q⟩
/-- an error of this class, without fields -/
def exN (c : Str) : Ex := ⟨c, []⟩
theorem run_exc {f : Fn} {os : List O} {x : Ex} {refs : Tr.Env} (h : (f.run os).wpe fun x' r' => x' = x ∧ r' = refs) : f.run os = .exc x refs := by
  obtain ⟨x', r', e, rfl, rfl⟩ := h
  exact e
theorem fractionX_exc {Φ : Tab} {k : Nat} {a : Int} : (fn_fractionX Φ k).run [.frz (.int a), .frz (.int 0)] = .exc (exN "NoFraction") [] := run_exc (by
  unfold fn_fractionX
  refine fn_wpe rfl ?_
  refine wpe_cons1 (wpe_ite ?_)
  simp
  exact wpe_cons1 (wpe_raise (by simp [exN, refsOf])))
theorem wpe_pure {Φ : Tab} {k : Nat} {f : Fn} {as : List Ag} {os : List O} {ρ : Tr.Env} {x : Ex} {E : PE1} (hf : Φ.fn[k]? = some f) (hm : f.modes = modesOf as) (hn : slotsR as = []) (hb : slotsB as = []) (hg : gather ρ as = some os) (h : f.run os = .exc x []) (q : E x ρ) : (callF Φ k as ρ).wpe E := by
  refine wpe_callF hf ?_ hg ⟨x, [], h, by rw [hn]; rfl, ?_⟩
  · unfold callOk
    rw [hn, hb, ← hm]
    simp
  · rw [hn, hb]
    exact q
theorem overX_exc {Φ : Tab} {k : Nat} {f : Fn} {d e : D} (hf : Φ.fn[k]? = some f) (hm : f.modes = [false, false]) (hx : ∀ a : Int, f.run [.frz (.int a), .frz (.int 0)] = .exc (exN "NoFraction") []) (hd : Fr 4000 d) (he : Fr 4000 e) (h0 : valR e = 0) : (fn_over Φ k).run [.frz d, .frz e] = .exc (exN "NoFraction") [] := run_exc (by
  unfold fn_over
  refine fn_wpe rfl ?_
  refine wpe_cons1 (wpe_ret (wpe_call ?_))
  have h1 := m_ok hd.sz.bn he.sz.bd
  have h3 := m_ok hd.sz.bd he.sz.bn
  have n0 : (valR e).num = 0 := by rw [h0]; rfl
  simp at h1 h3
  simp [hd.ix0, hd.ix1, he.ix0, he.ix1, h1, h3]
  rw [n0, Int.mul_zero]
  exact wpe_pure hf hm rfl rfl rfl (hx _) (by simp [exN, refsOf]))
end Lib
set_option Elab.async false
set_option linter.all false
set_option maxRecDepth 100000
set_option maxHeartbeats 4000000
/-! LibT: plain data and ==; rows and squares of fractions; pairs; greatest. -/
namespace Lib
open PySem Tr
/-- a whole number that range may be given -/
structure InR (i : Int) : Prop where
  lo : -(2 ^ 62) ≤ i
  hi : i < 2 ^ 62
theorem inR {i : Int} (h : -1000000 ≤ i ∧ i ≤ 1000000) : InR i := ⟨by omega, by omega⟩
instance {i : Int} : Decidable (InR i) := decidable_of_iff (-(2 ^ 62) ≤ i ∧ i < 2 ^ 62) ⟨fun h => ⟨h.1, h.2⟩, fun h => ⟨h.1, h.2⟩⟩
@[simp high] theorem range1_r {i : Int} : range1D (.int i) = if InR i then some (rng 0 i.toNat) else none := by
  rw [range1_i]
  by_cases h : InR i
  · rw [if_pos h, if_pos ⟨h.lo, h.hi⟩]
  · rw [if_neg h, if_neg fun q => h ⟨q.1, q.2⟩]
@[simp high] theorem range2_r {i j : Int} : range2D (.int i) (.int j) = if InR i ∧ InR j then some (rng i (j - i).toNat) else none := by
  rw [range2_i]
  by_cases h : InR i ∧ InR j
  · rw [if_pos h, if_pos ⟨h.1.lo, h.1.hi, h.2.lo, h.2.hi⟩]
  · rw [if_neg h, if_neg fun q => h ⟨⟨q.1, q.2.1⟩, ⟨q.2.2.1, q.2.2.2⟩⟩]
theorem lrg1_r {i : Int} : lrg1D (.int i) = if InR i ∧ i ≤ 1000000 then some (.box ((rng 0 i.toNat).map .frz)) else lrg1D (.int i) := by
  by_cases h : InR i ∧ i ≤ 1000000
  · rw [if_pos h, lrg1_i, if_pos ⟨h.1.lo, by omega⟩]
  · rw [if_neg h]
@[simp] theorem toNat_sub_s {n a : Nat} : ((n : Int) - ((a : Int) + 1)).toNat = n - (a + 1) := by omega
@[simp] theorem toNat_sub_1 {n : Nat} : ((n : Int) - 1).toNat = n - 1 := by omega
/-! ### data without truths and dicts: == is = -/
mutual
def plD : D → Bool
  | .none => true
  | .int _ => true
  | .str s => PyData.canLay0 (.str s)
  | .tuple l => plAll l
  | .list l => plAll l
  | .bool _ => false
  | .dict _ => false
def plAll : List D → Bool
  | [] => true
  | d :: l => plD d && plAll l
end
theorem plAll_iff {l : List D} : plAll l = true ↔ ∀ x ∈ l, plD x = true := by
  induction l with
  | nil => simp [plAll]
  | cons d l ih => simp [plAll, ih]
mutual
theorem pl_can : ∀ {d : D}, plD d = true → PyData.canLay0 d = true
  | .none, _ => rfl
  | .int _, _ => rfl
  | .str s, h => by simpa [plD] using h
  | .tuple l, h => by simp only [plD] at h; simp [PyData.canLay0, pl_canAll h]
  | .list l, h => by simp only [plD] at h; simp [PyData.canLay0, pl_canAll h]
  | .bool _, h => by simp [plD] at h
  | .dict _, h => by simp [plD] at h
theorem pl_canAll : ∀ {l : List D}, plAll l = true → PyData.canLayAll0 l = true
  | [], _ => rfl
  | d :: l, h => by
    simp only [plAll, Bool.and_eq_true] at h
    simp [PyData.canLayAll0, pl_can h.1, pl_canAll h.2]
end
mutual
theorem eqv_pl : ∀ {d e : D}, plD d = true → plD e = true → (PyData.eqv d e = true ↔ d = e)
  | .none, e, _, h => by cases e <;> simp [PyData.eqv, plD] at h ⊢
  | .int i, e, _, h => by cases e <;> simp [PyData.eqv, plD] at h ⊢
  | .str s, e, _, h => by cases e <;> simp [PyData.eqv, plD] at h ⊢
  | .tuple l, e, h1, h => by
    cases e <;> simp [PyData.eqv, plD] at h h1 ⊢
    exact eqvAll_pl h1 h
  | .list l, e, h1, h => by
    cases e <;> simp [PyData.eqv, plD] at h h1 ⊢
    exact eqvAll_pl h1 h
  | .bool _, e, h, _ => by simp [plD] at h
  | .dict _, e, h, _ => by simp [plD] at h
theorem eqvAll_pl : ∀ {l m : List D}, plAll l = true → plAll m = true → (PyData.eqvAll l m = true ↔ l = m)
  | [], [], _, _ => by simp [PyData.eqvAll]
  | [], _ :: _, _, _ => by simp [PyData.eqvAll]
  | _ :: _, [], _, _ => by simp [PyData.eqvAll]
  | d :: l, e :: m, h1, h2 => by
    simp only [plAll, Bool.and_eq_true] at h1 h2
    simp only [PyData.eqvAll, Bool.and_eq_true, eqv_pl h1.1 h2.1, eqvAll_pl h1.2 h2.2, List.cons.injEq]
end
theorem depthAll_le {n : Nat} : ∀ {l : List D}, (∀ x ∈ l, PyData.depth x ≤ n) → PyData.depthAll l ≤ n
  | [], _ => by simp [PyData.depthAll]
  | d :: l, h => by
    have h1 := h d (by simp)
    have h2 := depthAll_le (l := l) fun x hx => h x (by simp [hx])
    simp only [PyData.depthAll]
    omega
theorem depth_tup {n : Nat} {l : List D} (h : ∀ x ∈ l, PyData.depth x ≤ n) : PyData.depth (.tuple l) ≤ n + 1 := by
  have := depthAll_le h
  simp only [PyData.depth]
  omega
theorem depth_lst {n : Nat} {l : List D} (h : ∀ x ∈ l, PyData.depth x ≤ n) : PyData.depth (.list l) ≤ n + 1 := by
  have := depthAll_le h
  simp only [PyData.depth]
  omega
/-- plain, and not deep -/
structure Pl (n : Nat) (d : D) : Prop where
  pl : plD d = true
  dp : PyData.depth d ≤ n
theorem Pl.mono {n m : Nat} {d : D} (h : Pl n d) (hm : n ≤ m) : Pl m d := ⟨h.pl, Nat.le_trans h.dp hm⟩
theorem pl_int {i : Int} : Pl 0 (.int i) := ⟨rfl, by simp [PyData.depth]⟩
theorem pl_non : Pl 0 .none := ⟨rfl, by simp [PyData.depth]⟩
theorem pl_tup {n : Nat} {l : List D} (h : ∀ x ∈ l, Pl n x) : Pl (n + 1) (.tuple l) := ⟨by simp only [plD]; exact plAll_iff.mpr fun x hx => (h x hx).pl, depth_tup fun x hx => (h x hx).dp⟩
theorem pl_lst {n : Nat} {l : List D} (h : ∀ x ∈ l, Pl n x) : Pl (n + 1) (.list l) := ⟨by simp only [plD]; exact plAll_iff.mpr fun x hx => (h x hx).pl, depth_lst fun x hx => (h x hx).dp⟩
theorem eqOk_pl {n : Nat} {d e : D} (h : Pl n d) (h' : plD e = true) (hn : n ≤ 64) : eqOk d e = true := by
  have := h.dp
  simp [eqOk, pl_can h.pl, pl_can h', show PyData.depth d ≤ 64 by omega]
theorem cmp_eq_pl {n : Nat} {d e : D} (h : Pl n d) (h' : plD e = true) (hn : n ≤ 64) {P : Prop} [Decidable P] (p : d = e ↔ P) : cmpD .eq d e = some (.bool (decide P)) := by
  simp only [cmpD, eqOk_pl h h' hn, Bool.or_true, if_true, Option.some.injEq, PyData.bool.injEq]
  rw [Bool.eq_iff_iff, eqv_pl h.pl h', p, decide_eq_true_iff]
theorem cmp_ne_pl {n : Nat} {d e : D} (h : Pl n d) (h' : plD e = true) (hn : n ≤ 64) {P : Prop} [Decidable P] (p : d = e ↔ P) : cmpD .ne d e = some (.bool (!decide P)) := by
  simp only [cmpD, eqOk_pl h h' hn, Bool.or_true, if_true, Option.some.injEq, PyData.bool.injEq]
  congr 1
  rw [Bool.eq_iff_iff, eqv_pl h.pl h', p, decide_eq_true_iff]
theorem memD_pl {d : D} {l : List D} (h : plD d = true) (hl : ∀ x ∈ l, plD x = true) : memD d l = true ↔ d ∈ l := by
  unfold memD
  rw [List.any_eq_true]
  constructor
  · rintro ⟨x, hx, e⟩
    rw [eqv_pl (hl x hx) h] at e
    exact e ▸ hx
  · intro hd
    exact ⟨d, hd, (eqv_pl h h).mpr rfl⟩
theorem memOk_pl {n : Nat} {d : D} {l : List D} (h : Pl n d) (hl : ∀ x ∈ l, Pl n x) (hn : n ≤ 60) : memOk d l = true := by
  have h1 := h.dp
  have h2 := depth_lst fun x hx => (hl x hx).dp
  have h3 := (pl_lst hl).pl
  unfold memOk SeqAt.shaped
  simp [pl_can h.pl, pl_can h3]
  omega
theorem pl_fr {p : Rat} : Pl 1 (frD p) := pl_tup fun x hx => by
  simp only [List.mem_cons, List.not_mem_nil, or_false] at hx
  rcases hx with rfl | rfl <;> exact pl_int
theorem memO_frs {n : Bool} {p : Rat} {l : List Rat} : memO n (frD p) (.box (l.map fun q => .frz (frD q))) = some (if n then !decide (p ∈ l) else decide (p ∈ l)) := by
  have e : memD (frD p) (l.map frD) = decide (p ∈ l) := by
    rw [Bool.eq_iff_iff, memD_pl pl_fr.pl (fun x hx => by obtain ⟨q, _, rfl⟩ := List.mem_map.mp hx; exact pl_fr.pl), decide_eq_true_iff, List.mem_map]
    constructor
    · rintro ⟨q, hq, e⟩; rw [← frD_inj.mp e]; exact hq
    · intro h; exact ⟨p, h, rfl⟩
  have m : memOk (frD p) (l.map frD) = true := memOk_pl pl_fr (fun x hx => by obtain ⟨q, _, rfl⟩ := List.mem_map.mp hx; exact pl_fr) (by decide)
  simp [memO, m, e]

theorem cmp_ne_ones {α : Type} {ys : List α} : cmpD .ne (.list (ys.map fun _ => .int 1)) (.list []) = some (.bool (!ys.isEmpty)) := by
  have e : (ys.map fun _ => PyData.int 1) = (ys.map fun _ => (1 : Int)).map .int := by simp
  have h : Pl 1 (.list (ys.map fun _ => .int 1)) := pl_lst fun x hx => by
    obtain ⟨_, _, rfl⟩ := List.mem_map.mp hx
    exact pl_int
  rw [cmp_ne_pl h (pl_lst (n := 0) fun _ q => by cases q).pl (by decide) (P := ys.isEmpty = true) (by cases ys <;> simp)]
  cases ys <;> rfl
theorem cmp_eq_ones {α : Type} {ys : List α} : cmpD .eq (.list (ys.map fun _ => .int 1)) (.list []) = some (.bool ys.isEmpty) := by
  have h : Pl 1 (.list (ys.map fun _ => .int 1)) := pl_lst fun x hx => by
    obtain ⟨_, _, rfl⟩ := List.mem_map.mp hx
    exact pl_int
  rw [cmp_eq_pl h (pl_lst (n := 0) fun _ q => by cases q).pl (by decide) (P := ys.isEmpty = true) (by cases ys <;> simp)]
  cases ys <;> rfl
theorem cmp_ne_LN : cmpD .ne (.list []) (.list []) = some (.bool false) := by
  rw [cmp_ne_pl (pl_lst (n := 0) fun _ q => by cases q) (pl_lst (n := 0) fun _ q => by cases q).pl (by decide) (P := True) (by simp)]
  simp

/-! ### rows and squares -/
def subD (d : D) (i : Nat) : D := (ixD d (.int i)).getD .none
structure Seq (n : Nat) (d : D) : Prop where
  len : b1D .len d = some (.int n)
  items : itemsD d = some ((List.range n).map (subD d))
structure Row (B n : Nat) (d : D) : Prop extends Seq n d where
  fr : ∀ i < n, Fr B (subD d i)
structure Sqr (B n : Nat) (d : D) : Prop extends Seq n d where
  row : ∀ i < n, Row B n (subD d i)
def cel (d : D) (i j : Nat) : Rat := valR (subD (subD d i) j)
theorem atD_nat {α : Type} {l : List α} {i : Nat} : atD l (i : Int) = l[i]? := by
  unfold atD ixN
  rw [if_pos (by omega)]
  by_cases h : (i : Int) < l.length
  · rw [if_pos h]; rfl
  · rw [if_neg h, List.getElem?_eq_none (by omega)]; rfl
theorem ixD_items {d : D} {l : List D} (h : itemsD d = some l) (i : Nat) : ixD d (.int i) = l[i]? := by
  cases d <;> simp only [itemsD, reduceCtorEq, Option.some.injEq] at h
  · subst h; simp [atD_nat]
  · subst h; simp [atD_nat]
theorem len_items {d : D} {l : List D} (h : itemsD d = some l) : b1D .len d = some (.int l.length) := by
  cases d <;> simp only [itemsD, reduceCtorEq, Option.some.injEq] at h
  · subst h; simp
  · subst h; simp
theorem subD_items {d : D} {l : List D} (h : itemsD d = some l) {i : Nat} (hi : i < l.length) : subD d i = l[i] := by
  unfold subD
  rw [ixD_items h, List.getElem?_eq_getElem hi]
  rfl
theorem seq_of {n : Nat} {d : D} {l : List D} (h : itemsD d = some l) (hn : l.length = n) : Seq n d := by
  refine ⟨by rw [len_items h, hn], ?_⟩
  rw [h]
  congr 1
  refine List.ext_getElem (by simp [hn]) fun i h1 h2 => ?_
  rw [List.getElem_map, List.getElem_range, subD_items h h1]
theorem Seq.ix {n : Nat} {d : D} (h : Seq n d) {i : Nat} (hi : i < n) : ixD d (.int i) = some (subD d i) := by
  rw [ixD_items h.items, List.getElem?_map, List.getElem?_range hi]
  rfl
theorem Seq.ixI {n : Nat} {d : D} (h : Seq n d) {i : Int} (h0 : 0 ≤ i) (hi : i < n) : ixD d (.int i) = some (subD d i.toNat) := by
  obtain ⟨k, rfl⟩ := Int.eq_ofNat_of_zero_le h0
  exact h.ix (by omega)
theorem row_of {B n : Nat} {d : D} {l : List D} (h : itemsD d = some l) (hn : l.length = n) (hf : ∀ x ∈ l, Fr B x) : Row B n d := ⟨seq_of h hn, fun i hi => by
  rw [subD_items h (by omega)]
  exact hf _ (List.getElem_mem _)⟩
theorem tab_of {B n : Nat} {d : D} {l : List D} (h : itemsD d = some l) (hn : l.length = n) (hf : ∀ x ∈ l, Row B n x) : Sqr B n d := ⟨seq_of h hn, fun i hi => by
  rw [subD_items h (by omega)]
  exact hf _ (List.getElem_mem _)⟩
theorem Row.mono {B C n : Nat} {d : D} (h : Row B n d) (hc : B ≤ C) : Row C n d := ⟨h.toSeq, fun i hi => (h.fr i hi).mono hc⟩
theorem Sqr.mono {B C n : Nat} {d : D} (h : Sqr B n d) (hc : B ≤ C) : Sqr C n d := ⟨h.toSeq, fun i hi => (h.row i hi).mono hc⟩
theorem Sqr.fr {B n : Nat} {d : D} (h : Sqr B n d) {i j : Nat} (hi : i < n) (hj : j < n) : Fr B (subD (subD d i) j) := (h.row i hi).fr j hj
theorem Sqr.ix2 {B n : Nat} {d : D} (h : Sqr B n d) {i j : Nat} (hi : i < n) (hj : j < n) : ixD (subD d i) (.int j) = some (subD (subD d i) j) := (h.row i hi).ix hj
/-- a square told as tuples -/
def rowD (n : Nat) (f : Nat → Rat) : D := .tuple ((List.range n).map fun j => frD (f j))
def tabD (n : Nat) (f : Nat → Nat → Rat) : D := .tuple ((List.range n).map fun i => rowD n (f i))
section
variable {B n : Nat} {f g : Nat → Nat → Rat} {u v : Nat → Rat}
theorem row_rowD (h : ∀ j < n, Sz B (u j)) : Row B n (rowD n u) := row_of (l := (List.range n).map fun j => frD (u j)) rfl (by simp) fun x hx => by
  obtain ⟨j, hj, rfl⟩ := List.mem_map.mp hx
  exact fr_frD (h j (List.mem_range.mp hj))
theorem tab_tabD (h : ∀ i < n, ∀ j < n, Sz B (f i j)) : Sqr B n (tabD n f) := tab_of (l := (List.range n).map fun i => rowD n (f i)) rfl (by simp) fun x hx => by
  obtain ⟨i, hi, rfl⟩ := List.mem_map.mp hx
  exact row_rowD (h i (List.mem_range.mp hi))
theorem sub_rowD {j : Nat} (hj : j < n) : subD (rowD n u) j = frD (u j) := by
  rw [subD_items (l := (List.range n).map fun j => frD (u j)) rfl (by simpa using hj), List.getElem_map, List.getElem_range]
theorem sub_tabD {i : Nat} (hi : i < n) : subD (tabD n f) i = rowD n (f i) := by
  rw [subD_items (l := (List.range n).map fun i => rowD n (f i)) rfl (by simpa using hi), List.getElem_map, List.getElem_range]
theorem cel_tabD {i j : Nat} (hi : i < n) (hj : j < n) : cel (tabD n f) i j = f i j := by
  unfold cel
  rw [sub_tabD hi, sub_rowD hj, valR_fr]
theorem map_range_inj {α : Type} {a b : Nat → α} : (List.range n).map a = (List.range n).map b ↔ ∀ i < n, a i = b i := by
  rw [List.map_inj_left]
  simp
theorem rowD_inj : rowD n u = rowD n v ↔ ∀ j < n, u j = v j := by
  unfold rowD
  rw [PyData.tuple.injEq, map_range_inj]
  simp only [frD_inj]
theorem tabD_inj : tabD n f = tabD n g ↔ ∀ i < n, ∀ j < n, f i j = g i j := by
  unfold tabD
  rw [PyData.tuple.injEq, map_range_inj]
  simp only [rowD_inj]
theorem pl_rowD : Pl 2 (rowD n u) := pl_tup fun x hx => by
  obtain ⟨j, hj, rfl⟩ := List.mem_map.mp hx
  exact pl_fr
theorem pl_tabD : Pl 3 (tabD n f) := pl_tup fun x hx => by
  obtain ⟨j, hj, rfl⟩ := List.mem_map.mp hx
  exact pl_rowD
theorem cmp_eq_tab : cmpD .eq (tabD n f) (tabD n g) = some (.bool (decide (∀ i < n, ∀ j < n, f i j = g i j))) := cmp_eq_pl pl_tabD pl_tabD.pl (by decide) tabD_inj
theorem cmp_ne_tab : cmpD .ne (tabD n f) (tabD n g) = some (.bool (!decide (∀ i < n, ∀ j < n, f i j = g i j))) := cmp_ne_pl pl_tabD pl_tabD.pl (by decide) tabD_inj
end

/-! ### pairs -/
def pairsL (n : Nat) : List (Nat × Nat) := (List.range n).flatMap fun i => (List.range (n - (i + 1))).map fun k => (i, i + 1 + k)
def prD (p : Nat × Nat) : D := .tuple [.int p.1, .int p.2]
theorem mem_pairs {n : Nat} {p : Nat × Nat} : p ∈ pairsL n ↔ p.1 < p.2 ∧ p.2 < n := by
  unfold pairsL
  simp only [List.mem_flatMap, List.mem_range, List.mem_map]
  constructor
  · rintro ⟨i, hi, k, hk, rfl⟩
    simp only
    omega
  · rintro ⟨h1, h2⟩
    exact ⟨p.1, by omega, p.2 - (p.1 + 1), by omega, by ext <;> simp only <;> omega⟩
theorem flat_len {α : Type} {f : Nat → List α} {m : Nat} : ∀ {l : List Nat}, (∀ i ∈ l, (f i).length ≤ m) → (l.flatMap f).length ≤ l.length * m
  | [], _ => by simp
  | x :: l, h => by
    have h1 := h x (by simp)
    have h2 := flat_len (l := l) fun i hi => h i (by simp [hi])
    rw [List.flatMap_cons, List.length_append, List.length_cons, Nat.succ_mul]
    omega
theorem pairs_len {n : Nat} : (pairsL n).length ≤ n * n := by
  have := flat_len (f := fun i => (List.range (n - (i + 1))).map fun k => (i, i + 1 + k)) (m := n) (l := List.range n) fun i _ => by simp
  simpa [pairsL] using this
end Lib
set_option Elab.async false
set_option linter.all false
set_option maxRecDepth 100000
set_option maxHeartbeats 4000000
/-! LibI: cuts between statements, items by drawn places. -/
namespace Lib
open PySem Tr
theorem comp_eachG {own : List Nat} {asg : D → Tr.Env → Option Tr.Env} {tst : Tr.Env → R Bool} {elt : Tr.Env → R O} {Q : List O → Tr.Env → Prop} {ρ : Tr.Env} (f : D → O) {xs : List D}
    (h : ∀ x ∈ xs, ∃ ρ1, asg x ρ = some ρ1 ∧ (tst ρ1).wp fun b ρ2 => b = true ∧ (elt ρ2).wp fun o ρ3 => o = f x ∧ wipeE own ρ3 = ρ) (q : Q (xs.map f) ρ) : (compL own asg tst elt xs ρ).wp Q := by
  have := comp_each (c := id) f (xs := xs) (Q := Q) h q
  rwa [List.map_id] at this
/-- a comprehension that keeps none -/
theorem comp_noneI {own : List Nat} {asg : D → Tr.Env → Option Tr.Env} {tst : Tr.Env → R Bool} {elt : Tr.Env → R O} {Q : List O → Tr.Env → Prop} {ρ : Tr.Env} {xs : List D}
    (h : ∀ x ∈ xs, ∃ ρ1, asg x ρ = some ρ1 ∧ (tst ρ1).wp fun b ρ2 => b = false ∧ wipeE own ρ2 = ρ) (q : Q [] ρ) : (compL own asg tst elt xs ρ).wp Q := by
  have := comp_map (c := id) (fun _ => false) (fun _ => .frz .none) (xs := xs) (own := own) (elt := elt) (Q := Q) (ρ := ρ) (asg := asg) (tst := tst) (fun x hx => by
    obtain ⟨ρ1, e, h1⟩ := h x hx
    exact ⟨ρ1, e, R.wp_mono h1 fun b ρ2 h2 => ⟨h2.1, fun z => (Bool.false_ne_true z).elim, fun _ => h2.2⟩⟩) (by rw [List.filter_eq_nil_iff.mpr (by simp)]; exact q)
  rwa [List.map_id] at this
theorem comp_filtG {own : List Nat} {asg : D → Tr.Env → Option Tr.Env} {tst : Tr.Env → R Bool} {elt : Tr.Env → R O} {Q : List O → Tr.Env → Prop} {ρ : Tr.Env} (p : D → Bool) (f : D → O) {xs : List D}
    (h : ∀ x ∈ xs, ∃ ρ1, asg x ρ = some ρ1 ∧ (tst ρ1).wp fun b ρ2 => b = p x ∧ (p x = true → (elt ρ2).wp fun o ρ3 => o = f x ∧ wipeE own ρ3 = ρ) ∧ (p x = false → wipeE own ρ2 = ρ)) (q : Q ((xs.filter p).map f) ρ) : (compL own asg tst elt xs ρ).wp Q := by
  have := comp_map (c := id) p f (xs := xs) (Q := Q) h q
  rwa [List.map_id] at this
theorem cmp_ne_emp {l : List D} : cmpD .ne (.list l) (.list []) = some (.bool (!l.isEmpty)) := by
  cases l with
  | nil => exact cmp_ne_LN
  | cons a l => simp [cmpD, strs2, PyData.eqv, PyData.eqvAll]
theorem cmp_eq_emp {l : List D} : cmpD .eq (.list l) (.list []) = some (.bool l.isEmpty) := by
  cases l with
  | nil => simp [cmpD, strs2, eqOk, PyData.canLay0, PyData.canLayAll0, PyData.depth, PyData.depthAll, PyData.eqv, PyData.eqvAll]
  | cons a l => simp [cmpD, strs2, PyData.eqv, PyData.eqvAll]
theorem cleans_all : ∀ {l : List O}, (∀ o ∈ l, o.clean = true) → cleans l = true
  | [], _ => rfl
  | o :: l, h => by simp only [cleans, h o List.mem_cons_self, cleans_all fun x hx => h x (List.mem_cons_of_mem _ hx), Bool.and_self]
/-- a statement, then the rest: what is known between -/
theorem cut {Φ : Tab} {s : S} {ss : Ss} {ρ : Tr.Env} {K : Fl → Tr.Env → Prop} (M : Tr.Env → Prop) (h : (S.sem Φ s ρ).wp fun fl ρ => fl = .nx ∧ M ρ) (q : ∀ ρ, M ρ → (Ss.sem Φ ss ρ).wp K) : (S.sem Φ s ρ).wp (seqK Φ ss K) :=
  R.wp_mono h fun fl ρ h => by
    obtain ⟨rfl, hm⟩ := h
    rw [seqK_nx]
    exact q ρ hm
theorem cutR {Φ : Tab} {s : S} {ss : Ss} {ρ : Tr.Env} {K : Fl → Tr.Env → Prop} (M : Tr.Env → Prop) (h : (S.sem Φ s ρ).wp fun fl ρ => match fl with | .nx => M ρ | .ret o => K (.ret o) ρ | .brk => K .brk ρ | .ct => K .ct ρ) (q : ∀ ρ, M ρ → (Ss.sem Φ ss ρ).wp K) : (S.sem Φ s ρ).wp (seqK Φ ss K) :=
  R.wp_mono h fun fl ρ h => by
    cases fl with
    | nx => rw [seqK_nx]; exact q ρ h
    | ret o => rw [seqK_ret]; exact h
    | brk => rw [seqK_brk]; exact h
    | ct => rw [seqK_ct]; exact h
theorem ix_in {l : List D} {v : Int} (h0 : 0 ≤ v) (h1 : v < l.length) : ∃ x ∈ l, ixD (.list l) (.int v) = some x := by
  have hl : v.toNat < l.length := by omega
  exact ⟨l[v.toNat], List.getElem_mem _, atD_ok h0 (List.getElem?_eq_getElem hl)⟩
theorem ix_inT {l : List D} {v : Int} (h0 : 0 ≤ v) (h1 : v < l.length) : ∃ x ∈ l, ixD (.tuple l) (.int v) = some x := by
  have hl : v.toNat < l.length := by omega
  exact ⟨l[v.toNat], List.getElem_mem _, atD_ok h0 (List.getElem?_eq_getElem hl)⟩
theorem at_in {α : Type} {l : List α} {v : Int} (h0 : 0 ≤ v) (h1 : v < l.length) : ∃ x ∈ l, atD l v = some x := by
  have hl : v.toNat < l.length := by omega
  exact ⟨l[v.toNat], List.getElem_mem _, atD_ok h0 (List.getElem?_eq_getElem hl)⟩
end Lib
set_option Elab.async false
set_option linter.all false
set_option maxRecDepth 100000
set_option maxHeartbeats 4000000
/-! LibM: pairs, the greatest, measures. -/
namespace Lib
open PySem Tr
def ir_pairs_of : Ss := (.cons (.set 1 (.lst .nil)) (.cons (.loop (.name 2) (.range1 (.v 0)) (.cons (.extend 1 (.ofF (.comp (.name 3) (.range2 (.ofF (.add (.v 2) (.int 1))) (.v 0)) .nil (.ofE (.tup (.cons (.v 2) (.cons (.v 3) .nil)))) [3]))) .nil)) (.cons (.ret (.mv 1)) .nil)))
noncomputable def fn_pairs_of (Φ : Tab) : Fn := mkFn 4 [false] ((ir_pairs_of).sem Φ)
def ir_greatest (k0 : Nat) : Ss := (.cons (.set 1 (.ofE (.ix (.v 0) (.int 0)))) (.cons (.loop (.name 2) (.seq (.v 0)) (.cons (.ite (.cmp .gt (.ofF (.call k0 (.e (.v 2) (.e (.v 1) .nil)))) (.int 0)) (.cons (.set 1 (.ofE (.v 2))) .nil) .nil) .nil)) (.cons (.ret (.ofE (.tup (.cons (.ix (.v 1) (.int 0)) (.cons (.ix (.v 1) (.int 1)) .nil))))) .nil)))
noncomputable def fn_greatest (Φ : Tab) (k0 : Nat) : Fn := mkFn 3 [false] ((ir_greatest k0).sem Φ)
def ir_apart (k0 : Nat) (k1 : Nat) : Ss := (.cons (.ite (.cmp .lt (.ofF (.call k0 (.e (.v 0) (.e (.v 1) .nil)))) (.int 0)) (.cons (.ret (.call k1 (.e (.v 1) (.e (.v 0) .nil)))) .nil) .nil) (.cons (.ret (.call k1 (.e (.v 0) (.e (.v 1) .nil)))) .nil))
noncomputable def fn_apart (Φ : Tab) (k0 : Nat) (k1 : Nat) : Fn := mkFn 2 [false, false] ((ir_apart k0 k1).sem Φ)
def ir_drawn (k0 : Nat) (k1 : Nat) (k2 : Nat) (g0 : Nat) : Ss := (.cons (.ite (.cmp .lt (.b1 .len (.v 0)) (.int 2)) (.cons (.ret (.ofE (.glob g0))) .nil) .nil) (.cons (.ret (.call k0 (.e (.ofF (.comp (.tup [2, 3]) (.seq (.ofF (.call k1 (.e (.b1 .len (.v 0)) .nil)))) .nil (.call k2 (.e (.ix (.ix (.v 1) (.v 2)) (.v 3)) (.e (.ix (.ix (.v 0) (.v 2)) (.v 3)) .nil))) [2, 3])) .nil))) .nil))
noncomputable def fn_drawn (Φ : Tab) (k0 : Nat) (k1 : Nat) (k2 : Nat) (g0 : Nat) : Fn := mkFn 4 [false, false] ((ir_drawn k0 k1 k2 g0).sem Φ)
def ir_pressed (k0 : Nat) (k1 : Nat) (k2 : Nat) (g0 : Nat) : Ss := (.cons (.set 2 (.call k0 (.e (.b1 .len (.v 0)) .nil))) (.cons (.ite (.cmp .lt (.b1 .len (.v 0)) (.int 2)) (.cons (.ret (.ofE (.glob g0))) .nil) .nil) (.cons (.ite (.cmp .ne (.ofF (.comp (.tup [3, 4]) (.seq (.v 2)) (.one (.cmp .eq (.ix (.ix (.ix (.v 1) (.v 3)) (.v 4)) (.int 0)) (.int 0))) (.ofE (.int 1)) [3, 4])) (.ofF (.lst .nil))) (.cons (.ret (.ofE .non)) .nil) .nil) (.cons (.ret (.call k1 (.e (.ofF (.comp (.tup [3, 4]) (.seq (.v 2)) .nil (.call k2 (.e (.ix (.ix (.v 0) (.v 3)) (.v 4)) (.e (.ix (.ix (.v 1) (.v 3)) (.v 4)) .nil))) [3, 4])) .nil))) .nil))))
noncomputable def fn_pressed (Φ : Tab) (k0 : Nat) (k1 : Nat) (k2 : Nat) (g0 : Nat) : Fn := mkFn 5 [false, false] ((ir_pressed k0 k1 k2 g0).sem Φ)
def ir_stretch (k0 : Nat) (k1 : Nat) (k2 : Nat) : Ss := (.cons (.set 2 (.call k0 (.e (.v 0) (.e (.v 1) .nil)))) (.cons (.ite (.isN false (.v 2)) (.cons (.ret (.ofE .non)) .nil) .nil) (.cons (.ret (.call k1 (.e (.ofF (.call k2 (.e (.v 0) (.e (.v 1) .nil)))) (.e (.v 2) .nil)))) .nil)))
noncomputable def fn_stretch (Φ : Tab) (k0 : Nat) (k1 : Nat) (k2 : Nat) : Fn := mkFn 3 [false, false] ((ir_stretch k0 k1 k2).sem Φ)
def ir_off (k0 : Nat) (k1 : Nat) (k2 : Nat) (g0 : Nat) : Ss := (.cons (.ite (.cmp .lt (.b1 .len (.v 0)) (.int 2)) (.cons (.ret (.ofE (.glob g0))) .nil) .nil) (.cons (.ret (.call k0 (.e (.ofF (.comp (.tup [2, 3]) (.seq (.ofF (.call k1 (.e (.b1 .len (.v 0)) .nil)))) .nil (.call k2 (.e (.ix (.ix (.v 0) (.v 2)) (.v 3)) (.e (.ix (.ix (.v 1) (.v 2)) (.v 3)) .nil))) [2, 3])) .nil))) .nil))
noncomputable def fn_off (Φ : Tab) (k0 : Nat) (k1 : Nat) (k2 : Nat) (g0 : Nat) : Fn := mkFn 4 [false, false] ((ir_off k0 k1 k2 g0).sem Φ)
def ir_measured (k0 : Nat) (k1 : Nat) : Ss := (.cons (.ite (.cmp .eq (.v 2) (.str "stretch")) (.cons (.ret (.call k0 (.e (.v 0) (.e (.v 1) .nil)))) .nil) .nil) (.cons (.ret (.call k1 (.e (.v 0) (.e (.v 1) .nil)))) .nil))
noncomputable def fn_measured (Φ : Tab) (k0 : Nat) (k1 : Nat) : Fn := mkFn 3 [false, false, false] ((ir_measured k0 k1).sem Φ)
structure SpPairs (f : Fn) : Prop where
  modes : f.modes = [false]
  eq : ∀ {n : Nat} {i : Int}, i = n → n ≤ 1000 → f.run [.frz (.int i)] = .ok (.box ((pairsL n).map fun p => .frz (prD p))) []
section
variable {Φ : Tab} {k k0 k1 k2 k3 g0 : Nat} {f f0 f1 f2 f3 : Fn} {ρ : Tr.Env} {d e t o : D} {n B : Nat}
theorem sp_pairs : SpPairs (fn_pairs_of Φ) := ⟨rfl, fun {n i} hi hn => run_eq (by
  unfold fn_pairs_of
  rw [fn_wp]
  refine ⟨rfl, ?_⟩
  have hi2 : i.toNat = n := by omega
  simp [ir_pairs_of, hi2]
  refine ⟨inR (by omega), ?_⟩
  refine loop0 (fun a ρ => ∃ x2, ρ = [some (.frz (.int i)), some (.box (((List.range a).flatMap fun i => (List.range (n - (i + 1))).map fun k => (i, i + 1 + k)).map fun p => .frz (prD p))), x2, none]) ?_ ?_ ?_
  · exact ⟨none, rfl⟩
  · rintro a d ρ he ⟨x2, rfl⟩
    obtain ⟨rfl, ha⟩ := rng_at he
    refine ⟨_, rfl, ?_⟩
    have hi3 : (i - ((a : Int) + 1)).toNat = n - (a + 1) := by omega
    simp [hi3]
    refine ⟨⟨inR (by omega), inR (by omega)⟩, ?_⟩
    unfold rng
    refine comp_each (c := fun k : Nat => .int ((a : Int) + 1 + (k : Int))) (fun k => .frz (prD (a, a + 1 + k))) (fun x hx => ⟨_, rfl, ?_⟩) ?_
    · simp [prD]
    · simp
      have hl := flat_len (f := fun i => (List.range (n - (i + 1))).map fun k => (i, i + 1 + k)) (m := n) (l := List.range a) fun j _ => by simp
      rw [List.length_range] at hl
      have h2 : a * n ≤ 1000000 := Nat.le_trans (Nat.mul_le_mul (show a ≤ 1000 by omega) hn) (by decide)
      have e : (List.map (fun i => n - (i + 1)) (List.range a)).sum = ((List.range a).flatMap fun i => (List.range (n - (i + 1))).map fun k => (i, i + 1 + k)).length := by
        simp [List.length_flatMap]
      refine ⟨by omega, by omega, ?_⟩
      rw [List.range_succ, List.flatMap_append, List.flatMap_singleton, List.map_append, List.map_map]
      simp [Function.comp_def]
  · rintro ρ ⟨x2, rfl⟩
    simp [pairsL])⟩
theorem SpPairs.cl (s : SpPairs f) (hf : Φ.fn[k]? = some f) (hn : n ≤ 1000) : callF Φ k [.d (.int n)] ρ = .ok (.box ((pairsL n).map fun p => .frz (prD p))) ρ :=
  call_eq hf s.modes rfl rfl rfl (s.eq rfl hn)

/-! ### the greatest -/
def maxR (x : Rat) (l : List Rat) : Rat := l.foldl (fun m y => if m < y then y else m) x
def maxL : List Rat → Rat
  | [] => 0
  | x :: l => maxR x l
theorem maxR_spec : ∀ (l : List Rat) (x : Rat), maxR x l ∈ x :: l ∧ ∀ y ∈ x :: l, y ≤ maxR x l
  | [], x => by simp [maxR, Rat.le_refl]
  | y :: l, x => by
    have ih := maxR_spec l (if x < y then y else x)
    have e : maxR x (y :: l) = maxR (if x < y then y else x) l := rfl
    rw [e]
    refine ⟨?_, fun z hz => ?_⟩
    · rcases List.mem_cons.mp ih.1 with h | h
      · rw [h]
        split <;> simp
      · simp [h]
    · rcases List.mem_cons.mp hz with rfl | hz
      · have h1 := ih.2 (if z < y then y else z) (by simp)
        have : z ≤ if z < y then y else z := by split <;> grind
        grind
      · rcases List.mem_cons.mp hz with rfl | hz
        · have h1 := ih.2 (if x < z then z else x) (by simp)
          have : z ≤ if x < z then z else x := by split <;> grind
          grind
        · exact ih.2 z (by simp [hz])
theorem maxL_mem {l : List Rat} (h : l ≠ []) : maxL l ∈ l := by
  cases l with
  | nil => exact absurd rfl h
  | cons x l => exact (maxR_spec l x).1
theorem maxL_ge {l : List Rat} {y : Rat} (h : y ∈ l) : y ≤ maxL l := by
  cases l with
  | nil => cases h
  | cons x l => exact (maxR_spec l x).2 y h
theorem maxL_eq {l : List Rat} {m : Rat} (h : m ∈ l) (g : ∀ y ∈ l, y ≤ m) : maxL l = m := by
  have h1 := g _ (maxL_mem (l := l) fun e => by rw [e] at h; cases h)
  have h2 := maxL_ge h
  grind
theorem maxL_congr {l m : List Rat} (h : ∀ y, y ∈ l ↔ y ∈ m) (hl : l ≠ []) : maxL l = maxL m :=
  (maxL_eq ((h _).mp (maxL_mem hl)) fun y hy => maxL_ge ((h y).mpr hy)).symm
structure SpGr (f : Fn) : Prop where
  modes : f.modes = [false]
  eq : ∀ {d : D} {l : List D}, itemsD d = some l → l ≠ [] → (∀ x ∈ l, Fr 4000 x) → f.run [.frz d] = .ok (.frz (frD (maxL (l.map valR)))) []
theorem sp_greatest (hf : Φ.fn[k0]? = some f) (s : SpOrd f) : SpGr (fn_greatest Φ k0) := ⟨rfl, fun {d l} hd h0 hl => run_eq (by
  obtain ⟨x, l, rfl⟩ := List.exists_cons_of_ne_nil h0
  unfold fn_greatest
  rw [fn_wp]
  refine ⟨rfl, ?_⟩
  have e0 : ixD d (.int 0) = some x := by have := ixD_items hd 0; simpa using this
  simp [ir_greatest, e0, hd]
  refine loop0 (fun i ρ => ∃ (m : D) (x2 : Option O), Fr 4000 m ∧ valR m = maxR (valR x) (((x :: l).take i).map valR) ∧ ρ = [some (.frz d), some (.frz m), x2]) ?_ ?_ ?_
  · exact ⟨x, none, hl x (by simp), rfl, rfl⟩
  · rintro i y ρ he ⟨m, x2, hm, hv, rfl⟩
    have hy := hl y (List.mem_of_getElem? he)
    refine ⟨_, rfl, ?_⟩
    simp [s.cl hf hy hm, ord_pos]
    have et : (x :: l).take (i + 1) = (x :: l).take i ++ [y] := by rw [List.take_succ, he]; rfl
    have ev : maxR (valR x) (((x :: l).take (i + 1)).map valR) = if valR m < valR y then valR y else valR m := by
      rw [et, List.map_append, maxR, List.foldl_append, hv]
      rfl
    refine ⟨fun h => ⟨hy, ?_⟩, fun h => ⟨hm, ?_⟩⟩
    · rw [← List.map_take, ← List.map_cons, ← List.take_succ_cons, ev, if_pos h]
    · rw [← List.map_take, ← List.map_cons, ← List.take_succ_cons, ev, if_neg h]
  · rintro ρ ⟨m, x2, hm, hv, rfl⟩
    rw [List.take_length] at hv
    have e : maxL ((x :: l).map valR) = valR m := by
      rw [hv, List.map_cons]
      show maxR (valR x) (l.map valR) = maxR (if valR x < valR x then valR x else valR x) (l.map valR)
      simp
    simp only [List.map_cons] at e
    simp [hm.ix0, hm.ix1, e, frD])⟩
theorem SpGr.cl (s : SpGr f) (hf : Φ.fn[k]? = some f) {d : D} {l : List D} (hd : itemsD d = some l) (h0 : l ≠ []) (hl : ∀ x ∈ l, Fr 4000 x) : callF Φ k [.d d] ρ = .ok (.frz (frD (maxL (l.map valR)))) ρ :=
  call_eq hf s.modes rfl rfl rfl (s.eq hd h0 hl)
theorem sp2_apart (hf : Φ.fn[k0]? = some f0) (s0 : SpOrd f0) (hg : Φ.fn[k1]? = some f1) (s1 : Sp2 (fun p q => p - q) any2 f1) : Sp2 (fun p q => (p - q).abs) any2 (fn_apart Φ k0 k1) := ⟨rfl, fun {d e} hd he _ => run_eq (by
  unfold fn_apart
  rw [fn_wp]
  refine ⟨rfl, ?_⟩
  simp [ir_apart, s0.cl hf hd he, s1.cl hg hd he trivial, s1.cl hg he hd trivial, ord_neg']
  refine ⟨fun h => ?_, fun h => ?_⟩
  · congr 1
    unfold Rat.abs
    rw [if_neg (by grind)]
    grind
  · congr 1
    unfold Rat.abs
    rw [if_pos (by grind)])⟩
/-- the greatest over all pairs -/
def mxP (n : Nat) (g : Nat → Nat → Rat) : Rat := maxL ((pairsL n).map fun p => g p.1 p.2)
theorem pairs_ne (h : 2 ≤ n) : pairsL n ≠ [] := fun e => by
  have : (0, 1) ∈ pairsL n := mem_pairs.mpr ⟨by decide, by show 1 < n; omega⟩
  rw [e] at this
  cases this
theorem gr_pairs (s : SpGr f) (hf : Φ.fn[k]? = some f) (g : Nat → Nat → Rat) (h : 2 ≤ n) (hg : ∀ i j, i < j → j < n → Sz 4000 (g i j)) : callF Φ k [.d (.list ((pairsL n).map fun p => frD (g p.1 p.2)))] ρ = .ok (.frz (frD (mxP n g))) ρ := by
  rw [s.cl hf (l := (pairsL n).map fun p => frD (g p.1 p.2)) rfl (by simpa using pairs_ne h) fun x hx => by
    obtain ⟨p, hp, rfl⟩ := List.mem_map.mp hx
    have := mem_pairs.mp hp
    exact fr_frD (hg _ _ this.1 this.2)]
  rw [List.map_map]
  have e : (pairsL n).map (valR ∘ fun p => frD (g p.1 p.2)) = (pairsL n).map fun p => g p.1 p.2 := List.map_congr_left fun p _ => by simp
  rw [e]
  rfl
/-- a measure of two squares -/
structure SpM (one : Rat) (g : Rat → Rat → Rat) (ok : Rat → Rat → Prop) (f : Fn) : Prop where
  modes : f.modes = [false, false]
  eq1 : ∀ {n : Nat} {t o : D}, Sqr 1900 n t → n < 2 → f.run [.frz t, .frz o] = .ok (.frz (frD one)) []
  eq : ∀ {n : Nat} {t o : D}, Sqr 1900 n t → Sqr 1900 n o → 2 ≤ n → n ≤ 20 → (∀ i j, i < j → j < n → ok (cel t i j) (cel o i j)) → f.run [.frz t, .frz o] = .ok (.frz (frD (mxP n fun i j => g (cel t i j) (cel o i j)))) []
theorem SpM.cl {one : Rat} {g : Rat → Rat → Rat} {ok : Rat → Rat → Prop} (s : SpM one g ok f) (hf : Φ.fn[k]? = some f) (ht : Sqr 1900 n t) (ho : Sqr 1900 n o) (h2 : 2 ≤ n) (hn : n ≤ 20) (h : ∀ i j, i < j → j < n → ok (cel t i j) (cel o i j)) : callF Φ k [.d t, .d o] ρ = .ok (.frz (frD (mxP n fun i j => g (cel t i j) (cel o i j)))) ρ :=
  call_eq hf s.modes rfl rfl rfl (s.eq ht ho h2 hn h)
theorem SpM.cl1 {one : Rat} {g : Rat → Rat → Rat} {ok : Rat → Rat → Prop} (s : SpM one g ok f) (hf : Φ.fn[k]? = some f) (ht : Sqr 1900 n t) (h2 : n < 2) : callF Φ k [.d t, .d o] ρ = .ok (.frz (frD one)) ρ :=
  call_eq hf s.modes rfl rfl rfl (s.eq1 ht h2)
theorem sp_drawn (hf : Φ.fn[k0]? = some f0) (s0 : SpGr f0) (hg : Φ.fn[k1]? = some f1) (s1 : SpPairs f1) (hh : Φ.fn[k2]? = some f2) (s2 : Sp2 (fun p q => p / q) (fun _ q => q ≠ 0) f2) (hgl : Φ.gl[g0]? = some (frD 1)) : SpM 1 (fun t o => o / t) (fun t _ => t ≠ 0) (fn_drawn Φ k0 k1 k2 g0) where
  modes := rfl
  eq1 := fun {n t o} ht h2 => run_eq (by
    unfold fn_drawn
    rw [fn_wp]
    refine ⟨rfl, ?_⟩
    simp [ir_drawn, ht.len, hgl]
    omega)
  eq := fun {n t o} ht ho h2 hn h => run_eq (by
    unfold fn_drawn
    rw [fn_wp]
    refine ⟨rfl, ?_⟩
    have hp := pairs_len (n := n)
    have hnn : n * n ≤ 20 * 20 := Nat.mul_le_mul hn hn
    simp [ir_drawn, ht.len, hgl, s1.cl hg (show n ≤ 1000 by omega)]
    refine ⟨by omega, fun _ => ?_⟩
    refine comp_each (fun p => .frz (frD (cel o p.1 p.2 / cel t p.1 p.2))) (fun p hp => ⟨_, rfl, ?_⟩) ?_
    · obtain ⟨h1, h3⟩ := mem_pairs.mp hp
      have a1 := ho.ix (show p.1 < n by omega)
      have a2 := ht.ix (show p.1 < n by omega)
      have a3 := ho.ix2 (show p.1 < n by omega) h3
      have a4 := ht.ix2 (show p.1 < n by omega) h3
      simp [a1, a2, a3, a4, s2.cl hh ((ho.fr (show p.1 < n by omega) h3).mono (by decide)) ((ht.fr (show p.1 < n by omega) h3).mono (by decide)) (h _ _ h1 h3), cel]
    · have sz := fun i j (hi : i < j) (hj : j < n) => ((ho.fr (show i < n by omega) hj).sz.div (ht.fr (show i < n by omega) hj).sz (h i j hi hj)).mono (show 1900 + 1900 ≤ 4000 by decide)
      simp [gr_pairs s0 hf (fun i j => cel o i j / cel t i j) h2 sz]
      omega)
theorem sp_off (hf : Φ.fn[k0]? = some f0) (s0 : SpGr f0) (hg : Φ.fn[k1]? = some f1) (s1 : SpPairs f1) (hh : Φ.fn[k2]? = some f2) (s2 : Sp2 (fun p q => (p - q).abs) any2 f2) (hgl : Φ.gl[g0]? = some (frD 0)) : SpM 0 (fun t o => (t - o).abs) any2 (fn_off Φ k0 k1 k2 g0) where
  modes := rfl
  eq1 := fun {n t o} ht h2 => run_eq (by
    unfold fn_off
    rw [fn_wp]
    refine ⟨rfl, ?_⟩
    simp [ir_off, ht.len, hgl]
    omega)
  eq := fun {n t o} ht ho h2 hn h => run_eq (by
    unfold fn_off
    rw [fn_wp]
    refine ⟨rfl, ?_⟩
    have hp := pairs_len (n := n)
    have hnn : n * n ≤ 20 * 20 := Nat.mul_le_mul hn hn
    simp [ir_off, ht.len, hgl, s1.cl hg (show n ≤ 1000 by omega)]
    refine ⟨by omega, fun _ => ?_⟩
    refine comp_each (fun p => .frz (frD (cel t p.1 p.2 - cel o p.1 p.2).abs)) (fun p hp => ⟨_, rfl, ?_⟩) ?_
    · obtain ⟨h1, h3⟩ := mem_pairs.mp hp
      have a1 := ho.ix (show p.1 < n by omega)
      have a2 := ht.ix (show p.1 < n by omega)
      have a3 := ho.ix2 (show p.1 < n by omega) h3
      have a4 := ht.ix2 (show p.1 < n by omega) h3
      simp [a1, a2, a3, a4, s2.cl hh ((ht.fr (show p.1 < n by omega) h3).mono (by decide)) ((ho.fr (show p.1 < n by omega) h3).mono (by decide)) trivial, cel]
    · have sz := fun i j (hi : i < j) (hj : j < n) => (sz_abs ((ht.fr (show i < n by omega) hj).sz.sub (ho.fr (show i < n by omega) hj).sz)).mono (show 1900 + 1900 + 1 ≤ 4000 by decide)
      simp [gr_pairs s0 hf (fun i j => (cel t i j - cel o i j).abs) h2 sz]
      omega)
/-- pressed: None where two things are at one place -/
structure SpPr (f : Fn) : Prop where
  modes : f.modes = [false, false]
  eq1 : ∀ {n : Nat} {t o : D}, Sqr 1900 n t → n < 2 → f.run [.frz t, .frz o] = .ok (.frz (frD 1)) []
  eq0 : ∀ {n : Nat} {t o : D}, Sqr 1900 n t → Sqr 1900 n o → 2 ≤ n → n ≤ 20 → (∃ i j, i < j ∧ j < n ∧ cel o i j = 0) → f.run [.frz t, .frz o] = .ok (.frz .none) []
  eq : ∀ {n : Nat} {t o : D}, Sqr 1900 n t → Sqr 1900 n o → 2 ≤ n → n ≤ 20 → (∀ i j, i < j → j < n → cel o i j ≠ 0) → f.run [.frz t, .frz o] = .ok (.frz (frD (mxP n fun i j => cel t i j / cel o i j))) []
theorem sp_pressed (hg : Φ.fn[k0]? = some f0) (s1 : SpPairs f0) (hf : Φ.fn[k1]? = some f1) (s0 : SpGr f1) (hh : Φ.fn[k2]? = some f2) (s2 : Sp2 (fun p q => p / q) (fun _ q => q ≠ 0) f2) (hgl : Φ.gl[g0]? = some (frD 1)) : SpPr (fn_pressed Φ k0 k1 k2 g0) where
  modes := rfl
  eq1 := fun {n t o} ht h2 => run_eq (by
    unfold fn_pressed
    rw [fn_wp]
    refine ⟨rfl, ?_⟩
    simp [ir_pressed, ht.len, hgl, s1.cl hg (show n ≤ 1000 by omega)]
    omega)
  eq0 := fun {n t o} ht ho h2 hn h => run_eq (by
    unfold fn_pressed
    rw [fn_wp]
    refine ⟨rfl, ?_⟩
    have hp := pairs_len (n := n)
    have hnn : n * n ≤ 20 * 20 := Nat.mul_le_mul hn hn
    simp [ir_pressed, ht.len, hgl, s1.cl hg (show n ≤ 1000 by omega)]
    refine ⟨by omega, fun _ => ?_⟩
    refine comp_map (fun p => decide ((cel o p.1 p.2).num = 0)) (fun _ => .frz (.int 1)) (fun p hp => ⟨_, rfl, ?_⟩) ?_
    · obtain ⟨h1, h3⟩ := mem_pairs.mp hp
      have a1 := ho.ix (show p.1 < n by omega)
      have a3 := ho.ix2 (show p.1 < n by omega) h3
      simp [a1, a3, (ho.fr (show p.1 < n by omega) h3).ix0, cel]
    · have hne : (pairsL n).filter (fun p => decide ((cel o p.1 p.2).num = 0)) ≠ [] := by
        obtain ⟨i, j, h1, h3, h4⟩ := h
        exact List.ne_nil_of_mem (a := (i, j)) (List.mem_filter.mpr ⟨mem_pairs.mpr ⟨h1, h3⟩, by simpa [num_zero] using h4⟩)
      have hle := List.length_filter_le (fun p : Nat × Nat => decide ((cel o p.1 p.2).num = 0)) (pairsL n)
      generalize (pairsL n).filter (fun p => decide ((cel o p.1 p.2).num = 0)) = ys at hne hle
      simp [cmp_ne_ones, hne]
      omega)
  eq := fun {n t o} ht ho h2 hn h => run_eq (by
    unfold fn_pressed
    rw [fn_wp]
    refine ⟨rfl, ?_⟩
    have hp := pairs_len (n := n)
    have hnn : n * n ≤ 20 * 20 := Nat.mul_le_mul hn hn
    simp [ir_pressed, ht.len, hgl, s1.cl hg (show n ≤ 1000 by omega)]
    refine ⟨by omega, fun _ => ?_⟩
    refine comp_map (fun p => decide ((cel o p.1 p.2).num = 0)) (fun _ => .frz (.int 1)) (fun p hp => ⟨_, rfl, ?_⟩) ?_
    · obtain ⟨h1, h3⟩ := mem_pairs.mp hp
      have a1 := ho.ix (show p.1 < n by omega)
      have a3 := ho.ix2 (show p.1 < n by omega) h3
      simp [a1, a3, (ho.fr (show p.1 < n by omega) h3).ix0, cel]
    · have hne : (pairsL n).filter (fun p => decide ((cel o p.1 p.2).num = 0)) = [] := by
        rw [List.filter_eq_nil_iff]
        intro p hp
        obtain ⟨h1, h3⟩ := mem_pairs.mp hp
        simpa [num_zero] using h _ _ h1 h3
      rw [hne]
      simp [cmp_ne_LN]
      refine comp_each (fun p => .frz (frD (cel t p.1 p.2 / cel o p.1 p.2))) (fun p hp => ⟨_, rfl, ?_⟩) ?_
      · obtain ⟨h1, h3⟩ := mem_pairs.mp hp
        have a1 := ho.ix (show p.1 < n by omega)
        have a2 := ht.ix (show p.1 < n by omega)
        have a3 := ho.ix2 (show p.1 < n by omega) h3
        have a4 := ht.ix2 (show p.1 < n by omega) h3
        simp [a1, a2, a3, a4, s2.cl hh ((ht.fr (show p.1 < n by omega) h3).mono (by decide)) ((ho.fr (show p.1 < n by omega) h3).mono (by decide)) (h _ _ h1 h3), cel]
      · have sz := fun i j (hi : i < j) (hj : j < n) => ((ht.fr (show i < n by omega) hj).sz.div (ho.fr (show i < n by omega) hj).sz (h i j hi hj)).mono (show 1900 + 1900 ≤ 4000 by decide)
        simp [gr_pairs s0 hf (fun i j => cel t i j / cel o i j) h2 sz]
        omega)
theorem SpPr.cl (s : SpPr f) (hf : Φ.fn[k]? = some f) (ht : Sqr 1900 n t) (ho : Sqr 1900 n o) (h2 : 2 ≤ n) (hn : n ≤ 20) (h : ∀ i j, i < j → j < n → cel o i j ≠ 0) : callF Φ k [.d t, .d o] ρ = .ok (.frz (frD (mxP n fun i j => cel t i j / cel o i j))) ρ :=
  call_eq hf s.modes rfl rfl rfl (s.eq ht ho h2 hn h)
theorem SpPr.cl1 (s : SpPr f) (hf : Φ.fn[k]? = some f) (ht : Sqr 1900 n t) (h2 : n < 2) : callF Φ k [.d t, .d o] ρ = .ok (.frz (frD 1)) ρ :=
  call_eq hf s.modes rfl rfl rfl (s.eq1 ht h2)
theorem SpPr.cl0 (s : SpPr f) (hf : Φ.fn[k]? = some f) (ht : Sqr 1900 n t) (ho : Sqr 1900 n o) (h2 : 2 ≤ n) (hn : n ≤ 20) (h : ∃ i j, i < j ∧ j < n ∧ cel o i j = 0) : callF Φ k [.d t, .d o] ρ = .ok (.frz .none) ρ :=
  call_eq hf s.modes rfl rfl rfl (s.eq0 ht ho h2 hn h)
end
end Lib
set_option Elab.async false
set_option linter.all false
set_option maxRecDepth 100000
set_option maxHeartbeats 4000000
/-! LibH: texts of rows: when str, repr may be asked for. -/
namespace Lib
open PySem Tr
structure Shw (k m : Nat) (d : D) : Prop where
  sh : d.showable = true
  dp : d.depth ≤ k
  len : d.shown.length ≤ m
section
variable {k m n : Nat} {d : D} {l : List D}
theorem Shw.ok (h : Shw k m d) (hk : k ≤ 60) (hm : m ≤ 16777216) : shownOk d = true := by
  unfold shownOk
  simp only [Bool.and_eq_true, decide_eq_true_eq]
  exact ⟨⟨h.sh, Nat.le_trans h.dp hk⟩, Nat.le_trans h.len hm⟩
theorem Shw.mono {k' m' : Nat} (h : Shw k m d) (hk : k ≤ k') (hm : m ≤ m') : Shw k' m' d := ⟨h.sh, Nat.le_trans h.dp hk, Nat.le_trans h.len hm⟩
theorem shw_int {b : Nat} {i : Int} (h : Bits b i) (hb : b ≤ 1900) : Shw 0 (b + 2) (.int i) := by
  have hl := h.log
  refine ⟨by simp only [PyData.showable, decide_eq_true_eq]; omega, by simp [PyData.depth], ?_⟩
  simp only [PyData.shown]
  rw [ofString_length]
  exact int_text_length_le (k := b + 1) (by omega) (by omega)
theorem shw_non : Shw 0 4 .none := ⟨rfl, by simp [PyData.depth], by simp only [PyData.shown]; decide⟩
theorem shw_bool {b : Bool} : Shw 0 5 (.bool b) := ⟨rfl, by simp [PyData.depth], by simp only [PyData.shown]; cases b <;> decide⟩
theorem shownAll_map : ∀ l : List D, PyData.shownAll l = l.map PyData.shown
  | [] => rfl
  | d :: l => by rw [PyData.shownAll, shownAll_map l]; rfl
theorem canAll_of : ∀ {l : List D}, (∀ x ∈ l, x.canLay0 = true) → PyData.canLayAll0 l = true
  | [], _ => rfl
  | d :: l, h => by simp only [PyData.canLayAll0, h d List.mem_cons_self, canAll_of fun x hx => h x (List.mem_cons_of_mem _ hx), Bool.and_self]
theorem showAll_of : ∀ {l : List D}, (∀ x ∈ l, x.showable = true) → PyData.showableAll l = true
  | [], _ => rfl
  | d :: l, h => by simp only [PyData.showableAll, h d List.mem_cons_self, showAll_of fun x hx => h x (List.mem_cons_of_mem _ hx), Bool.and_self]
theorem sum_le : ∀ {l : List D}, (∀ x ∈ l, x.shown.length ≤ m) → ((PyData.shownAll l).map (·.length)).sum ≤ l.length * m
  | [], _ => by simp [PyData.shownAll]
  | d :: l, h => by
    have h1 := h d List.mem_cons_self
    have h2 := sum_le (l := l) fun x hx => h x (List.mem_cons_of_mem _ hx)
    simp only [PyData.shownAll, List.map_cons, List.sum_cons, List.length_cons, Nat.succ_mul]
    omega
theorem shownAll_len : (PyData.shownAll l).length = l.length := by rw [shownAll_map, List.length_map]
theorem row_le (hl : l.length ≤ n) (h : ∀ x ∈ l, x.shown.length ≤ m) : ((PyData.shownAll l).map (·.length)).sum + 2 * (PyData.shownAll l).length + 3 ≤ n * (m + 2) + 3 := by
  have h1 := sum_le h
  have h2 : l.length * m ≤ n * m := Nat.mul_le_mul_right _ hl
  rw [shownAll_len, Nat.mul_add]
  omega
theorem shw_lst (hl : l.length ≤ n) (h : ∀ x ∈ l, Shw k m x) : Shw (k + 1) (n * (m + 2) + 3) (.list l) :=
  ⟨by simp only [PyData.showable]; exact showAll_of fun x hx => (h x hx).sh, depth_lst fun x hx => (h x hx).dp,
    by simp only [PyData.shown]; exact Nat.le_trans (listText_len_le _) (row_le hl fun x hx => (h x hx).len)⟩
theorem shw_tup (hl : l.length ≤ n) (h : ∀ x ∈ l, Shw k m x) : Shw (k + 1) (n * (m + 2) + 3) (.tuple l) :=
  ⟨by simp only [PyData.showable]; exact showAll_of fun x hx => (h x hx).sh, depth_tup fun x hx => (h x hx).dp,
    by simp only [PyData.shown]; exact Nat.le_trans (tupleText_len_le _) (row_le hl fun x hx => (h x hx).len)⟩
theorem Fr.shw {b : Nat} (h : Fr (b + 1) d) (hb : b ≤ 1900) : Shw 1 (2 * b + 11) d := by
  have i1 := shw_int h.sz.bn hb
  have i2 := shw_int h.sz.bd hb
  have hx : ∀ x ∈ [PyData.int (valR d).num, .int ((valR d).den : Int)], Shw 0 (b + 2) x := fun x hx => by
    simp only [List.mem_cons, List.not_mem_nil, or_false] at hx
    rcases hx with rfl | rfl
    · exact i1
    · exact i2
  rcases h.is with e | e
  · rw [e]; exact (shw_tup (n := 2) (by simp) hx).mono (by omega) (by omega)
  · rw [e]; exact (shw_lst (n := 2) (by simp) hx).mono (by omega) (by omega)
end
end Lib
set_option Elab.async false
set_option linter.all false
set_option maxRecDepth 100000
set_option maxHeartbeats 4000000
/-! LibL: the line laws' own numbers, squares, tables. -/
namespace Lib
open PySem Tr
def ir_low : Ss := (.cons (.set 2 (.ofE (.b1 .abs (.v 0)))) (.cons (.set 3 (.ofE (.v 1))) (.cons (.whl (.cmp .gt (.v 3) (.int 0)) (.cons (.par 2 3 (.v 3) (.op .mod (.v 2) (.v 3))) .nil)) (.cons (.ret (.ofE (.tup (.cons (.op .fdiv (.v 0) (.v 2)) (.cons (.op .fdiv (.v 1) (.v 2)) .nil))))) .nil))))
noncomputable def fn_low (Φ : Tab) : Fn := mkFn 4 [false, false] ((ir_low).sem Φ)
def ir_number22 (k0 : Nat) (k1 : Nat) : Ss := (.cons (.set 1 (.call k0 (.r 0 (.e (.int 8) .nil)))) (.cons (.set 2 (.ofE (.op .sub (.ofF (.call k0 (.r 0 (.e (.int 19) .nil)))) (.int 9)))) (.cons (.set 3 (.add (.int 1) (.ofF (.call k0 (.r 0 (.e (.int 6) .nil)))))) (.cons (.ite (.cmp .eq (.v 1) (.int 7)) (.cons (.set 2 (.add (.ofF (.mul (.v 2) (.op .pow (.int 10) (.int 22)))) (.ofF (.call k0 (.r 0 (.e (.int 1000) .nil)))))) .nil) .nil) (.cons (.ret (.call k1 (.e (.v 2) (.e (.v 3) .nil)))) .nil)))))
noncomputable def fn_number22 (Φ : Tab) (k0 : Nat) (k1 : Nat) : Fn := mkFn 4 [true] ((ir_number22 k0 k1).sem Φ)
def ir_gap (k0 : Nat) : Ss := (.cons (.ret (.call k0 (.e (.b1 .abs (.op .sub (.ofF (.mul (.ix (.v 0) (.int 0)) (.ix (.v 1) (.int 1)))) (.ofF (.mul (.ix (.v 1) (.int 0)) (.ix (.v 0) (.int 1)))))) (.e (.ofF (.mul (.ix (.v 0) (.int 1)) (.ix (.v 1) (.int 1)))) .nil)))) .nil)
noncomputable def fn_gap (Φ : Tab) (k0 : Nat) : Fn := mkFn 2 [false, false] ((ir_gap k0).sem Φ)
def ir_square (k0 : Nat) : Ss := (.cons (.set 1 (.lst .nil)) (.cons (.loop (.name 2) (.seq (.v 0)) (.cons (.append 1 (.ofE (.b1 .tuple (.ofF (.comp (.name 3) (.seq (.v 0)) .nil (.call k0 (.e (.v 2) (.e (.v 3) .nil))) [3]))))) .nil)) (.cons (.ret (.ofE (.b1 .tuple (.v 1)))) .nil)))
noncomputable def fn_square (Φ : Tab) (k0 : Nat) : Fn := mkFn 4 [false] ((ir_square k0).sem Φ)
def ir_great : Ss := (.cons (.ite (.cmp .lt (.ofF (.mul (.ix (.v 0) (.int 0)) (.ix (.v 1) (.int 1)))) (.ofF (.mul (.ix (.v 1) (.int 0)) (.ix (.v 0) (.int 1))))) (.cons (.ret (.ofE (.v 1))) .nil) .nil) (.cons (.ret (.ofE (.v 0))) .nil))
noncomputable def fn_great (Φ : Tab) : Fn := mkFn 2 [false, false] ((ir_great).sem Φ)
section
variable {Φ : Tab} {k k0 k1 k2 k3 k4 k5 k6 k7 g0 : Nat} {f f0 f1 f2 f3 f4 f5 f6 f7 : Fn} {ρ : Tr.Env} {d e t o : D} {n B : Nat}
theorem sp_low : SpLow (fn_low Φ) := ⟨rfl, fun {a b} hb h8 => run_eq (by
  unfold fn_low
  rw [fn_wp]
  refine ⟨rfl, ?_⟩
  simp [ir_low, abs_nat]
  refine whl_wp (fun n ρ => ∃ x : Nat, x.gcd n = Int.gcd a b ∧ ρ = [some (.frz (.int a)), some (.frz (.int b)), some (.frz (.int x)), some (.frz (.int n))]) (fun n ρ hi => ?_) b.natAbs ⟨a.natAbs, rfl, by rw [show (b.natAbs : Int) = b by omega]⟩
  obtain ⟨x, hx, rfl⟩ := hi
  simp
  refine ⟨fun h0 => ⟨by omega, x % n, Nat.mod_lt _ h0, n, (gcd_step h0).trans hx, rfl, gcd_fmod h0⟩, fun h0 => ?_⟩
  subst h0
  rw [Nat.gcd_zero_right] at hx
  subst hx
  obtain ⟨g1, g2⟩ := gcd_bits (a := a) (show b ≠ 0 by omega) h8
  have g1' : a.gcd b ≠ 0 := by omega
  have fin := frac_eq (a := a) (show b ≠ 0 by omega)
  rw [if_neg (by omega)] at fin
  simp [g2, g1']
  exact fin)⟩
theorem Sp2.cf {g : Rat → Rat → Rat} {ok : Rat → Rat → Prop} (s : Sp2 g ok f) (hf : Φ.fn[k]? = some f) {p q : Rat} (hp : Sz 4000 p) (hq : Sz 4000 q) (o : ok p q) : callF Φ k [.d (frD p), .d (frD q)] ρ = .ok (.frz (frD (g p q))) ρ := by
  have := s.cl (ρ := ρ) hf (fr_frD hp) (fr_frD hq) (by simpa using o)
  simpa using this
theorem sp2_gap (hf : Φ.fn[k]? = some f) (s : SpLow f) : Sp2 (fun p q => (p - q).abs) any2 (fn_gap Φ k) := ⟨rfl, fun {d e} hd he _ => run_eq (by
  unfold fn_gap
  rw [fn_wp]
  refine ⟨rfl, ?_⟩
  have h1 := m_ok hd.sz.bn he.sz.bd
  have h2 := m_ok he.sz.bn hd.sz.bd
  have h3 := m_ok hd.sz.bd he.sz.bd
  simp at h1 h2 h3
  have p1 := Int.mul_pos (show (0 : Int) < (valR d).den by have := (valR d).den_pos; omega) (show (0 : Int) < (valR e).den by have := (valR e).den_pos; omega)
  simp [ir_gap, hd.ix0, hd.ix1, he.ix0, he.ix1, h1, h2, h3, s.cl hf p1 (b_ok hd.sz.bd he.sz.bd)]
  congr 1
  have e1 := sub_divInt (valR d) (valR e)
  by_cases h : (valR d).num * (valR e).den - (valR e).num * (valR d).den < 0
  · have hs : valR d - valR e < 0 := by
      have := Rat.lt_iff (valR d) (valR e)
      grind
    rw [if_pos h]
    unfold Rat.abs
    rw [if_neg (by grind), e1, Rat.neg_divInt]
  · have hs : 0 ≤ valR d - valR e := by
      have := Rat.lt_iff (valR d) (valR e)
      grind
    rw [if_neg h]
    unfold Rat.abs
    rw [if_pos hs, e1])⟩
/-- of two tuples -/
structure SpF2 (g : Rat → Rat → Rat) (f : Fn) : Prop where
  modes : f.modes = [false, false]
  eq : ∀ {p q : Rat}, Sz 4000 p → Sz 4000 q → f.run [.frz (frD p), .frz (frD q)] = .ok (.frz (frD (g p q))) []
theorem SpF2.cl {g : Rat → Rat → Rat} (s : SpF2 g f) (hf : Φ.fn[k]? = some f) {p q : Rat} (hp : Sz 4000 p) (hq : Sz 4000 q) : callF Φ k [.d (frD p), .d (frD q)] ρ = .ok (.frz (frD (g p q))) ρ :=
  call_eq hf s.modes rfl rfl rfl (s.eq hp hq)
theorem sp_great : SpF2 (fun p q => if p < q then q else p) (fn_great Φ) := ⟨rfl, fun {p q} hp hq => run_eq (by
  unfold fn_great
  rw [fn_wp]
  refine ⟨rfl, ?_⟩
  have h1 := m_ok hp.bn hq.bd
  have h2 := m_ok hq.bn hp.bd
  simp at h1 h2
  simp [ir_great, h1, h2]
  have e1 := Rat.lt_iff p q
  refine ⟨fun h => ?_, fun h => ?_⟩
  · rw [if_pos (e1.mpr h)]
  · rw [if_neg fun q => by have := e1.mp q; omega])⟩
theorem ix_tab {f : Nat → Nat → Rat} {i : Nat} (hi : i < n) : ixD (tabD n f) (.int i) = some (rowD n (f i)) := by
  have s : Seq n (tabD n f) := seq_of (l := (List.range n).map fun i => rowD n (f i)) rfl (by simp)
  rw [s.ix hi, sub_tabD hi]
theorem ix_row {u : Nat → Rat} {i : Nat} (hi : i < n) : ixD (rowD n u) (.int i) = some (frD (u i)) := by
  have s : Seq n (rowD n u) := seq_of (l := (List.range n).map fun i => frD (u i)) rfl (by simp)
  rw [s.ix hi, sub_rowD hi]
/-- a list of fractions -/
def rowL (n : Nat) (u : Nat → Rat) : D := .list ((List.range n).map fun j => frD (u j))
theorem sub_rowL {u : Nat → Rat} {j : Nat} (hj : j < n) : subD (rowL n u) j = frD (u j) := by
  rw [subD_items (l := (List.range n).map fun j => frD (u j)) rfl (by simpa using hj), List.getElem_map, List.getElem_range]
theorem row_rowL {u : Nat → Rat} (h : ∀ j < n, Sz B (u j)) : Row B n (rowL n u) := row_of (l := (List.range n).map fun j => frD (u j)) rfl (by simp) fun x hx => by
  obtain ⟨j, hj, rfl⟩ := List.mem_map.mp hx
  exact fr_frD (h j (List.mem_range.mp hj))
theorem list_fun (l : List Rat) : l = (List.range l.length).map fun j => l.getD j 0 := by
  refine List.ext_getElem (by simp) fun i h1 h2 => ?_
  simp [h1]
theorem rowL_of (l : List Rat) : .list (l.map frD) = rowL l.length fun j => l.getD j 0 := by
  unfold rowL
  conv => lhs; rw [list_fun l]
  rw [List.map_map]
  rfl
/-- a square of a row -/
structure SpSq (f : Fn) : Prop where
  modes : f.modes = [false]
  eq : ∀ {n : Nat} {d : D}, Row 1900 n d → n ≤ 1000 → f.run [.frz d] = .ok (.frz (tabD n fun i j => (valR (subD d i) - valR (subD d j)).abs)) []
theorem sp_square (hf : Φ.fn[k0]? = some f0) (s : Sp2 (fun p q => (p - q).abs) any2 f0) : SpSq (fn_square Φ k0) := ⟨rfl, fun {n d} hd hn => run_eq (by
  unfold fn_square
  rw [fn_wp]
  refine ⟨rfl, ?_⟩
  simp [ir_square, hd.items]
  refine loopM (c := subD d) (xs := List.range n) (fun i ρ => ∃ x2, ρ = [some (.frz d), some (.box ((List.range i).map fun i => .frz (rowD n fun j => (valR (subD d i) - valR (subD d j)).abs))), x2, none]) ⟨none, rfl⟩ ?_ ?_
  · rintro i x ρ hx ⟨x2, rfl⟩
    obtain ⟨hi, rfl⟩ : i < n ∧ i = x := by
      have h1 := (List.getElem?_eq_some_iff.mp hx).1
      rw [List.length_range] at h1
      rw [List.getElem?_range h1] at hx
      exact ⟨h1, by simpa using hx⟩
    refine ⟨_, rfl, ?_⟩
    simp [hd.items]
    refine comp_each (c := subD d) (fun j => .frz (frD (valR (subD d i) - valR (subD d j)).abs)) (fun j hj => ⟨_, rfl, ?_⟩) ?_
    · have hj := List.mem_range.mp hj
      simp [s.cl hf ((hd.fr i hi).mono (by decide)) ((hd.fr j hj).mono (by decide)) trivial]
    · simp [rowD]
      refine ⟨by omega, by omega, ?_⟩
      rw [List.range_succ, List.map_append]
      rfl
  · rintro ρ ⟨x2, rfl⟩
    simp [tabD])⟩
theorem SpSq.cl (s : SpSq f) (hf : Φ.fn[k]? = some f) (hd : Row 1900 n d) (hn : n ≤ 1000) : callF Φ k [.d d] ρ = .ok (.frz (tabD n fun i j => (valR (subD d i) - valR (subD d j)).abs)) ρ :=
  call_eq hf s.modes rfl rfl rfl (s.eq hd hn)
theorem SpSq.cu (s : SpSq f) (hf : Φ.fn[k]? = some f) {u : Nat → Rat} (hu : ∀ j < n, Sz 1900 (u j)) (hn : n ≤ 1000) : callF Φ k [.d (rowL n u)] ρ = .ok (.frz (tabD n fun i j => (u i - u j).abs)) ρ := by
  rw [s.cl hf (row_rowL hu) hn]
  congr 2
  refine tabD_inj.mpr fun i hi j hj => ?_
  rw [sub_rowL hi, sub_rowL hj, valR_fr, valR_fr]
theorem SpNext.cl {Q : PQ} (s : SpNext f) (hf : Φ.fn[k]? = some f) {i : Nat} {st : O} {c : Nat} (hs : ldV i ρ = some st) (ho : OkSt c st) (hc : c < 2 ^ 60) {m : Int} (h0 : 0 < m) (h1 : m < 2 ^ 200)
    (q : ∀ v st', 0 ≤ v → v < m → OkSt (c + 1) st' → Q (.frz (.int v)) (ρ.set i (some st'))) : (callF Φ k [.r i, .d (.int m)] ρ).wp Q := by
  refine call_sp hf s.modes rfl (os := [st, .frz (.int m)]) (by simp [gather, hs]) (s.run ho hc h0 h1 fun v st' a b c => ?_)
  simpa [callK] using q v st' a b c
/-- a drawn number -/
structure SpNum (B c : Nat) (f : Fn) : Prop where
  modes : f.modes = [true]
  run : ∀ {n : Nat} {st : O} {Q : PQ}, OkSt n st → n < 2 ^ 59 → (∀ p st', Sz B p → OkSt (n + c) st' → Q (.frz (frD p)) [some st']) → (f.run [st]).wp Q
theorem sp_number22 (hf : Φ.fn[k0]? = some f0) (s0 : SpNext f0) (hg : Φ.fn[k1]? = some f1) (s1 : SpLow f1) : SpNum 80 4 (fn_number22 Φ k0 k1) := ⟨rfl, fun {n st Q} hs hn q => by
  unfold fn_number22
  rw [fn_wp]
  refine ⟨rfl, ?_⟩
  simp [ir_number22]
  refine s0.cl hf rfl hs (by omega) (by decide) (by decide) fun a st1 a0 a1 h1 => ?_
  simp
  refine s0.cl hf rfl h1 (by omega) (by decide) (by decide) fun b st2 b0 b1 h2 => ?_
  simp
  refine s0.cl hf rfl h2 (by omega) (by decide) (by decide) fun c st3 c0 c1 h3 => ?_
  simp
  refine ⟨fun ha => ⟨mul_okn (n := 10) (.of_lt (by omega) (by omega)) (by decide +kernel), ?_⟩, fun ha => ?_⟩
  · refine s0.cl hf rfl h3 (by omega) (by decide) (by decide) fun e st4 e0 e1 h4 => ?_
    have hb : Bits 8000 (1 + c) := Bits.mono (n := 3) (.of_lt (by omega) (by omega)) (by decide)
    simp [s1.cl hg (show 0 < 1 + c by omega) hb]
    exact q _ _ (sz_divInt (by omega) (by omega) (by omega)) (h4.mono (by omega))
  · have hb : Bits 8000 (1 + c) := Bits.mono (n := 3) (.of_lt (by omega) (by omega)) (by decide)
    simp [s1.cl hg (show 0 < 1 + c by omega) hb]
    exact q _ _ (sz_divInt (by omega) (by omega) (by omega)) (h3.mono (by omega))⟩
theorem SpNum.cl {Q : PQ} {c : Nat} (s : SpNum B c f) (hf : Φ.fn[k]? = some f) {i a : Nat} {st : O} (hs : ldV i ρ = some st) (ho : OkSt a st) (ha : a < 2 ^ 59)
    (q : ∀ p st', Sz B p → OkSt (a + c) st' → Q (.frz (frD p)) (ρ.set i (some st'))) : (callF Φ k [.r i] ρ).wp Q := by
  refine call_sp hf s.modes rfl (os := [st]) (by simp [gather, hs]) (s.run ho ha fun p st' b c => ?_)
  simpa [callK] using q p st' b c
end
end Lib
set_option Elab.async false
set_option linter.all false
set_option maxRecDepth 100000
set_option maxHeartbeats 4000000
/-! LibG: what the first ten laws draw: numbers, fractions; the least of a row. -/
namespace Lib
open PySem Tr
def ir_numA (k0 : Nat) : Ss := (.cons (.set 1 (.call k0 (.r 0 (.e (.int 6) .nil)))) (.cons (.ite (.cmp .lt (.v 1) (.int 3)) (.cons (.ret (.ofE (.op .sub (.ofF (.call k0 (.r 0 (.e (.int 41) .nil)))) (.int 20)))) .nil) .nil) (.cons (.ite (.cmp .eq (.v 1) (.int 3)) (.cons (.ret (.ofE (.ix (.ofF (.lst (.cons (.ofE (.int 0)) (.cons (.ofE (.int 1)) (.cons (.ofE (.neg (.int 1))) .nil))))) (.ofF (.call k0 (.r 0 (.e (.int 3) .nil))))))) .nil) .nil) (.cons (.set 2 (.add (.ofF (.mul (.ofF (.call k0 (.r 0 (.e (.op .pow (.int 10) (.int 15)) .nil)))) (.op .pow (.int 10) (.int 15)))) (.ofF (.call k0 (.r 0 (.e (.op .pow (.int 10) (.int 15)) .nil)))))) (.cons (.ret (.ofE (.ix (.ofF (.lst (.cons (.ofE (.v 2)) (.cons (.ofE (.op .sub (.int 0) (.v 2))) .nil)))) (.op .sub (.v 1) (.int 4))))) .nil)))))
noncomputable def fn_numA (Φ : Tab) (k0 : Nat) : Fn := mkFn 3 [true] ((ir_numA k0).sem Φ)
def ir_fracA (k0 : Nat) (k1 : Nat) : Ss := (.cons (.set 1 (.call k0 (.r 0 .nil))) (.cons (.ret (.call k1 (.e (.v 1) (.e (.b2 .max (.int 1) (.b1 .abs (.ofF (.call k0 (.r 0 .nil))))) .nil)))) .nil))
noncomputable def fn_fracA (Φ : Tab) (k0 : Nat) (k1 : Nat) : Fn := mkFn 2 [true] ((ir_fracA k0 k1).sem Φ)
def ir_least (k0 : Nat) : Ss := (.cons (.set 1 (.ofE (.ix (.v 0) (.int 0)))) (.cons (.loop (.name 2) (.seq (.v 0)) (.cons (.ite (.cmp .lt (.ofF (.call k0 (.e (.v 2) (.e (.v 1) .nil)))) (.int 0)) (.cons (.set 1 (.ofE (.v 2))) .nil) .nil) .nil)) (.cons (.ret (.ofE (.tup (.cons (.ix (.v 1) (.int 0)) (.cons (.ix (.v 1) (.int 1)) .nil))))) .nil)))
noncomputable def fn_least (Φ : Tab) (k0 : Nat) : Fn := mkFn 3 [false] ((ir_least k0).sem Φ)
theorem Fr.listO {n : Nat} {d : D} (h : Fr n d) : Tr.listO d = some (.box [.frz (.int (valR d).num), .frz (.int ((valR d).den : Int))]) := by
  unfold Tr.listO
  rw [h.items]
  rfl
theorem Fr.list {n : Nat} {d : D} (h : Fr n d) : Fr n (.list [.int (valR d).num, .int ((valR d).den : Int)]) := fr_frL h.sz
theorem Fr.can {n : Nat} {d : D} (h : Fr n d) : d.canLay0 = true := by
  rcases h.is with e | e
  · rw [e]; rfl
  · rw [e]; rfl
theorem eqv_nil {l : List D} : PyData.eqvAll l [] = l.isEmpty := by cases l <;> simp [PyData.eqvAll]
theorem cmp_ne_nil {l : List D} (h : ∀ x ∈ l, x.canLay0 = true) : cmpD .ne (.list l) (.list []) = some (.bool (!l.isEmpty)) := by
  simp [cmpD, eqOk, PyData.canLay0, PyData.depth, canAll_of h, PyData.eqv, eqv_nil, PyData.depthAll, PyData.canLayAll0]
theorem cmp_eq_nil {l : List D} (h : ∀ x ∈ l, x.canLay0 = true) : cmpD .eq (.list l) (.list []) = some (.bool l.isEmpty) := by
  simp [cmpD, eqOk, PyData.canLay0, PyData.depth, canAll_of h, PyData.eqv, eqv_nil, PyData.depthAll, PyData.canLayAll0]
theorem eqO_nil {n : Bool} {l : List D} (h : ∀ x ∈ l, x.canLay0 = true) : eqO n (.box (l.map .frz)) (.list []) = some (.bool (if n then !l.isEmpty else l.isEmpty)) := by
  cases n <;> simp [eqO, O.clean, O.fz, cmp_ne_nil h, cmp_eq_nil h]
theorem isK_fr {p : Rat} {k : Kd} : isK (frD p) k = decide (k = .tuple) := by cases k <;> rfl
section
variable {Φ : Tab} {k k0 k1 : Nat} {f f0 f1 : Fn} {ρ : Tr.Env} {n : Nat}
theorem sp_lowest (hf : Φ.fn[k0]? = some f0) (s0 : SpCommon f0) : SpFrac (fn_lowest Φ k0) := ⟨rfl, fun {a b Q} h0 hb q => by
  unfold fn_lowest
  rw [fn_wp]
  refine ⟨rfl, ?_⟩
  simp [ir_lowest]
  refine call_sp hf s0.modes rfl rfl (s0.run ?_)
  simp [callK]
  obtain ⟨g1, g2⟩ := gcd_bits (a := a) h0 hb
  have g1' : a.gcd b ≠ 0 := by omega
  have fin := frac_eq (a := a) h0
  refine ⟨fun h1 => ?_, fun h1 => ?_⟩
  · rw [if_pos h1] at fin
    simp [g2, h0] at g1' ⊢
    rw [fin]
    exact q
  · rw [if_neg (by omega)] at fin
    simp [g2, h0]
    rw [fin]
    exact q⟩
/-- a drawn whole number -/
structure SpInt (B c : Nat) (f : Fn) : Prop where
  modes : f.modes = [true]
  run : ∀ {n : Nat} {st : O} {Q : PQ}, OkSt n st → n < 2 ^ 59 + 100 → (∀ v st', Bits B v → OkSt (n + c) st' → Q (.frz (.int v)) [some st']) → (f.run [st]).wp Q
theorem SpInt.cl {Q : PQ} {B c : Nat} (s : SpInt B c f) (hf : Φ.fn[k]? = some f) {i a : Nat} {st : O} (hs : ldV i ρ = some st) (ho : OkSt a st) (ha : a < 2 ^ 59 + 100)
    (q : ∀ v st', Bits B v → OkSt (a + c) st' → Q (.frz (.int v)) (ρ.set i (some st'))) : (callF Φ k [.r i] ρ).wp Q := by
  refine call_sp hf s.modes rfl (os := [st]) (by simp [gather, hs]) (s.run ho ha fun p st' b c => ?_)
  simpa [callK] using q p st' b c
theorem sp_numA (hf : Φ.fn[k0]? = some f0) (s0 : SpNext f0) : SpInt 101 3 (fn_numA Φ k0) := ⟨rfl, fun {n st Q} hs hn q => by
  unfold fn_numA
  rw [fn_wp]
  refine ⟨rfl, ?_⟩
  simp [ir_numA]
  refine s0.cl hf rfl hs (by omega) (by decide) (by decide) fun w s1 w0 w1 h1 => ?_
  simp
  refine ⟨fun hw => ?_, fun hw => ⟨fun h3 => ?_, fun h3 => ?_⟩⟩
  · refine s0.cl hf rfl h1 (by omega) (by decide) (by decide) fun v s2 v0 v1 h2 => ?_
    simp
    exact q _ _ (.of_lt (by omega) (by omega)) (h2.mono (by omega))
  · refine s0.cl hf rfl h1 (by omega) (by decide) (by decide) fun v s2 v0 v1 h2 => ?_
    simp
    have : v = 0 ∨ v = 1 ∨ v = 2 := by omega
    rcases this with rfl | rfl | rfl
    · simp; exact q _ _ (by decide) (h2.mono (by omega))
    · simp; exact q _ _ (by decide) (h2.mono (by omega))
    · simp; exact q _ _ (by decide) (h2.mono (by omega))
  · refine s0.cl hf rfl h1 (by omega) (by decide) (by decide) fun v s2 v0 v1 h2 => ?_
    simp
    refine ⟨mul_okn (n := 60) (.of_lt (by omega) (by omega)) (by decide +kernel), ?_⟩
    refine s0.cl hf rfl h2 (by omega) (by decide) (by decide) fun u s3 u0 u1 k3 => ?_
    simp
    have : w = 4 ∨ w = 5 := by omega
    rcases this with rfl | rfl
    · simp; exact q _ _ (.of_lt (by omega) (by omega)) (k3.mono (by omega))
    · simp; exact q _ _ (.of_lt (by omega) (by omega)) (k3.mono (by omega))⟩
/-- the greater of 1 and a number without its sign -/
theorem max1_abs {B : Nat} {u : Int} (hB : 1 ≤ B) (h : Bits B u) : ∃ w : Nat, w ≠ 0 ∧ w < 2 ^ (B + 1) ∧ (if (1 : Int) < (u.natAbs : Int) then (u.natAbs : Int) else 1) = (w : Int) := by
  unfold Bits at h
  by_cases h1 : 1 < u.natAbs
  · exact ⟨u.natAbs, by omega, h, by rw [if_pos (by omega)]⟩
  · exact ⟨1, by omega, Nat.one_lt_two_pow (by omega), by rw [if_neg (by omega)]; rfl⟩
theorem sp_fracA (hf : Φ.fn[k0]? = some f0) (s0 : SpInt 101 3 f0) (hg : Φ.fn[k1]? = some f1) (s1 : SpLow f1) : SpNum 102 6 (fn_fracA Φ k0 k1) := ⟨rfl, fun {n st Q} hs hn q => by
  unfold fn_fracA
  rw [fn_wp]
  refine ⟨rfl, ?_⟩
  simp [ir_fracA]
  refine s0.cl hf rfl hs (by omega) fun v s2 b1 h1 => ?_
  simp
  refine s0.cl hf rfl h1 (by omega) fun u s3 b2 h2 => ?_
  simp [abs_nat]
  obtain ⟨w, w0, wb, e⟩ := max1_abs (by decide) b2
  rw [e, s1.cl hg (a := v) (b := w) (by omega) (Nat.lt_of_lt_of_le (show (w : Int).natAbs < 2 ^ 102 by rw [Int.natAbs_natCast]; exact wb) (two_mono (by decide)))]
  simp
  exact q (Rat.divInt v w) s3 (sz_divInt (by omega) b1 (by rw [Int.natAbs_natCast]; exact wb)) (h2.mono (by omega))⟩
/-! ### the least -/
def minL (l : List Rat) : Rat := -maxL (l.map fun x => -x)
theorem minL_mem {l : List Rat} (h : l ≠ []) : minL l ∈ l := by
  have := maxL_mem (l := l.map fun x => -x) (by simpa using h)
  obtain ⟨x, hx, e⟩ := List.mem_map.mp this
  unfold minL
  rw [← e, Rat.neg_neg]
  exact hx
theorem minL_le {l : List Rat} {y : Rat} (h : y ∈ l) : minL l ≤ y := by
  have := maxL_ge (l := l.map fun x => -x) (y := -y) (List.mem_map.mpr ⟨y, h, rfl⟩)
  unfold minL
  grind
theorem minL_eq {l : List Rat} {m : Rat} (h : m ∈ l) (g : ∀ y ∈ l, m ≤ y) : minL l = m := by
  have h1 := minL_le h
  have h2 := g _ (minL_mem (l := l) fun e => by rw [e] at h; simp at h)
  grind
/-- no greater than what these tell, one of those -/
structure LeAll (r : Rat) (l m : List D) : Prop where
  le : ∀ y ∈ l, r ≤ valR y
  mem : r ∈ m.map valR
structure SpLe (f : Fn) : Prop where
  modes : f.modes = [false]
  eq : ∀ {d : D} {l : List D}, itemsD d = some l → l ≠ [] → (∀ x ∈ l, Fr 4000 x) → f.run [.frz d] = .ok (.frz (frD (minL (l.map valR)))) []
theorem sp_least (hf : Φ.fn[k0]? = some f) (s : SpOrd f) : SpLe (fn_least Φ k0) := ⟨rfl, fun {d l} hd h0 hl => run_eq (by
  obtain ⟨x, l, rfl⟩ := List.exists_cons_of_ne_nil h0
  unfold fn_least
  rw [fn_wp]
  refine ⟨rfl, ?_⟩
  have e0 : ixD d (.int 0) = some x := by have := ixD_items hd 0; simpa using this
  simp [ir_least, e0, hd]
  refine loop0 (fun i ρ => ∃ (m : D) (x2 : Option O), Fr 4000 m ∧ LeAll (valR m) ((x :: l).take i) (x :: l) ∧ ρ = [some (.frz d), some (.frz m), x2]) ?_ ?_ ?_
  · exact ⟨x, none, hl x (by simp), ⟨by simp, by simp⟩, rfl⟩
  · rintro i y ρ he ⟨m, x2, hm, ⟨hw, hv⟩, rfl⟩
    have hy := hl y (List.mem_of_getElem? he)
    refine ⟨_, rfl, ?_⟩
    simp [s.cl hf hy hm, ord_neg', -List.take_succ_cons]
    have et : (x :: l).take (i + 1) = (x :: l).take i ++ [y] := by rw [List.take_succ, he]; rfl
    have ym : valR y ∈ (x :: l).map valR := List.mem_map.mpr ⟨y, List.mem_of_getElem? he, rfl⟩
    rw [et]
    refine ⟨fun h => ⟨hy, ⟨fun z hz => ?_, ym⟩⟩, fun h => ⟨hm, ⟨fun z hz => ?_, hv⟩⟩⟩
    · rcases List.mem_append.mp hz with hz | hz
      · have := hw z hz; grind
      · rw [List.mem_singleton.mp hz]; grind
    · rcases List.mem_append.mp hz with hz | hz
      · exact hw z hz
      · rw [List.mem_singleton.mp hz]; grind
  · rintro ρ ⟨m, x2, hm, ⟨hw, hv⟩, rfl⟩
    rw [List.take_length] at hw
    have e : minL ((x :: l).map valR) = valR m := minL_eq hv fun y hy => by
      obtain ⟨z, hz, rfl⟩ := List.mem_map.mp hy
      exact hw z hz
    simp only [List.map_cons] at e
    simp [hm.ix0, hm.ix1, e, frD])⟩
theorem SpLe.cl (s : SpLe f) (hf : Φ.fn[k]? = some f) {d : D} {l : List D} (hd : itemsD d = some l) (h0 : l ≠ []) (hl : ∀ x ∈ l, Fr 4000 x) : callF Φ k [.d d] ρ = .ok (.frz (frD (minL (l.map valR)))) ρ :=
  call_eq hf s.modes rfl rfl rfl (s.eq hd h0 hl)
end
end Lib
set_option Elab.async false
set_option linter.all false
set_option maxRecDepth 100000
set_option maxHeartbeats 4000000
namespace K02
open PySem PySem.Spec PyProof.Rows L2 Tr
def top (i : Nat) : Stmt := PySem.Challenge.pw_leaststretch_k02_sums.main.body.getD i (.Pass ⟨0, 0, 0, 0⟩)
def nine : List Str := ["NoFraction", "NoTable", "NoOrder", "NoThing", "TooMany", "NoText", "NoLine", "NoName", "NothingBack"]
def rows : List (Str × List Bool) := [("NoFraction", [true, false, false, false, false, false, false, false, false])]
def d_xkinds : Dcl := ⟨"_law_kinds", "_law_kinds", top 24, ["_law_error", "_law_found"], 1, [false], 0, .nil⟩
def d_xisk : Dcl := ⟨"_law_is_kind", "_law_is_kind", top 25, ["_law_error", "_law_at", "_law_k"], 2, [false, false], 0, .nil⟩
def xd : Option Xd := some ⟨d_xkinds, d_xisk, "StretchError", nine, rows⟩
def ir_common : Ss := Lib.ir_common
def d_common : Dcl := ⟨"common", "common", top 12, ["one", "other", "first", "second"], 2, [false, false], 0, ir_common⟩
def ir_fraction : Ss := Lib.ir_fractionX 0
def d_fraction : Dcl := ⟨"fraction", "fraction", top 13, ["above", "below", "factor"], 2, [false, false], 0, ir_fraction⟩
def ir_plus : Ss := Lib.ir_plus 1
def d_plus : Dcl := ⟨"plus", "plus", top 14, ["one", "other"], 2, [false, false], 0, ir_plus⟩
def ir_less : Ss := Lib.ir_less 1
def d_less : Dcl := ⟨"less", "less", top 15, ["one", "other"], 2, [false, false], 0, ir_less⟩
def ir_times : Ss := Lib.ir_times 1
def d_times : Dcl := ⟨"times", "times", top 16, ["one", "other"], 2, [false, false], 0, ir_times⟩
def ir_over : Ss := Lib.ir_over 1
def d_over : Dcl := ⟨"over", "over", top 17, ["one", "other"], 2, [false, false], 0, ir_over⟩
def ir_l_next : Ss := Lib.ir_next
def d_l_next : Dcl := ⟨"_law_next", "_law_next", top 19, ["_law_state", "_law_size", "_law_cell", "_law_found"], 2, [true, false], 0, ir_l_next⟩
def ir_l_common : Ss := Lib.ir_lcommon
def d_l_common : Dcl := ⟨"_law_common", "_law_common", top 20, ["_law_one", "_law_other"], 2, [false, false], 0, ir_l_common⟩
def ir_l_lowest : Ss := Lib.ir_lowest 7
def d_l_lowest : Dcl := ⟨"_law_lowest", "_law_lowest", top 21, ["_law_top", "_law_bottom", "_law_factor"], 2, [false, false], 0, ir_l_lowest⟩
def ir_l_number : Ss := Lib.ir_numA 6
def d_l_number : Dcl := ⟨"_law_number", "_law_number", top 22, ["_law_state", "_law_way", "_law_great"], 1, [true], 0, ir_l_number⟩
def ir_l_fraction : Ss := Lib.ir_fracA 9 8
def d_l_fraction : Dcl := ⟨"_law_fraction", "_law_fraction", top 23, ["_law_state", "_law_top"], 1, [true], 0, ir_l_fraction⟩
def ir_l_pair : Ss := (.cons (.set 1 (.call 10 (.r 0 .nil))) (.cons (.set 2 (.call 10 (.r 0 .nil))) (.cons (.set 3 (.call 6 (.r 0 (.e (.int 8) .nil)))) (.cons (.ite (.cmp .eq (.v 3) (.int 0)) (.cons (.set 2 (.ofE (.v 1))) .nil) .nil) (.cons (.ite (.cmp .eq (.v 3) (.int 1)) (.cons (.set 2 (.ofE (.tup (.cons (.op .sub (.int 0) (.ix (.v 1) (.int 0))) (.cons (.ix (.v 1) (.int 1)) .nil))))) .nil) .nil) (.cons (.ite (.cmp .eq (.v 3) (.int 2)) (.cons (.set 2 (.ofE (.tup (.cons (.int 0) (.cons (.int 1) .nil))))) .nil) .nil) (.cons (.ite (.and (.cmp .eq (.v 3) (.int 3)) (.cmp .ne (.ix (.v 1) (.int 0)) (.int 0))) (.cons (.set 2 (.call 8 (.e (.ix (.v 1) (.int 1)) (.e (.ix (.v 1) (.int 0)) .nil)))) .nil) .nil) (.cons (.ret (.ofE (.tup (.cons (.v 1) (.cons (.v 2) .nil))))) .nil))))))))
def d_l_pair : Dcl := ⟨"_law_pair", "_law_pair", top 26, ["_law_state", "_law_one", "_law_other", "_law_way"], 1, [true], 0, ir_l_pair⟩
def ir_l_shared : Ss := (.cons (.ite (.cmp .eq (.ix (.v 1) (.int 0)) (.int 0)) (.cons (.tri (.cons (.expr (.call 5 (.e (.v 0) (.e (.v 1) .nil)))) .nil) 3 rows (.kind (.int 0))) (.cons (.ret (.ofE (.bl false))) .nil)) .nil) (.cons (.ret (.ofE (.cmp .eq (.ofF (.call 5 (.e (.v 0) (.e (.v 1) .nil)))) (.ofF (.call 8 (.e (.ofF (.mul (.ix (.v 2) (.int 0)) (.ix (.v 1) (.int 1)))) (.e (.ofF (.mul (.ix (.v 2) (.int 1)) (.ix (.v 1) (.int 0)))) .nil))))))) .nil))
def d_l_shared : Dcl := ⟨"_law_shared", "_law_shared", top 27, ["_law_one", "_law_other", "_law_due", "_law_error"], 3, [false, false, false], 0, ir_l_shared⟩
def ir_l_right : Ss := (.cons (.unpack [2, 3] (.v 0)) (.cons (.unpack [4, 5] (.v 1)) (.cons (.set 6 (.lst (.cons (.call 2 (.e (.v 0) (.e (.v 1) .nil))) (.cons (.call 3 (.e (.v 0) (.e (.v 1) .nil))) (.cons (.call 4 (.e (.v 0) (.e (.v 1) .nil))) .nil))))) (.cons (.set 7 (.lst (.cons (.call 8 (.e (.ofF (.add (.ofF (.mul (.v 2) (.v 5))) (.ofF (.mul (.v 4) (.v 3))))) (.e (.ofF (.mul (.v 3) (.v 5))) .nil))) (.cons (.call 8 (.e (.op .sub (.ofF (.mul (.v 2) (.v 5))) (.ofF (.mul (.v 4) (.v 3)))) (.e (.ofF (.mul (.v 3) (.v 5))) .nil))) (.cons (.call 8 (.e (.ofF (.mul (.v 2) (.v 4))) (.e (.ofF (.mul (.v 3) (.v 5))) .nil))) .nil))))) (.cons (.ite (.or (.cmp .ne (.ofF (.comp (.name 8) (.seq (.v 6)) (.one (.not (.tru (.isi (.v 8) [.tuple])))) (.ofE (.v 8)) [8])) (.ofF (.lst .nil))) (.cmp .ne (.v 6) (.v 7))) (.cons (.ret (.ofE (.bl false))) .nil) .nil) (.cons (.ret (.call 12 (.e (.v 0) (.e (.v 1) (.e (.tup (.cons (.v 2) (.cons (.v 3) .nil))) .nil))))) .nil))))))
def d_l_right : Dcl := ⟨"_law_right", "_law_right", top 28, ["_law_one", "_law_other", "_law_a", "_law_b", "_law_c", "_law_d", "_law_told", "_law_due", "_law_type_told"], 2, [false, false], 0, ir_l_right⟩
def ir_law : Ss := (.cons (.set 1 (.lst (.cons (.mv 0) (.cons (.ofE (.int 0)) (.cons (.ofE (.int 0)) (.cons (.ofE (.int 103)) .nil)))))) (.cons (.loop (.name 2) (.range1 (.int 8)) (.cons (.unpack [3, 4] (.ofF (.call 11 (.r 1 .nil)))) (.cons (.set 5 (.lst (.cons (.ofE (.v 3)) (.cons (.list (.v 4)) .nil)))) (.cons (.ite (.cmp .eq (.op .mod (.v 2) (.int 2)) (.int 1)) (.cons (.set 5 (.lst (.cons (.list (.v 3)) (.cons (.ofE (.v 4)) .nil)))) .nil) .nil) (.cons (.ite (.or (.not (.tru (.ofF (.call 13 (.e (.ix (.v 5) (.int 0)) (.e (.ix (.v 5) (.int 1)) .nil)))))) (.not (.tru (.ofF (.call 13 (.e (.ix (.v 5) (.int 1)) (.e (.ix (.v 5) (.int 0)) .nil))))))) (.cons (.ret (.ofE (.bl false))) .nil) .nil) (.cons (.ite (.cmp .ne (.ofF (.lst (.cons (.ofE (.b1 .tuple (.ix (.v 5) (.int 0)))) (.cons (.ofE (.b1 .tuple (.ix (.v 5) (.int 1)))) .nil)))) (.ofF (.lst (.cons (.ofE (.v 3)) (.cons (.ofE (.v 4)) .nil))))) (.cons (.ret (.ofE (.bl false))) .nil) .nil) .nil)))))) (.cons (.ret (.ofE (.bl true))) .nil)))
def d_law : Dcl := ⟨"law", "law", top 29, ["_law_script", "_law_state", "_law_k", "_law_one", "_law_other", "_law_handed"], 1, [false], 0, ir_law⟩
def ds : List Dcl := [d_common, d_fraction, d_plus, d_less, d_times, d_over, d_l_next, d_l_common, d_l_lowest, d_l_number, d_l_fraction, d_l_pair, d_l_shared, d_l_right, d_law]
def blts : List Str := ["ValueError", "abs", "isinstance", "len", "list", "max", "range", "tuple"]
def gs : List GD := []
def gl : List D := []
theorem ok : okAll (glsOf gs 0) blts (xsOf xd) ds [] 0 = true := by decide +kernel
theorem okx : okX blts xd = true := by decide +kernel
noncomputable def f_common : Fn := mkFn 4 [false, false] (ir_common.sem ⟨[], gl⟩)
noncomputable def f_fraction : Fn := mkFn 3 [false, false] (ir_fraction.sem ⟨[f_common], gl⟩)
noncomputable def f_plus : Fn := mkFn 2 [false, false] (ir_plus.sem ⟨[f_common, f_fraction], gl⟩)
noncomputable def f_less : Fn := mkFn 2 [false, false] (ir_less.sem ⟨[f_common, f_fraction, f_plus], gl⟩)
noncomputable def f_times : Fn := mkFn 2 [false, false] (ir_times.sem ⟨[f_common, f_fraction, f_plus, f_less], gl⟩)
noncomputable def f_over : Fn := mkFn 2 [false, false] (ir_over.sem ⟨[f_common, f_fraction, f_plus, f_less, f_times], gl⟩)
noncomputable def f_l_next : Fn := mkFn 4 [true, false] (ir_l_next.sem ⟨[f_common, f_fraction, f_plus, f_less, f_times, f_over], gl⟩)
noncomputable def f_l_common : Fn := mkFn 2 [false, false] (ir_l_common.sem ⟨[f_common, f_fraction, f_plus, f_less, f_times, f_over, f_l_next], gl⟩)
noncomputable def f_l_lowest : Fn := mkFn 3 [false, false] (ir_l_lowest.sem ⟨[f_common, f_fraction, f_plus, f_less, f_times, f_over, f_l_next, f_l_common], gl⟩)
noncomputable def f_l_number : Fn := mkFn 3 [true] (ir_l_number.sem ⟨[f_common, f_fraction, f_plus, f_less, f_times, f_over, f_l_next, f_l_common, f_l_lowest], gl⟩)
noncomputable def f_l_fraction : Fn := mkFn 2 [true] (ir_l_fraction.sem ⟨[f_common, f_fraction, f_plus, f_less, f_times, f_over, f_l_next, f_l_common, f_l_lowest, f_l_number], gl⟩)
noncomputable def f_l_pair : Fn := mkFn 4 [true] (ir_l_pair.sem ⟨[f_common, f_fraction, f_plus, f_less, f_times, f_over, f_l_next, f_l_common, f_l_lowest, f_l_number, f_l_fraction], gl⟩)
noncomputable def f_l_shared : Fn := mkFn 4 [false, false, false] (ir_l_shared.sem ⟨[f_common, f_fraction, f_plus, f_less, f_times, f_over, f_l_next, f_l_common, f_l_lowest, f_l_number, f_l_fraction, f_l_pair], gl⟩)
noncomputable def f_l_right : Fn := mkFn 9 [false, false] (ir_l_right.sem ⟨[f_common, f_fraction, f_plus, f_less, f_times, f_over, f_l_next, f_l_common, f_l_lowest, f_l_number, f_l_fraction, f_l_pair, f_l_shared], gl⟩)
noncomputable def f_law : Fn := mkFn 6 [false] (ir_law.sem ⟨[f_common, f_fraction, f_plus, f_less, f_times, f_over, f_l_next, f_l_common, f_l_lowest, f_l_number, f_l_fraction, f_l_pair, f_l_shared, f_l_right], gl⟩)
theorem fns : build gl ds [] = [f_common, f_fraction, f_plus, f_less, f_times, f_over, f_l_next, f_l_common, f_l_lowest, f_l_number, f_l_fraction, f_l_pair, f_l_shared, f_l_right, f_law] := build_step (f := f_common) rfl (build_step (f := f_fraction) rfl (build_step (f := f_plus) rfl (build_step (f := f_less) rfl (build_step (f := f_times) rfl (build_step (f := f_over) rfl (build_step (f := f_l_next) rfl (build_step (f := f_l_common) rfl (build_step (f := f_l_lowest) rfl (build_step (f := f_l_number) rfl (build_step (f := f_l_fraction) rfl (build_step (f := f_l_pair) rfl (build_step (f := f_l_shared) rfl (build_step (f := f_l_right) rfl (build_step (f := f_law) rfl (rfl)))))))))))))))
theorem b_common : BndD d_common := fun _ _ _ _ _ _ us hl => match us, hl with | [_, _], _ => rfl
theorem b_fraction : BndD d_fraction := fun _ _ _ _ _ _ us hl => match us, hl with | [_, _], _ => rfl
theorem b_plus : BndD d_plus := fun _ _ _ _ _ _ us hl => match us, hl with | [_, _], _ => rfl
theorem b_less : BndD d_less := fun _ _ _ _ _ _ us hl => match us, hl with | [_, _], _ => rfl
theorem b_times : BndD d_times := fun _ _ _ _ _ _ us hl => match us, hl with | [_, _], _ => rfl
theorem b_over : BndD d_over := fun _ _ _ _ _ _ us hl => match us, hl with | [_, _], _ => rfl
theorem b_l_next : BndD d_l_next := fun _ _ _ _ _ _ us hl => match us, hl with | [_, _], _ => rfl
theorem b_l_common : BndD d_l_common := fun _ _ _ _ _ _ us hl => match us, hl with | [_, _], _ => rfl
theorem b_l_lowest : BndD d_l_lowest := fun _ _ _ _ _ _ us hl => match us, hl with | [_, _], _ => rfl
theorem b_l_number : BndD d_l_number := fun _ _ _ _ _ _ us hl => match us, hl with | [_], _ => rfl
theorem b_l_fraction : BndD d_l_fraction := fun _ _ _ _ _ _ us hl => match us, hl with | [_], _ => rfl
theorem b_l_pair : BndD d_l_pair := fun _ _ _ _ _ _ us hl => match us, hl with | [_], _ => rfl
theorem b_l_shared : BndD d_l_shared := fun _ _ _ _ _ _ us hl => match us, hl with | [_, _, _], _ => rfl
theorem b_l_right : BndD d_l_right := fun _ _ _ _ _ _ us hl => match us, hl with | [_, _], _ => rfl
theorem b_law : BndD d_law := fun _ _ _ _ _ _ us hl => match us, hl with | [_], _ => rfl
theorem b_xkinds : BndD d_xkinds := fun _ _ _ _ _ _ us hl => match us, hl with | [_], _ => rfl
theorem b_xisk : BndD d_xisk := fun _ _ _ _ _ _ us hl => match us, hl with | [_, _], _ => rfl
theorem bnds : ∀ d ∈ ds ++ xds xd, BndD d := by
  intro d hd
  simp only [ds, xd, xds, List.cons_append, List.nil_append, List.append_nil, List.mem_cons, List.not_mem_nil, or_false] at hd
  rcases hd with rfl | rfl | rfl | rfl | rfl | rfl | rfl | rfl | rfl | rfl | rfl | rfl | rfl | rfl | rfl | rfl | rfl
  · exact b_common
  · exact b_fraction
  · exact b_plus
  · exact b_less
  · exact b_times
  · exact b_over
  · exact b_l_next
  · exact b_l_common
  · exact b_l_lowest
  · exact b_l_number
  · exact b_l_fraction
  · exact b_l_pair
  · exact b_l_shared
  · exact b_l_right
  · exact b_law
  · exact b_xkinds
  · exact b_xisk
end K02
set_option Elab.async false
set_option linter.all false
set_option maxRecDepth 100000
set_option maxHeartbeats 4000000
namespace K02
open PySem Tr Lib
theorem sCommon : SpCommon f_common := sp_common
theorem sFrac : SpFrac f_fraction := sp_fractionX rfl sCommon
theorem xFrac (a : Int) : f_fraction.run [.frz (.int a), .frz (.int 0)] = .exc (exN "NoFraction") [] := fractionX_exc
theorem sPlus : Sp2 (fun p q => p + q) any2 f_plus := sp2_plus rfl sFrac.low
theorem sLess : Sp2 (fun p q => p - q) any2 f_less := sp2_less rfl sFrac.low
theorem sTimes : Sp2 (fun p q => p * q) any2 f_times := sp2_times rfl sFrac.low
theorem sOver : Sp2 (fun p q => p / q) (fun _ q => q ≠ 0) f_over := sp2_over rfl sFrac
theorem xOver {d e : D} (hd : Fr 4000 d) (he : Fr 4000 e) (h0 : valR e = 0) : f_over.run [.frz d, .frz e] = .exc (exN "NoFraction") [] := overX_exc rfl sFrac.modes xFrac hd he h0
theorem sNext : SpNext f_l_next := sp_next
theorem sLc : SpCommon f_l_common := sp_lcommon
theorem sLow : SpFrac f_l_lowest := sp_lowest rfl sLc
theorem sNum : SpInt 101 3 f_l_number := sp_numA rfl sNext
theorem sFr : SpNum 102 6 f_l_fraction := sp_fracA rfl sNum rfl sLow.low
theorem low_eq {Φ : Tab} {ρ : Tr.Env} (hf : Φ.fn[8]? = some f_l_lowest) {a b : Int} (h : b ≠ 0) (hb : Bits 8000 b) : callF Φ 8 [.d (.int a), .d (.int b)] ρ = .ok (.frz (frD (Rat.divInt a b))) ρ :=
  call_eq hf sLow.modes rfl rfl rfl (run_eq (sLow.run h hb ⟨rfl, rfl⟩))
theorem neg_fr (p : Rat) : PyData.tuple [.int (0 - p.num), .int p.den] = frD (-p) := by simp [frD]
theorem pair_run {n : Nat} {st : O} (hs : OkSt n st) (hn : n < 2 ^ 58) {Q : PQ} (w : ∀ p q st', Sz 103 p → Sz 103 q → OkSt (n + 20) st' → Q (.frz (.tuple [frD p, frD q])) [some st']) : (f_l_pair.run [st]).wp Q := by
  unfold f_l_pair
  rw [fn_wp]
  refine ⟨rfl, ?_⟩
  simp [ir_l_pair]
  refine sFr.cl rfl rfl hs (by omega) fun p s1 sp h1 => ?_
  simp
  refine sFr.cl rfl rfl h1 (by omega) fun q s2 sq h2 => ?_
  simp
  refine sNext.cl rfl rfl h2 (by omega) (by decide) (by decide) fun v s3 v0 v1 h3 => ?_
  have h3 := h3.mono (show n + 6 + 6 + 1 ≤ n + 20 by omega)
  have fin : ∀ q : Rat, Sz 103 q → Q (.frz (.tuple [frD p, frD q])) [some s3] := fun q hq => w p q s3 (sp.mono (by decide)) hq h3
  have hv : v = 0 ∨ v = 1 ∨ v = 2 ∨ v = 3 ∨ 4 ≤ v := by omega
  rcases hv with rfl | rfl | rfl | rfl | hv
  · simp
    exact fin p (sp.mono (by decide))
  · simp
    have := fin (-p) (sp.neg.mono (by decide))
    rw [← neg_fr] at this
    simpa using this
  · simp
    exact fin 0 (sz_zero.mono (by decide))
  · simp
    refine ⟨fun h0 => ?_, fun h0 => fin q (sq.mono (by decide))⟩
    rw [low_eq rfl (num_ne h0) (Nat.lt_of_lt_of_le sp.num (two_mono (by decide)))]
    simp
    have e : Rat.divInt p.den p.num = 1 / p := by
      rw [div_divInt]
      simp
    rw [e]
    exact fin _ ((sz_one.div sp h0).mono (by decide))
  · simp [show ¬ v = 0 by omega, show ¬ v = 1 by omega, show ¬ v = 2 by omega, show ¬ v = 3 by omega]
    exact fin q (sq.mono (by decide))
theorem cmp_ne_refl {n : Nat} {d : D} (h : Pl n d) (hn : n ≤ 64) : cmpD .ne d d = some (.bool false) := by
  rw [cmp_ne_pl h h.pl hn (P := True) (by simp)]
  rfl
theorem hv0 : hvOf rows "NoFraction" 0 = some true := by decide +kernel
section
variable {d e : D} {Φ : Tab} {ρ : Tr.Env}
theorem ePlus (hf : Φ.fn[2]? = some f_plus) (hd : Fr 4000 d) (he : Fr 4000 e) : callF Φ 2 [.d d, .d e] ρ = .ok (.frz (frD (valR d + valR e))) ρ := sPlus.cl hf hd he trivial
theorem eLess (hf : Φ.fn[3]? = some f_less) (hd : Fr 4000 d) (he : Fr 4000 e) : callF Φ 3 [.d d, .d e] ρ = .ok (.frz (frD (valR d - valR e))) ρ := sLess.cl hf hd he trivial
theorem eTimes (hf : Φ.fn[4]? = some f_times) (hd : Fr 4000 d) (he : Fr 4000 e) : callF Φ 4 [.d d, .d e] ρ = .ok (.frz (frD (valR d * valR e))) ρ := sTimes.cl hf hd he trivial
theorem eOver (hf : Φ.fn[5]? = some f_over) (hd : Fr 4000 d) (he : Fr 4000 e) (h0 : valR e ≠ 0) : callF Φ 5 [.d d, .d e] ρ = .ok (.frz (frD (valR d / valR e))) ρ := sOver.cl hf hd he h0
theorem shared_run (hd : Fr 110 d) (he : Fr 110 e) {Q : PQ} (w : Q (.frz (.bool true)) []) : (f_l_shared.run [.frz d, .frz e, .frz (.tuple [.int (valR d).num, .int (valR d).den])]).wp Q := by
  have hd' := hd.mono (show 110 ≤ 4000 by decide)
  have he' := he.mono (show 110 ≤ 4000 by decide)
  unfold f_l_shared
  rw [fn_wp]
  refine ⟨rfl, ?_⟩
  unfold ir_l_shared
  rw [wss_cons, wst_ite]
  simp [he.ix0]
  refine ⟨fun h0 => ?_, fun h0 => ?_⟩
  · have h0 : valR e = 0 := by simpa using h0
    refine wst_caught (wpe_cons1 (wpe_expr (wpe_call ?_)))
    simp
    refine wpe_pure rfl sOver.modes rfl rfl rfl (xOver hd' he' h0) ?_
    refine ⟨by decide +kernel, by decide, by simp, ?_⟩
    simp [Hd.sem, Ha.of, exN, hv0]
    exact w
  · have h0 : valR e ≠ 0 := by simpa using h0
    have h1 := m_ok hd'.sz.bn he'.sz.bd
    have h3 := m_ok hd'.sz.bd he'.sz.bn
    simp at h1 h3
    simp [eOver, hd', he', h0, he.ix0, he.ix1, h1, h3]
    rw [low_eq rfl (Int.mul_ne_zero (den0 _) (num_ne h0)) (b_ok hd'.sz.bd he'.sz.bn)]
    simp [← div_divInt, cmp_eq_fr]
    exact w
theorem right_run (hd : Fr 110 d) (he : Fr 110 e) {Q : PQ} (w : Q (.frz (.bool true)) []) : (f_l_right.run [.frz d, .frz e]).wp Q := by
  have hd' := hd.mono (show 110 ≤ 4000 by decide)
  have he' := he.mono (show 110 ≤ 4000 by decide)
  unfold f_l_right
  rw [fn_wp]
  refine ⟨rfl, ?_⟩
  have h1 := m_ok hd'.sz.bn he'.sz.bd
  have h2 := m_ok he'.sz.bn hd'.sz.bd
  have h3 := m_ok hd'.sz.bd he'.sz.bd
  have h4 := m_ok hd'.sz.bn he'.sz.bn
  simp at h1 h2 h3 h4
  have b0 : ((valR d).den : Int) * (valR e).den ≠ 0 := Int.mul_ne_zero (den0 _) (den0 _)
  have b1 := b_ok hd'.sz.bd he'.sz.bd
  simp [ir_l_right, unpK, hd.items, he.items, ePlus, eLess, eTimes, hd', he', h1, h2, h3, h4, low_eq, b0, b1]
  refine comp_noneI (fun x hx => ?_) ?_
  · have hx : ∃ r, x = frD r := by
      simp only [List.mem_cons, List.not_mem_nil, or_false] at hx
      rcases hx with rfl | rfl | rfl <;> exact ⟨_, rfl⟩
    obtain ⟨r, rfl⟩ := hx
    refine ⟨_, rfl, ?_⟩
    simp [frD, isK]
  · simp
    rw [← add_divInt, ← sub_divInt, ← mul_divInt]
    rw [cmp_ne_refl (n := 1) (pl_lst (n := 0) (l := []) (by simp)) (by decide)]
    simp
    rw [cmp_ne_refl (n := 2) (pl_lst (n := 1) (by intro x hx; simp only [List.mem_cons, List.not_mem_nil, or_false] at hx; rcases hx with rfl | rfl | rfl <;> exact pl_fr)) (by decide)]
    simp
    refine call_wp rfl rfl rfl (shared_run hd he ?_)
    simpa [callK] using w
theorem eRight (hf : Φ.fn[13]? = some f_l_right) (hd : Fr 110 d) (he : Fr 110 e) : callF Φ 13 [.d d, .d e] ρ = .ok (.frz (.bool true)) ρ :=
  call_eq hf rfl rfl rfl rfl (run_eq (right_run hd he ⟨rfl, rfl⟩))
theorem list_fr (q : Rat) : listO (frD q) = some (.box [.frz (.int q.num), .frz (.int q.den)]) := rfl
theorem tup_fr (q : Rat) : b1D .tuple (frD q) = some (frD q) := rfl
theorem fr_back (q : Rat) : PyData.tuple [.int q.num, .int q.den] = frD q := rfl
theorem law_wp {ns : List Int} (hn : ns.length ≤ 63) : (f_law.run [.scr ns]).wp fun o refs => o = .frz (.bool true) ∧ refs = [] := by
  unfold f_law
  rw [fn_wp]
  refine ⟨rfl, ?_⟩
  simp [ir_law]
  refine ⟨by decide, ?_⟩
  refine loop0 (fun i ρ => ∃ (st : O) (x2 x3 x4 x5 : Option O), OkSt (i * 100) st ∧ ρ = [some (.scr ns), some st, x2, x3, x4, x5]) ?_ ?_ ?_
  · exact ⟨_, _, _, _, _, okSt_start (ns := ns) (s := 103) (by decide), rfl⟩
  · rintro i d ρ he ⟨st, x2, x3, x4, x5, hs, rfl⟩
    obtain ⟨rfl, hi⟩ := rng_at he
    refine ⟨_, rfl, ?_⟩
    simp
    refine call_wp rfl rfl rfl (pair_run hs (by omega) fun p q s1 sp sq h1 => ?_)
    simp [callK, unpK]
    have hp := fr_frD (sp.mono (show 103 ≤ 110 by decide))
    have hq := fr_frD (sq.mono (show 103 ≤ 110 by decide))
    have hpl := fr_frL (sp.mono (show 103 ≤ 110 by decide))
    have hql := fr_frL (sq.mono (show 103 ≤ 110 by decide))
    have e2 := cmp_ne_refl (n := 2) (d := .list [frD p, frD q]) (pl_lst (n := 1) (by intro x hx; simp only [List.mem_cons, List.not_mem_nil, or_false] at hx; rcases hx with rfl | rfl <;> exact pl_fr)) (by decide)
    simp [list_fr, tup_fr, fr_back, eRight, hp, hq, hpl, hql, e2]
    exact h1.mono (by omega)
  · rintro ρ ⟨st, x2, x3, x4, x5, hs, rfl⟩
    simp
end
end K02
set_option Elab.async false
set_option linter.all false
set_option maxRecDepth 100000
set_option maxHeartbeats 0
theorem K02.law_run : ∀ ns : List Int, ns.length ≤ 63 → K02.f_law.run [.scr ns] = .ok (.frz (.bool true)) [] := fun ns hn => by
  obtain ⟨o, refs, e, rfl, rfl⟩ := Tr.FR.wp_iff.mp (K02.law_wp hn)
  exact e
namespace K02
open PySem PySem.Spec PyProof.Rows L2 Tr
abbrev R : PySem.W.OpenRow := PySem.W.OpenLaw.row PySem.Challenge.rw_leaststretch_k02_sums
abbrev hk : PySem.W.Hook := hookG 4 xd gs (fasX xd ds gs blts) ((ds ++ xds xd).map toD)
def ob (s : PySem.W.SharedT) : AlG := obsGG 4 xd gs (fasX xd ds gs blts) ((ds ++ xds xd).map toD) (HandSHeadRun.getT s)
theorem ob_eq (s : PySem.W.SharedT) : ob s = hk.obs s.abs := obsGG_eq (HandSHeadRun.getT_eq s)
def names0 : List PySem.Str := ["StretchError", "NoFraction", "NoTable", "NoOrder", "NoThing", "TooMany", "NoText", "NoLine", "NoName", "NothingBack", "common", "fraction", "plus", "less", "times"]
def names1 : List PySem.Str := ["over", "_law_next", "_law_common", "_law_lowest", "_law_number", "_law_fraction", "_law_kinds", "_law_is_kind", "_law_pair", "_law_shared", "_law_right"]
def names : List PySem.Str := names0 ++ names1
theorem run (w : World) : HandSHeadRun.RunEq R (PySem.W.view R.prog [29]) hk ob 4000 names w := by
  intro os
  kernel_rfl
end K02
open PySem PySem.W PySem.Calls PyProof.Rows
theorem PySem.Challenge.cw_leaststretch_k02_sums_holds : PySem.Challenge.rw_leaststretch_k02_sums.Holds := by
  w_on; o_law
  refine HandSHeadRun.head_any (r := OpenLaw.row PySem.Challenge.rw_leaststretch_k02_sums) (q := view (OpenLaw.row PySem.Challenge.rw_leaststretch_k02_sums).prog [29]) (H := K02.hk) (ob := K02.ob) (M := 4000) (loose := K02.names) (d := HandSHeadRun.topDef (OpenLaw.row PySem.Challenge.rw_leaststretch_k02_sums).prog 29) (kwd := []) K02.ob_eq
    (by kernel_rfl) (fun s => by kernel_rfl) K02.run (by kernel_rfl) (by kernel_rfl) (by kernel_rfl) (by rfl) (by first | assumption | decide +kernel) (by decide +kernel) ⟨rfl, rfl, rfl, rfl, rfl, by decide +kernel⟩ ?hw ?hc
  case hw => w_witness2
  case hc =>
    refine Tr.walk_ofG (l := PySem.Challenge.rw_leaststretch_k02_sums) (n := 63) (k := 17) (x := "_law_script") (CX := L2.CX0) rfl (by decide) (by kernel_rfl) ⟨rfl, by decide, by decide⟩ ?F (fun _ _ _ _ z => z)
    intro w mg fa h Y G hmg0
    obtain ⟨K, KX, c⟩ := Y
    have hmg : mg ("law" : PySem.Str) = some (.ref fa) := by
      have e : (HandSHeadRun.topDef (OpenLaw.row PySem.Challenge.rw_leaststretch_k02_sums).prog 29).name = ("law" : PySem.Str) := by kernel_rfl
      rw [← e]
      exact hmg0
    exact Tr.law_walk (dl := K02.d_law) (n := 14) (fn := K02.f_law) KX G c K02.bnds K02.okx K02.ok rfl rfl hmg (show (Tr.build K02.gl K02.ds [])[14]? = _ by rw [K02.fns]; rfl) rfl rfl K02.law_run
