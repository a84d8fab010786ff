import PyProof.Rows.All
import Wide.All
import OpenK.AllK
import Wide.FinOn
import HandS.ForMost
import HandS.TupLe
import PyProof.ReprRoads
import HandS.Wide
import HandS.Style
import HandS.IsInst
import HandS.Deep
import HandS.Exc
import HandS.ExcOwn
import HandS.WordsExc
import HandS.Flow
import HandS.RaiseMore
import HandS.TupMul
import HandS.TupAny
import HandS.TryOnly
import HandS.More
import HandS.Iter
import HandS.Zip
import HandS.Comp
import HandS.Defaults
import HandS.Rev
import HandS.Conv
import HandS.Dict
import HandS.SetFor
import HandS.Strs
import HandS.SortInts
import HandS.Ends
import HandS.Head0
import HandS.Head1
import HandS.Head2
import HandS.HeadEnd
import HandS.HeadHook1
import HandS.HeadHook2
import PyProof.ReprLen
import PyProof.StrLawsRepr
import KE.KStateDown
import PySem.Challenge.RW_leaststretch_k20_whole_line_or_bar
set_option Elab.async false
set_option linter.all false
set_option maxRecDepth 100000
set_option maxHeartbeats 4000000
/-! TrA: trees, the small language IR and what it means. Plain Lean. -/
namespace Tr
open PySem

/-- data -/
abbrev D := PyData
/-- what a name holds: data that stays, or a list of its own that may change -/
inductive O where
  | frz (d : D)
  | box (l : List O)
  /-- the script itself: read by places, cut, never more -/
  | scr (l : List Int)
  deriving Inhabited
mutual
def O.fz : O → D
  | .frz d => d
  | .box l => .list (fzs l)
  | .scr _ => .none
def fzs : List O → List D
  | [] => []
  | o :: l => o.fz :: fzs l
end
mutual
/-- no script within -/
def O.clean : O → Bool
  | .frz _ => true
  | .box l => cleans l
  | .scr _ => false
def cleans : List O → Bool
  | [] => true
  | o :: l => o.clean && cleans l
end
theorem fzs_eq : ∀ l : List O, fzs l = l.map O.fz
  | [] => rfl
  | o :: l => by simp only [fzs, List.map_cons, fzs_eq l]
abbrev Env := List (Option O)
/-- an own error: its class's name, its fields -/
structure Ex where
  cls : Str
  flds : List (Str × D)
inductive R (α : Type) where
  | ok (a : α) (ρ : Env)
  | exc (x : Ex) (ρ : Env)
  | bad
def R.bind {α β : Type} (r : R α) (f : α → Env → R β) : R β := match r with
  | .ok a ρ => f a ρ
  | .exc x ρ => .exc x ρ
  | .bad => .bad
@[simp] theorem R.bind_ok {α β : Type} (a : α) (ρ : Env) (f : α → Env → R β) : (R.ok a ρ).bind f = f a ρ := rfl
@[simp] theorem R.bind_exc {α β : Type} (x : Ex) (ρ : Env) (f : α → Env → R β) : (R.exc x ρ).bind f = .exc x ρ := rfl
/-- no error comes through -/
def R.calm {α : Type} (r : R α) : R α := match r with
  | .exc _ _ => .bad
  | r => r
@[simp] theorem R.calm_ok {α : Type} (a : α) (ρ : Env) : (R.ok a ρ).calm = .ok a ρ := rfl
@[simp] theorem R.calm_bad {α : Type} : (R.bad : R α).calm = .bad := rfl
@[simp] theorem R.bind_bad {α β : Type} (f : α → Env → R β) : (R.bad : R α).bind f = .bad := rfl
def R.of {α : Type} (o : Option α) (ρ : Env) : R α := match o with
  | some a => .ok a ρ
  | none => .bad
@[simp] theorem R.of_some {α : Type} (a : α) (ρ : Env) : R.of (some a) ρ = .ok a ρ := rfl
@[simp] theorem R.of_none {α : Type} (ρ : Env) : R.of (none : Option α) ρ = .bad := rfl
inductive Fl where
  | nx | brk | ct
  | ret (o : O)
/-- a def's answer: the value, what its by-name parameters hold behind it -/
inductive FR where
  | ok (o : O) (refs : Env)
  | exc (x : Ex) (refs : Env)
  | bad
/-- a def: which parameters go by name, what it answers -/
structure Fn where
  modes : List Bool
  run : List O → FR
structure Tab where
  fn : List Fn
  gl : List D

/-! ### operations on data -/
def line : Nat := 16777216
def truD : D → Option Bool
  | .none => some false
  | .bool b => some b
  | .int i => some (i != 0)
  | .str x => if x.length ≤ line then some ((x.length : Int) != 0) else none
  | .list l => some (!l.isEmpty)
  | .tuple l => some (!l.isEmpty)
  | .dict _ => none
inductive BOp where
  | sub | fdiv | mod | pow | shl | shr | band
  deriving DecidableEq
inductive COp where
  | eq | ne | lt | le | gt | ge | mem | nmem
  deriving DecidableEq
inductive B1 where
  | abs | int | bool | str | tuple | len | sum | all | any | max | min | repr
  deriving DecidableEq
inductive B2 where
  | max | min
  deriving DecidableEq
def addO : D → D → Option O
  | .int i, .int j => some (.frz (.int (i + j)))
  | .str x, .str y => if x.length + y.length ≤ line then some (.frz (.str (x ++ y))) else none
  | .tuple l, .tuple m => if l.length + m.length ≤ line then some (.frz (.tuple (l ++ m))) else none
  | .list l, .list m => if l.length + m.length ≤ line then some (.box ((l ++ m).map .frz)) else none
  | _, _ => none
def mulO : D → D → Option O
  | .int i, .int j => if i.natAbs.log2 + j.natAbs.log2 < 1000000 then some (.frz (.int (i * j))) else none
  | .list l, .int k => if k < 2 ^ 63 ∧ -(2 ^ 63) ≤ k ∧ l.length * k.toNat ≤ line then some (.box ((List.replicate k.toNat l).flatten.map .frz)) else none
  | .tuple l, .int k => if (((l = [] ∨ k ≤ 1) ∧ -(2 ^ 63) ≤ k ∧ k < 2 ^ 63) ∨ (l ≠ [] ∧ 2 ≤ k ∧ k ≤ 1000 ∧ l.length ≤ 1000)) then some (.frz (.tuple (List.replicate k.toNat l).flatten)) else none
  | _, _ => none
def opD : BOp → D → D → Option D
  | .sub, .int i, .int j => some (.int (i - j))
  | .fdiv, .int i, .int j => if j ≠ 0 ∧ j.natAbs.log2 < 9000 then some (.int (i.fdiv j)) else none
  | .mod, .int i, .int j => if j ≠ 0 then some (.int (i.fmod j)) else none
  | .pow, .int i, .int j => if 0 ≤ j ∧ j ≤ 1000000 ∧ i.natAbs < 2 ^ 64 then some (.int (i ^ j.toNat)) else none
  | .shl, .int i, .int j => if 0 ≤ j ∧ j ≤ 1000000 ∧ i.natAbs < 2 ^ 64 then some (.int (i * 2 ^ j.toNat)) else none
  | .shr, .int i, .int j => if 0 ≤ j then some (.int (i / 2 ^ j.toNat)) else none
  | .band, .int i, .int j => some (.int (Builtin.bitAnd i j))
  | _, _, _ => none
def negD : D → Option D
  | .int i => some (.int (-i))
  | _ => none
def notD (d : D) : Option D := (truD d).map fun b => .bool (!b)
/-- == may be asked -/
def eqOk (d e : D) : Bool := d.canLay0 && e.canLay0 && (decide (d.depth ≤ 64) || decide (e.depth ≤ 64))
def intsD : List D → Option (List Int)
  | [] => some []
  | .int i :: l => (intsD l).map fun r => i :: r
  | _ :: _ => none
def itemsD : D → Option (List D)
  | .list l => some l
  | .tuple l => some l
  | _ => none
def ltD : D → D → Option Bool
  | .int i, .int j => some (decide (i < j))
  | .str x, .str y => some (decide (x.cps.toList < y.cps.toList))
  | .tuple l, .tuple m => match intsD l, intsD m with
    | some a, some b => some (HT.lexLt a b)
    | _, _ => none
  | _, _ => none
def gtD : D → D → Option Bool
  | .int i, .int j => some (decide (j < i))
  | .str x, .str y => some (decide (y.cps.toList < x.cps.toList))
  | _, _ => none
def leD : D → D → Option Bool
  | .int i, .int j => some (decide (i ≤ j))
  | .tuple l, .tuple m => match intsD l, intsD m with
    | some a, some b => some (L2.lexLeI a b)
    | _, _ => none
  | _, _ => none
def geD : D → D → Option Bool
  | .int i, .int j => some (decide (j ≤ i))
  | _, _ => none
def memD (d : D) (ds : List D) : Bool := ds.any fun z => PyData.eqv z d
def memOk (d : D) (ds : List D) : Bool := SeqAt.shaped d && SeqAt.shaped (.list ds)
/-- == needs no look into the items: two texts, two lists of unlike lengths -/
def strs2 : D → D → Bool
  | .str _, .str _ => true
  | .list l, .list m => l.length != m.length
  | _, _ => false
def cmpD : COp → D → D → Option D
  | .eq, d, e => if strs2 d e || eqOk d e then some (.bool (PyData.eqv d e)) else none
  | .ne, d, e => if strs2 d e || eqOk d e then some (.bool (!PyData.eqv d e)) else none
  | .lt, d, e => (ltD d e).map .bool
  | .gt, d, e => (gtD d e).map .bool
  | .le, d, e => (leD d e).map .bool
  | .ge, d, e => (geD d e).map .bool
  | .mem, d, e => match itemsD e with
    | some l => if memOk d l then some (.bool (memD d l)) else none
    | none => none
  | .nmem, d, e => match itemsD e with
    | some l => if memOk d l then some (.bool (!memD d l)) else none
    | none => none
def boolsD : List D → Option (List Bool)
  | [] => some []
  | .bool b :: l => (boolsD l).map fun r => b :: r
  | _ :: _ => none
def maxL : Int → List Int → Int
  | m, [] => m
  | m, x :: l => maxL (if x > m then x else m) l
def minL : Int → List Int → Int
  | m, [] => m
  | m, x :: l => minL (if x < m then x else m) l
/-- its text may be asked for -/
def shownOk (d : D) : Bool := d.showable && decide (d.depth ≤ 60) && decide (d.shown.length ≤ line)
def b1D : B1 → D → Option D
  | .abs, .int i => some (.int (if i < 0 then -i else i))
  | .int, .int i => some (.int i)
  | .int, .bool b => some (.int (if b then 1 else 0))
  | .bool, .int i => some (.bool (i != 0))
  | .bool, .bool b => some (.bool b)
  | .str, .int i => if i.natAbs.log2 < 1920 then some (.str (toString i)) else none
  | .str, .str x => some (.str x)
  | .str, d => if shownOk d then some (.str d.shown) else none
  | .repr, d => if shownOk d then some (.str d.shown) else none
  | .tuple, .list l => some (.tuple l)
  | .tuple, .tuple l => some (.tuple l)
  | .len, .list l => some (.int l.length)
  | .len, .tuple l => some (.int l.length)
  | .len, .str x => if x.length ≤ line then some (.int x.length) else none
  | .sum, .list l => (intsD l).map fun r => .int r.sum
  | .all, .list l => (boolsD l).map fun r => .bool (r.all id)
  | .any, .list l => (boolsD l).map fun r => .bool (r.any id)
  | .max, .list l => match intsD l with
    | some (x :: r) => some (.int (maxL x r))
    | _ => none
  | .max, .tuple l => match intsD l with
    | some (x :: r) => some (.int (maxL x r))
    | _ => none
  | .min, .list l => match intsD l with
    | some (x :: r) => some (.int (minL x r))
    | _ => none
  | _, _ => none
def b2D : B2 → D → D → Option D
  | .max, .int i, .int j => some (.int (if j > i then j else i))
  | .min, .int i, .int j => some (.int (if j < i then j else i))
  | _, _, _ => none
/-- python's place: i, or from the end -/
def ixN (n : Nat) (i : Int) : Option Nat := if 0 ≤ i then (if i < n then some i.toNat else none) else if -(n : Int) ≤ i then some (i + n).toNat else none
def atD {α : Type} (l : List α) (i : Int) : Option α := (ixN l.length i).bind fun j => l[j]?
def ixD : D → D → Option D
  | .list l, .int i => atD l i
  | .tuple l, .int i => atD l i
  | .str x, .int i => if x.length ≤ line then (atD x.cps.toList i).map fun c => .str ⟨#[c]⟩ else none
  | _, _ => none
def sIx (n d : Nat) : Option Int → Nat := HT.sIx n d
def cutL {α : Type} (l : List α) (lo hi : Option Int) : List α := (l.drop (HT.sIx l.length 0 lo)).take (HT.sIx l.length l.length hi - HT.sIx l.length 0 lo)
def sliceO : D → Option Int → Option Int → Option O
  | .list l, lo, hi => some (.box ((cutL l lo hi).map .frz))
  | .tuple l, lo, hi => some (.frz (.tuple (cutL l lo hi)))
  | _, _, _ => none
def cutO : O → Option Int → Option Int → Option O
  | .frz d, lo, hi => sliceO d lo hi
  | .scr l, lo, hi => some (.box ((cutL l lo hi).map fun i => .frz (.int i)))
  | .box _, _, _ => none
def listO (d : D) : Option O := (itemsD d).map fun l => .box (l.map .frz)
/-- list(reversed(d)), d a list -/
def revO : D → Option O
  | .list l => if l.length ≤ line then some (.box (l.reverse.map .frz)) else none
  | _ => none
/-- d[::-1] -/
def revX : D → Option O
  | .list l => if l.length ≤ line then some (.box (l.reverse.map .frz)) else none
  | .tuple l => some (.frz (.tuple l.reverse))
  | _ => none
/-- rising, the same things -/
def isort (l : List Int) : List Int := l.mergeSort fun a b => decide (a ≤ b)
def intsF (l : List Int) : O := .box ((l.map fun i => (PyData.int i : D)).map .frz)
/-- len(set(d)) -/
def lsetD : D → Option D
  | .list l => (intsD l).bind fun r => if r.length < 4000 then some (.int (r.eraseDups.length : Nat)) else none
  | .tuple l => (intsD l).bind fun r => if r.length < 4000 then some (.int (r.eraseDups.length : Nat)) else none
  | _ => none
/-- sorted(d), d a list of whole numbers -/
def sortO : D → Option O
  | .list l => (intsD l).map fun r => intsF (isort r)
  | _ => none
/-- sorted(set(d)) -/
def sortSO : D → Option O
  | .list l => (intsD l).bind fun r => if r.length < 60 then some (intsF (isort r.eraseDups)) else none
  | .tuple l => (intsD l).bind fun r => if r.length < 60 then some (intsF (isort r.eraseDups)) else none
  | _ => none
/-- isinstance of data against a built-in class -/
inductive Kd where
  | int | bool | str | list | tuple | dict
  deriving DecidableEq
def isK : D → Kd → Bool
  | .bool _, .bool => true
  | .bool _, .int => true
  | .int _, .int => true
  | .str _, .str => true
  | .list _, .list => true
  | .tuple _, .tuple => true
  | .dict _, .dict => true
  | _, _ => false

/-! ### paths into what a name holds -/
def lookP : O → List D → Option O
  | o, [] => some o
  | .frz d, i :: is => match ixD d i with
    | some e => lookP (.frz e) is
    | none => none
  | .box l, .int i :: is => match atD l i with
    | some o => lookP o is
    | none => none
  | .box _, _ :: _ => none
  | .scr l, .int i :: is => match atD l i with
    | some k => lookP (.frz (.int k)) is
    | none => none
  | .scr _, _ :: _ => none
def modP {α : Type} (f : O → Option (α × O)) : O → List D → Option (α × O)
  | o, [] => f o
  | .box l, .int i :: is => match ixN l.length i with
    | none => none
    | some j => match l[j]? with
      | none => none
      | some o => match modP f o is with
        | none => none
        | some (a, o') => some (a, .box (l.set j o'))
  | _, _ :: _ => none
def storeF (i : D) (v : O) : O → Option (Unit × O)
  | .box l => match i with
    | .int k => match ixN l.length k with
      | some j => some ((), .box (l.set j v))
      | none => none
    | _ => none
  | _ => none
def appF (v : O) : O → Option (Unit × O)
  | .box l => if l.length < line then some ((), .box (l ++ [v])) else none
  | _ => none
def insF (k d : D) : O → Option (Unit × O)
  | .box l => match k with
    | .int i => if 0 ≤ i ∧ i ≤ l.length ∧ l.length < line then some ((), .box (l.take i.toNat ++ [.frz d] ++ l.drop i.toNat)) else none
    | _ => none
  | _ => none
def extF (ds : List D) : O → Option (Unit × O)
  | .box l => if l.length + ds.length ≤ line then some ((), .box (l ++ ds.map .frz)) else none
  | _ => none
def popF : O → Option (O × O)
  | .box l => match l[l.length - 1]? with
    | some o => some (o, .box l.dropLast)
    | none => none
  | _ => none
def popAtF (i : D) : O → Option (O × O)
  | .box l => match i with
    | .int k => if -(2 ^ 63) ≤ k ∧ k < 2 ^ 63 then match ixN l.length k with
      | some j => match l[j]? with
        | some o => some (o, .box (l.eraseIdx j))
        | none => none
      | none => none
      else none
    | _ => none
  | _ => none
def revF : O → Option (Unit × O)
  | .box l => some ((), .box l.reverse)
  | _ => none

/-! ### the language -/
/-! quiet whole numbers: places -/
mutual
inductive Qx where
  | v (i : Nat)
  | int (i : Int)
  | add (a b : Qx) | sub (a b : Qx)
  | neg (a : Qx)
  | p (p : P)
inductive P where
  | v (s : Nat)
  | ix (p : P) (i : Qx)
end
mutual
inductive E where
  | v (i : Nat)
  | int (i : Int) | bl (b : Bool) | non | str (s : Str)
  | glob (k : Nat)
  | tup (es : Es)
  | dct (ks : List L2.Key) (es : Es)
  | ix (o i : E)
  | ix1 (s : Nat) (i : E)
  | pix (p : P)
  | plen (p : P)
  | ofF (f : F)
  | neg (a : E)
  | not (a : E)
  | op (o : BOp) (a b : E)
  | cmp (o : COp) (a b : E)
  | memS (n : Bool) (a : E) (s : Nat)
  | eqS (n : Bool) (s : Nat) (b : E)
  | chain (o p : COp) (a b c : E)
  | isN (n : Bool) (a : E)
  | isB (n : Bool) (a : E) (b : Bool)
  | and (a b : E) | or (a b : E)
  | ife (t : T) (a b : E)
  | b1 (f : B1) (a : E)
  | b2 (f : B2) (a b : E)
  | isi (a : E) (ks : List Kd)
  | lset (a : E)
  | tupRg (a : E)
inductive Es where
  | nil
  | cons (e : E) (es : Es)
inductive F where
  | ofE (e : E)
  | mv (i : Nat)
  | lst (fs : Fs)
  | add (a b : E) | mul (a b : E)
  | slice (o : E) (lo hi : Pt)
  | cut (s : Nat) (lo hi : Pt)
  | list (e : E)
  | rev (e : E)
  | listv (s : Nat)
  | lrg1 (a : E) | lrg2 (a b : E)
  | sort (a : E) | sortS (a : E) | revL (a : E)
  | call (f : Nat) (as : As)
  | comp (t : Tg) (it : I) (c : Ts) (e : F) (own : List Nat)
  | pop (s : Nat) | popAt (s : Nat) (i : E)
inductive Pt where
  | none
  | some (e : E)
inductive Fs where
  | nil
  | cons (f : F) (fs : Fs)
inductive As where
  | nil
  | e (a : E) (as : As)
  | r (s : Nat) (as : As)
  | b (s : Nat) (as : As)
inductive T where
  | cmp (o : COp) (a b : E)
  | memS (n : Bool) (a : E) (s : Nat)
  | eqS (n : Bool) (s : Nat) (b : E)
  | chain (o p : COp) (a b c : E)
  | isN (n : Bool) (a : E)
  | isB (n : Bool) (a : E) (b : Bool)
  | and (a b : T) | or (a b : T)
  | not (a : T)
  | tru (e : E)
inductive Ts where
  | nil
  | one (t : T)
inductive I where
  | seq (e : E)
  | range1 (a : E) | range2 (a b : E)
  | enum (e : E)
  | zip (a b : E)
inductive Tg where
  | name (i : Nat)
  | tup (is : List Nat)
inductive S where
  | set (i : Nat) (f : F)
  | unpack (is : List Nat) (e : E)
  | par (i j : Nat) (a b : E)
  | par3 (i j k : Nat) (a b c : E)
  | insert (s : Nat) (i a : E)
  | store (s : Nat) (i : E) (f : F)
  | storeP (p : P) (i : Qx) (f : F)
  | append (s : Nat) (f : F)
  | extend (s : Nat) (e : E)
  | reverse (s : Nat)
  | expr (f : F)
  | aug (i : Nat) (e : E)
  | ite (t : T) (a b : Ss)
  | loop (t : Tg) (it : I) (b : Ss)
  | whl (t : T) (b : Ss)
  | ret (f : F) | retN
  | pass | brk | ct | never
inductive Ss where
  | nil
  | cons (s : S) (ss : Ss)
end

/-! ### what it means -/
def putO (ρ : Env) (i : Nat) (o : O) : Env := ρ.set i (some o)
def rdV (i : Nat) (ρ : Env) : R D := match ρ[i]? with
  | some (some (.frz d)) => .ok d ρ
  | some (some (.box l)) => if cleans l then .ok (.list (fzs l)) (putO ρ i (.frz (.list (fzs l)))) else .bad
  | _ => .bad
def mvV (i : Nat) (ρ : Env) : R O := match ρ[i]? with
  | some (some (.frz d)) => .ok (.frz d) ρ
  | some (some (.box l)) => .ok (.box l) (ρ.set i none)
  | some (some (.scr l)) => .ok (.scr l) ρ
  | _ => .bad
def ldV (i : Nat) (ρ : Env) : Option O := match ρ[i]? with
  | some (some o) => some o
  | _ => none
def isBox (s : Nat) (ρ : Env) : Bool := match ρ[s]? with
  | some (some (.box _)) => true
  | _ => false
def rdP (s : Nat) (is : List D) (ρ : Env) : R D := match ldV s ρ with
  | some o => match lookP o is with
    | some (.frz d) => .ok d ρ
    | _ => .bad
  | none => .bad
def lenO : O → Option D
  | .frz d => b1D .len d
  | .box l => some (.int l.length)
  | .scr l => some (.int l.length)
def lenP (s : Nat) (is : List D) (ρ : Env) : R D := match ldV s ρ with
  | some o => match lookP o is with
    | some o' => R.of (lenO o') ρ
    | none => .bad
  | none => .bad
def mdP {α : Type} (f : O → Option (α × O)) (s : Nat) (is : List D) (ρ : Env) : R α := match ldV s ρ with
  | some o => match modP f o is with
    | some (a, o') => .ok a (putO ρ s o')
    | none => .bad
  | none => .bad
/-- the arguments: values, slots for what goes by name, slots that are lent -/
inductive Ag where
  | d (d : D)
  | r (s : Nat)
  | b (s : Nat)
def gather (ρ : Env) : List Ag → Option (List O)
  | [] => some []
  | .d d :: r => (gather ρ r).map fun l => .frz d :: l
  | .r i :: r => match ldV i ρ with
    | some o => (gather ρ r).map fun l => o :: l
    | none => none
  | .b i :: r => match ldV i ρ with
    | some (.frz d) => (gather ρ r).map fun l => .frz d :: l
    | some (.box m) => if cleans m then (gather ρ r).map fun l => .frz (.list (fzs m)) :: l else none
    | _ => none
def slotsR : List Ag → List Nat
  | [] => []
  | .r i :: r => i :: slotsR r
  | _ :: r => slotsR r
def slotsB : List Ag → List Nat
  | [] => []
  | .b i :: r => i :: slotsB r
  | _ :: r => slotsB r
def modesOf : List Ag → List Bool
  | [] => []
  | .r _ :: r => true :: modesOf r
  | _ :: r => false :: modesOf r
def putBack : List Nat → Env → Env → Env
  | i :: is, o :: os, ρ => putBack is os (ρ.set i o)
  | _, _, ρ => ρ
def fzAll : List Nat → Env → Env
  | [], ρ => ρ
  | i :: is, ρ => match ldV i ρ with
    | some (.box l) => fzAll is (putO ρ i (.frz (.list (fzs l))))
    | _ => fzAll is ρ
/-- nothing behind it lies in the heap -/
def plainO : O → Bool
  | .frz .none => true
  | .frz (.bool _) => true
  | .frz (.int _) => true
  | .frz (.str _) => true
  | _ => false
def callOk (as : List Ag) (fn : Fn) : Bool := decide (modesOf as = fn.modes) && decide (slotsR as).Nodup && (slotsB as).all fun i => !(slotsR as).contains i
def callF (Φ : Tab) (k : Nat) (as : List Ag) (ρ : Env) : R O := match Φ.fn[k]? with
  | none => .bad
  | some fn => match callOk as fn with
    | false => .bad
    | true => match gather ρ as with
      | none => .bad
      | some os => match fn.run os with
        | .ok o refs => if refs.length = (slotsR as).length then
            .ok o (if plainO o && (slotsR as).isEmpty then ρ else fzAll (slotsB as) (putBack (slotsR as) refs ρ)) else .bad
        | .exc x refs => if refs.length = (slotsR as).length then .exc x (fzAll (slotsB as) (putBack (slotsR as) refs ρ)) else .bad
        | .bad => .bad
/-- what the parameters by name hold behind a body -/
def refsOf (ρ : Env) : List Bool → Nat → Env
  | [], _ => []
  | true :: m, i => (ρ[i]?).join :: refsOf ρ m (i + 1)
  | false :: m, i => refsOf ρ m (i + 1)
/-- a def of a body: n slots in all -/
def mkFn (n : Nat) (modes : List Bool) (body : Env → R Fl) : Fn := ⟨modes, fun os => if os.length = modes.length then match body (os.map some ++ List.replicate (n - os.length) none) with
  | .ok .nx ρ => .ok (.frz .none) (refsOf ρ modes 0)
  | .ok (.ret o) ρ => .ok o (refsOf ρ modes 0)
  | .ok _ _ => .bad
  | .exc x ρ => .exc x (refsOf ρ modes 0)
  | .bad => .bad else .bad⟩
def asgT : Tg → D → Env → Option Env
  | .name i, d, ρ => some (putO ρ i (.frz d))
  | .tup is, d, ρ => match itemsD d with
    | some l => if l.length = is.length then some ((is.zip l).foldl (fun r p => putO r p.1 (.frz p.2)) ρ) else none
    | none => none
def wipeE (own : List Nat) (ρ : Env) : Env := match own with
  | [] => ρ
  | i :: r => (wipeE r ρ).set i none
def keepE (own : List Nat) (ρ0 ρ : Env) : Env := match own with
  | [] => ρ
  | i :: r => (keepE r ρ0 ρ).set i ((ρ0[i]?).join)
def loopL (asg : D → Env → Option Env) (body : Env → R Fl) : List D → Env → R Fl
  | [], ρ => .ok .nx ρ
  | d :: ds, ρ => match asg d ρ with
    | none => .bad
    | some ρ1 => match body ρ1 with
      | .ok .nx ρ2 => loopL asg body ds ρ2
      | .ok .ct ρ2 => loopL asg body ds ρ2
      | .ok .brk ρ2 => .ok .nx ρ2
      | .ok (.ret o) ρ2 => .ok (.ret o) ρ2
      | .exc x ρ2 => .exc x ρ2
      | .bad => .bad
def compL (own : List Nat) (asg : D → Env → Option Env) (tst : Env → R Bool) (elt : Env → R O) : List D → Env → R (List O)
  | [], ρ => .ok [] ρ
  | d :: ds, ρ => match asg d ρ with
    | none => .bad
    | some ρ1 => (tst ρ1).calm.bind fun b ρ2 =>
      if b then (elt ρ2).calm.bind fun o ρ3 => (compL own asg tst elt ds (wipeE own ρ3)).bind fun l ρ4 => .ok (o :: l) ρ4
      else compL own asg tst elt ds (wipeE own ρ2)
/-- a while, by fuel -/
def iterW (c : Env → R Bool) (b : Env → R Fl) : Nat → Env → Option (R Fl)
  | 0, _ => none
  | n + 1, ρ => match c ρ with
    | .ok true ρ1 => match b ρ1 with
      | .ok .nx ρ2 => iterW c b n ρ2
      | .ok .ct ρ2 => iterW c b n ρ2
      | .ok .brk ρ2 => some (.ok .nx ρ2)
      | .ok (.ret o) ρ2 => some (.ok (.ret o) ρ2)
      | .exc x ρ2 => some (.exc x ρ2)
      | .bad => some .bad
    | .ok false ρ1 => some (.ok .nx ρ1)
    | .exc x ρ1 => some (.exc x ρ1)
    | .bad => some .bad
open Classical in
noncomputable def whlS (c : Env → R Bool) (b : Env → R Fl) (ρ : Env) : R Fl :=
  if h : ∃ n r, iterW c b n ρ = some r then h.choose_spec.choose else .bad
theorem iterW_mono (c : Env → R Bool) (b : Env → R Fl) : ∀ (n : Nat) (ρ : Env) (r : R Fl), iterW c b n ρ = some r → iterW c b (n + 1) ρ = some r
  | 0, ρ, r, h => by simp [iterW] at h
  | n + 1, ρ, r, h => by
    unfold iterW at h ⊢
    cases hc : c ρ with
    | bad => rw [hc] at h; exact h
    | exc x ρ1 => rw [hc] at h; exact h
    | ok t ρ1 =>
      rw [hc] at h
      cases t with
      | false => exact h
      | true =>
        simp only at h ⊢
        cases hb : b ρ1 with
        | bad => rw [hb] at h; exact h
        | exc x ρ2 => rw [hb] at h; exact h
        | ok fl ρ2 =>
          rw [hb] at h
          cases fl with
          | nx => exact iterW_mono c b n ρ2 r h
          | ct => exact iterW_mono c b n ρ2 r h
          | brk => exact h
          | ret o => exact h
theorem iterW_le {c : Env → R Bool} {b : Env → R Fl} {n m : Nat} {ρ : Env} {r : R Fl} (h : iterW c b n ρ = some r) (hm : n ≤ m) : iterW c b m ρ = some r := by
  induction hm with
  | refl => exact h
  | step _ ih => exact iterW_mono c b _ ρ r ih
theorem whlS_eq {c : Env → R Bool} {b : Env → R Fl} {n : Nat} {ρ : Env} {r : R Fl} (h : iterW c b n ρ = some r) : whlS c b ρ = r := by
  unfold whlS
  have hx : ∃ n r, iterW c b n ρ = some r := ⟨n, r, h⟩
  rw [dif_pos hx]
  have q := hx.choose_spec.choose_spec
  have q1 := iterW_le q (Nat.le_max_left hx.choose n)
  have q2 := iterW_le h (Nat.le_max_right hx.choose n)
  rw [q1] at q2
  exact Option.some.inj q2
theorem whlS_iter {c : Env → R Bool} {b : Env → R Fl} {ρ : Env} (h : whlS c b ρ ≠ .bad) : ∃ n, iterW c b n ρ = some (whlS c b ρ) := by
  by_cases hx : ∃ n r, iterW c b n ρ = some r
  · obtain ⟨n, r, q⟩ := hx
    exact ⟨n, by rw [q, whlS_eq q]⟩
  · exfalso
    apply h
    unfold whlS
    rw [dif_neg hx]
theorem whlS_unfold (c : Env → R Bool) (b : Env → R Fl) (ρ : Env) : whlS c b ρ = match c ρ with
    | .ok true ρ1 => (match b ρ1 with
      | .ok .nx ρ2 => whlS c b ρ2
      | .ok .ct ρ2 => whlS c b ρ2
      | .ok .brk ρ2 => .ok .nx ρ2
      | .ok (.ret o) ρ2 => .ok (.ret o) ρ2
      | .exc x ρ2 => .exc x ρ2
      | .bad => .bad)
    | .ok false ρ1 => .ok .nx ρ1
    | .exc x ρ1 => .exc x ρ1
    | .bad => .bad := by
  have step : ∀ r, (∃ n, iterW c b (n + 1) ρ = some r) → whlS c b ρ = r := fun r ⟨n, h⟩ => whlS_eq h
  cases hc : c ρ with
  | bad => exact step _ ⟨0, by simp [iterW, hc]⟩
  | exc x ρ1 => exact step _ ⟨0, by simp [iterW, hc]⟩
  | ok t ρ1 =>
    cases t with
    | false => exact step _ ⟨0, by simp [iterW, hc]⟩
    | true =>
      cases hb : b ρ1 with
      | bad => exact step _ ⟨0, by simp [iterW, hc, hb]⟩
      | exc x ρ2 => exact step _ ⟨0, by simp [iterW, hc, hb]⟩
      | ok fl ρ2 =>
        cases fl with
        | brk => exact step _ ⟨0, by simp [iterW, hc, hb]⟩
        | ret o => exact step _ ⟨0, by simp [iterW, hc, hb]⟩
        | nx =>
          by_cases hx : ∃ n r, iterW c b n ρ2 = some r
          · obtain ⟨n, r, q⟩ := hx
            simp only [hb]
            rw [whlS_eq q]
            exact step _ ⟨n, by simp [iterW, hc, hb, q]⟩
          · have e2 : whlS c b ρ2 = .bad := by unfold whlS; rw [dif_neg hx]
            simp only [hb]
            rw [e2]
            unfold whlS
            rw [dif_neg]
            rintro ⟨n, r, q⟩
            cases n with
            | zero => simp [iterW] at q
            | succ n => exact hx ⟨n, r, by simpa [iterW, hc, hb] using q⟩
        | ct =>
          by_cases hx : ∃ n r, iterW c b n ρ2 = some r
          · obtain ⟨n, r, q⟩ := hx
            simp only [hb]
            rw [whlS_eq q]
            exact step _ ⟨n, by simp [iterW, hc, hb, q]⟩
          · have e2 : whlS c b ρ2 = .bad := by unfold whlS; rw [dif_neg hx]
            simp only [hb]
            rw [e2]
            unfold whlS
            rw [dif_neg]
            rintro ⟨n, r, q⟩
            cases n with
            | zero => simp [iterW] at q
            | succ n => exact hx ⟨n, r, by simpa [iterW, hc, hb] using q⟩
def pairsD : D → D → Option (List D)
  | .list l, .list m => some ((l.zip m).map fun p => .tuple [p.1, p.2])
  | .tuple l, .tuple m => some ((l.zip m).map fun p => .tuple [p.1, p.2])
  | _, _ => none
def enumFrom (n : Nat) : List D → List D
  | [] => []
  | d :: l => .tuple [.int n, d] :: enumFrom (n + 1) l
def rng (lo : Int) (n : Nat) : List D := (List.range n).map fun (k : Nat) => .int (lo + (k : Int))
def range1D : D → Option (List D)
  | .int j => if -(2 ^ 62) ≤ j ∧ j < 2 ^ 62 then some (rng 0 j.toNat) else none
  | _ => none
def range2D : D → D → Option (List D)
  | .int i, .int j => if -(2 ^ 62) ≤ i ∧ i < 2 ^ 62 ∧ -(2 ^ 62) ≤ j ∧ j < 2 ^ 62 then some (rng i (j - i).toNat) else none
  | _, _ => none
/-- list(the script) -/
def scrO : O → Option O
  | .scr l => some (.box (l.map fun i => .frz (.int i)))
  | _ => none
/-- tuple(range(..)) -/
def tupRgD : D → Option D
  | .int j => if -(2 ^ 62) ≤ j ∧ j ≤ 16777216 then some (.tuple (rng 0 j.toNat)) else none
  | _ => none
/-- list(range(..)) -/
def lrg1D : D → Option O
  | .int j => if -(2 ^ 62) ≤ j ∧ j ≤ 16777216 then some (.box ((rng 0 j.toNat).map .frz)) else none
  | _ => none
def lrg2D : D → D → Option O
  | .int i, .int j => if -(2 ^ 62) ≤ i ∧ i < 2 ^ 62 ∧ -(2 ^ 62) ≤ j ∧ j < 2 ^ 62 ∧ (j - i).toNat ≤ line then some (.box ((rng i (j - i).toNat).map .frz)) else none
  | _, _ => none
def keyD : L2.Key → D
  | .inl i => .int i
  | .inr x => .str x
def dctD (ks : List L2.Key) (l : List D) : Option D := if ks.Nodup ∧ ks.length ≤ 15 ∧ l.length = ks.length then some (.dict ((ks.map keyD).zip l)) else none
def partD : D → Option (Option Int)
  | .int i => some (some i)
  | _ => none
mutual
def Qx.sem : Qx → Env → Option Int
  | .v i, ρ => match ρ[i]? with
    | some (some (.frz (.int k))) => some k
    | _ => none
  | .int i, _ => some i
  | .add a b, ρ => match a.sem ρ, b.sem ρ with
    | some i, some j => some (i + j)
    | _, _ => none
  | .sub a b, ρ => match a.sem ρ, b.sem ρ with
    | some i, some j => some (i - j)
    | _, _ => none
  | .neg a, ρ => match a.sem ρ with
    | some i => some (-i)
    | none => none
  | .p p, ρ => match p.sem ρ with
    | some (s, l) => (match ldV s ρ with
      | some o => (match lookP o l with
        | some (.frz (.int k)) => some k
        | _ => none)
      | none => none)
    | none => none
def P.sem : P → Env → Option (Nat × List D)
  | .v s, _ => some (s, [])
  | .ix p q, ρ => match p.sem ρ, q.sem ρ with
    | some (s, l), some i => some (s, l ++ [.int i])
    | _, _ => none
end
def memO (n : Bool) (d : D) : O → Option Bool
  | .frz e => match itemsD e with
    | some l => if memOk d l then some (if n then !memD d l else memD d l) else none
    | none => none
  | .box l => if cleans l && memOk d (fzs l) then some (if n then !memD d (fzs l) else memD d (fzs l)) else none
  | .scr _ => none
def eqO (n : Bool) (o : O) (e : D) : Option D := if o.clean then cmpD (if n then .ne else .eq) o.fz e else none
def listD : D → Option (List D)
  | .list l => some l
  | _ => none
def isNoneD : D → Bool
  | .none => true
  | _ => false
def boolD : D → Option Bool
  | .bool b => some b
  | _ => none
mutual
noncomputable def E.sem (Φ : Tab) : E → Env → R D
  | .v i, ρ => rdV i ρ
  | .int i, ρ => .ok (.int i) ρ
  | .bl b, ρ => .ok (.bool b) ρ
  | .non, ρ => .ok .none ρ
  | .str s, ρ => .ok (.str s) ρ
  | .glob k, ρ => R.of Φ.gl[k]? ρ
  | .tup es, ρ => (es.sem Φ ρ).bind fun l ρ => if l.length ≤ line then .ok (.tuple l) ρ else .bad
  | .dct ks es, ρ => (es.sem Φ ρ).bind fun l ρ => R.of (dctD ks l) ρ
  | .ix o i, ρ => (o.sem Φ ρ).bind fun d ρ => (i.sem Φ ρ).bind fun k ρ => R.of (ixD d k) ρ
  | .ix1 s i, ρ => if (ldV s ρ).isSome then (i.sem Φ ρ).bind fun k ρ => rdP s [k] ρ else .bad
  | .pix p, ρ => (R.of (p.sem ρ) ρ).bind fun l ρ => rdP l.1 l.2 ρ
  | .plen p, ρ => (R.of (p.sem ρ) ρ).bind fun l ρ => lenP l.1 l.2 ρ
  | .ofF f, ρ => (f.sem Φ ρ).bind fun o ρ => if o.clean then .ok o.fz ρ else .bad
  | .neg a, ρ => (a.sem Φ ρ).bind fun d ρ => R.of (negD d) ρ
  | .not a, ρ => (a.sem Φ ρ).bind fun d ρ => R.of (notD d) ρ
  | .op o a b, ρ => (a.sem Φ ρ).bind fun d ρ => (b.sem Φ ρ).bind fun e ρ => R.of (opD o d e) ρ
  | .cmp o a b, ρ => (a.sem Φ ρ).bind fun d ρ => (b.sem Φ ρ).bind fun e ρ => R.of (cmpD o d e) ρ
  | .memS n a s, ρ => (a.sem Φ ρ).bind fun d ρ => R.of (((ldV s ρ).bind (memO n d)).map .bool) ρ
  | .eqS n s b, ρ => if (ldV s ρ).isSome then (b.sem Φ ρ).bind fun e ρ => R.of ((ldV s ρ).bind fun o => eqO n o e) ρ else .bad
  | .chain o p a b c, ρ => (a.sem Φ ρ).bind fun d ρ => (b.sem Φ ρ).bind fun e ρ => (R.of ((cmpD o d e).bind boolD) ρ).bind fun t ρ =>
      if t then (c.sem Φ ρ).bind fun f ρ => R.of (cmpD p e f) ρ else .ok (.bool false) ρ
  | .isN n a, ρ => (a.sem Φ ρ).bind fun d ρ => .ok (.bool (if n then !isNoneD d else isNoneD d)) ρ
  | .isB n a b, ρ => (a.sem Φ ρ).bind fun d ρ => R.of ((boolD d).map fun c => .bool (if n then c != b else c == b)) ρ
  | .and a b, ρ => (a.sem Φ ρ).bind fun d ρ => (R.of (boolD d) ρ).bind fun t ρ => if t then b.sem Φ ρ else .ok (.bool false) ρ
  | .or a b, ρ => (a.sem Φ ρ).bind fun d ρ => (R.of (boolD d) ρ).bind fun t ρ => if t then .ok (.bool true) ρ else b.sem Φ ρ
  | .ife t a b, ρ => (t.sem Φ ρ).bind fun c ρ => if c then a.sem Φ ρ else b.sem Φ ρ
  | .b1 f a, ρ => (a.sem Φ ρ).bind fun d ρ => R.of (b1D f d) ρ
  | .b2 f a b, ρ => (a.sem Φ ρ).bind fun d ρ => (b.sem Φ ρ).bind fun e ρ => R.of (b2D f d e) ρ
  | .isi a ks, ρ => (a.sem Φ ρ).bind fun d ρ => .ok (.bool (ks.any (isK d))) ρ
  | .lset a, ρ => (a.sem Φ ρ).bind fun d ρ => R.of (lsetD d) ρ
  | .tupRg a, ρ => (a.sem Φ ρ).bind fun d ρ => R.of (tupRgD d) ρ
noncomputable def Es.sem (Φ : Tab) : Es → Env → R (List D)
  | .nil, ρ => .ok [] ρ
  | .cons e es, ρ => (e.sem Φ ρ).bind fun d ρ => (es.sem Φ ρ).bind fun l ρ => .ok (d :: l) ρ
noncomputable def F.sem (Φ : Tab) : F → Env → R O
  | .ofE e, ρ => (e.sem Φ ρ).bind fun d ρ => .ok (.frz d) ρ
  | .mv i, ρ => mvV i ρ
  | .lst fs, ρ => (fs.sem Φ ρ).bind fun l ρ => if l.length ≤ line then .ok (.box l) ρ else .bad
  | .add a b, ρ => (a.sem Φ ρ).bind fun d ρ => (b.sem Φ ρ).bind fun e ρ => R.of (addO d e) ρ
  | .mul a b, ρ => (a.sem Φ ρ).bind fun d ρ => (b.sem Φ ρ).bind fun e ρ => R.of (mulO d e) ρ
  | .slice o lo hi, ρ => (o.sem Φ ρ).bind fun d ρ => (lo.sem Φ ρ).bind fun l ρ => (hi.sem Φ ρ).bind fun h ρ => R.of (sliceO d l h) ρ
  | .cut s lo hi, ρ => if (ldV s ρ).isSome then (lo.sem Φ ρ).bind fun l ρ => (hi.sem Φ ρ).bind fun h ρ => R.of ((ldV s ρ).bind fun o => cutO o l h) ρ else .bad
  | .list e, ρ => (e.sem Φ ρ).bind fun d ρ => R.of (listO d) ρ
  | .rev e, ρ => (e.sem Φ ρ).bind fun d ρ => R.of (revO d) ρ
  | .listv s, ρ => R.of ((ldV s ρ).bind scrO) ρ
  | .sort a, ρ => (a.sem Φ ρ).bind fun d ρ => R.of (sortO d) ρ
  | .sortS a, ρ => (a.sem Φ ρ).bind fun d ρ => R.of (sortSO d) ρ
  | .revL a, ρ => (a.sem Φ ρ).bind fun d ρ => R.of (revX d) ρ
  | .lrg1 a, ρ => (a.sem Φ ρ).bind fun d ρ => R.of (lrg1D d) ρ
  | .lrg2 a b, ρ => (a.sem Φ ρ).bind fun d ρ => (b.sem Φ ρ).bind fun e ρ => R.of (lrg2D d e) ρ
  | .call k as, ρ => (as.sem Φ ρ).bind fun l ρ => callF Φ k l ρ
  | .comp t it c e own, ρ => (it.sem Φ ρ).bind fun ds ρ => (compL own (asgT t) (c.sem Φ) (e.sem Φ) ds (wipeE own ρ)).bind fun l ρ' => if l.length ≤ line then .ok (.box l) (keepE own ρ ρ') else .bad
  | .pop s, ρ => mdP popF s [] ρ
  | .popAt s i, ρ => if isBox s ρ then (i.sem Φ ρ).bind fun k ρ => mdP (popAtF k) s [] ρ else .bad
noncomputable def Pt.sem (Φ : Tab) : Pt → Env → R (Option Int)
  | .none, ρ => .ok Option.none ρ
  | .some e, ρ => (e.sem Φ ρ).bind fun d ρ => R.of (partD d) ρ
noncomputable def Fs.sem (Φ : Tab) : Fs → Env → R (List O)
  | .nil, ρ => .ok [] ρ
  | .cons f fs, ρ => (f.sem Φ ρ).bind fun o ρ => (fs.sem Φ ρ).bind fun l ρ => .ok (o :: l) ρ
noncomputable def As.sem (Φ : Tab) : As → Env → R (List Ag)
  | .nil, ρ => .ok [] ρ
  | .e a as, ρ => (a.sem Φ ρ).bind fun d ρ => (as.sem Φ ρ).bind fun l ρ => .ok (.d d :: l) ρ
  | .r s as, ρ => if (ldV s ρ).isSome then (as.sem Φ ρ).bind fun l ρ => .ok (.r s :: l) ρ else .bad
  | .b s as, ρ => if (ldV s ρ).isSome then (as.sem Φ ρ).bind fun l ρ => .ok (.b s :: l) ρ else .bad
noncomputable def T.sem (Φ : Tab) : T → Env → R Bool
  | .cmp o a b, ρ => (a.sem Φ ρ).bind fun d ρ => (b.sem Φ ρ).bind fun e ρ => R.of ((cmpD o d e).bind boolD) ρ
  | .memS n a s, ρ => (a.sem Φ ρ).bind fun d ρ => R.of ((ldV s ρ).bind (memO n d)) ρ
  | .eqS n s b, ρ => if (ldV s ρ).isSome then (b.sem Φ ρ).bind fun e ρ => R.of ((ldV s ρ).bind fun o => (eqO n o e).bind boolD) ρ else .bad
  | .chain o p a b c, ρ => (a.sem Φ ρ).bind fun d ρ => (b.sem Φ ρ).bind fun e ρ => (R.of ((cmpD o d e).bind boolD) ρ).bind fun t ρ =>
      if t then (c.sem Φ ρ).bind fun f ρ => R.of ((cmpD p e f).bind boolD) ρ else .ok false ρ
  | .isN n a, ρ => (a.sem Φ ρ).bind fun d ρ => .ok (if n then !isNoneD d else isNoneD d) ρ
  | .isB n a b, ρ => (a.sem Φ ρ).bind fun d ρ => R.of ((boolD d).map fun c => if n then c != b else c == b) ρ
  | .and a b, ρ => (a.sem Φ ρ).bind fun t ρ => if t then b.sem Φ ρ else .ok false ρ
  | .or a b, ρ => (a.sem Φ ρ).bind fun t ρ => if t then .ok true ρ else b.sem Φ ρ
  | .not a, ρ => (a.sem Φ ρ).bind fun t ρ => .ok (!t) ρ
  | .tru e, ρ => (e.sem Φ ρ).bind fun d ρ => R.of (truD d) ρ
noncomputable def Ts.sem (Φ : Tab) : Ts → Env → R Bool
  | .nil, ρ => .ok true ρ
  | .one t, ρ => t.sem Φ ρ
noncomputable def I.sem (Φ : Tab) : I → Env → R (List D)
  | .seq e, ρ => (e.sem Φ ρ).bind fun d ρ => R.of (itemsD d) ρ
  | .range1 a, ρ => (a.sem Φ ρ).bind fun d ρ => R.of (range1D d) ρ
  | .range2 a b, ρ => (a.sem Φ ρ).bind fun d ρ => (b.sem Φ ρ).bind fun e ρ => R.of (range2D d e) ρ
  | .enum e, ρ => (e.sem Φ ρ).bind fun d ρ => R.of ((listD d).map (enumFrom 0)) ρ
  | .zip a b, ρ => (a.sem Φ ρ).bind fun d ρ => (b.sem Φ ρ).bind fun e ρ => R.of (pairsD d e) ρ
noncomputable def S.sem (Φ : Tab) : S → Env → R Fl
  | .set i f, ρ => (f.sem Φ ρ).bind fun o ρ => .ok .nx (putO ρ i o)
  | .unpack is e, ρ => (e.sem Φ ρ).bind fun d ρ => match asgT (.tup is) d ρ with
    | some ρ => .ok .nx ρ
    | none => .bad
  | .par i j a b, ρ => (a.sem Φ ρ).bind fun d ρ => (b.sem Φ ρ).bind fun e ρ => .ok .nx (putO (putO ρ i (.frz d)) j (.frz e))
  | .store s i f, ρ => (f.sem Φ ρ).bind fun o ρ => if isBox s ρ then (i.sem Φ ρ).bind fun k ρ => (mdP (storeF k o) s [] ρ).bind fun _ ρ => .ok .nx ρ else .bad
  | .storeP p q f, ρ => (f.sem Φ ρ).bind fun o ρ => (R.of (p.sem ρ) ρ).bind fun l ρ => (R.of (q.sem ρ) ρ).bind fun k ρ => (mdP (storeF (.int k) o) l.1 l.2 ρ).bind fun _ ρ => .ok .nx ρ
  | .par3 i j k a b c, ρ => (a.sem Φ ρ).bind fun d ρ => (b.sem Φ ρ).bind fun e ρ => (c.sem Φ ρ).bind fun f ρ => .ok .nx (putO (putO (putO ρ i (.frz d)) j (.frz e)) k (.frz f))
  | .insert s i a, ρ => if isBox s ρ then (i.sem Φ ρ).bind fun k ρ => (a.sem Φ ρ).bind fun d ρ => (mdP (insF k d) s [] ρ).bind fun _ ρ => .ok .nx ρ else .bad
  | .append s f, ρ => if isBox s ρ then (f.sem Φ ρ).bind fun o ρ => (mdP (appF o) s [] ρ).bind fun _ ρ => .ok .nx ρ else .bad
  | .extend s e, ρ => if isBox s ρ then (e.sem Φ ρ).bind fun d ρ => (R.of (listD d) ρ).bind fun ds ρ => (mdP (extF ds) s [] ρ).bind fun _ ρ => .ok .nx ρ else .bad
  | .reverse s, ρ => (mdP revF s [] ρ).bind fun _ ρ => .ok .nx ρ
  | .expr f, ρ => (f.sem Φ ρ).bind fun _ ρ => .ok .nx ρ
  | .aug i e, ρ => match ρ[i]? with
    | some (some (.frz (.int x))) => (e.sem Φ ρ).bind fun d ρ => match d with
      | .int y => .ok .nx (putO ρ i (.frz (.int (x + y))))
      | _ => .bad
    | _ => .bad
  | .ite t a b, ρ => (t.sem Φ ρ).bind fun c ρ => if c then a.sem Φ ρ else b.sem Φ ρ
  | .loop t it b, ρ => (it.sem Φ ρ).bind fun ds ρ => loopL (asgT t) (b.sem Φ) ds ρ
  | .whl t b, ρ => whlS (t.sem Φ) (b.sem Φ) ρ
  | .ret f, ρ => (f.sem Φ ρ).bind fun o ρ => .ok (.ret o) ρ
  | .retN, ρ => .ok (.ret (.frz .none)) ρ
  | .pass, ρ => .ok .nx ρ
  | .brk, ρ => .ok .brk ρ
  | .ct, ρ => .ok .ct ρ
  | .never, _ => .bad
noncomputable def Ss.sem (Φ : Tab) : Ss → Env → R Fl
  | .nil, ρ => .ok .nx ρ
  | .cons s ss, ρ => (s.sem Φ ρ).bind fun fl ρ => match fl with
    | .nx => ss.sem Φ ρ
    | fl => .ok fl ρ
end
end Tr
set_option Elab.async false
set_option linter.all false
set_option maxRecDepth 100000
set_option maxHeartbeats 4000000
/-! TrB: how trees lie in the abstract heap; what stays and what is owned. -/
namespace Tr
open PySem PySem.Spec PyProof.Rows L2

/-- data that stays, in the part Hf of the heap that stays -/
inductive Rep (K : PySem.W.Frag) (H : Hp) : V → D → Prop
  | non : Rep K H .non .none
  | bl (b : Bool) : Rep K H (.bl b) (.bool b)
  | int (i : Int) : Rep K H (.int i) (.int i)
  | str (x : Str) : Rep K H (.str x) (.str x)
  | lst {a : Addr} {xs : List V} {l : List D} (h : H a = some (.lst xs)) (n : xs.length = l.length) (it : ∀ (i : Nat) (v : V) (d : D), xs[i]? = some v → l[i]? = some d → Rep K H v d) : Rep K H (.ref a) (.list l)
  | tup {a : Addr} {xs : List V} {l : List D} (h : SqT K H a xs) (n : xs.length = l.length) (it : ∀ (i : Nat) (v : V) (d : D), xs[i]? = some v → l[i]? = some d → Rep K H v d) : Rep K H (.ref a) (.tuple l)
  | dct {a : Addr} {kvs : List (Key × V)} {l : List (D × D)} (h : H a = some (.dK kvs)) (n : kvs.length = l.length) (ks : l.map (·.1) = kvs.map fun p => keyD p.1) (it : ∀ (i : Nat) (p : Key × V) (q : D × D), kvs[i]? = some p → l[i]? = some q → Rep K H p.2 q.2) : Rep K H (.ref a) (.dict l)
theorem Same.seqT {K : PySem.W.Frag} {H H' : Hp} {a : Addr} {xs : List V} (e : Same H H') (h : SqT K H a xs) : SqT K H' a xs := by
  rcases h with (h | ⟨o, h⟩) | h
  · exact .inl (.inl (e _ _ h))
  · exact .inl (.inr ⟨o, e _ _ h⟩)
  · exact .inr h
theorem Rep.mono {K : PySem.W.Frag} {H H' : Hp} (e : Same H H') {v : V} {d : D} (h : Rep K H v d) : Rep K H' v d := by
  induction h with
  | non => exact .non
  | bl b => exact .bl b
  | int i => exact .int i
  | str x => exact .str x
  | lst h n _ ih => exact .lst (e _ _ h) n ih
  | tup h n _ ih => exact .tup (Same.seqT e h) n ih
  | dct h n ks _ ih => exact .dct (e _ _ h) n ks ih

/-- what is owned: T bounds its addresses -/
inductive Own (K : PySem.W.Frag) (Hf H : Hp) : V → O → (Addr → Prop) → Prop
  | frz {v : V} {d : D} {T : Addr → Prop} (h : Rep K Hf v d) : Own K Hf H v (.frz d) T
  | box {a : Addr} {xs : List V} {l : List O} {T : Addr → Prop} (U : Nat → Addr → Prop) (h : H a = some (.lst xs)) (nf : Hf a = none) (ta : T a) (n : xs.length = l.length)
      (it : ∀ (i : Nat) (v : V) (o : O), xs[i]? = some v → l[i]? = some o → Own K Hf H v o (U i)) (dj : ∀ (i j : Nat) (b : Addr), i ≠ j → U i b → ¬ U j b) (sub : ∀ (i : Nat) (b : Addr), U i b → T b ∧ b ≠ a) : Own K Hf H (.ref a) (.box l) T
  | scr {a : Addr} {l : List Int} {T : Addr → Prop} (h : SqL K Hf a (l.map V.int)) : Own K Hf H (.ref a) (.scr l) T
theorem Own.wide {K : PySem.W.Frag} {Hf H : Hp} {v : V} {o : O} {T T' : Addr → Prop} (h : Own K Hf H v o T) (s : ∀ b, T b → T' b) : Own K Hf H v o T' := by
  cases h with
  | frz h => exact .frz h
  | box U h nf ta n it dj sub => exact .box U h nf (s _ ta) n it dj fun i b q => ⟨s b (sub i b q).1, (sub i b q).2⟩
  | scr h => exact .scr h
theorem Own.keep {K : PySem.W.Frag} {Hf H Hf' H' : Hp} (e : Same Hf Hf') {v : V} {o : O} {T : Addr → Prop} (h : Own K Hf H v o T) :
    (∀ b u, T b → H b = some u → H' b = some u) → (∀ b u, T b → H b = some u → Hf b = none → Hf' b = none) → Own K Hf' H' v o T := by
  induction h with
  | frz h => exact fun _ _ => .frz (h.mono e)
  | scr h => exact fun _ _ => .scr (Same.seq e h)
  | box U h nf ta n _ dj sub ih =>
    intro k1 k2
    exact .box U (k1 _ _ ta h) (k2 _ _ ta h nf) ta n (fun i v o e1 e2 => ih i v o e1 e2 (fun b u q => k1 b u (sub i b q).1) fun b u q => k2 b u (sub i b q).1) dj sub

/-- the step: what may have changed. F: what was owned, F': what is -/
structure Step (Hf H : Hp) (F : Addr → Prop) (Hf' H' : Hp) (F' : Addr → Prop) : Prop where
  mono : Same Hf Hf'
  dom : ∀ a u, Hf' a = some u → Hf a = some u ∨ H a = none ∨ F a
  frame : ∀ a u, ¬ F a → H a = some u → H' a = some u
  foot : ∀ a, F' a → F a ∨ H a = none
theorem Step.refl {Hf H : Hp} {F : Addr → Prop} : Step Hf H F Hf H F := ⟨fun _ _ h => h, fun _ _ h => .inl h, fun _ _ _ h => h, fun _ h => .inl h⟩
theorem Step.less {Hf H : Hp} {F F' : Addr → Prop} (h : ∀ a, F' a → F a) : Step Hf H F Hf H F' := ⟨fun _ _ h => h, fun _ _ h => .inl h, fun _ _ _ h => h, fun a q => .inl (h a q)⟩
theorem Step.old {Hf H Hf' H' : Hp} {F F' : Addr → Prop} (s : Step Hf H F Hf' H' F') {a : Addr} (h : H' a = none) : F a ∨ H a = none := by
  by_cases hf : F a
  · exact .inl hf
  · right
    cases q : H a with
    | none => rfl
    | some u => rw [s.frame a u hf q] at h; cases h
theorem Step.trans {Hf H Hf1 H1 Hf2 H2 : Hp} {F F1 F2 : Addr → Prop} (s : Step Hf H F Hf1 H1 F1) (t : Step Hf1 H1 F1 Hf2 H2 F2) : Step Hf H F Hf2 H2 F2 where
  mono := fun a u h => t.mono a u (s.mono a u h)
  dom := fun a u h => by
    rcases t.dom a u h with q | q | q
    · exact s.dom a u q
    · exact .inr ((s.old q).symm)
    · exact .inr ((s.foot a q).symm)
  frame := fun a u n h => t.frame a u (fun q => (s.foot a q).elim n fun z => by rw [h] at z; cases z) (s.frame a u n h)
  foot := fun a h => by
    rcases t.foot a h with q | q
    · exact s.foot a q
    · exact s.old q
/-- an owned thing beside is not touched -/
theorem Own.step {K : PySem.W.Frag} {Hf H Hf' H' : Hp} {F F' T : Addr → Prop} {v : V} {o : O} (s : Step Hf H F Hf' H' F') (h : Own K Hf H v o T) (d : ∀ b, T b → ¬ F b) : Own K Hf' H' v o T :=
  h.keep s.mono (fun b u t q => s.frame b u (d b t) q) fun b u t q n => by
    cases e : Hf' b with
    | none => rfl
    | some w =>
      rcases s.dom b w e with z | z | z
      · rw [n] at z; cases z
      · rw [q] at z; cases z
      · exact (d b t z).elim

def foot (U : Nat → Addr → Prop) : Addr → Prop := fun b => ∃ i, U i b
/-- the names' slots σ hold what ρ says; U: what each owns -/
structure Rel (K : PySem.W.Frag) (Hf H : Hp) (ρ : Env) (σ : L2.St) (U : Nat → Addr → Prop) : Prop where
  sub : Same Hf H
  len : ρ.length = σ.length
  own : ∀ (i : Nat) (o : O), ρ[i]? = some (some o) → ∃ v, σ[i]? = some (some v) ∧ Own K Hf H v o (U i)
  dj : ∀ (i j : Nat) (b : Addr), i ≠ j → U i b → ¬ U j b
  alive : ∀ (i : Nat) (b : Addr), U i b → H b ≠ none
section
variable {K : PySem.W.Frag} {Hf H Hf' H' : Hp} {ρ ρ' : Env} {σ : L2.St} {U U' : Nat → Addr → Prop} {v : V} {o : O} {d : D} {T : Addr → Prop} {i : Nat}
def updU (U : Nat → Addr → Prop) (i : Nat) (T : Addr → Prop) : Nat → Addr → Prop := fun j => if j = i then T else U j
theorem updU_same : updU U i T i = T := by unfold updU; rw [if_pos rfl]
theorem updU_ne {j : Nat} (h : j ≠ i) : updU U i T j = U j := by unfold updU; rw [if_neg h]
theorem updU_dj (dj : ∀ (i j : Nat) (b : Addr), i ≠ j → U i b → ¬ U j b) (h : ∀ b, T b → ¬ ∃ j, j ≠ i ∧ U j b) : ∀ (j k : Nat) (b : Addr), j ≠ k → updU U i T j b → ¬ updU U i T k b := by
  intro j k b hne h1 h2
  by_cases hj : j = i
  · subst hj
    rw [updU_same] at h1
    rw [updU_ne (Ne.symm hne)] at h2
    exact h b h1 ⟨k, Ne.symm hne, h2⟩
  · rw [updU_ne hj] at h1
    by_cases hk : k = i
    · subst hk
      rw [updU_same] at h2
      exact h b h2 ⟨j, hj, h1⟩
    · rw [updU_ne hk] at h2
      exact dj j k b hne h1 h2
theorem updU_alive (al : ∀ (i : Nat) (b : Addr), U i b → H b ≠ none) (h : ∀ b, T b → H b ≠ none) : ∀ (j : Nat) (b : Addr), updU U i T j b → H b ≠ none := fun j b q => by
  by_cases e : j = i
  · subst e; rw [updU_same] at q; exact h b q
  · rw [updU_ne e] at q; exact al j b q
theorem set_get {α : Type} {l : List α} {i j : Nat} {x y : α} (h : (l.set i x)[j]? = some y) : (j = i ∧ y = x) ∨ (j ≠ i ∧ l[j]? = some y) := by
  by_cases e : i = j
  · subst e
    left
    by_cases hl : i < l.length
    · rw [List.getElem?_set_self hl] at h
      exact ⟨rfl, (Option.some.inj h).symm⟩
    · rw [List.getElem?_eq_none (by rw [List.length_set]; omega)] at h
      cases h
  · right
    rw [List.getElem?_set_ne e] at h
    exact ⟨Ne.symm e, h⟩
/-- a slot of the environment and of the values is set -/
theorem Rel.put (R : Rel K Hf H ρ σ U) (h : Own K Hf H v o T) (t : ∀ b, T b → ¬ ∃ j, j ≠ i ∧ U j b) (al : ∀ b, T b → H b ≠ none) : Rel K Hf H (ρ.set i (some o)) (σ.set i (some v)) (updU U i T) := by
  refine ⟨R.sub, by rw [List.length_set, List.length_set, R.len], fun j o' e => ?_, updU_dj R.dj t, updU_alive R.alive al⟩
  rcases set_get e with ⟨rfl, e1⟩ | ⟨ne, e2⟩
  · cases e1
    have hi : j < σ.length := by
      have q := (List.getElem?_eq_some_iff.mp e).1
      rw [List.length_set, R.len] at q
      exact q
    exact ⟨v, List.getElem?_set_self hi, by rw [updU_same]; exact h⟩
  · obtain ⟨w, h1, h2⟩ := R.own j o' e2
    exact ⟨w, by rw [List.getElem?_set_ne (Ne.symm ne)]; exact h1, by rw [updU_ne ne]; exact h2⟩
/-- only what ρ says of a slot is changed -/
theorem Rel.re (R : Rel K Hf H ρ σ U) (hv : σ[i]? = some (some v)) (h : Own K Hf H v o T) (t : ∀ b, T b → ¬ ∃ j, j ≠ i ∧ U j b) (al : ∀ b, T b → H b ≠ none) : Rel K Hf H (ρ.set i (some o)) σ (updU U i T) := by
  refine ⟨R.sub, by rw [List.length_set, R.len], fun j o' e => ?_, updU_dj R.dj t, updU_alive R.alive al⟩
  rcases set_get e with ⟨rfl, e1⟩ | ⟨ne, e⟩
  · cases e1
    exact ⟨v, hv, by rw [updU_same]; exact h⟩
  · obtain ⟨w, h1, h2⟩ := R.own j o' e
    exact ⟨w, h1, by rw [updU_ne ne]; exact h2⟩
/-- a slot is forgotten (it owns T' or nothing any more) -/
theorem Rel.drop (R : Rel K Hf H ρ σ U) (i : Nat) : Rel K Hf H (ρ.set i none) σ (updU U i fun _ => False) := by
  refine ⟨R.sub, by rw [List.length_set, R.len], fun j o' e => ?_, updU_dj R.dj fun _ q => q.elim, updU_alive R.alive fun _ q => q.elim⟩
  rcases set_get e with ⟨rfl, e1⟩ | ⟨ne, e⟩
  · cases e1
  · obtain ⟨w, h1, h2⟩ := R.own j o' e
    exact ⟨w, h1, by rw [updU_ne ne]; exact h2⟩
theorem foot_updU (h : ∀ b, T b → foot U b) : ∀ b, foot (updU U i T) b → foot U b := fun b ⟨j, q⟩ => by
  by_cases e : j = i
  · subst e; rw [updU_same] at q; exact h b q
  · rw [updU_ne e] at q; exact ⟨j, q⟩

/-! ### a new object -/
theorem upd_mono {H : Hp} {p : Addr} {o : HO} (h : H p = none) : Same H (upd H p o) := fun b u q => by rw [upd_ne (ne_of_none q h)]; exact q
theorem Own.upd {p : Addr} {o' : HO} (hn : H p = none) (h : Own K Hf H v o T) : Own K Hf (L2.upd H p o') v o T :=
  h.keep (fun _ _ q => q) (fun b u _ q => by rw [upd_ne (ne_of_none q hn)]; exact q) fun _ _ _ _ q => q
theorem Own.updB {p : Addr} {o' : HO} (sub : Same Hf H) (hn : H p = none) (h : Own K Hf H v o T) : Own K (L2.upd Hf p o') (L2.upd H p o') v o T :=
  h.keep (upd_mono (sub.free hn)) (fun b u _ q => by rw [upd_ne (ne_of_none q hn)]; exact q) fun b u _ q n => by rw [upd_ne (ne_of_none q hn)]; exact n
theorem Rel.new {p : Addr} {o' : HO} (R : Rel K Hf H ρ σ U) (hn : H p = none) : Rel K Hf (L2.upd H p o') ρ σ U :=
  ⟨fun a u q => upd_mono hn a u (R.sub a u q), R.len, fun i o e => let ⟨v, h1, h2⟩ := R.own i o e; ⟨v, h1, h2.upd hn⟩, R.dj, fun i b q z => by
    by_cases e : b = p
    · subst e; exact R.alive i b q hn
    · rw [upd_ne e] at z; exact R.alive i b q z⟩
theorem Rel.newF {p : Addr} {o' : HO} (R : Rel K Hf H ρ σ U) (hn : H p = none) : Rel K (L2.upd Hf p o') (L2.upd H p o') ρ σ U :=
  ⟨fun a u q => by
    by_cases e : a = p
    · subst e; rw [upd_same] at q ⊢; exact q
    · rw [upd_ne e] at q ⊢; exact R.sub a u q, R.len, fun i o e => let ⟨v, h1, h2⟩ := R.own i o e; ⟨v, h1, h2.updB R.sub hn⟩, R.dj, fun i b q z => by
    by_cases e : b = p
    · subst e; exact R.alive i b q hn
    · rw [upd_ne e] at z; exact R.alive i b q z⟩
theorem Step.new {p : Addr} {o' : HO} {F : Addr → Prop} (hn : H p = none) : Step Hf H F Hf (L2.upd H p o') F :=
  ⟨fun _ _ q => q, fun _ _ q => .inl q, fun a u _ q => upd_mono hn a u q, fun _ q => .inl q⟩
theorem Step.newF {p : Addr} {o' : HO} {F : Addr → Prop} (sub : Same Hf H) (hn : H p = none) : Step Hf H F (L2.upd Hf p o') (L2.upd H p o') F :=
  ⟨upd_mono (sub.free hn), fun a u q => by
    by_cases e : a = p
    · subst e; exact .inr (.inl hn)
    · rw [upd_ne e] at q; exact .inl q, fun a u _ q => upd_mono hn a u q, fun _ q => .inl q⟩

/-! ### freezing: what was owned stays from now on -/
def join (Hf H : Hp) (T : Addr → Prop) [DecidablePred T] : Hp := fun a => if T a then H a else Hf a
open Classical in
noncomputable def joinC (Hf H : Hp) (T : Addr → Prop) : Hp := fun a => if T a then H a else Hf a
theorem joinC_in (h : T a) : joinC Hf H T a = H a := by unfold joinC; rw [if_pos h]
theorem joinC_out (h : ¬ T a) : joinC Hf H T a = Hf a := by unfold joinC; rw [if_neg h]
theorem joinC_same (sub : Same Hf H) : Same Hf (joinC Hf H T) := fun a u h => by
  by_cases t : T a
  · rw [joinC_in t]; exact sub a u h
  · rw [joinC_out t]; exact h
theorem joinC_sub (sub : Same Hf H) : Same (joinC Hf H T) H := fun a u h => by
  by_cases t : T a
  · rw [joinC_in t] at h; exact h
  · rw [joinC_out t] at h; exact sub a u h
theorem Rep.many {l : List O} {xs : List V} (n : xs.length = l.length) (it : ∀ (i : Nat) (v : V) (o : O), xs[i]? = some v → l[i]? = some o → Rep K Hf v o.fz) : ∀ (i : Nat) (v : V) (d : D), xs[i]? = some v → (fzs l)[i]? = some d → Rep K Hf v d := by
  intro i v d h1 h2
  rw [fzs_eq, List.getElem?_map] at h2
  cases e : l[i]? with
  | none => rw [e] at h2; cases h2
  | some o =>
    rw [e] at h2
    cases h2
    exact it i v o h1 e
theorem clean_get : ∀ {l : List O} {i : Nat} {o : O}, cleans l = true → l[i]? = some o → o.clean = true
  | [], i, o, _, e => by simp at e
  | x :: l, 0, o, h, e => by
    have e' : x = o := by simpa using e
    subst e'
    simp only [cleans, Bool.and_eq_true] at h
    exact h.1
  | x :: l, i + 1, o, h, e => by
    simp only [cleans, Bool.and_eq_true] at h
    exact clean_get (i := i) h.2 (by simpa using e)
theorem Own.fz (sub : Same Hf H) (h : Own K Hf H v o T) : o.clean = true → ∀ {T' : Addr → Prop}, (∀ b, T b → T' b) → Rep K (joinC Hf H T') v o.fz := by
  induction h with
  | frz h => exact fun _ _ _ => h.mono (joinC_same sub)
  | scr h => exact fun c => by simp [O.clean] at c
  | @box a xs l T U h nf ta n it dj sb ih =>
    intro c T' s
    simp only [O.clean] at c
    refine .lst (xs := xs) (by rw [joinC_in (s _ ta)]; exact h) (by rw [fzs_eq, List.length_map]; exact n) (Rep.many n fun i v o e1 e2 => ih i v o e1 e2 (clean_get c e2) fun b q => s b (sb i b q).1)
/-- the frozen part grows by T -/
theorem Step.fz (sub : Same Hf H) {F F' : Addr → Prop} (t : ∀ b, T b → F b) (f : ∀ b, F' b → F b) : Step Hf H F (joinC Hf H T) H F' :=
  ⟨joinC_same sub, fun a u h => by
    by_cases q : T a
    · exact .inr (.inr (t a q))
    · rw [joinC_out q] at h; exact .inl h, fun _ _ _ h => h, fun a q => .inl (f a q)⟩
theorem Step.fzT {Hf1 H1 : Hp} {F F1 : Addr → Prop} (S : Step Hf H F Hf1 H1 F1) (sub : Same Hf1 H1) (t : ∀ b, T b → F b ∨ H b = none) : Step Hf H F (joinC Hf1 H1 T) H1 F1 :=
  ⟨fun a u h => joinC_same sub a u (S.mono a u h), fun a u h => by
    by_cases q : T a
    · exact .inr ((t a q).symm)
    · rw [joinC_out q] at h; exact S.dom a u h, S.frame, S.foot⟩
theorem Own.other {T' : Addr → Prop} (sub : Same Hf H) (h : Own K Hf H v o T) (d : ∀ b, T b → ¬ T' b) : Own K (joinC Hf H T') H v o T :=
  h.keep (joinC_same sub) (fun _ _ _ q => q) fun b u t _ n => by rw [joinC_out (d b t)]; exact n
/-- T (owned by nothing of ρ) is frozen -/
theorem Rel.fz (R : Rel K Hf H ρ σ U) (d : ∀ b, T b → ¬ foot U b) : Rel K (joinC Hf H T) H ρ σ U :=
  ⟨joinC_sub R.sub, R.len, fun i o e => by
    obtain ⟨v, h1, h2⟩ := R.own i o e
    exact ⟨v, h1, h2.other R.sub fun b q t => d b t ⟨i, q⟩⟩, R.dj, R.alive⟩
/-- the slot i is frozen -/
theorem Rel.fzAt (R : Rel K Hf H ρ σ U) (e : ρ[i]? = some (some o)) (c : o.clean = true) : ∃ v, σ[i]? = some (some v) ∧ Rep K (joinC Hf H (U i)) v o.fz ∧
    Rel K (joinC Hf H (U i)) H (putO ρ i (.frz o.fz)) σ (updU U i fun _ => False) ∧ Step Hf H (foot U) (joinC Hf H (U i)) H (foot (updU U i fun _ => False)) := by
  obtain ⟨v, h1, h2⟩ := R.own i o e
  have r := h2.fz R.sub c (T' := U i) fun b q => q
  refine ⟨v, h1, r, ?_, Step.fz R.sub (fun b q => ⟨i, q⟩) (foot_updU fun b q => q.elim)⟩
  have R1 := R.drop i
  have R2 : Rel K (joinC Hf H (U i)) H (ρ.set i none) σ (updU U i fun _ => False) := R1.fz fun b q ⟨j, z⟩ => by
    by_cases hj : j = i
    · subst hj; rw [updU_same] at z; exact z
    · rw [updU_ne hj] at z; exact R.dj j i b hj z q
  have R3 := R2.re (i := i) h1 (.frz (T := fun _ => False) r) (fun _ q => q.elim) fun _ q => q.elim
  have e2 : (ρ.set i none).set i (some (.frz o.fz)) = putO ρ i (.frz o.fz) := List.set_set ..
  have e3 : updU (updU U i fun _ => False) i (fun _ => False) = updU U i fun _ => False := by
    funext j
    unfold updU
    split <;> rfl
  rw [e2, e3] at R3
  exact R3
end
end Tr
set_option Elab.async false
set_option linter.all false
set_option maxRecDepth 100000
set_option maxHeartbeats 4000000
/-! TrC: the readings that say «means the same», and the rules for expressions. -/
namespace L2
open PySem PySem.Spec PyProof.Rows
theorem PE.weak {X : Cx} {e : Expr} {t t' : TE} (h : PE X e t) (w : ∀ σ H Q, t' σ H Q → t σ H Q) : PE X e t' := ⟨fun pins s σ H Q I q => h.run pins s σ H Q I (w σ H Q q)⟩
theorem PT.weak {X : Cx} {e : Expr} {t t' : TT} (h : PT X e t) (w : ∀ σ H Q, t' σ H Q → t σ H Q) : PT X e t' := ⟨fun pins s σ H Q I q => h.run pins s σ H Q I (w σ H Q q)⟩
theorem PW.weak {X : Cx} {e : Expr} {t t' : TT} (h : PW X e t) (w : ∀ σ H Q, t' σ H Q → t σ H Q) : PW X e t' := ⟨fun wh pins s σ H Q I q => h.run wh pins s σ H Q I (w σ H Q q)⟩
theorem PA.weak {X : Cx} {e : List Expr} {t t' : TA} (h : PA X e t) (w : ∀ σ H Q, t' σ H Q → t σ H Q) : PA X e t' := ⟨fun pos pins s σ H Q I q => h.run pos pins s σ H Q I (w σ H Q q)⟩
theorem PS.weak {X : Cx} {e : Stmt} {t t' : TS} (h : PS X e t) (w : ∀ D σ H, t' D σ H → t D σ H) : PS X e t' := ⟨fun pins s σ H D I q => h.run pins s σ H D I (w D σ H q)⟩
theorem PSs.weak {X : Cx} {e : List Stmt} {t t' : TS} (h : PSs X e t) (w : ∀ D σ H, t' D σ H → t D σ H) : PSs X e t' := ⟨fun pins s σ H D I q => h.run pins s σ H D I (w D σ H q)⟩
theorem PO.weak {X : Cx} {e : Option Expr} {t t' : TO} (h : PO X e t) (w : ∀ σ H Q, t' σ H Q → t σ H Q) : PO X e t' := ⟨fun pins s σ H Q I q => h.run pins s σ H Q I (w σ H Q q)⟩
end L2
namespace Tr
open PySem PySem.Spec PyProof.Rows L2

abbrev UU := Nat → Addr → Prop
/-- an own error as it lies: its class at C, its fields in the dict d -/
def ExR (K : PySem.W.Frag) (ct : Str → Option Addr) (Hf H : Hp) (x : Ex) (cls : Value) (d : Option Addr) : Prop :=
  ∃ C, ct x.cls = some C ∧ cls = .ref C ∧ ∀ f dd, x.flds = [(f, dd)] → ∃ a v, d = some a ∧ H a = some (.xd [(f, v)]) ∧ Rep K Hf v dd
def EW (K : PySem.W.Frag) (ct : Str → Option Addr) (W : WX) (σ : L2.St) (x : Ex) (ρ : Env) (Hf H : Hp) (U : UU) : Prop :=
  ∀ cls d, ExR K ct Hf H x cls d → W cls d σ H
def Post {α : Type} (K : PySem.W.Frag) (σ : L2.St) (Hf H : Hp) (U : UU) (E : Ex → Env → Hp → Hp → UU → Prop) (k : α → Env → Hp → Hp → UU → Prop) (r : R α) : Prop := match r with
  | .ok a ρ' => ∀ Hf' H' U', Rel K Hf' H' ρ' σ U' → Step Hf H (foot U) Hf' H' (foot U') → k a ρ' Hf' H' U'
  | .exc x ρ' => ∀ Hf' H' U', Rel K Hf' H' ρ' σ U' → Step Hf H (foot U) Hf' H' (foot U') → E x ρ' Hf' H' U'
  | .bad => False
section
variable {α β : Type} {K : PySem.W.Frag} {σ : L2.St} {Hf H : Hp} {U : UU} {E : Ex → Env → Hp → Hp → UU → Prop} {k k' : α → Env → Hp → Hp → UU → Prop} {kb : β → Env → Hp → Hp → UU → Prop} {r : R α} {f : α → Env → R β} {ρ : Env}
theorem Post.mono (h : Post K σ Hf H U E k r) (m : ∀ a ρ' Hf' H' U', r = .ok a ρ' → Rel K Hf' H' ρ' σ U' → Step Hf H (foot U) Hf' H' (foot U') → k a ρ' Hf' H' U' → k' a ρ' Hf' H' U') : Post K σ Hf H U E k' r := by
  cases r with
  | bad => exact h
  | exc x ρ' => exact h
  | ok a ρ' => exact fun Hf' H' U' R S => m a ρ' Hf' H' U' rfl R S (h Hf' H' U' R S)
theorem Post.bnd (h : Post K σ Hf H U E kb (r.bind f)) : Post K σ Hf H U E (fun a ρ1 Hf1 H1 U1 => Post K σ Hf1 H1 U1 E kb (f a ρ1)) r := by
  cases r with
  | bad => exact h
  | exc x ρ' => exact h
  | ok a ρ1 =>
    intro Hf1 H1 U1 R1 S1
    have h : Post K σ Hf H U E kb (f a ρ1) := h
    show Post K σ Hf1 H1 U1 E kb (f a ρ1)
    cases e : f a ρ1 with
    | bad => rw [e] at h; exact h
    | exc x ρ2 => rw [e] at h; exact fun Hf2 H2 U2 R2 S2 => h Hf2 H2 U2 R2 (S1.trans S2)
    | ok b ρ2 => rw [e] at h; exact fun Hf2 H2 U2 R2 S2 => h Hf2 H2 U2 R2 (S1.trans S2)
/-- .. still from the start -/
theorem Post.bnd0 (h : Post K σ Hf H U E kb (r.bind f)) : Post K σ Hf H U E (fun a ρ1 _ _ _ => Post K σ Hf H U E kb (f a ρ1)) r := by
  cases r with
  | bad => exact h
  | exc x ρ' => exact h
  | ok a ρ1 => exact fun Hf1 H1 U1 R1 S1 => h
theorem Post.then0 (h : Post K σ Hf H U E kb (r.bind f)) (m : ∀ a ρ1 Hf1 H1 U1, Rel K Hf1 H1 ρ1 σ U1 → Step Hf H (foot U) Hf1 H1 (foot U1) → Post K σ Hf H U E kb (f a ρ1) → k a ρ1 Hf1 H1 U1) : Post K σ Hf H U E k r :=
  h.bnd0.mono fun a ρ1 Hf1 H1 U1 _ R1 S1 q => m a ρ1 Hf1 H1 U1 R1 S1 q
/-- both at once -/
theorem Post.then (h : Post K σ Hf H U E kb (r.bind f)) (m : ∀ a ρ1 Hf1 H1 U1, Rel K Hf1 H1 ρ1 σ U1 → Step Hf H (foot U) Hf1 H1 (foot U1) → Post K σ Hf1 H1 U1 E kb (f a ρ1) → k a ρ1 Hf1 H1 U1) : Post K σ Hf H U E k r :=
  h.bnd.mono fun a ρ1 Hf1 H1 U1 _ R1 S1 q => m a ρ1 Hf1 H1 U1 R1 S1 q
/-- an answer that is there -/
theorem Post.of {o : Option α} (h : Post K σ Hf H U E k (R.of o ρ)) (R : Rel K Hf H ρ σ U) : ∃ a, o = some a ∧ k a ρ Hf H U := by
  cases o with
  | none => exact h.elim
  | some a => exact ⟨a, rfl, h Hf H U R Step.refl⟩
theorem Post.ok {a : α} (h : Post K σ Hf H U E k (.ok a ρ)) (R : Rel K Hf H ρ σ U) : k a ρ Hf H U := h Hf H U R Step.refl
end

def tE (K : PySem.W.Frag) (ct : Str → Option Addr) (W : WX) (m : Env → R D) : TE := fun σ H Q => ∃ Hf ρ U, Rel K Hf H ρ σ U ∧ Post K σ Hf H U (EW K ct W σ) (fun d _ Hf' H' _ => ∀ v, Rep K Hf' v d → Q v H') (m ρ)
def tT (K : PySem.W.Frag) (ct : Str → Option Addr) (W : WX) (m : Env → R Bool) : TT := fun σ H Q => ∃ Hf ρ U, Rel K Hf H ρ σ U ∧ Post K σ Hf H U (EW K ct W σ) (fun b _ _ H' _ => Q b H') (m ρ)
def tEs (K : PySem.W.Frag) (ct : Str → Option Addr) (W : WX) (m : Env → R (List D)) : TA := fun σ H Q => ∃ Hf ρ U, Rel K Hf H ρ σ U ∧
  Post K σ Hf H U (EW K ct W σ) (fun l _ Hf' H' _ => ∀ vs : List V, vs.length = l.length → (∀ (i : Nat) v d, vs[i]? = some v → l[i]? = some d → Rep K Hf' v d) → Q vs H') (m ρ)
def tF (K : PySem.W.Frag) (ct : Str → Option Addr) (W : WX) (m : Env → R O) : TE := fun σ H Q => ∃ Hf ρ U, Rel K Hf H ρ σ U ∧
  Post K σ Hf H U (EW K ct W σ) (fun o _ Hf' H' U' => ∀ v T, Own K Hf' H' v o T → (∀ b, T b → ¬ foot U' b ∧ H' b ≠ none ∧ (foot U b ∨ H b = none)) → Q v H') (m ρ)
/-- a row of owned things, apart from each other -/
structure Owns (K : PySem.W.Frag) (Hf H : Hp) (vs : List V) (os : List O) (Y : UU) : Prop where
  len : vs.length = os.length
  own : ∀ (i : Nat) v o, vs[i]? = some v → os[i]? = some o → Own K Hf H v o (Y i)
  dj : ∀ (i j : Nat) b, i ≠ j → Y i b → ¬ Y j b
def tFs (K : PySem.W.Frag) (ct : Str → Option Addr) (W : WX) (m : Env → R (List O)) : TA := fun σ H Q => ∃ Hf ρ U, Rel K Hf H ρ σ U ∧
  Post K σ Hf H U (EW K ct W σ) (fun os _ Hf' H' U' => ∀ vs Y, Owns K Hf' H' vs os Y → (∀ i b, Y i b → ¬ foot U' b ∧ H' b ≠ none ∧ (foot U b ∨ H b = none)) → Q vs H') (m ρ)

section
variable {X : Cx} {ct : Str → Option Addr} {W : WX} {a b c : Expr} {ma mb mc : Env → R D} {pos : Pos}
/-- two values, one after the other -/
theorem two {K : PySem.W.Frag} {σ : L2.St} {H : Hp} {Q : VK} {R2' : V → V → Hp → Prop} {g : D → D → Env → R D}
    (h : tE K ct W (fun ρ => (ma ρ).bind fun d ρ => (mb ρ).bind fun e ρ => g d e ρ) σ H Q)
    (m : ∀ d e ρ Hf' H' U' x y, Rel K Hf' H' ρ σ U' → Rep K Hf' x d → Rep K Hf' y e → Post K σ Hf' H' U' (EW K ct W σ) (fun d _ Hf' H' _ => ∀ v, Rep K Hf' v d → Q v H') (g d e ρ) → R2' x y H') :
    tE K ct W ma σ H fun x H1 => tE K ct W mb σ H1 fun y H2 => R2' x y H2 := by
  obtain ⟨Hf, ρ, U, R, p⟩ := h
  refine ⟨Hf, ρ, U, R, p.then fun d ρ1 Hf1 H1 U1 R1 S1 p1 x rx => ⟨Hf1, ρ1, U1, R1, p1.then fun e ρ2 Hf2 H2 U2 R2 S2 p2 y ry => ?_⟩⟩
  exact m d e ρ2 Hf2 H2 U2 x y R2 (rx.mono S2.mono) ry p2
/-- .. by an option -/
theorem twoO {K : PySem.W.Frag} {σ : L2.St} {H : Hp} {Q : VK} {R2' : V → V → Hp → Prop} {g : D → D → Option D}
    (h : tE K ct W (fun ρ => (ma ρ).bind fun d ρ => (mb ρ).bind fun e ρ => R.of (g d e) ρ) σ H Q)
    (m : ∀ d e r Hf' H' x y, Rep K Hf' x d → Rep K Hf' y e → g d e = some r → Same Hf' H' → (∀ v, Rep K Hf' v r → Q v H') → R2' x y H') :
    tE K ct W ma σ H fun x H1 => tE K ct W mb σ H1 fun y H2 => R2' x y H2 :=
  two h fun d e ρ Hf' H' U' x y R rx ry p => by
    obtain ⟨r, e1, q⟩ := p.of R
    exact m d e r Hf' H' x y rx ry e1 R.sub q
theorem oneO {K : PySem.W.Frag} {σ : L2.St} {H : Hp} {Q : VK} {R1' : V → Hp → Prop} {g : D → Option D}
    (h : tE K ct W (fun ρ => (ma ρ).bind fun d ρ => R.of (g d) ρ) σ H Q)
    (m : ∀ d r Hf' H' x, Rep K Hf' x d → g d = some r → Same Hf' H' → (∀ v, Rep K Hf' v r → Q v H') → R1' x H') : tE K ct W ma σ H R1' := by
  obtain ⟨Hf, ρ, U, R, p⟩ := h
  refine ⟨Hf, ρ, U, R, p.then fun d ρ1 Hf1 H1 U1 R1 S1 p1 x rx => ?_⟩
  obtain ⟨r, e1, q⟩ := p1.of R1
  exact m d r Hf1 H1 x rx e1 R1.sub q

/-! ### ints -/
theorem Rep.int_of {K : PySem.W.Frag} {H : Hp} {x : V} {i : Int} (h : Rep K H x (.int i)) : x = .int i := by cases h; rfl
theorem Rep.bool_of {K : PySem.W.Frag} {H : Hp} {x : V} {i : Bool} (h : Rep K H x (.bool i)) : x = .bl i := by cases h; rfl
theorem Rep.str_of {K : PySem.W.Frag} {H : Hp} {x : V} {i : Str} (h : Rep K H x (.str i)) : x = .str i := by cases h; rfl
theorem Rep.none_of {K : PySem.W.Frag} {H : Hp} {x : V} (h : Rep K H x .none) : x = .non := by cases h; rfl
def CDivX (i j : Int) : Prop := j ≠ 0 ∧ j.natAbs.log2 < 9000
theorem op_fdivX : OpR X (binaryOp .FloorDiv) (rI CDivX fun i j => .int (i.fdiv j)) := opI fun _ _ _ _ _ _ _ hc q => floordiv_int hc.1 q (.inl (PyProof.noPylong_of_log2 hc.2))
def bopOp : BOp → Operator
  | .sub => .Sub | .fdiv => .FloorDiv | .mod => .Mod | .pow => .Pow | .shl => .LShift | .shr => .RShift | .band => .BitAnd
theorem e_op (o : BOp) (ha : PE X a (tE X.K ct W ma)) (hb : PE X b (tE X.K ct W mb)) :
    PE X (.BinOp a (bopOp o) b pos) (tE X.K ct W fun ρ => (ma ρ).bind fun d ρ => (mb ρ).bind fun e ρ => R.of (opD o d e) ρ) := by
  cases o with
  | sub =>
    refine (pe_op op_sub ha hb).weak fun σ H Q h => twoO h fun d e r Hf' H' x y rx ry e1 _ q => ?_
    unfold opD at e1
    split at e1 <;> first | cases e1 | skip
    all_goals first | exact ⟨_, _, rx.int_of, ry.int_of, q _ (.int _)⟩ | contradiction
  | fdiv =>
    refine (pe_op op_fdivX ha hb).weak fun σ H Q h => twoO h fun d e r Hf' H' x y rx ry e1 _ q => ?_
    unfold opD at e1
    split at e1 <;> first | contradiction | skip
    split at e1 <;> first | contradiction | skip
    rename_i hc
    cases e1
    exact ⟨_, _, rx.int_of, ry.int_of, hc, q _ (.int _)⟩
  | mod =>
    refine (pe_op op_modN ha hb).weak fun σ H Q h => twoO h fun d e r Hf' H' x y rx ry e1 _ q => ?_
    unfold opD at e1
    split at e1 <;> first | contradiction | skip
    split at e1 <;> first | contradiction | skip
    rename_i hc
    cases e1
    exact ⟨_, _, rx.int_of, ry.int_of, hc, q _ (.int _)⟩
  | pow =>
    refine (pe_op op_pow ha hb).weak fun σ H Q h => twoO h fun d e r Hf' H' x y rx ry e1 _ q => ?_
    unfold opD at e1
    split at e1 <;> first | contradiction | skip
    split at e1 <;> first | contradiction | skip
    rename_i hc
    cases e1
    exact ⟨_, _, rx.int_of, ry.int_of, hc, q _ (.int _)⟩
  | shl =>
    refine (pe_op op_shl ha hb).weak fun σ H Q h => twoO h fun d e r Hf' H' x y rx ry e1 _ q => ?_
    unfold opD at e1
    split at e1 <;> first | contradiction | skip
    split at e1 <;> first | contradiction | skip
    rename_i hc
    cases e1
    exact ⟨_, _, rx.int_of, ry.int_of, hc, q _ (.int _)⟩
  | shr =>
    refine (pe_op op_shr ha hb).weak fun σ H Q h => twoO h fun d e r Hf' H' x y rx ry e1 _ q => ?_
    unfold opD at e1
    split at e1 <;> first | contradiction | skip
    split at e1 <;> first | contradiction | skip
    rename_i hc
    cases e1
    exact ⟨_, _, rx.int_of, ry.int_of, hc, q _ (.int _)⟩
  | band =>
    refine (pe_op op_and ha hb).weak fun σ H Q h => twoO h fun d e r Hf' H' x y rx ry e1 _ q => ?_
    unfold opD at e1
    split at e1 <;> first | contradiction | skip
    cases e1
    exact ⟨_, _, rx.int_of, ry.int_of, q _ (.int _)⟩
theorem e_neg (ha : PE X a (tE X.K ct W ma)) : PE X (.UnaryOp .USub a pos) (tE X.K ct W fun ρ => (ma ρ).bind fun d ρ => R.of (negD d) ρ) := by
  refine (pe_un un_neg ha).weak fun σ H Q h => oneO h fun d r Hf' H' x rx e1 _ q => ?_
  unfold negD at e1
  split at e1 <;> first | contradiction | skip
  cases e1
  exact ⟨_, rx.int_of, q _ (.int _)⟩
end
end Tr
set_option Elab.async false
set_option linter.all false
set_option maxRecDepth 100000
set_option maxHeartbeats 4000000
/-! TrC2: comparisons, truth, built-ins. -/
namespace Tr
open PySem PySem.Spec PyProof.Rows L2

theorem line_eq : sizeLine = line := by decide
/-! ### data read -/
theorem Own.rep {K : PySem.W.Frag} {Hf H : Hp} {v : V} {o : O} {T : Addr → Prop} (h : Own K Hf H v o T) (sub : Same Hf H) : o.clean = true → Rep K H v o.fz := by
  induction h with
  | frz h => exact fun _ => h.mono sub
  | scr h => exact fun c => by simp [O.clean] at c
  | box U h nf ta n it dj sb ih =>
    intro c
    simp only [O.clean] at c
    exact .lst h (by rw [fzs_eq, List.length_map]; exact n) (Rep.many n fun i v o e1 e2 => ih i v o e1 e2 (clean_get c e2))
theorem dpAll_of {K : PySem.W.Frag} {H : Hp} : ∀ {xs : List V} {l : List D}, xs.length = l.length → (∀ (i : Nat) v d, xs[i]? = some v → l[i]? = some d → Dp K H v d) → DpAll K H xs l
  | [], [], _, _ => .nil
  | v :: xs, d :: l, n, h => .cons (h 0 v d rfl rfl) (dpAll_of (by simpa using n) fun i v d e1 e2 => h (i + 1) v d (by simpa using e1) (by simpa using e2))
  | [], _ :: _, n, _ => by simp at n
  | _ :: _, [], n, _ => by simp at n
theorem canAll_get : ∀ {l : List D} {i : Nat} {d : D}, PyData.canLayAll0 l = true → l[i]? = some d → d.canLay0 = true
  | [], i, d, _, e => by simp at e
  | x :: l, 0, d, h, e => by
    have e' : x = d := by simpa using e
    subst e'
    simp only [PyData.canLayAll0, Bool.and_eq_true] at h
    exact h.1
  | x :: l, i + 1, d, h, e => by
    simp only [PyData.canLayAll0, Bool.and_eq_true] at h
    exact canAll_get (i := i) h.2 (by simpa using e)
theorem Rep.dp {K : PySem.W.Frag} {H : Hp} {v : V} {d : D} (h : Rep K H v d) : d.canLay0 = true → Dp K H v d := by
  induction h with
  | non => exact fun _ => .non
  | bl b => exact fun _ => .bl b
  | int i => exact fun _ => .int i
  | str x => exact fun _ => .str x
  | lst h n _ ih =>
    intro c
    simp only [PyData.canLay0] at c
    exact .lst (SqL.of h) (dpAll_of n fun i v d e1 e2 => ih i v d e1 e2 (canAll_get c e2))
  | tup h n _ ih =>
    intro c
    simp only [PyData.canLay0] at c
    exact .tup h (dpAll_of n fun i v d e1 e2 => ih i v d e1 e2 (canAll_get c e2))
  | dct h n ks _ ih =>
    intro c
    simp only [PyData.canLay0] at c
    cases c
/-- what it reads as in the state: no row of it lies where the modules are kept -/
theorem Rep.reads {X : Cx} {pins : List (Addr × Obj)} {σ : L2.St} {H : Hp} {s : Shared} (I : Inv X pins σ H s) (hsys : ∃ o, X.K.lookup sysModules = some o ∧ o.cls = .type "dict") {x : V} {d : D} (h : Rep X.K H x d) :
    ∀ u, RelV x u → ∃ as, Reads s.heap u d as ∧ sysModules ∉ as := by
  obtain ⟨os, es, cs⟩ := hsys
  have gs : s.heap.get? sysModules = some os := I.kIn _ _ es
  have all : ∀ {xs : List V} {l : List D} {us : List Value}, xs.length = l.length → (∀ (i : Nat) v d, xs[i]? = some v → l[i]? = some d → ∀ u, RelV v u → ∃ as, Reads s.heap u d as ∧ sysModules ∉ as) → Vals xs us → ∃ as, ReadsAll s.heap us l as ∧ sysModules ∉ as := by
    intro xs
    induction xs with
    | nil =>
      intro l us n _ r
      cases l with
      | nil => cases r; exact ⟨[], .nil, by simp⟩
      | cons _ _ => simp at n
    | cons v xs ih =>
      intro l us n k r
      cases l with
      | nil => simp at n
      | cons d l =>
        cases r with
        | cons r1 r2 =>
          obtain ⟨as, h1, h2⟩ := k 0 v d rfl rfl _ r1
          obtain ⟨bs, h3, h4⟩ := ih (by simpa using n) (fun i v d e1 e2 => k (i + 1) v d (by simpa using e1) (by simpa using e2)) r2
          exact ⟨as ++ bs, .cons h1 h3, fun q => (List.mem_append.mp q).elim h2 h4⟩
  have pairs : ∀ {kvs : List (Key × V)} {l : List (D × D)} {vs : List (Key × Value)} {es : List DictEntry}, kvs.length = l.length → l.map (·.1) = kvs.map (fun p => keyD p.1) → (∀ (i : Nat) (p : Key × V) (q : D × D), kvs[i]? = some p → l[i]? = some q → ∀ u, RelV p.2 u → ∃ as, Reads s.heap u q.2 as ∧ sysModules ∉ as) →
      KV kvs vs → Pairs (mixKind X.prog X.w) es vs → ∃ as bs, ReadsAll s.heap (es.map (·.key)) (l.map (·.1)) as ∧ ReadsAll s.heap (es.map (·.val)) (l.map (·.2)) bs ∧ sysModules ∉ as ∧ sysModules ∉ bs := by
    intro kvs
    induction kvs with
    | nil =>
      intro l vs es n hk _ r p
      cases l with
      | nil =>
        cases r
        cases p
        exact ⟨[], [], .nil, .nil, by simp, by simp⟩
      | cons _ _ => simp at n
    | cons p kvs ih =>
      intro l vs es n hk k r pr
      cases l with
      | nil => simp at n
      | cons q l =>
        cases r with
        | cons r1 r2 =>
          cases pr with
          | @cons e kv es2 vs2 p1 p2 p3 =>
            simp only [List.map_cons, List.cons.injEq] at hk
            obtain ⟨as, h1, h2⟩ := k 0 p q rfl rfl _ r1.2
            obtain ⟨as2, bs2, h3, h4, h5, h6⟩ := ih (by simpa using n) hk.2 (fun i v d e1 e2 => k (i + 1) v d (by simpa using e1) (by simpa using e2)) r2 p3
            have hkey : Reads s.heap e.key q.1 [] := by
              rw [hk.1, r1.1]
              rcases keyIs_shape p1 with ⟨i, t, e1, e2⟩ | ⟨x, t, e1, e2⟩
              · rw [e1, e2]; exact .int i t
              · rw [e1, e2]; exact .str x t
            exact ⟨[] ++ as2, as ++ bs2, .cons hkey h3, .cons (show Reads s.heap e.val q.2 as by rw [p2]; exact h1) h4, by simpa using h5, fun q => (List.mem_append.mp q).elim h2 h6⟩
  induction h with
  | non => intro u r; cases r; exact ⟨[], .none, by simp⟩
  | bl b => intro u r; cases r; exact ⟨[], .bool b, by simp⟩
  | int i => intro u r; obtain ⟨t, rfl⟩ := r; exact ⟨[], .int i t, by simp⟩
  | str x => intro u r; obtain ⟨t, rfl⟩ := r; exact ⟨[], .str x t, by simp⟩
  | lst h n _ ih =>
    intro u r
    rename_i a xs l _
    have ru : u = Value.ref a := r
    subst ru
    obtain ⟨_, its, m, r2, e⟩ := (show ObjOk X.prog X.w H s.heap a (.lst xs) from I.hok a _ h)
    obtain ⟨as, h1, h2⟩ := all n ih r2
    exact ⟨a :: as, .list e rfl rfl (by simpa using h1), fun q => by
      rcases List.mem_cons.mp q with q | q
      · rw [← q, gs] at e
        cases e
        injection cs with z
        exact absurd z (by decide)
      · exact h2 q⟩
  | tup h n _ ih =>
    intro u r
    rename_i a xs l _
    have ru : u = Value.ref a := r
    subst ru
    obtain ⟨its, r2, ⟨o, e1, e2, m, e3⟩, _⟩ := I.tuple h
    obtain ⟨as, h1, h2⟩ := all n ih r2
    exact ⟨as, .tuple e1 (by simpa using e2) (by simpa using e3) (by simpa using h1), h2⟩
  | dct h n ks _ ih =>
    intro u r
    rename_i a kvs l _
    have ru : u = Value.ref a := r
    subst ru
    obtain ⟨_, ne, vs, kv, o, es2, ep, e1, e2, e3, _, pr, _⟩ := (show ObjOk X.prog X.w H s.heap a (.dK kvs) from I.hok a _ h)
    obtain ⟨as, bs, h1, h2, h3, h4⟩ := pairs n ks ih kv pr
    exact ⟨a :: as ++ bs, .dict e1 e2.1 e3 h1 h2, fun q => by
      rcases List.mem_append.mp q with q | q
      · rcases List.mem_cons.mp q with q | q
        · rw [← q] at ne
          simp at ne
        · exact h3 q
      · exact h4 q⟩
theorem Rep.items {K : PySem.W.Frag} {H : Hp} {x : V} {d : D} {l : List D} (h : Rep K H x d) (e : itemsD d = some l) :
    ∃ a xs, x = .ref a ∧ (SqL K H a xs ∨ SqT K H a xs) ∧ xs.length = l.length ∧ (∀ (i : Nat) v d, xs[i]? = some v → l[i]? = some d → Rep K H v d) ∧ (d = .list l ∧ SqL K H a xs ∨ d = .tuple l ∧ SqT K H a xs) := by
  cases h <;> simp only [itemsD, Option.some.injEq, reduceCtorEq] at e
  case lst a xs l' h n it => subst e; exact ⟨a, xs, rfl, .inl (SqL.of h), n, it, .inl ⟨rfl, SqL.of h⟩⟩
  case tup a xs l' h n it => subst e; exact ⟨a, xs, rfl, .inr h, n, it, .inr ⟨rfl, h⟩⟩
theorem Rep.ints {K : PySem.W.Frag} {H : Hp} : ∀ {l : List D} {xs : List V} {ns : List Int}, xs.length = l.length → (∀ (i : Nat) v d, xs[i]? = some v → l[i]? = some d → Rep K H v d) → intsD l = some ns → xs = ns.map V.int
  | [], [], ns, _, _, e => by
    simp only [intsD, Option.some.injEq] at e
    subst e
    rfl
  | [], _ :: _, _, n, _, _ => by simp at n
  | _ :: _, [], _, n, _, _ => by simp at n
  | d :: l, x :: xs, ns, n, h, e => by
    have r := h 0 x d rfl rfl
    cases r <;> simp only [intsD, reduceCtorEq] at e
    case int i =>
      cases q : intsD l with
      | none => rw [q] at e; simp at e
      | some r =>
        rw [q] at e
        simp only [Option.map_some, Option.some.injEq] at e
        subst e
        have := Rep.ints (l := l) (xs := xs) (ns := r) (by simpa using n) (fun i v d e1 e2 => h (i + 1) v d (by simpa using e1) (by simpa using e2)) q
        rw [this]
        rfl

theorem lexLe_at (a b : List Int) : ∀ (k i : Nat), i + k = min a.length b.length →
    Ob.lexAt (fun j => decide (a.getD j 0 = b.getD j 0)) (fun j => decide (a.getD j 0 ≤ b.getD j 0)) (decide (a.length ≤ b.length)) i k = lexLeI (a.drop i) (b.drop i)
  | 0, i, h => by
    rw [Ob.lexAt_zero]
    by_cases q : a.length ≤ b.length
    · rw [decide_eq_true q, List.drop_eq_nil_of_le (as := a) (by omega)]
      cases b.drop i <;> rfl
    · rw [decide_eq_false q, List.drop_eq_nil_of_le (as := b) (by omega)]
      have hl : i < a.length := by omega
      rw [List.drop_eq_getElem_cons hl]
      rfl
  | k + 1, i, h => by
    have h1 : i < a.length := by omega
    have h2 : i < b.length := by omega
    rw [Ob.lexAt_succ, lexLe_at a b k (i + 1) (by omega), List.drop_eq_getElem_cons h1, List.drop_eq_getElem_cons h2]
    have e1 : a.getD i 0 = a[i] := by simp [List.getD, h1]
    have e2 : b.getD i 0 = b[i] := by simp [List.getD, h2]
    rw [e1, e2]
    simp only [lexLeI, decide_eq_true_eq]
theorem lexLe_all (a b : List Int) : Ob.lexAt (fun j => decide (a.getD j 0 = b.getD j 0)) (fun j => decide (a.getD j 0 ≤ b.getD j 0)) (decide (a.length ≤ b.length)) 0 (min a.length b.length) = lexLeI a b := by
  have h := lexLe_at a b (min a.length b.length) 0 (by omega)
  simpa using h
def copOp : COp → CmpOp
  | .eq => .Eq | .ne => .NotEq | .lt => .Lt | .le => .LtE | .gt => .Gt | .ge => .GtE | .mem => .In | .nmem => .NotIn
/-- what a comparison asks, by data -/
def rCmp (K : PySem.W.Frag) (o : COp) : R2 := fun x y H Q => ∃ d e r, Rep K H x d ∧ Rep K H y e ∧ cmpD o d e = some (.bool r) ∧ Q (.bl r) H
theorem room_of_ok {A : Around} {d e : D} (hu : A.units + 65 < cLine) (h : decide (d.depth ≤ 64) = true ∨ decide (e.depth ≤ 64) = true) : A.units + min d.depth e.depth < cLine := by
  have h1 := Nat.min_le_left d.depth e.depth
  have h2 := Nat.min_le_right d.depth e.depth
  rcases h with h | h
  · have := of_decide_eq_true h; omega
  · have := of_decide_eq_true h; omega
section
variable {X : Cx}
theorem strs2_of {d e : D} (h : strs2 d e = true) : (∃ x y, d = .str x ∧ e = .str y) ∨ ∃ l m, d = .list l ∧ e = .list m ∧ l.length ≠ m.length := by
  unfold strs2 at h
  split at h
  · exact .inl ⟨_, _, rfl, rfl⟩
  · exact .inr ⟨_, _, rfl, rfl, by simpa using h⟩
  · cases h
/-- two lists of unlike lengths, in the state -/
theorem unlike_lists {X : Cx} {pins : List (Addr × Obj)} {σ : L2.St} {H : Hp} {s : Shared} (I : Inv X pins σ H s) {x y : V} {u v : Value} {l m : List D} (hd : Rep X.K H x (.list l)) (he : Rep X.K H y (.list m)) (rx : RelV x v) (ry : RelV y u) (hl : l.length ≠ m.length) :
    ∃ (a b : Addr) (i1 i2 : Array Value), v = .ref a ∧ u = .ref b ∧ s.heap.IsList a i1 ∧ s.heap.IsList b i2 ∧ (i1.size != i2.size) = true := by
  cases hd with
  | lst h1 n1 _ =>
    cases he with
    | lst h2 n2 _ =>
      obtain ⟨i1, r1, p1, _⟩ := I.list (SqL.of h1)
      obtain ⟨i2, r2, p2, _⟩ := I.list (SqL.of h2)
      refine ⟨_, _, _, _, rx, ry, p1.isList, p2.isList, ?_⟩
      have e1 := r1.length
      have e2 := r2.length
      simp
      omega
theorem op_cmp (hu : X.A.units + 65 < cLine) : ∀ o : COp, OpR X (compareOp (copOp o)) (rCmp X.K o)
  | .eq => by
    intro pins s σ H x y v u Q I rx ry h
    obtain ⟨d, e, r, hd, he, c, q⟩ := h
    simp only [cmpD] at c
    split at c <;> first | contradiction | skip
    rename_i ok
    cases c
    rw [Bool.or_eq_true] at ok
    rcases ok with ok | ok
    · rcases strs2_of ok with ⟨x', y', rfl, rfl⟩ | ⟨l, m, rfl, rfl, hl⟩
      · cases hd
        cases he
        exact op_eq pins s σ H _ _ v u Q I rx ry ⟨rfl, by rw [dec_str]; exact q⟩
      · obtain ⟨a, b, i1, i2, rfl, rfl, h1, h2, h3⟩ := unlike_lists I hd he rx ry hl
        have ev : PyData.eqv (.list l) (.list m) = false := SeqAt.eqvAll_other_length hl
        rw [ev] at q
        exact SeqAt.RcAt.lists_lengths h1 h2 h3 (by omega) _ _ _ _ ⟨.bl _, H, I, rfl, q⟩
    simp only [eqOk, Bool.and_eq_true, Bool.or_eq_true] at ok
    obtain ⟨as, r1⟩ := Dp.reads I d x v (hd.dp ok.1.1) rx
    obtain ⟨bs, r2⟩ := Dp.reads I e y u (he.dp ok.1.2) ry
    exact SeqAt.compareEq_reads r1 r2 ok.1.1 ok.1.2 (room_of_ok hu ok.2) ⟨.bl _, H, I, rfl, q⟩
  | .ne => by
    intro pins s σ H x y v u Q I rx ry h
    obtain ⟨d, e, r, hd, he, c, q⟩ := h
    simp only [cmpD] at c
    split at c <;> first | contradiction | skip
    rename_i ok
    cases c
    rw [Bool.or_eq_true] at ok
    rcases ok with ok | ok
    · rcases strs2_of ok with ⟨x', y', rfl, rfl⟩ | ⟨l, m, rfl, rfl, hl⟩
      · cases hd
        cases he
        exact op_ne pins s σ H _ _ v u Q I rx ry ⟨rfl, by rw [dec_str]; exact q⟩
      · obtain ⟨a, b, i1, i2, rfl, rfl, h1, h2, h3⟩ := unlike_lists I hd he rx ry hl
        have ev : PyData.eqv (.list l) (.list m) = false := SeqAt.eqvAll_other_length hl
        rw [ev] at q
        exact SeqAt.RcNeAt.lists_lengths h1 h2 h3 (by omega) _ _ _ _ ⟨.bl _, H, I, rfl, q⟩
    simp only [eqOk, Bool.and_eq_true, Bool.or_eq_true] at ok
    obtain ⟨as, r1⟩ := Dp.reads I d x v (hd.dp ok.1.1) rx
    obtain ⟨bs, r2⟩ := Dp.reads I e y u (he.dp ok.1.2) ry
    exact SeqAt.compareNe_reads r1 r2 ok.1.1 ok.1.2 (room_of_ok hu ok.2) ⟨.bl _, H, I, rfl, q⟩
  | .lt => by
    intro pins s σ H x y v u Q I rx ry h
    obtain ⟨d, e, r, hd, he, c, q⟩ := h
    simp only [cmpD] at c
    cases g : ltD d e with
    | none => rw [g] at c; simp at c
    | some k =>
      rw [g] at c
      simp only [Option.map_some, Option.some.injEq, PyData.bool.injEq] at c
      subst c
      unfold ltD at g
      split at g <;> first | contradiction | skip
      · cases g
        exact op_lt pins s σ H x y v u Q I rx ry ⟨_, _, hd.int_of, he.int_of, q⟩
      · cases g
        exact op_lt_str pins s σ H x y v u Q I rx ry ⟨_, _, hd.str_of, he.str_of, q⟩
      · split at g <;> first | contradiction | skip
        rename_i l m _ _ a b e1 e2
        cases g
        obtain ⟨p, xs, rfl, _, n1, i1, w1⟩ := hd.items (l := l) rfl
        obtain ⟨p', ys, rfl, _, n2, i2, w2⟩ := he.items (l := m) rfl
        have z1 := Rep.ints n1 i1 e1
        have z2 := Rep.ints n2 i2 e2
        subst z1 z2
        have t1 : SqT X.K H p (a.map V.int) := by rcases w1 with w | w; · cases w.1
                                                  · exact w.2
        have t2 : SqT X.K H p' (b.map V.int) := by rcases w2 with w | w; · cases w.1
                                                   · exact w.2
        exact op_ltT (by omega) pins s σ H _ _ v u Q I rx ry ⟨_, _, a, b, rfl, rfl, t1, t2, q⟩
  | .gt => by
    intro pins s σ H x y v u Q I rx ry h
    obtain ⟨d, e, r, hd, he, c, q⟩ := h
    simp only [cmpD] at c
    cases g : gtD d e with
    | none => rw [g] at c; simp at c
    | some k =>
      rw [g] at c
      simp only [Option.map_some, Option.some.injEq, PyData.bool.injEq] at c
      subst c
      unfold gtD at g
      split at g <;> first | contradiction | skip
      · cases g
        exact op_gt pins s σ H x y v u Q I rx ry ⟨_, _, hd.int_of, he.int_of, q⟩
      · cases g
        exact op_gt_str pins s σ H x y v u Q I rx ry ⟨_, _, hd.str_of, he.str_of, q⟩
  | .le => by
    intro pins s σ H x y v u Q I rx ry h
    obtain ⟨d, e, r, hd, he, c, q⟩ := h
    simp only [cmpD] at c
    cases g : leD d e with
    | none => rw [g] at c; simp at c
    | some k =>
      rw [g] at c
      simp only [Option.map_some, Option.some.injEq, PyData.bool.injEq] at c
      subst c
      unfold leD at g
      split at g <;> first | contradiction | skip
      · cases g
        exact op_le pins s σ H x y v u Q I rx ry ⟨_, _, hd.int_of, he.int_of, q⟩
      · split at g <;> first | contradiction | skip
        rename_i l m _ _ a b e1 e2
        cases g
        obtain ⟨p, xs, rfl, _, n1, i1, w1⟩ := hd.items (l := l) rfl
        obtain ⟨p', ys, rfl, _, n2, i2, w2⟩ := he.items (l := m) rfl
        have z1 := Rep.ints n1 i1 e1
        have z2 := Rep.ints n2 i2 e2
        subst z1 z2
        have t1 : SqT X.K H p (a.map V.int) := by rcases w1 with w | w; · cases w.1
                                                  · exact w.2
        have t2 : SqT X.K H p' (b.map V.int) := by rcases w2 with w | w; · cases w.1
                                                   · exact w.2
        exact op_leT (by omega) pins s σ H _ _ v u Q I rx ry ⟨_, _, a, b, rfl, rfl, t1, t2, by rw [lexLe_all]; exact q⟩
  | .ge => by
    intro pins s σ H x y v u Q I rx ry h
    obtain ⟨d, e, r, hd, he, c, q⟩ := h
    simp only [cmpD] at c
    cases g : geD d e with
    | none => rw [g] at c; simp at c
    | some k =>
      rw [g] at c
      simp only [Option.map_some, Option.some.injEq, PyData.bool.injEq] at c
      subst c
      unfold geD at g
      split at g <;> first | contradiction | skip
      cases g
      exact op_ge pins s σ H x y v u Q I rx ry ⟨_, _, hd.int_of, he.int_of, q⟩
  | .mem => by
    intro pins s σ H x y v u Q I rx ry h
    obtain ⟨d, e, r, hd, he, c, q⟩ := h
    simp only [cmpD] at c
    split at c <;> first | contradiction | skip
    rename_i l el
    split at c <;> first | contradiction | skip
    rename_i ok
    cases c
    simp only [memOk, Bool.and_eq_true] at ok
    obtain ⟨p, ys, rfl, _, n, it, w⟩ := he.items el
    obtain ⟨bs, r2⟩ := Dp.reads I d x v (hd.dp (SeqAt.canLay_of_shaped ok.1)) rx
    have cl : PyData.canLayAll0 l = true := by simpa [PyData.canLay0] using SeqAt.canLay_of_shaped ok.2
    rcases w with ⟨rfl, w⟩ | ⟨rfl, w⟩
    · obtain ⟨as, r1⟩ := Dp.reads I _ _ u (he.dp (SeqAt.canLay_of_shaped ok.2)) ry
      exact SeqAt.in_list_reads r1 r2 cl (SeqAt.canLay_of_shaped ok.1) (PyProof.Rows.room_in_shaped ok.1 hu) ⟨.bl _, H, I, rfl, q⟩
    · obtain ⟨as, r1⟩ := Dp.reads I _ _ u (he.dp (by simpa [PyData.canLay0] using cl)) ry
      exact SeqAt.in_tuple_reads r1 r2 cl (SeqAt.canLay_of_shaped ok.1) (PyProof.Rows.room_in_shaped ok.1 hu) ⟨.bl _, H, I, rfl, q⟩
  | .nmem => by
    intro pins s σ H x y v u Q I rx ry h
    obtain ⟨d, e, r, hd, he, c, q⟩ := h
    simp only [cmpD] at c
    split at c <;> first | contradiction | skip
    rename_i l el
    split at c <;> first | contradiction | skip
    rename_i ok
    cases c
    simp only [memOk, Bool.and_eq_true] at ok
    obtain ⟨p, ys, rfl, _, n, it, w⟩ := he.items el
    obtain ⟨bs, r2⟩ := Dp.reads I d x v (hd.dp (SeqAt.canLay_of_shaped ok.1)) rx
    have cl : PyData.canLayAll0 l = true := by simpa [PyData.canLay0] using SeqAt.canLay_of_shaped ok.2
    rcases w with ⟨rfl, w⟩ | ⟨rfl, w⟩
    · obtain ⟨as, r1⟩ := Dp.reads I _ _ u (he.dp (SeqAt.canLay_of_shaped ok.2)) ry
      exact SeqAt.notIn_list_reads r1 r2 cl (SeqAt.canLay_of_shaped ok.1) (PyProof.Rows.room_in_shaped ok.1 hu) ⟨.bl _, H, I, rfl, q⟩
    · obtain ⟨as, r1⟩ := Dp.reads I _ _ u (he.dp (by simpa [PyData.canLay0] using cl)) ry
      exact SeqAt.notIn_tuple_reads r1 r2 cl (SeqAt.canLay_of_shaped ok.1) (PyProof.Rows.room_in_shaped ok.1 hu) ⟨.bl _, H, I, rfl, q⟩
end
theorem cmpD_bool {o : COp} {d e r : D} (h : cmpD o d e = some r) : ∃ b, r = .bool b := by
  cases o <;> simp only [cmpD] at h
  all_goals first
    | (split at h <;> first | (cases h; exact ⟨_, rfl⟩) | contradiction)
    | (rw [Option.map_eq_some_iff] at h; obtain ⟨b, _, h⟩ := h; exact ⟨b, h.symm⟩)
    | (split at h <;> first | contradiction | (split at h <;> first | (cases h; exact ⟨_, rfl⟩) | contradiction))
section
variable {X : Cx} {ct : Str → Option Addr} {W : WX} {a b c : Expr} {ma mb mc : Env → R D} {pos : Pos}
theorem e_cmp (hu : X.A.units + 65 < cLine) (o : COp) (ha : PE X a (tE X.K ct W ma)) (hb : PE X b (tE X.K ct W mb)) (hm : behindInMarks (copOp o) b = false) :
    PE X (.Compare a [copOp o] [b] pos) (tE X.K ct W fun ρ => (ma ρ).bind fun d ρ => (mb ρ).bind fun e ρ => R.of (cmpD o d e) ρ) :=
  (pe_cmpR (op_cmp hu o) ha hb hm).weak fun σ H Q h => twoO h fun d e r Hf' H' x y rx ry e1 sub q => by
    obtain ⟨k, rfl⟩ := cmpD_bool e1
    exact ⟨d, e, k, rx.mono sub, ry.mono sub, e1, q _ (.bl k)⟩
/-- two values, a truth -/
theorem twoB {K : PySem.W.Frag} {σ : L2.St} {H : Hp} {Q : Bool → Hp → Prop} {R2' : V → V → Hp → Prop} {g : D → D → Option Bool}
    (h : tT K ct W (fun ρ => (ma ρ).bind fun d ρ => (mb ρ).bind fun e ρ => R.of (g d e) ρ) σ H Q)
    (m : ∀ d e r Hf' H' x y, Rep K Hf' x d → Rep K Hf' y e → g d e = some r → Same Hf' H' → Q r H' → R2' x y H') :
    tE K ct W ma σ H fun x H1 => tE K ct W mb σ H1 fun y H2 => R2' x y H2 := by
  obtain ⟨Hf, ρ, U, R, p⟩ := h
  refine ⟨Hf, ρ, U, R, p.then fun d ρ1 Hf1 H1 U1 R1 S1 p1 x rx => ⟨Hf1, ρ1, U1, R1, p1.then fun e ρ2 Hf2 H2 U2 R2 S2 p2 y ry => ?_⟩⟩
  obtain ⟨r, e1, q⟩ := p2.of R2
  exact m d e r Hf2 H2 x y (rx.mono S2.mono) ry e1 R2.sub q
theorem boolD_of {r : D} {o : Option D} {k : Bool} (h : o.bind boolD = some k) : o = some (.bool k) := by
  cases o with
  | none => cases h
  | some r =>
    simp only [Option.bind_some] at h
    unfold boolD at h
    split at h
    · cases h; rfl
    · cases h
theorem t_cmp (hu : X.A.units + 65 < cLine) (o : COp) (ha : PE X a (tE X.K ct W ma)) (hb : PE X b (tE X.K ct W mb)) (hm : behindInMarks (copOp o) b = false) :
    PT X (.Compare a [copOp o] [b] pos) (tT X.K ct W fun ρ => (ma ρ).bind fun d ρ => (mb ρ).bind fun e ρ => R.of ((cmpD o d e).bind boolD) ρ) :=
  (pt_cmpR (op_cmp hu o) ha hb hm).weak fun σ H Q h => twoB h fun d e r Hf' H' x y rx ry e1 sub q =>
    ⟨d, e, r, rx.mono sub, ry.mono sub, boolD_of (r := .none) e1, r, rfl, q⟩
/-- in a list that stands in a slot -/
theorem memO_cmp {n : Bool} {d : D} {o : O} {r : Bool} (h : memO n d o = some r) : o.clean = true ∧ cmpD (if n then .nmem else .mem) d o.fz = some (.bool r) := by
  cases o with
  | scr l => cases h
  | frz e =>
    simp only [memO] at h
    cases e2 : itemsD e with
    | none => rw [e2] at h; cases h
    | some l =>
      rw [e2] at h
      dsimp only at h
      split at h <;> first | contradiction | skip
      rename_i ok
      cases h
      cases n <;> simp [cmpD, O.fz, O.clean, e2, ok]
  | box l =>
    simp only [memO] at h
    split at h <;> first | contradiction | skip
    rename_i ok
    simp only [Bool.and_eq_true] at ok
    cases h
    cases n <;> simp [cmpD, O.fz, O.clean, itemsD, ok]
theorem mem_slot {K : PySem.W.Frag} {s : Nat} {σ : L2.St} {H : Hp} {n : Bool} {g : Env → R Bool} {Q : VK} (h : ∃ Hf ρ U, Rel K Hf H ρ σ U ∧ Post K σ Hf H U (EW K ct W σ) (fun r _ _ H' _ => Q (.bl r) H') ((ma ρ).bind fun d ρ => R.of ((ldV s ρ).bind (memO n d)) ρ)) :
    tE K ct W ma σ H fun x H1 => tVar s σ H1 fun y H2 => rCmp K (if n then .nmem else .mem) x y H2 Q := by
  obtain ⟨Hf, ρ, U, R, p⟩ := h
  refine ⟨Hf, ρ, U, R, p.then fun d ρ1 Hf1 H1 U1 R1 S1 p1 x rx => ?_⟩
  obtain ⟨r, e1, q⟩ := p1.of R1
  cases e : ldV s ρ1 with
  | none => rw [e] at e1; cases e1
  | some o =>
    rw [e] at e1
    have es : ρ1[s]? = some (some o) := by
      unfold ldV at e
      split at e
      · cases e; assumption
      · cases e
    obtain ⟨y, hy, ow⟩ := R1.own s o es
    obtain ⟨cl, e3⟩ := memO_cmp e1
    exact ⟨y, hy, d, o.fz, r, rx.mono R1.sub, ow.rep R1.sub cl, e3, q⟩
def memOp (n : Bool) : CmpOp := if n then .NotIn else .In
theorem e_memS (hu : X.A.units + 65 < cLine) {n : Bool} {s : Nat} (ha : PE X a (tE X.K ct W ma)) (hb : PE X b (tVar s)) (hm : behindInMarks (memOp n) b = false) :
    PE X (.Compare a [memOp n] [b] pos) (tE X.K ct W fun ρ => (ma ρ).bind fun d ρ => R.of (((ldV s ρ).bind (memO n d)).map .bool) ρ) := by
  have ho : OpR X (compareOp (memOp n)) (rCmp X.K (if n then .nmem else .mem)) := by
    cases n with
    | true => exact op_cmp hu .nmem
    | false => exact op_cmp hu .mem
  refine (pe_cmpR ho ha hb hm).weak fun σ H Q h => mem_slot (g := fun _ => .bad) ?_
  obtain ⟨Hf, ρ, U, R0, p⟩ := h
  refine ⟨Hf, ρ, U, R0, ?_⟩
  dsimp only at p ⊢
  cases e : ma ρ with
  | bad => rw [e] at p; exact p
  | exc x ρ1 => rw [e] at p; exact p
  | ok d ρ1 =>
    rw [e] at p
    simp only [R.bind_ok] at p ⊢
    cases e2 : (ldV s ρ1).bind (memO n d) with
    | none => rw [e2] at p; exact p
    | some r => rw [e2] at p; exact fun Hf' H' U' R' S' => p Hf' H' U' R' S' _ (.bl r)
theorem t_memS (hu : X.A.units + 65 < cLine) {n : Bool} {s : Nat} (ha : PE X a (tE X.K ct W ma)) (hb : PE X b (tVar s)) (hm : behindInMarks (memOp n) b = false) :
    PT X (.Compare a [memOp n] [b] pos) (tT X.K ct W fun ρ => (ma ρ).bind fun d ρ => R.of ((ldV s ρ).bind (memO n d)) ρ) := by
  have ho : OpR X (compareOp (memOp n)) (rCmp X.K (if n then .nmem else .mem)) := by
    cases n with
    | true => exact op_cmp hu .nmem
    | false => exact op_cmp hu .mem
  refine (pt_cmpR ho ha hb hm).weak fun σ H Q h => ?_
  have h2 : ∃ Hf ρ U, Rel X.K Hf H ρ σ U ∧ Post X.K σ Hf H U (EW X.K ct W σ) (fun (r : Bool) _ _ H' _ => (fun (v : V) H' => ∃ k, v = V.bl k ∧ Q k H') (V.bl r) H') ((ma ρ).bind fun d ρ => R.of ((ldV s ρ).bind (memO n d)) ρ) := by
    obtain ⟨Hf, ρ, U, R, p⟩ := h
    exact ⟨Hf, ρ, U, R, p.mono fun r _ _ H' _ _ _ _ q => ⟨r, rfl, q⟩⟩
  exact mem_slot (g := fun _ => .bad) h2

/-- a name's list looked at, not frozen, against a value -/
theorem eq_slot {K : PySem.W.Frag} {s : Nat} {σ : L2.St} {H : Hp} {n : Bool} {Q : VK} {mr : Env → R D} (hr : mr = fun ρ => if (ldV s ρ).isSome then (mb ρ).bind fun e ρ => R.of ((ldV s ρ).bind fun o => eqO n o e) ρ else .bad)
    (h : ∃ Hf ρ U, Rel K Hf H ρ σ U ∧ Post K σ Hf H U (EW K ct W σ) (fun r _ _ H' _ => ∀ k, r = .bool k → Q (.bl k) H') (mr ρ)) :
    tVar s σ H fun x H1 => tE K ct W mb σ H1 fun y H2 => rCmp K (if n then .ne else .eq) x y H2 Q := by
  subst hr
  obtain ⟨Hf, ρ, U, R0, p⟩ := h
  dsimp only at p
  split at p <;> first | exact p.elim | skip
  rename_i hsm
  cases eo : ldV s ρ with
  | none => rw [eo] at hsm; cases hsm
  | some o0 =>
    have es0 : ρ[s]? = some (some o0) := by
      unfold ldV at eo
      split at eo
      · cases eo; assumption
      · cases eo
    obtain ⟨v, hv, _⟩ := R0.own s o0 es0
    refine ⟨v, hv, Hf, ρ, U, R0, p.then fun e ρ1 Hf1 H1 U1 R1 S1 p1 y ry => ?_⟩
    obtain ⟨r, e1, q⟩ := p1.of R1
    cases e : ldV s ρ1 with
    | none => rw [e] at e1; cases e1
    | some o =>
      rw [e] at e1
      have es : ρ1[s]? = some (some o) := by
        unfold ldV at e
        split at e
        · cases e; assumption
        · cases e
      obtain ⟨y', hy, ow⟩ := R1.own s o es
      rw [hv] at hy
      cases hy
      have e2 : eqO n o _ = some r := e1
      unfold eqO at e2
      split at e2 <;> first | contradiction | skip
      rename_i cl
      obtain ⟨b, rfl⟩ := cmpD_bool e2
      exact ⟨o.fz, _, b, ow.rep R1.sub cl, ry.mono R1.sub, e2, q b rfl⟩
def eqOp (n : Bool) : CmpOp := if n then .NotEq else .Eq
theorem e_eqS (hu : X.A.units + 65 < cLine) {n : Bool} {s : Nat} (ha : PE X a (tVar s)) (hb : PE X b (tE X.K ct W mb)) (hm : behindInMarks (eqOp n) b = false) :
    PE X (.Compare a [eqOp n] [b] pos) (tE X.K ct W fun ρ => if (ldV s ρ).isSome then (mb ρ).bind fun e ρ => R.of ((ldV s ρ).bind fun o => eqO n o e) ρ else .bad) := by
  have ho : OpR X (compareOp (eqOp n)) (rCmp X.K (if n then .ne else .eq)) := by
    cases n with
    | true => exact op_cmp hu .ne
    | false => exact op_cmp hu .eq
  refine (pe_cmpR ho ha hb hm).weak fun σ H Q h => eq_slot rfl ?_
  obtain ⟨Hf, ρ, U, R0, p⟩ := h
  exact ⟨Hf, ρ, U, R0, p.mono fun r _ _ H' _ _ _ _ q k hk => by subst hk; exact q _ (.bl k)⟩
theorem t_eqS (hu : X.A.units + 65 < cLine) {n : Bool} {s : Nat} (ha : PE X a (tVar s)) (hb : PE X b (tE X.K ct W mb)) (hm : behindInMarks (eqOp n) b = false) :
    PT X (.Compare a [eqOp n] [b] pos) (tT X.K ct W fun ρ => if (ldV s ρ).isSome then (mb ρ).bind fun e ρ => R.of ((ldV s ρ).bind fun o => (eqO n o e).bind boolD) ρ else .bad) := by
  have ho : OpR X (compareOp (eqOp n)) (rCmp X.K (if n then .ne else .eq)) := by
    cases n with
    | true => exact op_cmp hu .ne
    | false => exact op_cmp hu .eq
  refine (pt_cmpR ho ha hb hm).weak fun σ H Q h => eq_slot rfl ?_
  obtain ⟨Hf, ρ, U, R0, p⟩ := h
  refine ⟨Hf, ρ, U, R0, ?_⟩
  dsimp only at p ⊢
  split at p <;> first | exact p.elim | skip
  rename_i hsm
  rw [if_pos hsm]
  cases e : mb ρ with
  | bad => rw [e] at p; exact p
  | exc x ρ1 => rw [e] at p; exact p
  | ok d ρ1 =>
    rw [e] at p
    simp only [R.bind_ok] at p ⊢
    cases e2 : ldV s ρ1 with
    | none => rw [e2] at p; exact p
    | some o =>
      rw [e2] at p
      cases e3 : eqO n o d with
      | none => simp only [Option.bind_some, e3, Option.bind_none] at p; exact p.elim
      | some r =>
        simp only [Option.bind_some, e3] at p ⊢
        intro Hf' H' U' R' S' k hk
        subst hk
        exact ⟨k, rfl, p Hf' H' U' R' S'⟩

/-! ### chains -/
theorem chain_sem {K : PySem.W.Frag} {σ : L2.St} {H : Hp} {Q : VK} {o p : COp} (h : tE K ct W (fun ρ => (ma ρ).bind fun d ρ => (mb ρ).bind fun e ρ => (R.of ((cmpD o d e).bind boolD) ρ).bind fun t ρ =>
      if t then (mc ρ).bind fun f ρ => R.of (cmpD p e f) ρ else .ok (.bool false) ρ) σ H Q) : tChain (rCmp K o) (rCmp K p) (tE K ct W ma) (tE K ct W mb) (tE K ct W mc) σ H Q := by
  refine two h fun d e ρ Hf' H' U' x y R rx ry pp => ?_
  have q1 := pp.bnd
  obtain ⟨k, e1, q⟩ := q1.of R
  refine ⟨d, e, k, rx.mono R.sub, ry.mono R.sub, boolD_of (r := .none) e1, k, rfl, ?_⟩
  cases k with
  | false =>
    simp only [Bool.false_eq_true, if_false] at q ⊢
    exact q.ok R _ (.bl false)
  | true =>
    simp only [if_true] at q ⊢
    refine ⟨Hf', ρ, U', R, q.then fun f ρ2 Hf2 H2 U2 R2 S2 p2 z rz => ?_⟩
    obtain ⟨r, e2, q2⟩ := p2.of R2
    obtain ⟨j, rfl⟩ := cmpD_bool e2
    exact ⟨e, f, j, (ry.mono S2.mono).mono R2.sub, rz.mono R2.sub, e2, q2 _ (.bl j)⟩
theorem e_chain (hu : X.A.units + 65 < cLine) (o p : COp) (ha : PE X a (tE X.K ct W ma)) (hb : PE X b (tE X.K ct W mb)) (hc : PE X c (tE X.K ct W mc)) (hm : lastMarks [copOp o, copOp p] [b, c] = false) :
    PE X (.Compare a [copOp o, copOp p] [b, c] pos) (tE X.K ct W fun ρ => (ma ρ).bind fun d ρ => (mb ρ).bind fun e ρ => (R.of ((cmpD o d e).bind boolD) ρ).bind fun t ρ =>
      if t then (mc ρ).bind fun f ρ => R.of (cmpD p e f) ρ else .ok (.bool false) ρ) :=
  (pe_chain (op_cmp hu o) (op_cmp hu p) ha hb hc hm).weak fun σ H Q h => chain_sem h
theorem t_chain (hu : X.A.units + 65 < cLine) (o p : COp) (ha : PE X a (tE X.K ct W ma)) (hb : PE X b (tE X.K ct W mb)) (hc : PE X c (tE X.K ct W mc)) (hm : lastMarks [copOp o, copOp p] [b, c] = false) :
    PT X (.Compare a [copOp o, copOp p] [b, c] pos) (tT X.K ct W fun ρ => (ma ρ).bind fun d ρ => (mb ρ).bind fun e ρ => (R.of ((cmpD o d e).bind boolD) ρ).bind fun t ρ =>
      if t then (mc ρ).bind fun f ρ => R.of ((cmpD p e f).bind boolD) ρ else .ok false ρ) := by
  refine (pt_chain (op_cmp hu o) (op_cmp hu p) ha hb hc hm).weak fun σ H Q h => chain_sem (Q := fun v H' => ∃ k, v = .bl k ∧ Q k H') ?_
  obtain ⟨Hf, ρ, U, R0, p1⟩ := h
  refine ⟨Hf, ρ, U, R0, ?_⟩
  revert p1
  dsimp only
  cases ma ρ with
  | bad => exact fun h => h
  | exc x ρ1 => exact fun h => h
  | ok d ρ1 =>
    simp only [R.bind_ok]
    cases mb ρ1 with
    | bad => exact fun h => h
    | exc x ρ2 => exact fun h => h
    | ok e ρ2 =>
      simp only [R.bind_ok]
      cases (cmpD o d e).bind boolD with
      | none => exact fun h => h
      | some t =>
        simp only [R.of_some, R.bind_ok]
        cases t with
        | false => exact fun h Hf' H' U' R' S' v rv => ⟨false, rv.bool_of, h Hf' H' U' R' S'⟩
        | true =>
          simp only [if_true]
          cases mc ρ2 with
          | bad => exact fun h => h
          | exc x ρ3 => exact fun h => h
          | ok f ρ3 =>
            simp only [R.bind_ok]
            cases e2 : cmpD p e f with
            | none => exact fun h => h
            | some r =>
              obtain ⟨j, rfl⟩ := cmpD_bool e2
              exact fun h Hf' H' U' R' S' v rv => ⟨j, rv.bool_of, h Hf' H' U' R' S'⟩

/-! ### is -/
theorem isN_dec {K : PySem.W.Frag} {H : Hp} {x : V} {d : D} (h : Rep K H x d) : decide (x = V.non) = isNoneD d := by
  cases h <;> simp [isNoneD]
theorem e_isN {n : Bool} {j : Nat} {p2 : Pos} (ha : PE X a (tE X.K ct W ma)) : PE X (.Compare a [if n then .IsNot else .Is] [.Constant .none j p2] pos) (tE X.K ct W fun ρ => (ma ρ).bind fun d ρ => .ok (.bool (if n then !isNoneD d else isNoneD d)) ρ) := by
  cases n with
  | true =>
    refine (pe_cmp (pc_notN ha)).weak fun σ H Q h => ?_
    obtain ⟨Hf, ρ, U, R, p⟩ := h
    refine ⟨Hf, ρ, U, R, p.then fun d ρ1 Hf1 H1 U1 R1 S1 p1 x rx => ?_⟩
    have q := p1.ok R1 _ (.bl _)
    show Q (.bl (!decide (x = V.non))) H1
    rw [isN_dec rx]
    exact q
  | false =>
    refine (pe_cmp (pc_isN ha)).weak fun σ H Q h => ?_
    obtain ⟨Hf, ρ, U, R, p⟩ := h
    refine ⟨Hf, ρ, U, R, p.then fun d ρ1 Hf1 H1 U1 R1 S1 p1 x rx => ?_⟩
    have q := p1.ok R1 _ (.bl _)
    show Q (.bl (decide (x = V.non))) H1
    rw [isN_dec rx]
    exact q
theorem t_isN {n : Bool} {j : Nat} {p2 : Pos} (ha : PE X a (tE X.K ct W ma)) : PT X (.Compare a [if n then .IsNot else .Is] [.Constant .none j p2] pos) (tT X.K ct W fun ρ => (ma ρ).bind fun d ρ => .ok (if n then !isNoneD d else isNoneD d) ρ) := by
  cases n with
  | true =>
    refine (pt_cmp (pc_notN ha)).weak fun σ H Q h => ?_
    obtain ⟨Hf, ρ, U, R, p⟩ := h
    refine ⟨Hf, ρ, U, R, p.then fun d ρ1 Hf1 H1 U1 R1 S1 p1 x rx => ⟨_, rfl, ?_⟩⟩
    rw [isN_dec rx]
    exact p1.ok R1
  | false =>
    refine (pt_cmp (pc_isN ha)).weak fun σ H Q h => ?_
    obtain ⟨Hf, ρ, U, R, p⟩ := h
    refine ⟨Hf, ρ, U, R, p.then fun d ρ1 Hf1 H1 U1 R1 S1 p1 x rx => ⟨_, rfl, ?_⟩⟩
    rw [isN_dec rx]
    exact p1.ok R1
theorem oneB {K : PySem.W.Frag} {σ : L2.St} {H : Hp} {Q : Bool → Hp → Prop} {R1' : V → Hp → Prop} {g : D → Option Bool}
    (h : tT K ct W (fun ρ => (ma ρ).bind fun d ρ => R.of (g d) ρ) σ H Q)
    (m : ∀ d r Hf' H' x, Rep K Hf' x d → g d = some r → Same Hf' H' → Q r H' → R1' x H') : tE K ct W ma σ H R1' := by
  obtain ⟨Hf, ρ, U, R, p⟩ := h
  refine ⟨Hf, ρ, U, R, p.then fun d ρ1 Hf1 H1 U1 R1 S1 p1 x rx => ?_⟩
  obtain ⟨r, e1, q⟩ := p1.of R1
  exact m d r Hf1 H1 x rx e1 R1.sub q
theorem boolD_rep {K : PySem.W.Frag} {H : Hp} {x : V} {d : D} {c : Bool} (h : Rep K H x d) (e : boolD d = some c) : x = .bl c := by
  unfold boolD at e
  split at e
  · cases e; exact h.bool_of
  · cases e
theorem dec_b {b c : Bool} : decide (c = b) = (c == b) := by cases b <;> cases c <;> rfl
theorem e_isB {n b' : Bool} {j : Nat} {p2 : Pos} (ha : PE X a (tE X.K ct W ma)) : PE X (.Compare a [if n then .IsNot else .Is] [.Constant (.bool b') j p2] pos) (tE X.K ct W fun ρ => (ma ρ).bind fun d ρ => R.of ((boolD d).map fun c => .bool (if n then c != b' else c == b')) ρ) := by
  cases n with
  | true =>
    refine (pe_cmpR op_notBl ha pe_bl (nomark _)).weak fun σ H Q h => oneO (g := fun d => (boolD d).map fun c => .bool (c != b')) h fun d r Hf' H' x rx e1 _ q => ?_
    rw [Option.map_eq_some_iff] at e1
    obtain ⟨c, e2, rfl⟩ := e1
    refine ⟨c, b', boolD_rep rx e2, rfl, ?_⟩
    rw [dec_b]
    exact q _ (.bl _)
  | false =>
    refine (pe_cmpR op_isBl ha pe_bl (nomark _)).weak fun σ H Q h => oneO (g := fun d => (boolD d).map fun c => .bool (c == b')) h fun d r Hf' H' x rx e1 _ q => ?_
    rw [Option.map_eq_some_iff] at e1
    obtain ⟨c, e2, rfl⟩ := e1
    refine ⟨c, b', boolD_rep rx e2, rfl, ?_⟩
    rw [dec_b]
    exact q _ (.bl _)
theorem t_isB {n b' : Bool} {j : Nat} {p2 : Pos} (ha : PE X a (tE X.K ct W ma)) : PT X (.Compare a [if n then .IsNot else .Is] [.Constant (.bool b') j p2] pos) (tT X.K ct W fun ρ => (ma ρ).bind fun d ρ => R.of ((boolD d).map fun c => if n then c != b' else c == b') ρ) := by
  cases n with
  | true =>
    refine (pt_cmpR op_notBl ha pe_bl (nomark _)).weak fun σ H Q h => oneB (g := fun d => (boolD d).map fun c => (c != b')) h fun d r Hf' H' x rx e1 _ q => ?_
    rw [Option.map_eq_some_iff] at e1
    obtain ⟨c, e2, rfl⟩ := e1
    refine ⟨c, b', boolD_rep rx e2, rfl, _, rfl, ?_⟩
    rw [dec_b]
    exact q
  | false =>
    refine (pt_cmpR op_isBl ha pe_bl (nomark _)).weak fun σ H Q h => oneB (g := fun d => (boolD d).map fun c => (c == b')) h fun d r Hf' H' x rx e1 _ q => ?_
    rw [Option.map_eq_some_iff] at e1
    obtain ⟨c, e2, rfl⟩ := e1
    refine ⟨c, b', boolD_rep rx e2, rfl, _, rfl, ?_⟩
    rw [dec_b]
    exact q

/-! ### truth -/
theorem truD_ok {K : PySem.W.Frag} {H : Hp} {x : V} {d : D} {k : Bool} (h : Rep K H x d) (e : truD d = some k) : TruV K x H k := by
  cases h <;> simp only [truD, Option.some.injEq] at e
  case non => exact e.symm
  case bl b => exact e.symm
  case int i => exact e.symm
  case str y =>
    split at e <;> first | contradiction | skip
    rename_i hy
    exact ⟨by rw [line_eq]; exact hy, (Option.some.inj e).symm⟩
  case lst a xs l h n it =>
    refine .inl ⟨xs, SqL.of h, ?_⟩
    rw [← e]
    cases xs <;> cases l <;> simp_all
  case tup a xs l h n it =>
    refine .inr (.inl ⟨xs, h, ?_⟩)
    rw [← e]
    cases xs <;> cases l <;> simp_all
  case dct => cases e
theorem e_not (ha : PE X a (tE X.K ct W ma)) : PE X (.UnaryOp .Not a pos) (tE X.K ct W fun ρ => (ma ρ).bind fun d ρ => R.of (notD d) ρ) := by
  refine (pe_notT ha).weak fun σ H Q h => oneO h fun d r Hf' H' x rx e1 sub q => ?_
  unfold notD at e1
  rw [Option.map_eq_some_iff] at e1
  obtain ⟨k, e2, rfl⟩ := e1
  exact ⟨k, truD_ok (rx.mono sub) e2, q _ (.bl _)⟩
theorem t_tru (ha : PE X a (tE X.K ct W ma)) (he : ∀ whole, isTrue a X.env whole = (do let v ← whole; standAt a.pos; holding [v] (truthy v))) : PT X a (tT X.K ct W fun ρ => (ma ρ).bind fun d ρ => R.of (truD d) ρ) :=
  (pt_truth ha he).weak fun σ H Q h => oneB h fun d r Hf' H' x rx e1 sub q => ⟨r, truD_ok (rx.mono sub) e1, q⟩
theorem e_and {rest : List Expr} (ha : PE X a (tE X.K ct W ma)) (hb : PE X (.BoolOp .And (b :: rest) pos) (tE X.K ct W mb)) :
    PE X (.BoolOp .And (a :: b :: rest) pos) (tE X.K ct W fun ρ => (ma ρ).bind fun d ρ => (R.of (boolD d) ρ).bind fun t ρ => if t then mb ρ else .ok (.bool false) ρ) := by
  refine (pe_and ha hb).weak fun σ H Q h => ?_
  obtain ⟨Hf, ρ, U, R, p⟩ := h
  refine ⟨Hf, ρ, U, R, p.then fun d ρ1 Hf1 H1 U1 R1 S1 p1 x rx => ?_⟩
  obtain ⟨k, e1, q⟩ := p1.bnd.of R1
  refine ⟨k, boolD_rep rx e1, ?_⟩
  cases k with
  | true => simp only [if_true] at q ⊢; exact ⟨Hf1, ρ1, U1, R1, q⟩
  | false => simp only [Bool.false_eq_true, if_false] at q ⊢; exact q.ok R1 _ (.bl _)
theorem e_or {rest : List Expr} (ha : PE X a (tE X.K ct W ma)) (hb : PE X (.BoolOp .Or (b :: rest) pos) (tE X.K ct W mb)) :
    PE X (.BoolOp .Or (a :: b :: rest) pos) (tE X.K ct W fun ρ => (ma ρ).bind fun d ρ => (R.of (boolD d) ρ).bind fun t ρ => if t then .ok (.bool true) ρ else mb ρ) := by
  refine (pe_or ha hb).weak fun σ H Q h => ?_
  obtain ⟨Hf, ρ, U, R, p⟩ := h
  refine ⟨Hf, ρ, U, R, p.then fun d ρ1 Hf1 H1 U1 R1 S1 p1 x rx => ?_⟩
  obtain ⟨k, e1, q⟩ := p1.bnd.of R1
  refine ⟨k, boolD_rep rx e1, ?_⟩
  cases k with
  | false => simp only [Bool.false_eq_true, if_false] at q ⊢; exact ⟨Hf1, ρ1, U1, R1, q⟩
  | true => simp only [if_true] at q ⊢; exact q.ok R1 _ (.bl _)
variable {na nb : Env → R Bool}
theorem t_and {rest : List Expr} (ha : PT X a (tT X.K ct W na)) (hb : PW X (.BoolOp .And (b :: rest) pos) (tT X.K ct W nb)) :
    PW X (.BoolOp .And (a :: b :: rest) pos) (tT X.K ct W fun ρ => (na ρ).bind fun t ρ => if t then nb ρ else .ok false ρ) := by
  refine (pw_and ha hb).weak fun σ H Q h => ?_
  obtain ⟨Hf, ρ, U, R, p⟩ := h
  refine ⟨Hf, ρ, U, R, p.then fun k ρ1 Hf1 H1 U1 R1 S1 q => ?_⟩
  cases k with
  | true => simp only [if_true] at q ⊢; exact ⟨Hf1, ρ1, U1, R1, q⟩
  | false => simp only [Bool.false_eq_true, if_false] at q ⊢; exact q.ok R1
theorem t_or {rest : List Expr} (ha : PT X a (tT X.K ct W na)) (hb : PW X (.BoolOp .Or (b :: rest) pos) (tT X.K ct W nb)) :
    PW X (.BoolOp .Or (a :: b :: rest) pos) (tT X.K ct W fun ρ => (na ρ).bind fun t ρ => if t then .ok true ρ else nb ρ) := by
  refine (pw_or ha hb).weak fun σ H Q h => ?_
  obtain ⟨Hf, ρ, U, R, p⟩ := h
  refine ⟨Hf, ρ, U, R, p.then fun k ρ1 Hf1 H1 U1 R1 S1 q => ?_⟩
  cases k with
  | false => simp only [Bool.false_eq_true, if_false] at q ⊢; exact ⟨Hf1, ρ1, U1, R1, q⟩
  | true => simp only [if_true] at q ⊢; exact q.ok R1
theorem t_not (ha : PT X a (tT X.K ct W na)) : PT X (.UnaryOp .Not a pos) (tT X.K ct W fun ρ => (na ρ).bind fun t ρ => .ok (!t) ρ) := by
  refine (pt_not ha).weak fun σ H Q h => ?_
  obtain ⟨Hf, ρ, U, R, p⟩ := h
  exact ⟨Hf, ρ, U, R, p.then fun k ρ1 Hf1 H1 U1 R1 S1 q => q.ok R1⟩
theorem e_ife (hc : PT X c (tT X.K ct W na)) (ha : PE X a (tE X.K ct W ma)) (hb : PE X b (tE X.K ct W mb)) : PE X (.IfExp c a b pos) (tE X.K ct W fun ρ => (na ρ).bind fun t ρ => if t then ma ρ else mb ρ) := by
  refine (pe_ifExp hc ha hb).weak fun σ H Q h => ?_
  obtain ⟨Hf, ρ, U, R, p⟩ := h
  refine ⟨Hf, ρ, U, R, p.then fun k ρ1 Hf1 H1 U1 R1 S1 q => ?_⟩
  cases k with
  | false => simp only [Bool.false_eq_true, if_false] at q ⊢; exact ⟨Hf1, ρ1, U1, R1, q⟩
  | true => simp only [if_true] at q ⊢; exact ⟨Hf1, ρ1, U1, R1, q⟩
end
end Tr
set_option Elab.async false
set_option linter.all false
set_option maxRecDepth 100000
set_option maxHeartbeats 4000000
/-! TrC3: names, constants, displays, subscripts, paths, built-ins. -/
namespace Tr
open PySem PySem.Spec PyProof.Rows L2

section
variable {X : Cx} {ct : Str → Option Addr} {W : WX} {a b c : Expr} {ma mb mc : Env → R D} {pos : Pos}

/-! ### names, constants -/
theorem v_sem {K : PySem.W.Frag} {σ : L2.St} {H : Hp} {Q : VK} {i : Nat} (h : tE K ct W (rdV i) σ H Q) : tVar i σ H Q := by
  obtain ⟨Hf, ρ, U, R0, p⟩ := h
  unfold rdV at p
  split at p
  · rename_i d e
    obtain ⟨v, h1, h2⟩ := R0.own i _ e
    cases h2 with
    | frz r => exact ⟨v, h1, p.ok R0 v r⟩
  · rename_i l e
    split at p
    · rename_i cl
      obtain ⟨v, h1, r, R1, S1⟩ := R0.fzAt e (by simpa [O.clean] using cl)
      exact ⟨v, h1, p _ _ _ R1 S1 v r⟩
    · exact p.elim
  · exact p.elim
theorem e_v {i : Nat} (h : PE X a (tVar i)) : PE X a (tE X.K ct W (rdV i)) := h.weak fun σ H Q q => v_sem q
theorem const_sem {K : PySem.W.Frag} {σ : L2.St} {H : Hp} {Q : VK} {d : D} {v : V} (r : ∀ H, Rep K H v d) (h : tE K ct W (fun ρ => .ok d ρ) σ H Q) : tC v σ H Q := by
  obtain ⟨Hf, ρ, U, R0, p⟩ := h
  exact p.ok R0 v (r _)
theorem e_int {i j} : PE X (.Constant (.int i) j pos) (tE X.K ct W fun ρ => .ok (.int i) ρ) := pe_int.weak fun σ H Q q => const_sem (fun _ => .int i) q
theorem e_bl {i j} : PE X (.Constant (.bool i) j pos) (tE X.K ct W fun ρ => .ok (.bool i) ρ) := pe_bl.weak fun σ H Q q => const_sem (fun _ => .bl i) q
theorem e_non {j} : PE X (.Constant .none j pos) (tE X.K ct W fun ρ => .ok .none ρ) := pe_non.weak fun σ H Q q => const_sem (fun _ => .non) q
theorem e_str {x j} : PE X (.Constant (.str x) j pos) (tE X.K ct W fun ρ => .ok (.str x) ρ) := pe_str.weak fun σ H Q q => const_sem (fun _ => .str x) q
theorem e_glob {x : Str} {v : V} {u : Value} {d : D} {Φ : Tab} {k : Nat} (hg : Gl X x) (hm : X.mg x = some u) (r : RelV v u) (hr : ∀ H, Rep X.K H v d) (hk : Φ.gl[k]? = some d) (hd : (x == ("__debug__" : Str)) = false) :
    PE X (.Name x pos) (tE X.K ct W fun ρ => R.of Φ.gl[k]? ρ) := by
  rw [hk]
  exact (pe_glob hg hm r hd).weak fun σ H Q q => const_sem hr q

/-! ### argument lists, displays -/
theorem a_nil : PA X [] (tEs X.K ct W fun ρ => .ok [] ρ) := pa_nil.weak fun σ H Q q => by
  obtain ⟨Hf, ρ, U, R0, p⟩ := q
  exact p.ok R0 [] rfl fun i v d e => by simp at e
def notStar : Expr → Bool
  | .Starred _ _ => false
  | _ => true
theorem starEach_cons {e : Expr} {es : List Expr} {env : PySem.Env} (h : notStar e = true) : starEach (e :: es) env = (false, eval e env) :: starEach es env := by
  cases e <;> first | rfl | (simp [notStar] at h)
theorem a_cons {es : List Expr} {mm : Env → R (List D)} (ha : PE X a (tE X.K ct W ma)) (hr : PA X es (tEs X.K ct W mm)) (hs : notStar a = true) :
    PA X (a :: es) (tEs X.K ct W fun ρ => (ma ρ).bind fun d ρ => (mm ρ).bind fun l ρ => .ok (d :: l) ρ) := by
  refine (pa_cons ha hr (starEach_cons hs)).weak fun σ H Q q => ?_
  obtain ⟨Hf, ρ, U, R0, p⟩ := q
  refine ⟨Hf, ρ, U, R0, p.then fun d ρ1 Hf1 H1 U1 R1 S1 p1 x rx => ⟨Hf1, ρ1, U1, R1, p1.then fun l ρ2 Hf2 H2 U2 R2 S2 p2 vs n it => ?_⟩⟩
  refine p2.ok R2 (x :: vs) (by simp [n]) fun i v d' e1 e2 => ?_
  cases i with
  | zero =>
    have e1' : x = v := by simpa using e1
    have e2' : d = d' := by simpa using e2
    subst e1' e2'
    exact rx.mono S2.mono
  | succ i => exact it i v d' (by simpa using e1) (by simpa using e2)
theorem e_tup {es : List Expr} {k : Nat} {mm : Env → R (List D)} (h : PA X es (tEs X.K ct W mm)) : PE X (.Tuple es k pos) (tE X.K ct W fun ρ => (mm ρ).bind fun l ρ => if l.length ≤ line then .ok (.tuple l) ρ else .bad) := by
  refine (pe_tup h).weak fun σ H Q q => ?_
  obtain ⟨Hf, ρ, U, R0, p⟩ := q
  refine ⟨Hf, ρ, U, R0, p.then fun l ρ1 Hf1 H1 U1 R1 S1 p1 vs n it => ?_⟩
  split at p1
  · rename_i hl
    refine ⟨by rw [n, line_eq]; exact hl, fun z hz => ?_⟩
    have m := upd_mono (H := Hf1) (p := z) (o := .tup vs) (R1.sub.free hz)
    exact p1 _ _ _ (R1.newF (o' := .tup vs) hz) (Step.newF R1.sub hz) (.ref z) (.tup (SqT.of upd_same) n fun i v d e1 e2 => (it i v d e1 e2).mono m)
  · exact p1.elim
variable {mf mg' : Env → R O}
theorem fs_nil : PA X [] (tFs X.K ct W fun ρ => .ok [] ρ) := pa_nil.weak fun σ H Q q => by
  obtain ⟨Hf, ρ, U, R0, p⟩ := q
  exact p.ok R0 [] (fun _ _ => False) ⟨rfl, fun i v d e => by simp at e, fun _ _ _ _ q => q.elim⟩ fun _ _ q => q.elim
theorem fs_cons {es : List Expr} {mm : Env → R (List O)} (ha : PE X a (tF X.K ct W mf)) (hr : PA X es (tFs X.K ct W mm)) (hs : notStar a = true) :
    PA X (a :: es) (tFs X.K ct W fun ρ => (mf ρ).bind fun d ρ => (mm ρ).bind fun l ρ => .ok (d :: l) ρ) := by
  refine (pa_cons ha hr (starEach_cons hs)).weak fun σ H Q q => ?_
  obtain ⟨Hf, ρ, U, R0, p⟩ := q
  refine ⟨Hf, ρ, U, R0, p.then fun o ρ1 Hf1 H1 U1 R1 S1 p1 x T ox tx => ⟨Hf1, ρ1, U1, R1, p1.then fun l ρ2 Hf2 H2 U2 R2 S2 p2 vs Y oy ty => ?_⟩⟩
  have ox2 := ox.step S2 fun b q => (tx b q).1
  have al2 : ∀ b, T b → H2 b ≠ none := fun b q z => by
    rcases S2.old z with w | w
    · exact (tx b q).1 w
    · exact (tx b q).2.1 w
  have nf2 : ∀ b, T b → ¬ foot U2 b := fun b q z => by
    rcases S2.foot b z with w | w
    · exact (tx b q).1 w
    · exact (tx b q).2.1 w
  refine p2.ok R2 (x :: vs) (fun i => match i with | 0 => T | i + 1 => Y i) ⟨by simp [oy.len], fun i v o' e1 e2 => ?_, fun i j b hne h1 h2 => ?_⟩ fun i b q => ?_
  · cases i with
    | zero =>
      have e1' : x = v := by simpa using e1
      have e2' : o = o' := by simpa using e2
      subst e1' e2'
      exact ox2
    | succ i => exact oy.own i v o' (by simpa using e1) (by simpa using e2)
  · cases i with
    | zero =>
      cases j with
      | zero => exact hne rfl
      | succ j =>
        rcases (ty j b h2).2.2 with w | w
        · exact (tx b h1).1 w
        · exact (tx b h1).2.1 w
    | succ i =>
      cases j with
      | zero =>
        rcases (ty i b h1).2.2 with w | w
        · exact (tx b h2).1 w
        · exact (tx b h2).2.1 w
      | succ j => exact oy.dj i j b (by omega) h1 h2
  · cases i with
    | zero => exact ⟨nf2 b q, al2 b q, (tx b q).2.2⟩
    | succ i =>
      refine ⟨(ty i b q).1, (ty i b q).2.1, ?_⟩
      rcases (ty i b q).2.2 with w | w
      · exact S1.foot b w
      · exact S1.old w
/-- a new list of owned items -/
theorem box_new {K : PySem.W.Frag} {Hf H : Hp} {vs : List V} {os : List O} {Y : UU} {z : Addr} (oy : Owns K Hf H vs os Y) (sub : Same Hf H) (hz : H z = none) (al : ∀ i b, Y i b → H b ≠ none) :
    Own K Hf (upd H z (.lst vs)) (.ref z) (.box os) (fun b => b = z ∨ ∃ i, Y i b) :=
  .box Y upd_same (sub.free hz) (.inl rfl) oy.len (fun i v o e1 e2 => (oy.own i v o e1 e2).upd hz) oy.dj fun i b q => ⟨.inr ⟨i, q⟩, fun e => al i b q (e ▸ hz)⟩
theorem upd_alive {H : Hp} {z b : Addr} {o : HO} (h : H b ≠ none) : upd H z o b ≠ none := fun q => by
  by_cases e : b = z
  · subst e; rw [upd_same] at q; cases q
  · rw [upd_ne e] at q; exact h q
theorem f_lst {es : List Expr} {mm : Env → R (List O)} (h : PA X es (tFs X.K ct W mm)) : PE X (.List es pos) (tF X.K ct W fun ρ => (mm ρ).bind fun l ρ => if l.length ≤ line then .ok (.box l) ρ else .bad) := by
  refine (pe_lst h).weak fun σ H Q q => ?_
  obtain ⟨Hf, ρ, U, R0, p⟩ := q
  refine ⟨Hf, ρ, U, R0, p.then fun l ρ1 Hf1 H1 U1 R1 S1 p1 vs Y oy ty => ?_⟩
  split at p1
  · rename_i hl
    refine ⟨by rw [oy.len, line_eq]; exact hl, fun z hz => ?_⟩
    refine p1 _ _ _ (R1.new (o' := .lst vs) hz) (Step.new hz) (.ref z) _ (box_new oy R1.sub hz fun i b q => (ty i b q).2.1) fun b q => ?_
    rcases q with rfl | ⟨i, q⟩
    · refine ⟨fun ⟨j, w⟩ => R1.alive j _ w hz, (fun w => by rw [upd_same] at w; cases w), ?_⟩
      rcases S1.old hz with w | w
      · exact .inl w
      · exact .inr w
    · exact ⟨(ty i b q).1, upd_alive (ty i b q).2.1, (ty i b q).2.2⟩
  · exact p1.elim
/-- frozen items in a new list -/
theorem owns_frz {K : PySem.W.Frag} {Hf H : Hp} {vs : List V} {l : List D} (n : vs.length = l.length) (it : ∀ (i : Nat) v d, vs[i]? = some v → l[i]? = some d → Rep K Hf v d) : Owns K Hf H vs (l.map .frz) (fun _ _ => False) :=
  ⟨by rw [List.length_map]; exact n, fun i v o e1 e2 => by
    rw [List.getElem?_map] at e2
    cases e : l[i]? with
    | none => rw [e] at e2; cases e2
    | some d =>
      rw [e] at e2
      cases e2
      exact .frz (it i v d e1 e), fun _ _ _ _ q => q.elim⟩
theorem box_frz {K : PySem.W.Frag} {Hf H : Hp} {vs : List V} {l : List D} {z : Addr} (n : vs.length = l.length) (it : ∀ (i : Nat) v d, vs[i]? = some v → l[i]? = some d → Rep K Hf v d) (sub : Same Hf H) (hz : H z = none) :
    Own K Hf (upd H z (.lst vs)) (.ref z) (.box (l.map .frz)) (fun b => b = z) := by
  have h := box_new (owns_frz n it) sub hz fun _ _ q => q.elim
  exact h.wide fun b q => q.elim id fun ⟨_, q⟩ => q.elim
/-- what is asked of a new list that nothing else owns -/
theorem new_own {K : PySem.W.Frag} {σ : L2.St} {H Hf1 H1 : Hp} {U U1 : UU} {ρ1 : Env} {Hf : Hp} {z : Addr} {o : HO} (R1 : Rel K Hf1 H1 ρ1 σ U1) (S1 : Step Hf H (foot U) Hf1 H1 (foot U1)) (hz : H1 z = none) : ∀ b, b = z → ¬ foot U1 b ∧ upd H1 z o b ≠ none ∧ (foot U b ∨ H b = none) := by
  rintro b rfl
  refine ⟨fun ⟨j, w⟩ => R1.alive j _ w hz, (fun w => by rw [upd_same] at w; cases w), ?_⟩
  rcases S1.old hz with w | w
  · exact .inl w
  · exact .inr w

/-! ### from data to what may be owned, and back -/
theorem f_ofE (ha : PE X a (tE X.K ct W ma)) : PE X a (tF X.K ct W fun ρ => (ma ρ).bind fun d ρ => .ok (.frz d) ρ) := ha.weak fun σ H Q q => by
  obtain ⟨Hf, ρ, U, R0, p⟩ := q
  exact ⟨Hf, ρ, U, R0, p.then fun d ρ1 Hf1 H1 U1 R1 S1 p1 x rx => p1.ok R1 x (fun _ => False) (.frz rx) fun _ q => q.elim⟩
theorem e_ofF (ha : PE X a (tF X.K ct W mf)) : PE X a (tE X.K ct W fun ρ => (mf ρ).bind fun o ρ => if o.clean then .ok o.fz ρ else .bad) := ha.weak fun σ H Q q => by
  obtain ⟨Hf, ρ, U, R0, p⟩ := q
  refine ⟨Hf, ρ, U, R0, p.then0 fun o ρ1 Hf1 H1 U1 R1 S1 p1 x T ox tx => ?_⟩
  split at p1
  · rename_i cl
    exact p1 _ _ _ (R1.fz fun b q => (tx b q).1) (S1.fzT R1.sub fun b q => (tx b q).2.2) x (ox.fz R1.sub cl fun _ q => q)
  · exact p1.elim
end
end Tr
set_option Elab.async false
set_option linter.all false
set_option maxRecDepth 100000
set_option maxHeartbeats 4000000
/-! TrC4: subscripts, paths, slices, + and * of rows, built-ins. -/
namespace Tr
open PySem PySem.Spec PyProof.Rows L2

theorem atD_get {α : Type} {l : List α} {i : Int} {d : α} (h : atD l i = some d) : ∃ j, ixN l.length i = some j ∧ l[j]? = some d := by
  unfold atD at h
  cases e : ixN l.length i with
  | none => rw [e] at h; cases h
  | some j => rw [e] at h; exact ⟨j, rfl, h⟩
theorem ixN_same : ∀ n i, Tr.ixN n i = L2.ixN n i := fun _ _ => rfl
theorem atI_of {α : Type} {xs : List α} {n : Nat} {i : Int} {j : Nat} {v : α} (hn : xs.length = n) (h : Tr.ixN n i = some j) (e : xs[j]? = some v) : atI xs i = some v := by
  unfold atI
  rw [hn, ← ixN_same, h]
  exact e
theorem get_of {xs : List V} {l : List D} {j : Nat} {d : D} (n : xs.length = l.length) (e : l[j]? = some d) : ∃ v, xs[j]? = some v := by
  obtain ⟨h, _⟩ := List.getElem?_eq_some_iff.mp e
  exact ⟨xs[j]'(by omega), List.getElem?_eq_getElem _⟩
/-- d[k] of data that stays -/
theorem Rep.ix {K : PySem.W.Frag} {Hf H : Hp} {x y : V} {d k e : D} (hd : Rep K Hf x d) (hk : Rep K Hf y k) (sub : Same Hf H) (h : ixD d k = some e) : ∃ v, Rep K Hf v e ∧ ∀ Q : VK, Q v H → rIx K x y H Q := by
  cases hd <;> cases hk <;> simp only [ixD, reduceCtorEq] at h
  case lst.int a xs l hl n it i =>
    obtain ⟨j, e1, e2⟩ := atD_get h
    obtain ⟨v, ev⟩ := get_of n e2
    exact ⟨v, it j v e ev e2, fun Q q => .inl ⟨a, xs, i, v, rfl, rfl, SqL.of (sub _ _ hl), atI_of n e1 ev, q⟩⟩
  case tup.int a xs l hl n it i =>
    obtain ⟨j, e1, e2⟩ := atD_get h
    obtain ⟨v, ev⟩ := get_of n e2
    exact ⟨v, it j v e ev e2, fun Q q => .inr (.inl ⟨a, xs, i, v, rfl, rfl, Same.seqT sub hl, atI_of n e1 ev, q⟩)⟩
  case str.int s i =>
    split at h <;> first | contradiction | skip
    rename_i hs
    rw [Option.map_eq_some_iff] at h
    obtain ⟨c, e1, rfl⟩ := h
    obtain ⟨j, e2, e3⟩ := atD_get e1
    exact ⟨_, .str _, fun Q q => .inr (.inr ⟨s, i, c, rfl, rfl, by rw [line_eq]; exact hs, atI_of rfl e2 e3, q⟩)⟩
def notSlice : Expr → Bool
  | .Slice _ _ _ _ => false
  | _ => true
theorem plainIx_of {b : Expr} (h : notSlice b = true) : PlainIx b := fun o i => by
  cases b <;> first | rfl | (simp [notSlice] at h)
section
variable {X : Cx} {ct : Str → Option Addr} {W : WX} {a b c : Expr} {ma mb mc : Env → R D} {pos : Pos} {mf : Env → R O}
theorem e_ix (ha : PE X a (tE X.K ct W ma)) (hb : PE X b (tE X.K ct W mb)) (hs : notSlice b = true) : PE X (.Subscript a b pos) (tE X.K ct W fun ρ => (ma ρ).bind fun d ρ => (mb ρ).bind fun e ρ => R.of (ixD d e) ρ) := by
  refine (pe_ix ix_seq ha hb (plainIx_of hs)).weak fun σ H Q h => twoO h fun d e r Hf' H' x y rx ry e1 sub q => ?_
  obtain ⟨v, rv, w⟩ := rx.ix ry sub e1
  exact w Q (q v rv)

/-! ### paths -/
theorem look_app {o : O} : ∀ {l : List D} {m : List D}, lookP o (l ++ m) = (lookP o l).bind fun o' => lookP o' m := by
  intro l
  induction l generalizing o with
  | nil => intro m; cases m <;> rfl
  | cons d l ih =>
    intro m
    cases o with
    | frz e =>
      simp only [List.cons_append, lookP]
      cases ixD e d with
      | none => rfl
      | some e' => exact ih
    | box bs =>
      cases d <;> simp only [List.cons_append, lookP] <;> try rfl
      rename_i i
      cases atD bs i with
      | none => rfl
      | some o' => exact ih
    | scr bs =>
      cases d <;> simp only [List.cons_append, lookP] <;> try rfl
      rename_i i
      cases atD bs i with
      | none => rfl
      | some o' => exact ih
/-- one step down a path -/
theorem Own.look {K : PySem.W.Frag} {Hf H : Hp} {x y : V} {o o' : O} {T : Addr → Prop} {k : D} (h : Own K Hf H x o T) (hk : Rep K Hf y k) (sub : Same Hf H) (e : lookP o [k] = some o') : ∃ v T', Own K Hf H v o' T' ∧ (∀ b, T' b → T b) ∧ ∀ Q : VK, Q v H → rIx K x y H Q := by
  cases h with
  | frz h =>
    simp only [lookP] at e
    cases e1 : ixD _ k with
    | none => rw [e1] at e; cases e
    | some d =>
      rw [e1] at e
      cases e
      obtain ⟨v, rv, w⟩ := h.ix hk sub e1
      exact ⟨v, fun _ => False, .frz rv, fun _ q => q.elim, w⟩
  | @box a xs l T U h nf ta n it dj sb =>
    cases hk <;> simp only [lookP, reduceCtorEq] at e
    rename_i i
    cases e1 : atD l i with
    | none => rw [e1] at e; cases e
    | some o1 =>
      rw [e1] at e
      cases e
      obtain ⟨j, e2, e3⟩ := atD_get e1
      obtain ⟨hj, _⟩ := List.getElem?_eq_some_iff.mp e3
      have ev : xs[j]? = some (xs[j]'(by omega)) := List.getElem?_eq_getElem _
      exact ⟨_, U j, it j _ o' ev e3, fun b q => (sb j b q).1, fun Q q => .inl ⟨a, xs, i, _, rfl, rfl, SqL.of h, atI_of n e2 ev, q⟩⟩
  | @scr a l T h =>
    cases hk <;> simp only [lookP, reduceCtorEq] at e
    rename_i i
    cases e1 : atD l i with
    | none => rw [e1] at e; cases e
    | some k =>
      rw [e1] at e
      cases e
      obtain ⟨j, e2, e3⟩ := atD_get e1
      exact ⟨.int k, fun _ => False, .frz (.int k), fun _ q => q.elim, fun Q q => .inl ⟨a, _, i, _, rfl, rfl, Same.seq sub h, atI_of (List.length_map _) e2 (by rw [List.getElem?_map, e3]; rfl), q⟩⟩
theorem ldV_of {s : Nat} {ρ : Env} {o : O} (e : ldV s ρ = some o) : ρ[s]? = some (some o) := by
  unfold ldV at e
  split at e
  · cases e; assumption
  · cases e
theorem some_of {α : Type} {o : Option α} (h : o.isSome = true) : ∃ a, o = some a := by
  cases o with
  | none => cases h
  | some a => exact ⟨a, rfl⟩
/-- quiet whole numbers -/
def tQ (K : PySem.W.Frag) (q : Qx) : TE := fun σ H Q => ∃ Hf ρ U, Rel K Hf H ρ σ U ∧ ∃ i, q.sem ρ = some i ∧ Q (.int i) H
theorem q_v {i : Nat} (h : PE X a (tVar i)) : PE X a (tQ X.K (.v i)) := h.weak fun σ H Q q => by
  obtain ⟨Hf, ρ, U, R0, k, e, q⟩ := q
  simp only [Qx.sem] at e
  split at e
  · rename_i k' e2
    cases e
    obtain ⟨v, h1, h2⟩ := R0.own i _ e2
    cases h2 with
    | frz r =>
      rw [r.int_of] at h1
      exact ⟨_, h1, q⟩
  · cases e
theorem q_int {i : Int} {j} : PE X (.Constant (.int i) j pos) (tQ X.K (.int i)) := pe_int.weak fun σ H Q q => by
  obtain ⟨Hf, ρ, U, R0, k, e, q⟩ := q
  cases e
  exact q
theorem q_add {p q : Qx} (ha : PE X a (tQ X.K p)) (hb : PE X b (tQ X.K q)) : PE X (.BinOp a .Add b pos) (tQ X.K (.add p q)) := (pe_op op_add ha hb).weak fun σ H Q h => by
  obtain ⟨Hf, ρ, U, R0, k, e, h⟩ := h
  simp only [Qx.sem] at e
  cases e1 : p.sem ρ with
  | none => rw [e1] at e; cases e
  | some i =>
    cases e2 : q.sem ρ with
    | none => rw [e1, e2] at e; cases e
    | some j =>
      rw [e1, e2] at e
      cases e
      exact ⟨Hf, ρ, U, R0, i, e1, Hf, ρ, U, R0, j, e2, i, j, rfl, rfl, h⟩
theorem q_sub {p q : Qx} (ha : PE X a (tQ X.K p)) (hb : PE X b (tQ X.K q)) : PE X (.BinOp a .Sub b pos) (tQ X.K (.sub p q)) := (pe_op op_sub ha hb).weak fun σ H Q h => by
  obtain ⟨Hf, ρ, U, R0, k, e, h⟩ := h
  simp only [Qx.sem] at e
  cases e1 : p.sem ρ with
  | none => rw [e1] at e; cases e
  | some i =>
    cases e2 : q.sem ρ with
    | none => rw [e1, e2] at e; cases e
    | some j =>
      rw [e1, e2] at e
      cases e
      exact ⟨Hf, ρ, U, R0, i, e1, Hf, ρ, U, R0, j, e2, i, j, rfl, rfl, h⟩
theorem q_neg {p : Qx} (ha : PE X a (tQ X.K p)) : PE X (.UnaryOp .USub a pos) (tQ X.K (.neg p)) := (pe_un un_neg ha).weak fun σ H Q h => by
  obtain ⟨Hf, ρ, U, R0, k, e, h⟩ := h
  simp only [Qx.sem] at e
  cases e1 : p.sem ρ with
  | none => rw [e1] at e; cases e
  | some i =>
    rw [e1] at e
    cases e
    exact ⟨Hf, ρ, U, R0, i, e1, i, rfl, h⟩
/-- what stands at a path -/
def tP (K : PySem.W.Frag) (p : P) : TE := fun σ H Q => ∃ Hf ρ U, Rel K Hf H ρ σ U ∧ ∃ s l o o', p.sem ρ = some (s, l) ∧ ldV s ρ = some o ∧ lookP o l = some o' ∧ ∀ v T, Own K Hf H v o' T → (∀ b, T b → U s b) → Q v H
theorem p_v {s : Nat} (h : PE X a (tVar s)) : PE X a (tP X.K (.v s)) := h.weak fun σ H Q q => by
  obtain ⟨Hf, ρ, U, R0, s', l, o, o', e1, e2, e3, q⟩ := q
  cases e1
  cases e3
  obtain ⟨v, h1, h2⟩ := R0.own _ _ (ldV_of e2)
  exact ⟨v, h1, q v _ h2 fun _ q => q⟩
theorem p_ix {p : P} {i : Qx} (ha : PE X a (tP X.K p)) (hb : PE X b (tQ X.K i)) (hs : notSlice b = true) : PE X (.Subscript a b pos) (tP X.K (.ix p i)) := (pe_ix ix_seq ha hb (plainIx_of hs)).weak fun σ H Q q => by
  obtain ⟨Hf, ρ, U, R0, s, l, o, o', e1, e2, e3, q⟩ := q
  simp only [P.sem] at e1
  split at e1
  · rename_i s' l' k ep ek
    cases e1
    rw [look_app] at e3
    cases e4 : lookP o l' with
    | none => rw [e4] at e3; cases e3
    | some o1 =>
      rw [e4] at e3
      refine ⟨Hf, ρ, U, R0, s, l', o, o1, ep, e2, e4, fun v T ov tv => ⟨Hf, ρ, U, R0, k, ek, ?_⟩⟩
      obtain ⟨w, T', ow, tw, rd⟩ := ov.look (.int k) R0.sub e3
      exact rd Q (q w T' ow fun b z => tv b (tw b z))
  · cases e1
/-- a whole number at a path -/
theorem q_p {p : P} (ha : PE X a (tP X.K p)) : PE X a (tQ X.K (.p p)) := ha.weak fun σ H Q q => by
  obtain ⟨Hf, ρ, U, R0, k, e, q⟩ := q
  simp only [Qx.sem] at e
  split at e
  · rename_i s l ep
    split at e
    · rename_i o eo
      split at e
      · rename_i k' ek
        cases e
        refine ⟨Hf, ρ, U, R0, s, l, o, _, ep, eo, ek, fun v T ov _ => ?_⟩
        cases ov with
        | frz r =>
          rw [r.int_of]
          exact q
      · cases e
    · cases e
  · cases e
theorem e_pix {p : P} (ha : PE X a (tP X.K p)) : PE X a (tE X.K ct W fun ρ => (R.of (p.sem ρ) ρ).bind fun l ρ => rdP l.1 l.2 ρ) := ha.weak fun σ H Q q => by
  obtain ⟨Hf, ρ, U, R0, q⟩ := q
  obtain ⟨⟨s, l⟩, e1, q⟩ := q.bnd.of R0
  simp only [rdP] at q
  split at q
  · rename_i o eo
    split at q
    · rename_i d ed
      refine ⟨Hf, ρ, U, R0, s, l, o, .frz d, e1, eo, ed, fun v T ov _ => ?_⟩
      cases ov with
      | frz r => exact q.ok R0 v r
    · exact q.elim
  · exact q.elim
theorem e_ix1 {s : Nat} (ha : PE X a (tVar s)) (hb : PE X b (tE X.K ct W mb)) (hs : notSlice b = true) : PE X (.Subscript a b pos) (tE X.K ct W fun ρ => if (ldV s ρ).isSome then (mb ρ).bind fun k ρ => rdP s [k] ρ else .bad) := by
  refine (pe_ix ix_seq ha hb (plainIx_of hs)).weak fun σ H Q q => ?_
  obtain ⟨Hf, ρ, U, R0, q⟩ := q
  dsimp only at q
  split at q
  · rename_i hsm
    obtain ⟨o, eo⟩ := some_of hsm
    obtain ⟨v, h1, _⟩ := R0.own _ _ (ldV_of eo)
    refine ⟨v, h1, Hf, ρ, U, R0, q.then fun k ρ1 Hf1 H1 U1 R1 S1 p1 y ry => ?_⟩
    simp only [rdP] at p1
    split at p1
    · rename_i o1 eo1
      split at p1
      · rename_i d ed
        obtain ⟨v1, h2, ov⟩ := R1.own _ _ (ldV_of eo1)
        rw [h1] at h2
        cases h2
        obtain ⟨w, T', ow, _, rd⟩ := ov.look ry R1.sub ed
        cases ow with
        | frz r => exact rd Q (p1.ok R1 w r)
      · exact p1.elim
    · exact p1.elim
  · exact q.elim

/-! ### built-ins by name -/
/-- a built-in's name in this scope -/
structure Blt (X : Cx) (x : Str) : Prop where
  gl : Gl X x
  no : X.mg x = none
theorem back_nil {pos : Pos} {env : PySem.Env} : (backTo pos (starEach [] env)).any (·.1) = false := rfl
theorem back_one {pos : Pos} {env : PySem.Env} {e : Expr} (h : notStar e = true) : (backTo pos (starEach [e] env)).any (·.1) = false := by
  rw [starEach_cons h]
  rfl
theorem one_sem {K : PySem.W.Frag} {σ : L2.St} {H : Hp} {Q : VK} {g : D → Option D} {r : List V → Hp → VK → Prop} (h : tE K ct W (fun ρ => (ma ρ).bind fun d ρ => R.of (g d) ρ) σ H Q)
    (m : ∀ d e Hf' H' ρ' U' x, Rel K Hf' H' ρ' σ U' → Rep K Hf' x d → g d = some e → (∀ Hf'' H'' U'', Rel K Hf'' H'' ρ' σ U'' → Step Hf' H' (foot U') Hf'' H'' (foot U'') → ∀ v, Rep K Hf'' v e → Q v H'') → r [x] H' Q) : tCB r (tCons (tE K ct W ma) tNil) σ H Q := by
  obtain ⟨Hf, ρ, U, R0, p⟩ := h
  refine ⟨Hf, ρ, U, R0, p.then fun d ρ1 Hf1 H1 U1 R1 S1 p1 x rx => ?_⟩
  obtain ⟨e, e1, _⟩ := p1.of R1
  rw [e1] at p1
  exact m d e Hf1 H1 ρ1 U1 x R1 rx e1 p1
theorem len_of {xs : List V} {l : List D} (n : xs.length = l.length) : (xs.length : Int) = l.length := by rw [n]
def b1Name : B1 → Str
  | .abs => "abs" | .int => "int" | .bool => "bool" | .str => "str" | .tuple => "tuple" | .len => "len" | .sum => "sum" | .all => "all" | .any => "any" | .max => "max" | .min => "min" | .repr => "repr"
theorem bools_of {K : PySem.W.Frag} {H : Hp} : ∀ {l : List D} {xs : List V} {bs : List Bool}, xs.length = l.length → (∀ (i : Nat) v d, xs[i]? = some v → l[i]? = some d → Rep K H v d) → boolsD l = some bs → xs = bs.map V.bl
  | [], [], bs, _, _, e => by
    simp only [boolsD, Option.some.injEq] at e
    subst e
    rfl
  | [], _ :: _, _, n, _, _ => by simp at n
  | _ :: _, [], _, n, _, _ => by simp at n
  | d :: l, x :: xs, bs, n, h, e => by
    have r := h 0 x d rfl rfl
    cases r <;> simp only [boolsD, reduceCtorEq] at e
    case bl i =>
      cases q : boolsD l with
      | none => rw [q] at e; simp at e
      | some r =>
        rw [q] at e
        simp only [Option.map_some, Option.some.injEq] at e
        subst e
        have := bools_of (l := l) (xs := xs) (bs := r) (by simpa using n) (fun i v d e1 e2 => h (i + 1) v d (by simpa using e1) (by simpa using e2)) q
        rw [this]
        rfl
theorem maxL_is : ∀ (l : List Int) (x : Int), maxL x l ∈ x :: l ∧ ∀ y ∈ x :: l, y ≤ maxL x l
  | [], x => ⟨by simp [maxL], by simp [maxL]⟩
  | z :: l, x => by
    simp only [maxL]
    by_cases h : z > x
    · rw [if_pos h]
      obtain ⟨h1, h2⟩ := maxL_is l z
      refine ⟨?_, fun y hy => ?_⟩
      · rcases List.mem_cons.mp h1 with e | e
        · rw [e]; simp
        · exact List.mem_cons_of_mem _ (List.mem_cons_of_mem _ e)
      · rcases List.mem_cons.mp hy with e | e
        · have := h2 z List.mem_cons_self; omega
        · exact h2 y e
    · rw [if_neg h]
      obtain ⟨h1, h2⟩ := maxL_is l x
      refine ⟨?_, fun y hy => ?_⟩
      · rcases List.mem_cons.mp h1 with e | e
        · rw [e]; exact List.mem_cons_self
        · exact List.mem_cons_of_mem _ (List.mem_cons_of_mem _ e)
      · rcases List.mem_cons.mp hy with e | e
        · rw [e]; exact h2 x List.mem_cons_self
        · rcases List.mem_cons.mp e with e | e
          · have := h2 x List.mem_cons_self; omega
          · exact h2 y (List.mem_cons_of_mem _ e)
theorem minL_is : ∀ (l : List Int) (x : Int), minL x l ∈ x :: l ∧ ∀ y ∈ x :: l, minL x l ≤ y
  | [], x => ⟨by simp [minL], by simp [minL]⟩
  | z :: l, x => by
    simp only [minL]
    by_cases h : z < x
    · rw [if_pos h]
      obtain ⟨h1, h2⟩ := minL_is l z
      refine ⟨?_, fun y hy => ?_⟩
      · rcases List.mem_cons.mp h1 with e | e
        · rw [e]; simp
        · exact List.mem_cons_of_mem _ (List.mem_cons_of_mem _ e)
      · rcases List.mem_cons.mp hy with e | e
        · have := h2 z List.mem_cons_self; omega
        · exact h2 y e
    · rw [if_neg h]
      obtain ⟨h1, h2⟩ := minL_is l x
      refine ⟨?_, fun y hy => ?_⟩
      · rcases List.mem_cons.mp h1 with e | e
        · rw [e]; exact List.mem_cons_self
        · exact List.mem_cons_of_mem _ (List.mem_cons_of_mem _ e)
      · rcases List.mem_cons.mp hy with e | e
        · rw [e]; exact h2 x List.mem_cons_self
        · rcases List.mem_cons.mp e with e | e
          · have := h2 x List.mem_cons_self; omega
          · exact h2 y (List.mem_cons_of_mem _ e)
theorem list_ints {K : PySem.W.Frag} {Hf H : Hp} {x : V} {l : List D} {ns : List Int} (h : Rep K Hf x (.list l)) (sub : Same Hf H) (e : intsD l = some ns) : ∃ a, x = .ref a ∧ SqL K H a (ns.map V.int) := by
  cases h with
  | lst h n it =>
    have := Rep.ints n it e
    subst this
    exact ⟨_, rfl, SqL.of (sub _ _ h)⟩
theorem tuple_ints {K : PySem.W.Frag} {Hf H : Hp} {x : V} {l : List D} {ns : List Int} (h : Rep K Hf x (.tuple l)) (sub : Same Hf H) (e : intsD l = some ns) : ∃ a, x = .ref a ∧ SqT K H a (ns.map V.int) := by
  cases h with
  | tup h n it =>
    have := Rep.ints n it e
    subst this
    exact ⟨_, rfl, Same.seqT sub h⟩
/-- max(t), t a tuple of whole numbers -/
def rMaxT (K : PySem.W.Frag) : List V → Hp → VK → Prop := fun vs H Q => ∃ (a : Addr) (ns : List Int), vs = [V.ref a] ∧ SqT K H a (ns.map V.int) ∧ 0 < ns.length ∧ ∀ m, m ∈ ns → (∀ y, y ∈ ns → y ≤ m) → Q (.int m) H
theorem cr_maxT (hc : X.calm = true) : CallR X (.builtin "max") (rMaxT X.K) := by
  intro pins s σ H vs us Q I r h
  obtain ⟨a, ns, rfl, hs, hne, q⟩ := h
  obtain ⟨its, rv, hl, _⟩ := I.tuple hs
  rw [Vals.ref1 r]
  have hn : its.toArray.size = ns.length := by rw [List.size_toArray, ← rv.length, List.length_map]
  have hv : ∀ (i : Nat) (v : Value), its.toArray[i]? = some v → ∃ t, v = .int (ns.getD i 0) t := fun i v e => PyProof.Rows.IntsAre.int_at rv.ints i v (by simpa using e)
  have lt : a < s.heap.objs.size := by obtain ⟨o, ho, _⟩ := id hl; exact Heap.lt_size ho
  refine call_max_walk (wpAny_pyIter_tuple hl ⟨_, _, _, _, _, _, _, rfl, Walks.tuple (A := X.A.in1) (I.ok.hd hc) _ a (Nat.ne_of_lt lt) its.toArray, ⟨⟨_, Heap.get?_push_size _ rfl, rfl, rfl⟩, hl.push _⟩, fun b hb => ?_, by omega, CmpOf.ints_gt (fun i => ns.getD i 0) hv, fun v h' tk hP hk => ?_⟩)
  · show b < (s.heap.push _).objs.size
    rw [Heap.size_push]
    rcases List.mem_cons.mp hb with e | e
    · rw [e]; exact Nat.lt_succ_self _
    · rw [List.mem_singleton.mp e]; exact Nat.lt_succ_of_lt lt
  · obtain ⟨t, rfl⟩ := hv _ v hP
    obtain ⟨h1, h2⟩ := argBest_gt (fun i => ns.getD i 0) (its.toArray.size - 1)
    refine ⟨.int _, H, I.kept (fun b o e => hk b o (fun q => ?_) (Heap.get?_push_of_some _ e)), ⟨_, rfl⟩, q _ ?_ fun y hy => ?_⟩
    · have := Heap.lt_size e
      rw [List.mem_singleton.mp q] at this
      exact Nat.lt_irrefl _ this
    · rw [List.getD_eq_getElem?_getD, List.getElem?_eq_getElem (by omega)]
      exact List.getElem_mem _
    · obtain ⟨j, hj, rfl⟩ := List.getElem_of_mem hy
      have := h2 j (by omega)
      rw [List.getD_eq_getElem?_getD, List.getElem?_eq_getElem hj] at this
      exact this
theorem shown_split {d : D} (h : shownOk d = true) : d.showable = true ∧ d.depth ≤ 60 ∧ d.shown.length ≤ sizeLine := by
  unfold shownOk at h
  simp only [Bool.and_eq_true, decide_eq_true_eq] at h
  rw [line_eq]
  exact ⟨h.1.1, h.1.2, h.2⟩
abbrev SysOk (K : PySem.W.Frag) : Prop := ∃ o, K.lookup sysModules = some o ∧ o.cls = .type "dict"
def isStr : D → Bool
  | .str _ => true
  | _ => false
/-- str(x), x no text -/
def rShow (K : PySem.W.Frag) : List V → Hp → VK → Prop := fun xs H Q => ∃ (x : V) (d : D), xs = [x] ∧ Rep K H x d ∧ isStr d = false ∧ shownOk d = true ∧ Q (.str d.shown) H
/-- repr(x) -/
def rRepr (K : PySem.W.Frag) : List V → Hp → VK → Prop := fun xs H Q => ∃ (x : V) (d : D), xs = [x] ∧ Rep K H x d ∧ shownOk d = true ∧ Q (.str d.shown) H
theorem cr_strD (hg : X.A.guards = some []) (hu : X.A.units + 65 < cLine) (hsys : SysOk X.K) : CallR X (.type "str") (rShow X.K) := by
  intro pins s σ H xs us Q I r h
  obtain ⟨x, d, rfl, rd, hns, ok, q⟩ := h
  obtain ⟨u, rfl, rv⟩ := vals1 r
  obtain ⟨c2, c3, c4⟩ := shown_split ok
  obtain ⟨as, rr, hm⟩ := rd.reads I hsys u rv
  cases rd with
  | non => cases rv; exact PySem.P.str_of_none ⟨.str _, H, I.tok _, ⟨_, rfl⟩, q⟩
  | bl b => cases rv; exact PySem.P.str_of_bool ⟨.str _, H, I.tok _, ⟨_, rfl⟩, by cases b <;> exact q⟩
  | int i =>
    obtain ⟨t, rfl⟩ := rv
    exact PySem.P.str_of_int (by simpa [PyData.showable] using c2) ⟨.str _, H, I.tok _, ⟨_, rfl⟩, q⟩
  | str x => cases hns
  | lst h n it =>
    cases (show u = Value.ref _ from rv)
    exact str_of_reads rr c2 (fun _ => hm) hg (by omega) (fun _ _ e => e) (fun h' u tk hk => ⟨.str _, H, I.kept hk, ⟨u, rfl⟩, q⟩) c4
  | tup h n it =>
    cases (show u = Value.ref _ from rv)
    exact str_of_reads rr c2 (fun _ => hm) hg (by omega) (fun _ _ e => e) (fun h' u tk hk => ⟨.str _, H, I.kept hk, ⟨u, rfl⟩, q⟩) c4
  | dct h n ks it =>
    cases (show u = Value.ref _ from rv)
    exact str_of_reads rr c2 (fun _ => hm) hg (by omega) (fun _ _ e => e) (fun h' u tk hk => ⟨.str _, H, I.kept hk, ⟨u, rfl⟩, q⟩) c4
theorem cr_reprD (hg : X.A.guards = some []) (hu : X.A.units + 65 < cLine) (hsys : SysOk X.K) : CallR X (.builtin "repr") (rRepr X.K) := by
  intro pins s σ H xs us Q I r h
  have I0 := I
  have r0 := r
  obtain ⟨x, d, rfl, rd, ok, q⟩ := h
  obtain ⟨u, rfl, rv⟩ := vals1 r
  obtain ⟨c2, c3, c4⟩ := shown_split ok
  obtain ⟨as, rr, hm⟩ := rd.reads I hsys u rv
  cases rd with
  | non => cases rv; exact PySem.P.repr_of_none ⟨.str _, H, I.tok _, ⟨_, rfl⟩, q⟩
  | bl b => cases rv; exact PySem.P.repr_of_bool ⟨.str _, H, I.tok _, ⟨_, rfl⟩, by cases b <;> exact q⟩
  | int i => exact SkE.call_repr_int pins s σ H _ _ Q I0 r0 ⟨i, rfl, by simpa [PyData.showable] using c2, q⟩
  | str x =>
    obtain ⟨t, rfl⟩ := rv
    exact PySem.P.repr_of_str ⟨.str _, H, I.tok _, ⟨_, rfl⟩, q⟩ c4
  | lst h n it =>
    cases (show u = Value.ref _ from rv)
    exact repr_of_reads' rr c2 (fun _ => hm) hg (by omega) (fun _ _ e => e) (fun h' u tk hk => ⟨.str _, H, I.kept hk, ⟨u, rfl⟩, q⟩) c4
  | tup h n it =>
    cases (show u = Value.ref _ from rv)
    exact repr_of_reads' rr c2 (fun _ => hm) hg (by omega) (fun _ _ e => e) (fun h' u tk hk => ⟨.str _, H, I.kept hk, ⟨u, rfl⟩, q⟩) c4
  | dct h n ks it =>
    cases (show u = Value.ref _ from rv)
    exact repr_of_reads' rr c2 (fun _ => hm) hg (by omega) (fun _ _ e => e) (fun h' u tk hk => ⟨.str _, H, I.kept hk, ⟨u, rfl⟩, q⟩) c4
theorem e_b1 (hg : X.A.guards = some []) (hu : X.A.units + 65 < cLine) (hsys : SysOk X.K) (hc : X.calm = true) {f : B1} {p : Pos} (bl : Blt X (b1Name f)) (ha : PE X a (tE X.K ct W ma)) (hs : notStar a = true) :
    PE X (.Call (.Name (b1Name f) p) [a] [] pos) (tE X.K ct W fun ρ => (ma ρ).bind fun d ρ => R.of (b1D f d) ρ) := by
  have P1 : PA X [a] (tCons (tE X.K ct W ma) tNil) := pa_cons ha pa_nil (starEach_cons hs)
  have S1 : starEach [a] X.env = (false, eval a X.env) :: starEach [] X.env := starEach_cons hs
  cases f with
  | abs =>
    refine (pe_callB call_abs bl.gl bl.no (by decide +kernel) P1 (by decide) (by decide) S1 back_nil).weak fun σ H Q h => one_sem h fun d e Hf' H' ρ' U' x R0 rx e1 q => ?_
    cases rx <;> simp only [b1D, reduceCtorEq, Option.some.injEq] at e1
    subst e1
    exact ⟨_, rfl, q _ _ _ R0 Step.refl _ (.int _)⟩
  | int =>
    refine (pe_callTy call_int1 bl.gl bl.no (by decide +kernel) P1 (by decide) (by decide) S1 back_nil).weak fun σ H Q h => one_sem h fun d e Hf' H' ρ' U' x R0 rx e1 q => ?_
    cases rx <;> simp only [b1D, reduceCtorEq, Option.some.injEq] at e1
    · subst e1; exact .inr ⟨_, rfl, q _ _ _ R0 Step.refl _ (.int _)⟩
    · subst e1; exact .inl ⟨_, rfl, q _ _ _ R0 Step.refl _ (.int _)⟩
  | bool =>
    refine (pe_callTy call_bool1 bl.gl bl.no (by decide +kernel) P1 (by decide) (by decide) S1 back_nil).weak fun σ H Q h => one_sem h fun d e Hf' H' ρ' U' x R0 rx e1 q => ?_
    cases rx <;> simp only [b1D, reduceCtorEq, Option.some.injEq] at e1
    · subst e1; exact .inr ⟨_, rfl, q _ _ _ R0 Step.refl _ (.bl _)⟩
    · subst e1; exact .inl ⟨_, rfl, q _ _ _ R0 Step.refl _ (.bl _)⟩
  | str =>
    refine (pe_callTy ((SkE.call_str_str).or (cr_strD hg hu hsys)) bl.gl bl.no (by decide +kernel) P1 (by decide) (by decide) S1 back_nil).weak fun σ H Q h => one_sem h fun d e Hf' H' ρ' U' x R0 rx e1 q => ?_
    have rm := rx.mono R0.sub
    cases rx <;> simp only [b1D, Option.some.injEq] at e1
    case str x =>
      subst e1
      exact .inl ⟨_, rfl, q _ _ _ R0 Step.refl _ (.str _)⟩
    case int i =>
      split at e1 <;> first | contradiction | skip
      rename_i hl
      cases e1
      refine .inr ⟨_, _, rfl, rm, rfl, ?_, q _ _ _ R0 Step.refl _ (.str _)⟩
      unfold shownOk
      simp only [PyData.showable, PyData.depth, PyData.shown, Bool.and_eq_true]
      exact ⟨⟨decide_eq_true hl, rfl⟩, decide_eq_true (by rw [← line_eq]; exact int_text_fits hl)⟩
    all_goals
      split at e1 <;> first | contradiction | skip
      rename_i hl
      cases e1
      exact .inr ⟨_, _, rfl, rm, rfl, hl, q _ _ _ R0 Step.refl _ (.str _)⟩
  | repr =>
    refine (pe_callB (cr_reprD hg hu hsys) bl.gl bl.no (by decide +kernel) P1 (by decide) (by decide) S1 back_nil).weak fun σ H Q h => one_sem h fun d e Hf' H' ρ' U' x R0 rx e1 q => ?_
    have rm := rx.mono R0.sub
    simp only [b1D] at e1
    split at e1 <;> first | contradiction | skip
    rename_i hl
    cases e1
    exact ⟨_, _, rfl, rm, hl, q _ _ _ R0 Step.refl _ (.str _)⟩
  | tuple =>
    refine (pe_callTy call_tuple_of bl.gl bl.no (by decide +kernel) P1 (by decide) (by decide) S1 back_nil).weak fun σ H Q h => one_sem h fun d e Hf' H' ρ' U' x R0 rx e1 q => ?_
    cases rx <;> simp only [b1D, reduceCtorEq, Option.some.injEq] at e1
    case lst a xs l h n it =>
      subst e1
      refine ⟨a, xs, rfl, .inl ⟨SqL.of (R0.sub _ _ h), fun z hz => ?_⟩⟩
      have m := upd_mono (H := Hf') (p := z) (o := .tup xs) (R0.sub.free hz)
      exact q _ _ _ (R0.newF (o' := .tup xs) hz) (Step.newF R0.sub hz) _ (.tup (SqT.of upd_same) n fun i v d e1 e2 => (it i v d e1 e2).mono m)
    case tup a xs l h n it =>
      subst e1
      exact ⟨a, xs, rfl, .inr ⟨Same.seqT R0.sub h, q _ _ _ R0 Step.refl _ (.tup h n it)⟩⟩
  | len =>
    refine (pe_callB (call_len_seq.or call_len_str) bl.gl bl.no PySem.boot_len P1 (by decide) (by decide) S1 back_nil).weak fun σ H Q h => one_sem h fun d e Hf' H' ρ' U' x R0 rx e1 q => ?_
    cases rx <;> simp only [b1D, reduceCtorEq, Option.some.injEq] at e1
    case str y =>
      split at e1 <;> first | contradiction | skip
      rename_i hl
      cases e1
      exact .inr ⟨_, rfl, by rw [line_eq]; exact hl, q _ _ _ R0 Step.refl _ (.int _)⟩
    case lst a xs l h n it =>
      subst e1
      refine .inl ⟨a, xs, rfl, .inl (SqL.of (R0.sub _ _ h)), ?_⟩
      rw [len_of n]
      exact q _ _ _ R0 Step.refl _ (.int _)
    case tup a xs l h n it =>
      subst e1
      refine .inl ⟨a, xs, rfl, .inr (Same.seqT R0.sub h), ?_⟩
      rw [len_of n]
      exact q _ _ _ R0 Step.refl _ (.int _)
  | sum =>
    refine (pe_callB (cr_sum hc) bl.gl bl.no (by decide +kernel) P1 (by decide) (by decide) S1 back_nil).weak fun σ H Q h => one_sem h fun d e Hf' H' ρ' U' x R0 rx e1 q => ?_
    cases d <;> simp only [b1D, reduceCtorEq] at e1
    rw [Option.map_eq_some_iff] at e1
    obtain ⟨ns, e2, rfl⟩ := e1
    obtain ⟨a, rfl, sq⟩ := list_ints rx R0.sub e2
    exact ⟨a, ns, rfl, sq, q _ _ _ R0 Step.refl _ (.int _)⟩
  | max =>
    refine (pe_callB ((cr_max hc).or (cr_maxT hc)) bl.gl bl.no (by decide +kernel) P1 (by decide) (by decide) S1 back_nil).weak fun σ H Q h => one_sem h fun d e Hf' H' ρ' U' x R0 rx e1 q => ?_
    cases d <;> simp only [b1D, reduceCtorEq] at e1
    all_goals
      split at e1 <;> first | contradiction | skip
      rename_i z r e2
      cases e1
      obtain ⟨g1, g2⟩ := maxL_is r z
      have e3 : ∀ m, m ∈ z :: r → (∀ y, y ∈ z :: r → y ≤ m) → m = maxL z r := fun m h1 h2 => Int.le_antisymm (g2 m h1) (h2 _ g1)
    · obtain ⟨a, rfl, sq⟩ := list_ints rx R0.sub e2
      refine .inl ⟨a, _, rfl, sq, by simp, fun m h1 h2 => ?_⟩
      rw [e3 m h1 h2]
      exact q _ _ _ R0 Step.refl _ (.int _)
    · obtain ⟨a, rfl, sq⟩ := tuple_ints rx R0.sub e2
      refine .inr ⟨a, _, rfl, sq, by simp, fun m h1 h2 => ?_⟩
      rw [e3 m h1 h2]
      exact q _ _ _ R0 Step.refl _ (.int _)
  | min =>
    refine (pe_callB (cr_min hc) bl.gl bl.no (by decide +kernel) P1 (by decide) (by decide) S1 back_nil).weak fun σ H Q h => one_sem h fun d e Hf' H' ρ' U' x R0 rx e1 q => ?_
    cases d <;> simp only [b1D, reduceCtorEq] at e1
    split at e1 <;> first | contradiction | skip
    rename_i z r e2
    cases e1
    obtain ⟨a, rfl, sq⟩ := list_ints rx R0.sub e2
    refine ⟨a, _, rfl, sq, by simp, fun m h1 h2 => ?_⟩
    obtain ⟨g1, g2⟩ := minL_is r z
    have e3 : m = minL z r := Int.le_antisymm (h2 _ g1) (g2 m h1)
    rw [e3]
    exact q _ _ _ R0 Step.refl _ (.int _)
  | all =>
    refine (pe_callB (cr_all hc) bl.gl bl.no (by decide +kernel) P1 (by decide) (by decide) S1 back_nil).weak fun σ H Q h => one_sem h fun d e Hf' H' ρ' U' x R0 rx e1 q => ?_
    cases rx <;> simp only [b1D, reduceCtorEq] at e1
    rename_i a xs l h n it
    rw [Option.map_eq_some_iff] at e1
    obtain ⟨bs, e2, rfl⟩ := e1
    have := bools_of n it e2
    subst this
    exact ⟨a, bs, rfl, SqL.of (R0.sub _ _ h), q _ _ _ R0 Step.refl _ (.bl _)⟩
  | any =>
    refine (pe_callB (cr_any hc) bl.gl bl.no (by decide +kernel) P1 (by decide) (by decide) S1 back_nil).weak fun σ H Q h => one_sem h fun d e Hf' H' ρ' U' x R0 rx e1 q => ?_
    cases rx <;> simp only [b1D, reduceCtorEq] at e1
    rename_i a xs l h n it
    rw [Option.map_eq_some_iff] at e1
    obtain ⟨bs, e2, rfl⟩ := e1
    have := bools_of n it e2
    subst this
    exact ⟨a, bs, rfl, SqL.of (R0.sub _ _ h), q _ _ _ R0 Step.refl _ (.bl _)⟩
end
end Tr
set_option Elab.async false
set_option linter.all false
set_option maxRecDepth 100000
set_option maxHeartbeats 4000000
/-! TrC4b: a tuple times 1, 0 or less, an empty one times any number. -/
namespace Tr
open PySem PySem.Spec PyProof.Rows L2
theorem tuple_mul1 (l : Addr) (items : Array Value) (n : Nat) (dd : Option Addr) (sl : Array (Option Value)) (x : Int) (u : Tok) (c0 : (decide (x < -(2 ^ 63)) || decide (x ≥ 2 ^ 63)) = false) (c1 : (items.isEmpty || x == 1) = true) :
    Meets (Builtin.«tuple.__mul__» ⟨[.ref l, .int x u], []⟩) (fun _ R s => s.heap.get? l = some { cls := .type "tuple", dict := dd, data := .seq items n, slots := sl } ∧ R (.ok (.ret (Value.ref l))) s) :=
  .of_wp fun prog w A R s h => by
    obtain ⟨hp, g, d, tk, os⟩ := s
    obtain ⟨hl, h⟩ := h
    have f1 := AutoSeq1.idx_int
    wp_walk using wpAny_loadPart' hl
    repeat (first
      | (refine wpAny_ite_false (decide_eq_false (by rw [c0]; exact Bool.false_ne_true)) ?_; wp_walk using wpAny_loadPart' hl)
      | (refine wpAny_ite_true (decide_eq_true c1) ?_; wp_walk using wpAny_loadPart' hl))
    exact ⟨_, rfl, h⟩
theorem tuple_mul0 (l : Addr) (items : Array Value) (n : Nat) (dd : Option Addr) (sl : Array (Option Value)) (x : Int) (u : Tok) (c0 : (decide (x < -(2 ^ 63)) || decide (x ≥ 2 ^ 63)) = false) (c1 : (items.isEmpty || x == 1) = false) (c2 : (decide (x ≤ 0) || items.isEmpty) = true) :
    Meets (Builtin.«tuple.__mul__» ⟨[.ref l, .int x u], []⟩) (fun _ R s => s.heap.get? l = some { cls := .type "tuple", dict := dd, data := .seq items n, slots := sl } ∧
      R (.ok (.ret (Value.ref s.heap.objs.size))) { s with heap := s.heap.push { cls := Value.type "tuple", data := Data.seq #[] }, toks := s.toks }) :=
  .of_wp fun prog w A R s h => by
    obtain ⟨hp, g, d, tk, os⟩ := s
    obtain ⟨hl, h⟩ := h
    have f1 := AutoSeq1.idx_int
    wp_walk using wpAny_loadPart' hl
    repeat (first
      | (refine wpAny_ite_false (decide_eq_false (by rw [c0]; exact Bool.false_ne_true)) ?_; wp_walk using wpAny_loadPart' hl)
      | (refine wpAny_ite_false (decide_eq_false (by rw [c1]; exact Bool.false_ne_true)) ?_; wp_walk using wpAny_loadPart' hl)
      | (refine wpAny_ite_true (decide_eq_true c2) ?_; wp_walk using wpAny_loadPart' hl))
    exact ⟨_, rfl, h⟩
def rRepT1 (K : PySem.W.Frag) : R2 := fun x y H Q => ∃ l k xs, x = .ref l ∧ y = .int k ∧ SqT K H l xs ∧ (xs = [] ∨ k ≤ 1) ∧ -(2 ^ 63) ≤ k ∧ k < 2 ^ 63 ∧ ((xs = [] ∨ k = 1) → Q (.ref l) H) ∧ ((xs ≠ [] ∧ k ≤ 0) → ∀ p, H p = none → Q (.ref p) (upd H p (.tup [])))
theorem op_repT1 {X : Cx} : OpR X (binaryOp .Mult) (rRepT1 X.K) := by
  intro pins s σ H x y v u Q I rx ry h
  obtain ⟨l, k, xs, rfl, rfl, hT, hsm, b0, b1, q1, q0⟩ := h
  cases rx
  obtain ⟨t, rfl⟩ := ry
  obtain ⟨its, r, ⟨⟨cls, dd, data, sl⟩, ho, hc, n, hd⟩, hs⟩ := I.tuple hT
  simp only at hc hd
  subst hc hd
  have c0 : (decide (k < -(2 ^ 63)) || decide (k ≥ 2 ^ 63)) = false := by
    rw [Bool.or_eq_false_iff]
    exact ⟨decide_eq_false (by omega), decide_eq_false (by omega)⟩
  have emp : its.toArray.isEmpty = xs.isEmpty := by
    cases r <;> simp
  by_cases h1 : xs = [] ∨ k = 1
  · have c1 : (its.toArray.isEmpty || k == 1) = true := by
      rw [emp]
      rcases h1 with rfl | rfl <;> simp
    refine wpAny_binaryOp_repeat_ref (T := "tuple") (U := "int") (by decide) ⟨_, ho, rfl⟩ (fun s' => typeIs_int s' k t) noFill_tuple_mul F.fills_int_mul F.slot_int_rmul repeat_tuple F.slot_int_index.lookup
      (call_meets F.slot_int_rmul (typeIs_int s k t) F.entry_int_rmul (F.args_int_rmul_2 _ _) (int_rmul_tuple k t l its.toArray n dd sl)
        ⟨ho, rfl, ⟨_, ho, rfl⟩, call_meets F.slot_tuple_mul ⟨_, ho, rfl⟩ F.entry_tuple_mul (F.args_tuple_mul_2 _ _) (tuple_mul1 l its.toArray n dd sl k t c0 c1) ⟨ho, ?_⟩⟩)
    exact ⟨.ref l, H, I, rfl, q1 h1⟩
  · have hne : xs ≠ [] := fun e => h1 (.inl e)
    have hk : k ≤ 0 := by
      have h2 : k ≤ 1 := hsm.resolve_left hne
      have h3 : k ≠ 1 := fun e => h1 (.inr e)
      omega
    have e0 : xs.isEmpty = false := by cases xs <;> simp at hne ⊢
    have c1 : (its.toArray.isEmpty || k == 1) = false := by
      rw [emp, e0, Bool.false_or]
      exact beq_eq_false_iff_ne.mpr (by omega)
    have c2 : (decide (k ≤ 0) || its.toArray.isEmpty) = true := by simp [hk]
    refine wpAny_binaryOp_repeat_ref (T := "tuple") (U := "int") (by decide) ⟨_, ho, rfl⟩ (fun s' => typeIs_int s' k t) noFill_tuple_mul F.fills_int_mul F.slot_int_rmul repeat_tuple F.slot_int_index.lookup
      (call_meets F.slot_int_rmul (typeIs_int s k t) F.entry_int_rmul (F.args_int_rmul_2 _ _) (int_rmul_tuple k t l its.toArray n dd sl)
        ⟨ho, rfl, ⟨_, ho, rfl⟩, call_meets F.slot_tuple_mul ⟨_, ho, rfl⟩ F.entry_tuple_mul (F.args_tuple_mul_2 _ _) (tuple_mul0 l its.toArray n dd sl k t c0 c1 c2) ⟨ho, ?_⟩⟩)
    refine ⟨.ref s.heap.objs.size, _, I.laid (t' := s.toks) (o := .tup []) (fun b ob q => Heap.get?_push_of_some _ q) (Nat.le_refl _) ?_, rfl, q0 ⟨hne, hk⟩ _ (I.hok.fresh (Nat.le_refl _))⟩
    exact ⟨by simp, [], .nil, IsTup.new _ _⟩
end Tr
set_option Elab.async false
set_option linter.all false
set_option maxRecDepth 100000
set_option maxHeartbeats 4000000
/-! TrC5: more built-ins, new lists. -/
namespace Tr
open PySem PySem.Spec PyProof.Rows L2

section
variable {X : Cx} {ct : Str → Option Addr} {W : WX} {a b c : Expr} {ma mb mc : Env → R D} {pos : Pos} {mf : Env → R O}
/-- len of what stands at a path -/
theorem e_plen {p : P} {pp : Pos} (bl : Blt X "len") (ha : PE X a (tP X.K p)) (hs : notStar a = true) : PE X (.Call (.Name "len" pp) [a] [] pos) (tE X.K ct W fun ρ => (R.of (p.sem ρ) ρ).bind fun l ρ => lenP l.1 l.2 ρ) := by
  refine (pe_callB (call_len_seq.or call_len_str) bl.gl bl.no PySem.boot_len (pa_cons ha pa_nil (starEach_cons hs)) (by decide) (by decide) (starEach_cons hs) back_nil).weak fun σ H Q q => ?_
  obtain ⟨Hf, ρ, U, R0, q⟩ := q
  obtain ⟨⟨s, l⟩, e1, q⟩ := q.bnd.of R0
  simp only [lenP] at q
  split at q
  · rename_i o eo
    split at q
    · rename_i o' ed
      obtain ⟨d, e2, q⟩ := q.of R0
      refine ⟨Hf, ρ, U, R0, s, l, o, o', e1, eo, ed, fun v T ov _ => ?_⟩
      cases ov with
      | frz r =>
        simp only [lenO] at e2
        cases r <;> simp only [b1D, reduceCtorEq, Option.some.injEq] at e2
        case str y =>
          split at e2 <;> first | contradiction | skip
          rename_i hl
          cases e2
          exact .inr ⟨_, rfl, by rw [line_eq]; exact hl, q _ (.int _)⟩
        case lst a xs l h n it =>
          subst e2
          refine .inl ⟨a, xs, rfl, .inl (SqL.of (R0.sub _ _ h)), ?_⟩
          rw [len_of n]
          exact q _ (.int _)
        case tup a xs l h n it =>
          subst e2
          refine .inl ⟨a, xs, rfl, .inr (Same.seqT R0.sub h), ?_⟩
          rw [len_of n]
          exact q _ (.int _)
      | @box a xs l T U h nf ta n it dj sb =>
        simp only [lenO, Option.some.injEq] at e2
        subst e2
        refine .inl ⟨a, xs, rfl, .inl (SqL.of h), ?_⟩
        rw [show (xs.length : Int) = l.length by rw [n]]
        exact q _ (.int _)
      | @scr a l T h =>
        simp only [lenO, Option.some.injEq] at e2
        subst e2
        refine .inl ⟨a, _, rfl, .inl (Same.seq R0.sub h), ?_⟩
        rw [List.length_map]
        exact q _ (.int _)
    · exact q.elim
  · exact q.elim
def b2Name : B2 → Str
  | .max => "max" | .min => "min"
theorem e_b2 (hc : X.calm = true) {f : B2} {p : Pos} (bl : Blt X (b2Name f)) (ha : PE X a (tE X.K ct W ma)) (hb : PE X b (tE X.K ct W mb)) (hs : notStar a = true) (hs2 : notStar b = true) :
    PE X (.Call (.Name (b2Name f) p) [a, b] [] pos) (tE X.K ct W fun ρ => (ma ρ).bind fun d ρ => (mb ρ).bind fun e ρ => R.of (b2D f d e) ρ) := by
  have P1 : PA X [a, b] (tCons (tE X.K ct W ma) (tCons (tE X.K ct W mb) tNil)) := pa_cons ha (pa_cons hb pa_nil (starEach_cons hs2)) (starEach_cons hs)
  cases f with
  | max =>
    refine (pe_callB (call_max2 hc) bl.gl bl.no (by decide +kernel) P1 (by decide) (by decide) (starEach_cons hs) (back_one hs2)).weak fun σ H Q h => twoO (R2' := fun x y H' => ∃ i j, [x, y] = [.int i, .int j] ∧ Q (.int (if j > i then j else i)) H') h fun d e r Hf' H' x y rx ry e1 _ q => ?_
    cases rx <;> cases ry <;> simp only [b2D, reduceCtorEq, Option.some.injEq] at e1
    subst e1
    exact ⟨_, _, rfl, q _ (.int _)⟩
  | min =>
    refine (pe_callB (call_min2 hc) bl.gl bl.no (by decide +kernel) P1 (by decide) (by decide) (starEach_cons hs) (back_one hs2)).weak fun σ H Q h => twoO (R2' := fun x y H' => ∃ i j, [x, y] = [.int i, .int j] ∧ Q (.int (if j < i then j else i)) H') h fun d e r Hf' H' x y rx ry e1 _ q => ?_
    cases rx <;> cases ry <;> simp only [b2D, reduceCtorEq, Option.some.injEq] at e1
    subst e1
    exact ⟨_, _, rfl, q _ (.int _)⟩

/-! ### isinstance against built-in classes -/
def kdName : Kd → String
  | .int => "int" | .bool => "bool" | .str => "str" | .list => "list" | .tuple => "tuple" | .dict => "dict"
def kdStr (k : Kd) : Str := Str.ofString (kdName k)
def tyName : D → String
  | .none => "NoneType" | .bool _ => "bool" | .int _ => "int" | .str _ => "str" | .list _ => "list" | .tuple _ => "tuple" | .dict _ => "dict"
theorem kit_isK (d : D) (k : Kd) : kitB (tyName d) (kdName k) = some (isK d k) := by
  cases d <;> cases k <;> simp only [tyName, kdName, isK] <;> decide +kernel
theorem Rep.ty {K : PySem.W.Frag} {Hf H : Hp} {x : V} {d : D} (h : Rep K Hf x d) (sub : Same Hf H) : TyX K H x (.type (tyName d)) := by
  cases h with
  | non => exact .base .non
  | bl b => exact .base (.bl b)
  | int i => exact .base (.int i)
  | str x => exact .base (.str x)
  | lst h n it => exact .base (.lst (sub _ _ h))
  | tup h n it =>
    rcases h with (h | ⟨o, h⟩) | ⟨o, its, n', hk, hc, _⟩
    · exact .base (.tup (sub _ _ h))
    · exact .fTuple (sub _ _ h)
    · exact .kTuple hk hc
  | dct h n ks it => exact .base (.dK (sub _ _ h))
theorem kitAny_ks {K : PySem.W.Frag} {d : D} : ∀ ks : List Kd, PySem.W.kitAny K (.type (tyName d)) (ks.map fun k => Value.type (kdName k)) = some (ks.any (isK d))
  | [] => kitAny_nil
  | k :: ks => by
    rw [List.map_cons, List.any_cons]
    refine kitAny_cons (kit_ty (kit_isK d k)) (fun e => ?_) (fun e => by rw [e]; rfl)
    rw [e, kitAny_ks ks]
    rfl
theorem paired_ks : ∀ ks : List Kd, Paired ClsV (ks.map fun k => V.ty (kdName k)) (ks.map fun k => Value.type (kdName k))
  | [] => .nil
  | k :: ks => .cons (.ty _) (paired_ks ks)
theorem boot_kd (k : Kd) : bootBuiltins (kdStr k) = some (.type (kdName k)) := by cases k <;> decide +kernel
theorem pe_kd {k : Kd} {p : Pos} (bl : Blt X (kdStr k)) : PE X (.Name (kdStr k) p) (tC (.ty (kdName k))) := by
  cases k <;> exact pe_bltn bl.gl bl.no (by decide +kernel) rfl (by decide +kernel) (by decide +kernel)
/-- isinstance(a, T) -/
theorem e_isi1 {p p2 : Pos} {k : Kd} (bl : Blt X "isinstance") (bk : Blt X (kdStr k)) (ha : PE X a (tE X.K ct W ma)) (hs : notStar a = true) :
    PE X (.Call (.Name "isinstance" p) [a, .Name (kdStr k) p2] [] pos) (tE X.K ct W fun ρ => (ma ρ).bind fun d ρ => .ok (.bool ([k].any (isK d))) ρ) := by
  refine (pe_callB call_isi bl.gl bl.no (by decide +kernel) (pa_cons ha (pa_cons (pe_kd bk) pa_nil rfl) (starEach_cons hs)) (by decide) (by decide) (starEach_cons hs) (back_one rfl)).weak fun σ H Q h => ?_
  obtain ⟨Hf, ρ, U, R0, p⟩ := h
  refine ⟨Hf, ρ, U, R0, p.then fun d ρ1 Hf1 H1 U1 R1 S1 p1 x rx => ?_⟩
  refine ⟨x, _, _, _, isK d k, rfl, .ty _, rx.ty R1.sub, kit_ty (kit_isK d k), ?_⟩
  have q := p1.ok R1 _ (.bl _)
  simpa using q
/-- a row of classes -/
structure KdRow (X : Cx) (ks : List Kd) (es : List Expr) : Prop where
  pa : PA X es (fun _ H Q => Q (ks.map fun k => V.ty (kdName k)) H)
theorem kr_nil : KdRow X [] [] := ⟨pa_nil⟩
theorem kr_cons {k : Kd} {ks : List Kd} {es : List Expr} {p : Pos} (bk : Blt X (kdStr k)) (h : KdRow X ks es) : KdRow X (k :: ks) (.Name (kdStr k) p :: es) :=
  ⟨(pa_cons (pe_kd bk) h.pa rfl).weak fun σ H Q q => q⟩
theorem e_isi {p p2 : Pos} {k0 : Nat} {ks : List Kd} {es : List Expr} (bl : Blt X "isinstance") (hk : KdRow X ks es) (hn : ks.length ≤ line) (ha : PE X a (tE X.K ct W ma)) (hs : notStar a = true) :
    PE X (.Call (.Name "isinstance" p) [a, .Tuple es k0 p2] [] pos) (tE X.K ct W fun ρ => (ma ρ).bind fun d ρ => .ok (.bool (ks.any (isK d))) ρ) := by
  refine (pe_callB call_isiT bl.gl bl.no (by decide +kernel) (pa_cons ha (pa_cons (pe_tup hk.pa) pa_nil rfl) (starEach_cons hs)) (by decide) (by decide) (starEach_cons hs) (back_one rfl)).weak fun σ H Q h => ?_
  obtain ⟨Hf, ρ, U, R0, p⟩ := h
  refine ⟨Hf, ρ, U, R0, p.then fun d ρ1 Hf1 H1 U1 R1 S1 p1 x rx => ⟨by rw [List.length_map, line_eq]; exact hn, fun z hz => ?_⟩⟩
  refine ⟨x, z, _, _, _, _, rfl, upd_same, paired_ks ks, (rx.mono (upd_mono (R1.sub.free hz))).ty (R1.newF (o' := .tup _) hz).sub, kitAny_ks ks, ?_⟩
  exact p1 _ _ _ (R1.newF (o' := .tup (ks.map fun k => V.ty (kdName k))) hz) (Step.newF R1.sub hz) _ (.bl _)

/-! ### what a name holds goes on -/
theorem f_mv {i : Nat} (h : PE X a (tVar i)) : PE X a (tF X.K ct W (mvV i)) := h.weak fun σ H Q q => by
  obtain ⟨Hf, ρ, U, R0, p⟩ := q
  unfold mvV at p
  split at p
  · rename_i d e
    obtain ⟨v, h1, h2⟩ := R0.own i _ e
    cases h2 with
    | frz r => exact ⟨v, h1, p.ok R0 v (fun _ => False) (.frz r) fun _ q => q.elim⟩
  · rename_i l e
    obtain ⟨v, h1, h2⟩ := R0.own i _ e
    refine ⟨v, h1, p _ _ _ (R0.drop i) (Step.less (foot_updU fun _ q => q.elim)) v (U i) h2 fun b q => ⟨fun ⟨j, w⟩ => ?_, R0.alive i b q, .inl ⟨i, q⟩⟩⟩
    by_cases hj : j = i
    · subst hj; rw [updU_same] at w; exact w
    · rw [updU_ne hj] at w; exact R0.dj j i b hj w q
  · rename_i l e
    obtain ⟨v, h1, h2⟩ := R0.own i _ e
    cases h2 with
    | scr r => exact ⟨_, h1, p.ok R0 _ (fun _ => False) (.scr r) fun _ q => q.elim⟩
  · exact p.elim

/-! ### + and * -/
abbrev kF (K : PySem.W.Frag) (H : Hp) (U : UU) (Q : VK) : O → Env → Hp → Hp → UU → Prop := fun o _ Hf' H' U' => ∀ v T, Own K Hf' H' v o T → (∀ b, T b → ¬ foot U' b ∧ H' b ≠ none ∧ (foot U b ∨ H b = none)) → Q v H'
/-- a new list of frozen items that is asked for -/
theorem new_post {K : PySem.W.Frag} {σ : L2.St} {Hf H Hf1 H1 : Hp} {U U1 : UU} {ρ1 : Env} {Q : VK} {l : List D} {xs : List V} {z : Addr} {E : Ex → Env → Hp → Hp → UU → Prop}
    (p : Post K σ Hf1 H1 U1 E (kF K H U Q) (R.ok (.box (l.map .frz)) ρ1))
    (R1 : Rel K Hf1 H1 ρ1 σ U1) (S1 : Step Hf H (foot U) Hf1 H1 (foot U1)) (n : xs.length = l.length) (it : ∀ (i : Nat) v d, xs[i]? = some v → l[i]? = some d → Rep K Hf1 v d) (hz : H1 z = none) : Q (.ref z) (upd H1 z (.lst xs)) :=
  p _ _ _ (R1.new (o' := .lst xs) hz) (Step.new hz) (.ref z) _ (box_frz n it R1.sub hz) (new_own R1 S1 hz)
/-- a new tuple -/
theorem tup_post {K : PySem.W.Frag} {σ : L2.St} {H Hf1 H1 : Hp} {U U1 : UU} {ρ1 : Env} {Q : VK} {l : List D} {xs : List V} {z : Addr} {E : Ex → Env → Hp → Hp → UU → Prop}
    (p : Post K σ Hf1 H1 U1 E (kF K H U Q) (R.ok (.frz (.tuple l)) ρ1))
    (R1 : Rel K Hf1 H1 ρ1 σ U1) (n : xs.length = l.length) (it : ∀ (i : Nat) v d, xs[i]? = some v → l[i]? = some d → Rep K Hf1 v d) (hz : H1 z = none) : Q (.ref z) (upd H1 z (.tup xs)) :=
  have m := upd_mono (H := Hf1) (p := z) (o := .tup xs) (R1.sub.free hz)
  p _ _ _ (R1.newF (o' := .tup xs) hz) (Step.newF R1.sub hz) (.ref z) (fun _ => False) (.frz (.tup (SqT.of upd_same) n fun i v d e1 e2 => (it i v d e1 e2).mono m)) fun _ q => q.elim
theorem frz_post {K : PySem.W.Frag} {σ : L2.St} {H Hf1 H1 : Hp} {U U1 : UU} {ρ1 : Env} {Q : VK} {d : D} {v : V} {E : Ex → Env → Hp → Hp → UU → Prop}
    (p : Post K σ Hf1 H1 U1 E (kF K H U Q) (R.ok (.frz d) ρ1)) (R1 : Rel K Hf1 H1 ρ1 σ U1) (r : Rep K Hf1 v d) : Q v H1 :=
  p.ok R1 v (fun _ => False) (.frz r) fun _ q => q.elim
theorem app_it {K : PySem.W.Frag} {Hf : Hp} {xs ys : List V} {l m : List D} (n : xs.length = l.length) (it : ∀ (i : Nat) v d, xs[i]? = some v → l[i]? = some d → Rep K Hf v d) (it2 : ∀ (i : Nat) v d, ys[i]? = some v → m[i]? = some d → Rep K Hf v d) :
    ∀ (i : Nat) v d, (xs ++ ys)[i]? = some v → (l ++ m)[i]? = some d → Rep K Hf v d := by
  intro i v d e1 e2
  by_cases h : i < l.length
  · rw [List.getElem?_append_left (by omega)] at e1
    rw [List.getElem?_append_left h] at e2
    exact it i v d e1 e2
  · rw [List.getElem?_append_right (by omega)] at e1
    rw [List.getElem?_append_right (by omega)] at e2
    rw [n] at e1
    exact it2 _ v d e1 e2
/-- two values for an owned one -/
theorem twoF {K : PySem.W.Frag} {σ : L2.St} {H : Hp} {Q : VK} {R2' : V → V → Hp → Prop} {g : D → D → Option O}
    (h : tF K ct W (fun ρ => (ma ρ).bind fun d ρ => (mb ρ).bind fun e ρ => R.of (g d e) ρ) σ H Q)
    (m : ∀ d e o Hf H U ρ' Hf' H' U' x y, Rel K Hf' H' ρ' σ U' → Step Hf H (foot U) Hf' H' (foot U') → Rep K Hf' x d → Rep K Hf' y e → g d e = some o → Post K σ Hf' H' U' (EW K ct W σ) (kF K H U Q) (R.ok o ρ') → R2' x y H') :
    tE K ct W ma σ H fun x H1 => tE K ct W mb σ H1 fun y H2 => R2' x y H2 := by
  obtain ⟨Hf, ρ, U, R0, p⟩ := h
  refine ⟨Hf, ρ, U, R0, p.then fun d ρ1 Hf1 H1 U1 R1 S1 p1 x rx => ⟨Hf1, ρ1, U1, R1, p1.then fun e ρ2 Hf2 H2 U2 R2 S2 p2 y ry => ?_⟩⟩
  obtain ⟨o, e1, _⟩ := p2.of R2
  rw [e1] at p2
  exact m d e o Hf H U ρ2 Hf2 H2 U2 x y R2 (S1.trans S2) (rx.mono S2.mono) ry e1 p2
theorem f_add (ha : PE X a (tE X.K ct W ma)) (hb : PE X b (tE X.K ct W mb)) : PE X (.BinOp a .Add b pos) (tF X.K ct W fun ρ => (ma ρ).bind fun d ρ => (mb ρ).bind fun e ρ => R.of (addO d e) ρ) := by
  refine (pe_op (op_add.or (op_add_str.or (op_catA.or op_cat))) ha hb).weak fun σ H Q h => twoF h fun d e o Hf H U ρ' Hf' H' U' x y R1 S1 rx ry e1 p => ?_
  cases rx <;> cases ry <;> simp only [addO, reduceCtorEq, Option.some.injEq] at e1
  case int.int i j => subst e1; exact .inl ⟨i, j, rfl, rfl, frz_post p R1 (.int _)⟩
  case str.str i j =>
    split at e1 <;> first | contradiction | skip
    rename_i hl
    cases e1
    exact .inr (.inl ⟨i, j, rfl, rfl, by rw [line_eq]; exact hl, frz_post p R1 (.str _)⟩)
  case lst.lst a xs l h n it a2 ys m h2 n2 it2 =>
    split at e1 <;> first | contradiction | skip
    rename_i hl
    cases e1
    exact .inr (.inr (.inr ⟨a, a2, xs, ys, rfl, rfl, R1.sub _ _ h, R1.sub _ _ h2, by rw [n, n2, line_eq]; exact hl, fun z hz => new_post p R1 S1 (by simp [n, n2]) (app_it n it it2) hz⟩))
  case tup.tup a xs l h n it a2 ys m h2 n2 it2 =>
    split at e1 <;> first | contradiction | skip
    rename_i hl
    cases e1
    refine .inr (.inr (.inl ⟨a, a2, xs, ys, rfl, rfl, Same.seqT R1.sub h, Same.seqT R1.sub h2, by rw [n, n2, line_eq]; exact hl, fun e0 => ?_, fun _ e0 => ?_, fun _ _ z hz => tup_post p R1 (by simp [n, n2]) (app_it n it it2) hz⟩))
    · subst e0
      have el : l = [] := List.eq_nil_of_length_eq_zero (by simpa using n.symm)
      subst el
      exact frz_post p R1 (.tup h2 n2 it2)
    · subst e0
      have el : m = [] := List.eq_nil_of_length_eq_zero (by simpa using n2.symm)
      subst el
      rw [List.append_nil] at p
      exact frz_post p R1 (.tup h n it)
theorem rep_it {K : PySem.W.Frag} {Hf : Hp} {xs : List V} {l : List D} (n : xs.length = l.length) (it : ∀ (i : Nat) v d, xs[i]? = some v → l[i]? = some d → Rep K Hf v d) : ∀ k : Nat,
    (List.replicate k xs).flatten.length = (List.replicate k l).flatten.length ∧ ∀ (i : Nat) v d, (List.replicate k xs).flatten[i]? = some v → (List.replicate k l).flatten[i]? = some d → Rep K Hf v d
  | 0 => ⟨rfl, fun i v d e => by simp at e⟩
  | k + 1 => by
    obtain ⟨h1, h2⟩ := rep_it n it k
    simp only [List.replicate_succ, List.flatten_cons]
    exact ⟨by simp [n, h1], app_it n it h2⟩
theorem f_mul (ha : PE X a (tE X.K ct W ma)) (hb : PE X b (tE X.K ct W mb)) : PE X (.BinOp a .Mult b pos) (tF X.K ct W fun ρ => (ma ρ).bind fun d ρ => (mb ρ).bind fun e ρ => R.of (mulO d e) ρ) := by
  refine (pe_op (op_mulW.or (op_rep.or (op_repT.or op_repT1))) ha hb).weak fun σ H Q h => twoF h fun d e o Hf H U ρ' Hf' H' U' x y R1 S1 rx ry e1 p => ?_
  cases rx <;> cases ry <;> simp only [mulO, reduceCtorEq] at e1
  case int.int i j =>
    split at e1 <;> first | contradiction | skip
    rename_i hl
    cases e1
    exact .inl ⟨i, j, rfl, rfl, hl, frz_post p R1 (.int _)⟩
  case lst.int a xs l h n it k =>
    split at e1 <;> first | contradiction | skip
    rename_i hl
    cases e1
    obtain ⟨g1, g2⟩ := rep_it n it k.toNat
    exact .inr (.inl ⟨a, k, xs, rfl, rfl, R1.sub _ _ h, hl.2.1, hl.1, by rw [n, line_eq]; exact hl.2.2, fun z hz => new_post p R1 S1 g1 g2 hz⟩)
  case tup.int a xs l h n it k =>
    split at e1 <;> first | contradiction | skip
    rename_i hl
    cases e1
    obtain ⟨g1, g2⟩ := rep_it n it k.toNat
    by_cases hs : (l = [] ∨ k ≤ 1) ∧ -(2 ^ 63) ≤ k ∧ k < 2 ^ 63
    · have ne : ∀ {α β : Type} {xs : List α} {l : List β}, xs.length = l.length → (xs = [] ↔ l = []) := fun n => by
        constructor
        · intro e; exact List.eq_nil_of_length_eq_zero (by rw [← n, e]; rfl)
        · intro e; exact List.eq_nil_of_length_eq_zero (by rw [n, e]; rfl)
      refine .inr (.inr (.inr ⟨a, k, xs, rfl, rfl, Same.seqT R1.sub h, hs.1.imp (ne n).mpr id, hs.2.1, hs.2.2, fun h1 => ?_, fun h0 z hz => ?_⟩))
      · have el : (List.replicate k.toNat l).flatten = l := by
          rcases h1 with h1 | h1
          · rw [(ne n).mp h1]; simp
          · rw [h1]; simp
        rw [el] at p
        exact frz_post p R1 (.tup h n it)
      · have el : (List.replicate k.toNat l).flatten = [] := by
          rw [show k.toNat = 0 by omega]; rfl
        rw [el] at p
        exact tup_post (xs := []) p R1 rfl (fun i v d e => by simp at e) hz
    · have hl := hl.resolve_left hs
      exact .inr (.inr (.inl ⟨a, k, xs, rfl, rfl, Same.seqT R1.sub h, fun e0 => hl.1 (List.eq_nil_of_length_eq_zero (by rw [← n, e0]; rfl)), hl.2.1, hl.2.2.1, by rw [n]; exact hl.2.2.2, fun z hz => tup_post p R1 g1 g2 hz⟩))

/-! ### list(x), slices -/
theorem oneF {K : PySem.W.Frag} {σ : L2.St} {H : Hp} {Q : VK} {R1' : V → Hp → Prop} {g : D → Option O}
    (h : tF K ct W (fun ρ => (ma ρ).bind fun d ρ => R.of (g d) ρ) σ H Q)
    (m : ∀ d o Hf H U ρ' Hf' H' U' x, Rel K Hf' H' ρ' σ U' → Step Hf H (foot U) Hf' H' (foot U') → Rep K Hf' x d → g d = some o → Post K σ Hf' H' U' (EW K ct W σ) (kF K H U Q) (R.ok o ρ') → R1' x H') : tE K ct W ma σ H R1' := by
  obtain ⟨Hf, ρ, U, R0, p⟩ := h
  refine ⟨Hf, ρ, U, R0, p.then fun d ρ1 Hf1 H1 U1 R1 S1 p1 x rx => ?_⟩
  obtain ⟨o, e1, _⟩ := p1.of R1
  rw [e1] at p1
  exact m d o Hf H U ρ1 Hf1 H1 U1 x R1 S1 rx e1 p1
theorem f_list {p : Pos} (bl : Blt X "list") (ha : PE X a (tE X.K ct W ma)) (hs : notStar a = true) : PE X (.Call (.Name "list" p) [a] [] pos) (tF X.K ct W fun ρ => (ma ρ).bind fun d ρ => R.of (listO d) ρ) := by
  refine (pe_callTy call_list_of bl.gl bl.no (by decide +kernel) (pa_cons ha pa_nil (starEach_cons hs)) (by decide) (by decide) (starEach_cons hs) back_nil).weak fun σ H Q h =>
    oneF (R1' := fun x H' => ∃ p ys, [x] = [.ref p] ∧ (SqL X.K H' p ys ∨ SqT X.K H' p ys) ∧ ∀ l, H' l = none → Q (.ref l) (upd H' l (.lst ys))) h fun d o Hf H U ρ' Hf' H' U' x R1 S1 rx e1 p => ?_
  unfold listO at e1
  rw [Option.map_eq_some_iff] at e1
  obtain ⟨l, e2, rfl⟩ := e1
  obtain ⟨a, xs, rfl, sq, n, it, _⟩ := rx.items e2
  refine ⟨a, xs, rfl, ?_, fun z hz => new_post p R1 S1 n it hz⟩
  rcases sq with sq | sq
  · exact .inl (Same.seq R1.sub sq)
  · exact .inr (Same.seqT R1.sub sq)
/-- a part of a slice: nothing, or one value -/
def tPt (K : PySem.W.Frag) (ct : Str → Option Addr) (W : WX) (m : Env → R (Option Int)) : TO := fun σ H Q => ∃ Hf ρ U, Rel K Hf H ρ σ U ∧ Post K σ Hf H U (EW K ct W σ) (fun i _ _ H' _ => Q i H') (m ρ)
theorem part_none : PO X none (tPt X.K ct W fun ρ => .ok none ρ) := po_none.weak fun σ H Q q => by
  obtain ⟨Hf, ρ, U, R0, p⟩ := q
  exact p.ok R0
theorem part_some (ha : PE X a (tE X.K ct W ma)) : PO X (some a) (tPt X.K ct W fun ρ => (ma ρ).bind fun d ρ => R.of (partD d) ρ) := (po_some ha).weak fun σ H Q q => by
  obtain ⟨Hf, ρ, U, R0, p⟩ := q
  refine ⟨Hf, ρ, U, R0, p.then fun d ρ1 Hf1 H1 U1 R1 S1 p1 x rx => ?_⟩
  obtain ⟨i, e, q⟩ := p1.of R1
  cases rx <;> simp only [partD, reduceCtorEq, Option.some.injEq] at e
  subst e
  exact ⟨_, rfl, q⟩
theorem cut_len {xs : List V} {l : List D} (n : xs.length = l.length) (lo hi : Option Int) : (cutV xs lo hi).length = (cutL l lo hi).length := by
  unfold cutV cutL
  rw [List.length_take, List.length_take, List.length_drop, List.length_drop, n]
theorem cut_get {α : Type} {l : List α} {lo hi : Option Int} {i : Nat} {d : α} (e : (cutL l lo hi)[i]? = some d) : l[HT.sIx l.length 0 lo + i]? = some d := by
  unfold cutL at e
  rw [List.getElem?_take] at e
  split at e
  · rwa [List.getElem?_drop] at e
  · cases e
theorem cut_it {K : PySem.W.Frag} {Hf : Hp} {xs : List V} {l : List D} (n : xs.length = l.length) (it : ∀ (i : Nat) v d, xs[i]? = some v → l[i]? = some d → Rep K Hf v d) (lo hi : Option Int) :
    ∀ (i : Nat) v d, (cutV xs lo hi)[i]? = some v → (cutL l lo hi)[i]? = some d → Rep K Hf v d := fun i v d e1 e2 => by
  have h1 := cut_get (l := xs) e1
  have h2 := cut_get e2
  rw [n] at h1
  exact it _ v d h1 h2
theorem cut_whole {l : List D} {lo hi : Option Int} (h : HT.sIx l.length 0 lo = 0 ∧ HT.sIx l.length l.length hi = l.length) : cutL l lo hi = l := by
  unfold cutL
  rw [h.1, h.2]
  simp
theorem f_slice {lo hi : Option Expr} {ml mh : Env → R (Option Int)} {p2 : Pos} (ha : PE X a (tE X.K ct W ma)) (hl : PO X lo (tPt X.K ct W ml)) (hh : PO X hi (tPt X.K ct W mh)) :
    PE X (.Subscript a (.Slice lo hi none p2) pos) (tF X.K ct W fun ρ => (ma ρ).bind fun d ρ => (ml ρ).bind fun l ρ => (mh ρ).bind fun h ρ => R.of (sliceO d l h) ρ) := by
  refine (pe_slice (sl_list.or sl_tupA) ha hl hh).weak fun σ H Q q => ?_
  obtain ⟨Hf, ρ, U, R0, p⟩ := q
  refine ⟨Hf, ρ, U, R0, p.then fun d ρ1 Hf1 H1 U1 R1 S1 p1 x rx => ⟨Hf1, ρ1, U1, R1, p1.then fun l ρ2 Hf2 H2 U2 R2 S2 p2 => ⟨Hf2, ρ2, U2, R2, p2.then fun h ρ3 Hf3 H3 U3 R3 S3 p3 => ?_⟩⟩⟩
  obtain ⟨o, e1, _⟩ := p3.of R3
  rw [e1] at p3
  have r3 := (rx.mono S2.mono).mono S3.mono
  have S03 := (S1.trans S2).trans S3
  cases r3 <;> simp only [sliceO, reduceCtorEq, Option.some.injEq] at e1
  case lst a xs m hx n it =>
    subst e1
    exact .inl ⟨a, xs, rfl, SqL.of (R3.sub _ _ hx), fun z hz => new_post p3 R3 S03 (cut_len n l h) (cut_it n it l h) hz⟩
  case tup a xs m hx n it =>
    subst e1
    refine .inr ⟨a, xs, rfl, Same.seqT R3.sub hx, fun w => ?_, fun _ z hz => tup_post p3 R3 (cut_len n l h) (cut_it n it l h) hz⟩
    rw [cut_whole (by rw [← n]; exact w)] at p3
    exact frz_post p3 R3 (.tup hx n it)
theorem scr_cut (l : List Int) (lo hi : Option Int) : cutV (l.map V.int) lo hi = (cutL l lo hi).map V.int := by
  unfold cutV cutL
  rw [List.length_map, List.map_take, List.map_drop]
/-- a slice of what a name holds: data, or the script -/
theorem f_cut {s : Nat} {lo hi : Option Expr} {ml mh : Env → R (Option Int)} {p2 : Pos} (ha : PE X a (tVar s)) (hl : PO X lo (tPt X.K ct W ml)) (hh : PO X hi (tPt X.K ct W mh)) :
    PE X (.Subscript a (.Slice lo hi none p2) pos) (tF X.K ct W fun ρ => if (ldV s ρ).isSome then (ml ρ).bind fun l ρ => (mh ρ).bind fun h ρ => R.of ((ldV s ρ).bind fun o => cutO o l h) ρ else .bad) := by
  refine (pe_slice (sl_list.or sl_tupA) ha hl hh).weak fun σ H Q q => ?_
  obtain ⟨Hf, ρ, U, R0, p⟩ := q
  dsimp only at p
  split at p
  · rename_i hsm
    obtain ⟨o0, eo0⟩ := some_of hsm
    obtain ⟨v, h1, _⟩ := R0.own _ _ (ldV_of eo0)
    refine ⟨v, h1, Hf, ρ, U, R0, p.then fun l ρ2 Hf2 H2 U2 R2 S2 p2 => ⟨Hf2, ρ2, U2, R2, p2.then fun h ρ3 Hf3 H3 U3 R3 S3 p3 => ?_⟩⟩
    have S03 := S2.trans S3
    obtain ⟨o', e1, _⟩ := p3.of R3
    rw [e1] at p3
    cases eo : ldV s ρ3 with
    | none => rw [eo] at e1; cases e1
    | some o =>
      rw [eo] at e1
      simp only [Option.bind_some] at e1
      obtain ⟨v', h2, ov⟩ := R3.own _ _ (ldV_of eo)
      rw [h1] at h2
      cases h2
      cases ov with
      | box => simp only [cutO, reduceCtorEq] at e1
      | @scr a m T hs =>
        simp only [cutO, Option.some.injEq] at e1
        subst e1
        refine .inl ⟨a, _, rfl, Same.seq R3.sub hs, fun z hz => ?_⟩
        rw [scr_cut]
        have p4 : Post X.K σ Hf3 H3 U3 (EW X.K ct W σ) (kF X.K H U Q) (R.ok (.box (((cutL m l h).map fun i => PyData.int i).map .frz)) ρ3) := by
          rw [List.map_map]
          exact p3
        refine new_post p4 R3 S03 (by simp) (fun i v d e1 e2 => ?_) hz
        rw [List.getElem?_map] at e1 e2
        cases e : (cutL m l h)[i]? with
        | none => rw [e] at e1; cases e1
        | some k => rw [e] at e1 e2; cases e1; cases e2; exact .int k
      | frz r3 =>
        simp only [cutO] at e1
        cases r3 <;> simp only [sliceO, reduceCtorEq, Option.some.injEq] at e1
        case lst a xs m hx n it h1 =>
          subst e1
          exact .inl ⟨_, xs, rfl, SqL.of (R3.sub _ _ hx), fun z hz => new_post p3 R3 S03 (cut_len n l h) (cut_it n it l h) hz⟩
        case tup a xs m hx n it h1 =>
          subst e1
          refine .inr ⟨_, xs, rfl, Same.seqT R3.sub hx, fun w => ?_, fun _ z hz => tup_post p3 R3 (cut_len n l h) (cut_it n it l h) hz⟩
          rw [cut_whole (by rw [← n]; exact w)] at p3
          exact frz_post p3 R3 (.tup hx n it)
  · exact p.elim
end
end Tr
set_option Elab.async false
set_option linter.all false
set_option maxRecDepth 100000
set_option maxHeartbeats 4000000
/-! TrC6: statements; lists that change. -/
namespace Tr
open PySem PySem.Spec PyProof.Rows L2

/-- what is wanted behind a statement, by how it ends; (H, U): where it began -/
def kS (K : PySem.W.Frag) (D : Ends) (H : Hp) (U : UU) (fl : Fl) (σ' : L2.St) (Hf' H' : Hp) (U' : UU) : Prop := match fl with
  | .nx => D.nx σ' H'
  | .brk => D.bk σ' H'
  | .ct => D.ct σ' H'
  | .ret o => ∀ v T, Own K Hf' H' v o T → (∀ b, T b → ¬ foot U' b ∧ H' b ≠ none ∧ (foot U b ∨ H b = none)) → D.rt v H'
abbrev Fix := Nat → Prop
/-- what the fixed slots hold stays -/
def Kept (fx : Fix) (σ σ' : L2.St) : Prop := σ'.length = σ.length ∧ ∀ i, fx i → σ'[i]? = σ[i]?
theorem Kept.refl {fx : Fix} {σ : L2.St} : Kept fx σ σ := ⟨rfl, fun _ _ => rfl⟩
theorem Kept.trans {fx : Fix} {σ σ1 σ2 : L2.St} (a : Kept fx σ σ1) (b : Kept fx σ1 σ2) : Kept fx σ σ2 := ⟨b.1.trans a.1, fun i h => (b.2 i h).trans (a.2 i h)⟩
theorem Kept.set {fx : Fix} {σ : L2.St} {i : Nat} {v : Option V} (h : ¬ fx i) : Kept fx σ (σ.set i v) := ⟨List.length_set, fun j hj => List.getElem?_set_ne (fun e => by subst e; exact h hj)⟩
def PostS (K : PySem.W.Frag) (ct : Str → Option Addr) (W : WX) (fx : Fix) (σ : L2.St) (Hf H : Hp) (U : UU) (D : Ends) (r : R Fl) : Prop := match r with
  | .ok fl ρ' => ∀ σ' Hf' H' U', Kept fx σ σ' → Rel K Hf' H' ρ' σ' U' → Step Hf H (foot U) Hf' H' (foot U') → kS K D H U fl σ' Hf' H' U'
  | .exc x ρ' => ∀ σ' Hf' H' U', Kept fx σ σ' → Rel K Hf' H' ρ' σ' U' → Step Hf H (foot U) Hf' H' (foot U') → EW K ct W σ' x ρ' Hf' H' U'
  | .bad => False
def tS (K : PySem.W.Frag) (ct : Str → Option Addr) (W : WX) (fx : Fix) (m : Env → R Fl) : TS := fun D σ H => ∃ Hf ρ U, Rel K Hf H ρ σ U ∧ PostS K ct W fx σ Hf H U D (m ρ)
section
variable {K : PySem.W.Frag} {ct : Str → Option Addr} {W : WX} {fx : Fix} {σ σ1 : L2.St} {Hf H Hf1 H1 : Hp} {U U1 : UU} {D : Ends} {r : R Fl}
theorem PostS.from (h : PostS K ct W fx σ Hf H U D r) (k : Kept fx σ σ1) (S : Step Hf H (foot U) Hf1 H1 (foot U1)) : PostS K ct W fx σ1 Hf1 H1 U1 D r := by
  cases r with
  | bad => exact h
  | exc x ρ' => exact fun σ' Hf' H' U' k' R' S' => h σ' Hf' H' U' (k.trans k') R' (S.trans S')
  | ok fl ρ' =>
    intro σ' Hf' H' U' k' R' S'
    have q := h σ' Hf' H' U' (k.trans k') R' (S.trans S')
    cases fl with
    | nx => exact q
    | brk => exact q
    | ct => exact q
    | ret o =>
      intro v T ov tv
      refine q v T ov fun b tb => ⟨(tv b tb).1, (tv b tb).2.1, ?_⟩
      rcases (tv b tb).2.2 with w | w
      · exact S.foot b w
      · exact S.old w
/-- an expression ahead: its own reading -/
theorem PostS.bndE {α : Type} {m : R α} {f : α → Env → R Fl} {k : α → Env → Hp → Hp → UU → Prop} (h : PostS K ct W fx σ Hf H U D (m.bind f))
    (g : ∀ a ρ1 Hf1 H1 U1, Rel K Hf1 H1 ρ1 σ U1 → Step Hf H (foot U) Hf1 H1 (foot U1) → PostS K ct W fx σ Hf H U D (f a ρ1) → k a ρ1 Hf1 H1 U1) : Post K σ Hf H U (EW K ct W σ) k m := by
  cases m with
  | bad => exact h
  | exc x ρ' => exact fun Hf' H' U' R' S' => h σ Hf' H' U' Kept.refl R' S'
  | ok a ρ1 => exact fun Hf1 H1 U1 R1 S1 => g a ρ1 Hf1 H1 U1 R1 S1 h
end
/-- .. that begins later -/
theorem PostS.bndE2 {K : PySem.W.Frag} {ct : Str → Option Addr} {W : WX} {fx : Fix} {σ : L2.St} {Hf H Hf1 H1 : Hp} {U U1 : UU} {D : Ends} {α : Type} {m : R α} {f : α → Env → R Fl} {k : α → Env → Hp → Hp → UU → Prop} (h : PostS K ct W fx σ Hf H U D (m.bind f)) (S : Step Hf H (foot U) Hf1 H1 (foot U1))
    (g : ∀ a ρ2 Hf2 H2 U2, Rel K Hf2 H2 ρ2 σ U2 → Step Hf1 H1 (foot U1) Hf2 H2 (foot U2) → PostS K ct W fx σ Hf H U D (f a ρ2) → k a ρ2 Hf2 H2 U2) : Post K σ Hf1 H1 U1 (EW K ct W σ) k m := by
  cases m with
  | bad => exact h
  | exc x ρ' => exact fun Hf' H' U' R' S' => h σ Hf' H' U' Kept.refl R' (S.trans S')
  | ok a ρ1 => exact fun Hf2 H2 U2 R2 S2 => g a ρ1 Hf2 H2 U2 R2 S2 h
section
variable {X : Cx} {ct : Str → Option Addr} {W : WX} {fx : Fix} {a b c e : Expr} {ma mb mc : Env → R D} {mf : Env → R O} {pos : Pos} {st : Stmt} {rest : List Stmt} {ms mt : Env → R Fl}
theorem ss_nil : PSs X [] (tS X.K ct W fx fun ρ => .ok .nx ρ) := pss_nil.weak fun D σ H h => by
  obtain ⟨Hf, ρ, U, R0, p⟩ := h
  exact p σ Hf H U Kept.refl R0 Step.refl
theorem ss_cons (h1 : PS X st (tS X.K ct W fx ms)) (h2 : PSs X rest (tS X.K ct W fx mt)) : PSs X (st :: rest) (tS X.K ct W fx fun ρ => (ms ρ).bind fun fl ρ => match fl with
    | .nx => mt ρ
    | fl => .ok fl ρ) := (pss_cons h1 h2).weak fun D σ H h => by
  obtain ⟨Hf, ρ, U, R0, p⟩ := h
  refine ⟨Hf, ρ, U, R0, ?_⟩
  dsimp only at p
  cases em : ms ρ with
  | bad => rw [em] at p; exact p
  | exc x ρ1 => rw [em] at p; exact p
  | ok fl ρ1 =>
    rw [em] at p
    cases fl with
    | nx => exact fun σ' Hf' H' U' k' R' S' => ⟨Hf', ρ1, U', R', PostS.from p k' S'⟩
    | brk => exact p
    | ct => exact p
    | ret o => exact p
theorem s_pass : PS X (.Pass pos) (tS X.K ct W fx fun ρ => .ok .nx ρ) := ps_pass.weak fun D σ H h => by
  obtain ⟨Hf, ρ, U, R0, p⟩ := h
  exact p σ Hf H U Kept.refl R0 Step.refl
theorem s_brk : PS X (.Break pos) (tS X.K ct W fx fun ρ => .ok .brk ρ) := ps_break.weak fun D σ H h => by
  obtain ⟨Hf, ρ, U, R0, p⟩ := h
  exact p σ Hf H U Kept.refl R0 Step.refl
theorem s_ct : PS X (.Continue pos) (tS X.K ct W fx fun ρ => .ok .ct ρ) := ps_continue.weak fun D σ H h => by
  obtain ⟨Hf, ρ, U, R0, p⟩ := h
  exact p σ Hf H U Kept.refl R0 Step.refl
theorem s_never : PS X st (tS X.K ct W fx fun ρ => .bad) := ps_never.weak fun D σ H h => by
  obtain ⟨Hf, ρ, U, R0, p⟩ := h
  exact p
theorem s_ret (h : PE X e (tF X.K ct W mf)) : PS X (.Return (some e) pos) (tS X.K ct W fx fun ρ => (mf ρ).bind fun o ρ => .ok (.ret o) ρ) := (ps_ret h).weak fun D σ H h => by
  obtain ⟨Hf, ρ, U, R0, p⟩ := h
  exact ⟨Hf, ρ, U, R0, p.bndE fun o ρ1 Hf1 H1 U1 R1 S1 q => q σ Hf1 H1 U1 Kept.refl R1 S1⟩
theorem s_retN : PS X (.Return none pos) (tS X.K ct W fx fun ρ => .ok (.ret (.frz .none)) ρ) := ps_retN.weak fun D σ H h => by
  obtain ⟨Hf, ρ, U, R0, p⟩ := h
  exact p σ Hf H U Kept.refl R0 Step.refl .non (fun _ => False) (.frz .non) fun _ q => q.elim
theorem s_if {nt : Env → R Bool} {ba bb : List Stmt} (hc : PT X c (tT X.K ct W nt)) (ha : PSs X ba (tS X.K ct W fx ms)) (hb : PSs X bb (tS X.K ct W fx mt)) :
    PS X (.If c ba bb pos) (tS X.K ct W fx fun ρ => (nt ρ).bind fun t ρ => if t then ms ρ else mt ρ) := (ps_if hc ha hb).weak fun D σ H h => by
  obtain ⟨Hf, ρ, U, R0, p⟩ := h
  refine ⟨Hf, ρ, U, R0, p.bndE fun t ρ1 Hf1 H1 U1 R1 S1 q => ?_⟩
  cases t with
  | true => simp only [if_true] at q ⊢; exact ⟨Hf1, ρ1, U1, R1, q.from Kept.refl S1⟩
  | false => simp only [Bool.false_eq_true, if_false] at q ⊢; exact ⟨Hf1, ρ1, U1, R1, q.from Kept.refl S1⟩
/-- a slot takes an owned thing: the step from the start -/
theorem take_step {K : PySem.W.Frag} {σ : L2.St} {Hf H Hf1 H1 : Hp} {U U1 : UU} {ρ1 : Env} {v : V} {o : O} {T : Addr → Prop} {i : Nat} (R1 : Rel K Hf1 H1 ρ1 σ U1) (S1 : Step Hf H (foot U) Hf1 H1 (foot U1)) (ov : Own K Hf1 H1 v o T)
    (tv : ∀ b, T b → ¬ foot U1 b ∧ H1 b ≠ none ∧ (foot U b ∨ H b = none)) : Rel K Hf1 H1 (putO ρ1 i o) (σ.set i (some v)) (updU U1 i T) ∧ Step Hf H (foot U) Hf1 H1 (foot (updU U1 i T)) := by
  refine ⟨R1.put ov (fun b tb ⟨j, _, w⟩ => (tv b tb).1 ⟨j, w⟩) fun b tb => (tv b tb).2.1, S1.mono, S1.dom, S1.frame, fun b ⟨j, q⟩ => ?_⟩
  by_cases e : j = i
  · subst e; rw [updU_same] at q; exact (tv b q).2.2
  · rw [updU_ne e] at q; exact S1.foot b ⟨j, q⟩
theorem s_set {i : Nat} {x : Str} {pos' : Pos} (hN : X.N.Nodup) (hi : X.N[i]? = some x) (hx : Loc X.env.scope x) (he : PE X e (tF X.K ct W mf)) (hs : swapsWith e (some (.Name x pos')) pos.line X.env = pure false) (hf : X.fn x = true ∨ X.env.scope.names.lookup x = some .local) (nf : ¬ fx i) :
    PS X (.Assign [.Name x pos'] e pos) (tS X.K ct W fx fun ρ => (mf ρ).bind fun o ρ => .ok .nx (putO ρ i o)) := (ps_set hN hi hx he hs hf).weak fun D σ H h => by
  obtain ⟨Hf, ρ, U, R0, p⟩ := h
  refine ⟨Hf, ρ, U, R0, p.bndE fun o ρ1 Hf1 H1 U1 R1 S1 q v T ov tv => ?_⟩
  obtain ⟨R2, S2⟩ := take_step (i := i) R1 S1 ov tv
  exact q _ Hf1 H1 _ (Kept.set nf) R2 S2
theorem s_expr (he : PE X e (tF X.K ct W mf)) (hs : swapsWith e none pos.line X.env = pure false) : PS X (.Expr e pos) (tS X.K ct W fx fun ρ => (mf ρ).bind fun _ ρ => .ok .nx ρ) := (ps_expr he hs).weak fun D σ H h => by
  obtain ⟨Hf, ρ, U, R0, p⟩ := h
  exact ⟨Hf, ρ, U, R0, p.bndE fun o ρ1 Hf1 H1 U1 R1 S1 q v T ov tv => q σ Hf1 H1 U1 Kept.refl R1 S1⟩
theorem s_par {i j : Nat} {x y : Str} {px py pt : Pos} {kt k2 pt2} (hc : X.calm = true) (hN : X.N.Nodup) (hi : X.N[i]? = some x) (hj : X.N[j]? = some y) (hij : i ≠ j)
    (hx : X.env.scope.names.lookup x = some .local) (hy : X.env.scope.names.lookup y = some .local) (ha : PE X a (tE X.K ct W ma)) (hb : PE X b (tE X.K ct W mb)) (sa : notStar a = true) (sb : notStar b = true)
    (hw : swappedStores [.Tuple [.Name x px, .Name y py] kt pt] (.Tuple [a, b] k2 pt2) X.env = pure (some [x, y])) (ni : ¬ fx i) (nj : ¬ fx j) :
    PS X (.Assign [.Tuple [.Name x px, .Name y py] kt pt] (.Tuple [a, b] k2 pt2) pos) (tS X.K ct W fx fun ρ => (ma ρ).bind fun d ρ => (mb ρ).bind fun e ρ => .ok .nx (putO (putO ρ i (.frz d)) j (.frz e))) :=
  (ps_par hc hN hi hj hij hx hy (pa_cons ha (pa_cons hb pa_nil (starEach_cons sb)) (starEach_cons sa)) hw).weak fun D σ H h => by
  obtain ⟨Hf, ρ, U, R0, p⟩ := h
  refine ⟨Hf, ρ, U, R0, p.bndE fun d ρ1 Hf1 H1 U1 R1 S1 p1 v rv => ⟨Hf1, ρ1, U1, R1, (p1.from Kept.refl S1).bndE fun e ρ2 Hf2 H2 U2 R2 S2 p2 w rw' => ⟨v, w, rfl, ?_⟩⟩⟩
  obtain ⟨R3, S3⟩ := take_step (i := i) R2 S2 (.frz (T := fun _ => False) (rv.mono S2.mono)) fun _ q => q.elim
  have R4 := R3.put (i := j) (.frz (T := fun _ => False) rw') (fun _ q => q.elim) fun _ q => q.elim
  exact p2 _ Hf2 H2 _ ((Kept.set ni).trans (Kept.set nj)) R4 ⟨S3.mono, S3.dom, S3.frame, fun b ⟨l, q⟩ => by
    by_cases e : l = j
    · subst e; rw [updU_same] at q; exact q.elim
    · rw [updU_ne e] at q; exact S3.foot b ⟨l, q⟩⟩

theorem s_par3 {i j l : Nat} {x y z : Str} {px py pz pt : Pos} {kt k2 pt2} (hc : X.calm = true) (hN : X.N.Nodup) (hi : X.N[i]? = some x) (hj : X.N[j]? = some y) (hl : X.N[l]? = some z) (hij : i ≠ j) (hil : i ≠ l) (hjl : j ≠ l)
    (hx : X.env.scope.names.lookup x = some .local) (hy : X.env.scope.names.lookup y = some .local) (hz : X.env.scope.names.lookup z = some .local) (ha : PE X a (tE X.K ct W ma)) (hb : PE X b (tE X.K ct W mb)) (hcc : PE X c (tE X.K ct W mc)) (sa : notStar a = true) (sb : notStar b = true) (sc : notStar c = true)
    (hw : swappedStores [.Tuple [.Name x px, .Name y py, .Name z pz] kt pt] (.Tuple [a, b, c] k2 pt2) X.env = pure (some [x, y, z])) (ni : ¬ fx i) (nj : ¬ fx j) (nl : ¬ fx l) :
    PS X (.Assign [.Tuple [.Name x px, .Name y py, .Name z pz] kt pt] (.Tuple [a, b, c] k2 pt2) pos) (tS X.K ct W fx fun ρ => (ma ρ).bind fun d ρ => (mb ρ).bind fun e ρ => (mc ρ).bind fun f ρ => .ok .nx (putO (putO (putO ρ i (.frz d)) j (.frz e)) l (.frz f))) :=
  (ps_par3 hc hN hi hj hl hij hil hjl hx hy hz (pa_cons ha (pa_cons hb (pa_cons hcc pa_nil (starEach_cons sc)) (starEach_cons sb)) (starEach_cons sa)) hw).weak fun D σ H h => by
  obtain ⟨Hf, ρ, U, R0, p⟩ := h
  refine ⟨Hf, ρ, U, R0, p.bndE fun d ρ1 Hf1 H1 U1 R1 S1 p1 v rv => ⟨Hf1, ρ1, U1, R1, (p1.from Kept.refl S1).bndE fun e ρ2 Hf2 H2 U2 R2 S2 p2 w rw' => ⟨Hf2, ρ2, U2, R2, (p2.from Kept.refl S2).bndE fun f ρ3 Hf3 H3 U3 R3 S3 p3 u ru => ⟨v, w, u, rfl, ?_⟩⟩⟩⟩
  obtain ⟨R4, S4⟩ := take_step (i := i) R3 S3 (.frz (T := fun _ => False) ((rv.mono S2.mono).mono S3.mono)) fun _ q => q.elim
  have R5 := R4.put (i := j) (.frz (T := fun _ => False) (rw'.mono S3.mono)) (fun _ q => q.elim) fun _ q => q.elim
  have R6 := R5.put (i := l) (.frz (T := fun _ => False) ru) (fun _ q => q.elim) fun _ q => q.elim
  exact p3 _ Hf3 H3 _ (((Kept.set ni).trans (Kept.set nj)).trans (Kept.set nl)) R6 ⟨S4.mono, S4.dom, S4.frame, fun b ⟨m, q⟩ => by
    by_cases e : m = l
    · subst e; rw [updU_same] at q; exact q.elim
    · rw [updU_ne e] at q
      by_cases e2 : m = j
      · subst e2; rw [updU_same] at q; exact q.elim
      · rw [updU_ne e2] at q; exact S4.foot b ⟨m, q⟩⟩

/-! ### targets that take a row apart -/
/-- names in a row -/
inductive NameRow (X : Cx) (fx : Fix) : List Nat → List Expr → Prop where
  | nil : NameRow X fx [] []
  | cons {i : Nat} {x : Str} {p : Pos} {is : List Nat} {es : List Expr} (hi : X.N[i]? = some x) (hx : Loc X.env.scope x) (hf : X.fn x = true ∨ X.env.scope.names.lookup x = some .local) (nf : ¬ fx i) (r : NameRow X fx is es) : NameRow X fx (i :: is) (.Name x p :: es)
def gRow : List Nat → TGs
  | [] => gNil
  | i :: is => gCons (gName i) (gRow is)
theorem NameRow.pgs (hN : X.N.Nodup) {is : List Nat} {es : List Expr} (h : NameRow X fx is es) : PGs X es (gRow is) := by
  induction h with
  | nil => exact pgs_nil
  | cons hi hx hf nf r ih => exact pgs_cons (pg_name hN hi hx hf) ih rfl
theorem NameRow.len {is : List Nat} {es : List Expr} (h : NameRow X fx is es) : (assignEach es X.env).length = is.length := by
  induction h with
  | nil => rfl
  | cons hi hx hf nf r ih => exact congrArg Nat.succ ih
theorem NameRow.noStar {is : List Nat} {es : List Expr} (h : NameRow X fx is es) : (assignEach es X.env).findIdx? (·.1) = none := by
  induction h with
  | nil => rfl
  | cons hi hx hf nf r ih =>
    show (( (false, _) :: assignEach _ X.env) : List (Bool × (Value → Sem Unit))).findIdx? (·.1) = none
    rw [List.findIdx?_cons, ih]
    rfl
theorem NameRow.free {is : List Nat} {es : List Expr} (h : NameRow X fx is es) : ∀ i ∈ is, ¬ fx i := by
  induction h with
  | nil => exact fun _ q => nomatch q
  | cons hi hx hf nf r ih => exact fun i q => (List.mem_cons.mp q).elim (fun e => e ▸ nf) (ih i)
/-- a tuple or a list -/
def gAny (K : PySem.W.Frag) (n : Nat) (t : TGs) : TG := fun v σ H Q => ∃ a xs, v = .ref a ∧ (SqL K H a xs ∨ SqT K H a xs) ∧ xs.length = n ∧ t xs σ H Q
theorem pg_any {es : List Expr} {k : Nat} {t : TGs} {n : Nat} (hc : X.calm = true) (h : PGs X es t) (hn : (assignEach es X.env).length = n) (hst : (assignEach es X.env).findIdx? (·.1) = none) : PG X (.Tuple es k pos) (gAny X.K n t) := by
  refine ⟨fun pins s σ H v u Q I r hw => ?_⟩
  obtain ⟨a, xs, e1, hq, hl, hw⟩ := hw
  rcases hq with hq | hq
  · exact (pg_lst hc h hn hst).run pins s σ H v u Q I r ⟨a, xs, e1, hq, hl, hw⟩
  · exact (pg_tup hc h hn hst).run pins s σ H v u Q I r ⟨a, xs, e1, hq, hl, hw⟩
/-- frozen items go to their slots -/
theorem row_put {K : PySem.W.Frag} {Hf H : Hp} {Q : L2.St → Hp → Prop} : ∀ {is : List Nat} {l : List D} {xs : List V} {σ : L2.St} {ρ : Env} {U : UU}, xs.length = is.length → xs.length = l.length → (∀ (i : Nat) v d, xs[i]? = some v → l[i]? = some d → Rep K Hf v d) →
    Rel K Hf H ρ σ U → (∀ i ∈ is, ¬ fx i) → (∀ σ' U', Kept fx σ σ' → Rel K Hf H ((is.zip l).foldl (fun r p => putO r p.1 (.frz p.2)) ρ) σ' U' → (∀ b, foot U' b → foot U b) → (∀ ns, (∀ i ∈ is, i ∈ ns) → wipe σ' ns = wipe σ ns) → Q σ' H) → gRow is xs σ H Q
  | [], [], [], σ, ρ, U, _, _, _, R0, _, q => ⟨rfl, q σ U Kept.refl R0 (fun _ h => h) fun _ _ => rfl⟩
  | [], _, _ :: _, _, _, _, n, _, _, _, _, _ => by simp at n
  | [], _ :: _, [], _, _, _, _, n, _, _, _, _ => by simp at n
  | _ :: _, _, [], _, _, _, n, _, _, _, _, _ => by simp at n
  | _ :: _, [], _ :: _, _, _, _, _, n, _, _, _, _ => by simp at n
  | i :: is, d :: l, x :: xs, σ, ρ, U, n1, n2, it, R0, nf, q => by
    refine ⟨x, xs, rfl, ?_⟩
    show gRow is xs (σ.set i (some x)) H Q
    have R1 := R0.put (i := i) (.frz (T := fun _ => False) (it 0 x d rfl rfl)) (fun _ q => q.elim) fun _ q => q.elim
    refine row_put (is := is) (l := l) (xs := xs) (by simpa using n1) (by simpa using n2) (fun j v d' e1 e2 => it (j + 1) v d' (by simpa using e1) (by simpa using e2)) R1 (fun j hj => nf j (List.mem_cons_of_mem _ hj)) fun σ' U' k' R' fu wp => ?_
    refine q σ' U' ((Kept.set (nf i List.mem_cons_self)).trans k') R' (fun b hb => foot_updU (fun _ q => q.elim) b (fu b hb)) fun ns hns => ?_
    rw [wp ns fun j hj => hns j (List.mem_cons_of_mem _ hj)]
    exact wipe_set (hns i List.mem_cons_self)
where
  wipe_set {σ : L2.St} {i : Nat} {v : Option V} : ∀ {ns : List Nat}, i ∈ ns → wipe (σ.set i v) ns = wipe σ ns := by
    intro ns h
    induction ns with
    | nil => cases h
    | cons j r ih =>
      show (wipe (σ.set i v) r).set j none = (wipe σ r).set j none
      by_cases e : i ∈ r
      · rw [ih e]
      · have e2 : i = j := by rcases List.mem_cons.mp h with e3 | e3; exact e3; exact absurd e3 e
        subst e2
        have : ∀ (r : List Nat) (τ : L2.St), (wipe (τ.set i v) r).set i none = (wipe τ r).set i none := by
          intro r
          induction r with
          | nil => intro τ; exact List.set_set ..
          | cons k r ih2 =>
            intro τ
            show ((wipe (τ.set i v) r).set k none).set i none = ((wipe τ r).set k none).set i none
            by_cases ek : k = i
            · subst ek
              rw [List.set_set, List.set_set, ih2]
            · rw [List.set_comm _ _ ek, ih2, ← List.set_comm _ _ ek]
        exact this r σ
end
end Tr
set_option Elab.async false
set_option linter.all false
set_option maxRecDepth 100000
set_option maxHeartbeats 4000000
/-! TrC7: lists that change: append, extend, reverse, pop, stores. -/
namespace Tr
open PySem PySem.Spec PyProof.Rows L2

section
variable {K : PySem.W.Frag} {Hf H : Hp} {ρ : Env} {σ : L2.St} {U : UU} {v : V} {o : O} {T : Addr → Prop}
theorem own_chg {a : Addr} {u : HO} (ne : ∀ b, T b → b ≠ a) (h : Own K Hf H v o T) : Own K Hf (upd H a u) v o T :=
  h.keep (fun _ _ q => q) (fun b w t q => by rw [upd_ne (ne b t)]; exact q) fun _ _ _ _ n => n
theorem sub_chg {a : Addr} {u : HO} (sub : Same Hf H) (nf : Hf a = none) : Same Hf (upd H a u) := fun b w q => by
  rw [upd_ne (ne_of_none q nf)]
  exact sub b w q
/-- a slot's own list (or one within it) has changed -/
theorem rel_chg {s : Nat} {a : Addr} {u : HO} {T' : Addr → Prop} (R : Rel K Hf H ρ σ U) (hv : σ[s]? = some (some v)) (ua : U s a) (nf : Hf a = none) (h : Own K Hf (upd H a u) v o T') (t : ∀ b, T' b → U s b ∨ (¬ foot U b ∧ H b ≠ none)) :
    Rel K Hf (upd H a u) (putO ρ s o) σ (updU U s T') := by
  refine ⟨sub_chg R.sub nf, by rw [putO, List.length_set, R.len], fun j o' e => ?_, updU_dj R.dj fun b tb ⟨j, hj, w⟩ => ?_, updU_alive (fun i b q => upd_alive (R.alive i b q)) fun b tb => ?_⟩
  · rcases set_get e with ⟨rfl, e1⟩ | ⟨ne, e1⟩
    · cases e1
      exact ⟨v, hv, by rw [updU_same]; exact h⟩
    · obtain ⟨w, h1, h2⟩ := R.own j o' e1
      exact ⟨w, h1, by rw [updU_ne ne]; exact own_chg (fun b tb e => R.dj j s b ne tb (e ▸ ua)) h2⟩
  · rcases t b tb with z | z
    · exact R.dj j s b hj w z
    · exact z.1 ⟨j, w⟩
  · rcases t b tb with z | z
    · exact upd_alive (R.alive s b z)
    · exact upd_alive z.2
theorem step_chg {s : Nat} {a : Addr} {u : HO} {T' : Addr → Prop} {Hf0 H0 : Hp} {U0 : UU} (S : Step Hf0 H0 (foot U0) Hf H (foot U)) (ua : U s a) (t : ∀ b, T' b → U s b ∨ (foot U0 b ∨ H0 b = none)) : Step Hf0 H0 (foot U0) Hf (upd H a u) (foot (updU U s T')) :=
  ⟨S.mono, S.dom, fun b w n q => by
    have e : b ≠ a := fun e => by
      rcases S.foot b (e ▸ ⟨s, ua⟩) with z | z
      · exact n z
      · rw [q] at z; cases z
    rw [upd_ne e]
    exact S.frame b w n q, fun b ⟨j, q⟩ => by
    by_cases e : j = s
    · subst e
      rw [updU_same] at q
      rcases t b q with z | z
      · exact S.foot b ⟨j, z⟩
      · exact z
    · rw [updU_ne e] at q; exact S.foot b ⟨j, q⟩⟩
/-- a box, opened -/
theorem own_open {l : List O} (h : Own K Hf H v (.box l) T) : ∃ a xs Y, v = .ref a ∧ H a = some (.lst xs) ∧ Hf a = none ∧ T a ∧ Owns K Hf H xs l Y ∧ ∀ i b, Y i b → T b ∧ b ≠ a := by
  cases h with
  | box U h nf ta n it dj sb => exact ⟨_, _, U, rfl, h, nf, ta, ⟨n, it, dj⟩, sb⟩
/-- a box, closed again over changed items -/
theorem owns_close {a : Addr} {xs : List V} {l : List O} {Y : UU} {T' : Addr → Prop} (h : Owns K Hf H xs l Y) (nf : Hf a = none) (ta : T' a) (sb : ∀ i b, Y i b → T' b ∧ b ≠ a) : Own K Hf (upd H a (.lst xs)) (.ref a) (.box l) T' :=
  .box Y upd_same nf ta h.len (fun i v o e1 e2 => own_chg (fun b t => (sb i b t).2) (h.own i v o e1 e2)) h.dj sb
end
theorem isBox_of {s : Nat} {ρ : Env} (h : isBox s ρ = true) : ∃ l, ρ[s]? = some (some (.box l)) := by
  unfold isBox at h
  split at h
  · rename_i l e; exact ⟨l, e⟩
  · cases h
theorem mdP_of {α : Type} {f : O → Option (α × O)} {s : Nat} {is : List D} {ρ : Env} {a : α} {ρ' : Env} (h : mdP f s is ρ = .ok a ρ') : ∃ o o', ldV s ρ = some o ∧ modP f o is = some (a, o') ∧ ρ' = putO ρ s o' := by
  unfold mdP at h
  split at h
  · rename_i o e
    split at h
    · rename_i a' o' e2
      cases h
      exact ⟨o, o', e, e2, rfl⟩
    · cases h
  · cases h
section
variable {X : Cx} {ct : Str → Option Addr} {W : WX} {fx : Fix} {a b c e : Expr} {ma mb mc : Env → R D} {mf : Env → R O} {pos apos cpos : Pos} {es : List Expr}
theorem few_one {e : Expr} (h : notStar e = true) : ((backTo cpos (starEach [e] X.env)).all (fun x => !x.1) && (backToKw cpos (keywordEach [] X.env)).all (fun x => x.1.isSome)
      && decide (([e] : List Expr).length + ([] : List Keyword).length + (if ([] : List Keyword).isEmpty then 0 else 1) < 30)) = true := by
  rw [starEach_cons h]
  rfl
/-- no call stands ahead of the dot: a name -/
theorem base_name {x m : Str} {p : Pos} : attributeBase (.Name x p) m X.env (eval (.Name x p) X.env) = eval (.Name x p) X.env := rfl
/-- the post of a mdP at a slot, met -/
theorem mdP_post {α : Type} {K : PySem.W.Frag} {σ : L2.St} {Hf H : Hp} {U : UU} {E : Ex → Env → Hp → Hp → UU → Prop} {k : α → Env → Hp → Hp → UU → Prop} {f : O → Option (α × O)} {s : Nat} {is : List D} {ρ : Env}
    (h : Post K σ Hf H U E k (mdP f s is ρ)) : ∃ r o o', ldV s ρ = some o ∧ modP f o is = some (r, o') ∧ Post K σ Hf H U E k (.ok r (putO ρ s o')) := by
  cases e : mdP f s is ρ with
  | bad => rw [e] at h; exact h.elim
  | exc x ρ' =>
    exfalso
    unfold mdP at e
    split at e
    · split at e <;> cases e
    · cases e
  | ok r ρ' =>
    obtain ⟨o, o', e1, e2, e3⟩ := mdP_of e
    subst e3
    exact ⟨r, o, o', e1, e2, by rw [e] at h; exact h⟩
theorem modP_nil {α : Type} {f : O → Option (α × O)} {o : O} : modP f o [] = f o := by cases o <;> rfl
theorem app_cond {K : PySem.W.Frag} {Hf H : Hp} {xs : List V} {l : List O} {Y : UU} {x : V} {o : O} {T : Addr → Prop} (h : Owns K Hf H xs l Y) (ho : Own K Hf H x o T) (d : ∀ i b, Y i b → ¬ T b) : Owns K Hf H (xs ++ [x]) (l ++ [o]) (fun i => if i < l.length then Y i else if i = l.length then T else fun _ => False) := by
  refine ⟨by simp [h.len], fun i v o' e1 e2 => ?_, fun i j b hne h1 h2 => ?_⟩
  · by_cases hi : i < l.length
    · rw [if_pos hi]
      rw [List.getElem?_append_left (by rw [h.len]; exact hi)] at e1
      rw [List.getElem?_append_left hi] at e2
      exact h.own i v o' e1 e2
    · rw [if_neg hi]
      rw [List.getElem?_append_right (by rw [h.len]; omega)] at e1
      rw [List.getElem?_append_right (by omega)] at e2
      rw [h.len] at e1
      cases q : i - l.length with
      | zero =>
        rw [q] at e1 e2
        cases e1
        cases e2
        rw [if_pos (by omega)]
        exact ho
      | succ n => rw [q] at e1; simp at e1
  · by_cases hi : i < l.length
    · rw [if_pos hi] at h1
      by_cases hj : j < l.length
      · rw [if_pos hj] at h2; exact h.dj i j b hne h1 h2
      · rw [if_neg hj] at h2
        by_cases hj2 : j = l.length
        · rw [if_pos hj2] at h2; exact d i b h1 h2
        · rw [if_neg hj2] at h2; exact h2
    · rw [if_neg hi] at h1
      by_cases hi2 : i = l.length
      · rw [if_pos hi2] at h1
        by_cases hj : j < l.length
        · rw [if_pos hj] at h2; exact d j b h2 h1
        · rw [if_neg hj, if_neg (by omega)] at h2; exact h2
      · rw [if_neg hi2] at h1; exact h1
/-- x.append(e) -/
theorem s_append {s : Nat} (ha : PE X a (tVar s)) (he : PE X e (tF X.K ct W mf)) (hb : attributeBase a "append" X.env (eval a X.env) = eval a X.env) (hl : (apos.endLine == cpos.line) = true) (hs : notStar e = true) :
    PS X (.Expr (.Call (.Attribute a "append" apos) [e] [] cpos) pos) (tS X.K ct W fx fun ρ => if isBox s ρ then (mf ρ).bind fun o ρ => (mdP (appF o) s [] ρ).bind fun _ ρ => .ok .nx ρ else .bad) :=
  (ps_expr (pe_bm PySem.F.plainAttrs_list PySem.F.slot_list_append PySem.F.type_list_append mt_append ha (pa_cons he pa_nil (starEach_cons hs)) hb (few_one hs) hl (starEach_cons hs) back_nil) rfl).weak fun D σ H h => by
  obtain ⟨Hf, ρ, U, R0, p⟩ := h
  dsimp only at p
  split at p <;> first | exact p.elim | skip
  rename_i hbx
  obtain ⟨l0, e0⟩ := isBox_of hbx
  obtain ⟨v, hv, ov⟩ := R0.own _ _ e0
  obtain ⟨ad, xs0, Y0, rfl, ha0, nf0, ta0, _, _⟩ := own_open ov
  refine ⟨.ref ad, hv, .inl ⟨rfl, _, SqL.of ha0⟩, Hf, ρ, U, R0, p.bndE fun o ρ1 Hf1 H1 U1 R1 S1 p1 x T ox tx => ?_⟩
  have p2 := (p1.from Kept.refl Step.refl).bndE (k := fun _ ρ' Hf' H' U' => PostS X.K ct W fx σ Hf H U D (.ok .nx ρ')) fun _ ρ' Hf' H' U' _ _ q => q
  cases e : mdP (appF o) s [] ρ1 with
  | bad => rw [e] at p1; exact p1.elim
  | exc x ρ' =>
    exfalso
    unfold mdP at e
    split at e
    · split at e <;> cases e
    · cases e
  | ok r ρ2 =>
    obtain ⟨oo, o', e1, e2, e3⟩ := mdP_of e
    subst e3
    rw [e] at p1
    rw [modP_nil] at e2
    cases oo <;> simp only [appF, reduceCtorEq] at e2
    rename_i l
    split at e2 <;> first | contradiction | skip
    rename_i hlen
    cases e2
    obtain ⟨v1, hv1, ov1⟩ := R1.own _ _ (ldV_of e1)
    rw [hv] at hv1
    cases hv1
    obtain ⟨ad', xs, Y, ead, ha1, nf1, ta1, oy, sb⟩ := own_open ov1
    cases ead
    refine ⟨ad, xs, x, rfl, rfl, ha1, by rw [oy.len, line_eq]; exact hlen, ?_⟩
    have own2 := owns_close (a := ad) (T' := fun b => U1 s b ∨ T b) (app_cond oy ox fun i b yb tb => (tx b tb).1 ⟨s, (sb i b yb).1⟩) nf1 (.inl ta1) fun i b q => by
      by_cases hi : i < l.length
      · rw [if_pos hi] at q; exact ⟨.inl (sb i b q).1, (sb i b q).2⟩
      · rw [if_neg hi] at q
        by_cases hi2 : i = l.length
        · rw [if_pos hi2] at q; exact ⟨.inr q, fun e => (tx b q).1 (e ▸ ⟨s, ta1⟩)⟩
        · rw [if_neg hi2] at q; exact q.elim
    refine p1 σ Hf1 _ _ Kept.refl (rel_chg R1 hv ta1 nf1 own2 fun b q => ?_) (step_chg S1 ta1 fun b q => ?_)
    · rcases q with q | q
      · exact .inl q
      · exact .inr ⟨(tx b q).1, (tx b q).2.1⟩
    · rcases q with q | q
      · exact .inl q
      · exact .inr (tx b q).2.2
end
end Tr
set_option Elab.async false
set_option linter.all false
set_option maxRecDepth 100000
set_option maxHeartbeats 4000000
/-! TrC8: lists that change, further; += ; rows taken apart. -/
namespace Tr
open PySem PySem.Spec PyProof.Rows L2
theorem mdP_case {α : Type} {f : O → Option (α × O)} {s : Nat} {is : List D} {ρ : Env} : mdP f s is ρ = .bad ∨ ∃ r o o', ldV s ρ = some o ∧ modP f o is = some (r, o') ∧ mdP f s is ρ = .ok r (putO ρ s o') := by
  unfold mdP
  cases e : ldV s ρ with
  | none => exact .inl rfl
  | some o =>
    cases e2 : modP f o is with
    | none => exact .inl (by simp [e2])
    | some p => exact .inr ⟨p.1, o, p.2, rfl, e2, by simp [e2]⟩
section
variable {X : Cx} {ct : Str → Option Addr} {W : WX} {fx : Fix} {a b c e : Expr} {ma mb mc : Env → R D} {mf : Env → R O} {pos apos cpos : Pos} {es : List Expr}
/-- x.extend(e) -/
theorem s_extend {s : Nat} (ha : PE X a (tVar s)) (he : PE X e (tE X.K ct W ma)) (hb : attributeBase a "extend" X.env (eval a X.env) = eval a X.env) (hl : (apos.endLine == cpos.line) = true) (hs : notStar e = true) :
    PS X (.Expr (.Call (.Attribute a "extend" apos) [e] [] cpos) pos) (tS X.K ct W fx fun ρ => if isBox s ρ then (ma ρ).bind fun d ρ => (R.of (listD d) ρ).bind fun ds ρ => (mdP (extF ds) s [] ρ).bind fun _ ρ => .ok .nx ρ else .bad) :=
  (ps_expr (pe_bm PySem.F.plainAttrs_list PySem.F.slot_list_extend PySem.F.type_list_extend mt_extend ha (pa_cons he pa_nil (starEach_cons hs)) hb (few_one hs) hl (starEach_cons hs) back_nil) rfl).weak fun D σ H h => by
  obtain ⟨Hf, ρ, U, R0, p⟩ := h
  dsimp only at p
  split at p <;> first | exact p.elim | skip
  rename_i hbx
  obtain ⟨l0, e0⟩ := isBox_of hbx
  obtain ⟨v, hv, ov⟩ := R0.own _ _ e0
  obtain ⟨ad, xs0, Y0, rfl, ha0, nf0, ta0, _, _⟩ := own_open ov
  refine ⟨.ref ad, hv, .inl ⟨rfl, _, SqL.of ha0⟩, Hf, ρ, U, R0, p.bndE fun d ρ1 Hf1 H1 U1 R1 S1 p1 x rx => ?_⟩
  cases d <;> simp only [listD, R.of_none, R.bind_bad, R.of_some, R.bind_ok] at p1 <;> first | exact p1.elim | skip
  rename_i ds
  rcases mdP_case (f := extF ds) (s := s) (is := []) (ρ := ρ1) with e | ⟨r, oo, o', e1, e2, e⟩
  · rw [e] at p1; exact p1.elim
  rw [e] at p1
  rw [modP_nil] at e2
  cases oo <;> simp only [extF, reduceCtorEq] at e2
  rename_i l
  split at e2 <;> first | contradiction | skip
  rename_i hlen
  cases e2
  obtain ⟨v1, hv1, ov1⟩ := R1.own _ _ (ldV_of e1)
  rw [hv] at hv1
  cases hv1
  obtain ⟨ad', xs, Y, ead, ha1, nf1, ta1, oy, sb⟩ := own_open ov1
  cases ead
  cases rx with
  | @lst b zs _ hz n it =>
    refine ⟨ad, b, xs, zs, rfl, rfl, ha1, R1.sub _ _ hz, by rw [oy.len, n, line_eq]; exact hlen, ?_⟩
    have oz : Owns X.K Hf1 H1 (xs ++ zs) (l ++ ds.map .frz) (fun i => if i < l.length then Y i else fun _ => False) := by
      have of := owns_frz (H := H1) n it
      refine ⟨by simp [oy.len, n], fun i v o e1 e2 => ?_, fun i j b hne h1 h2 => ?_⟩
      · by_cases hi : i < l.length
        · rw [if_pos hi]
          rw [List.getElem?_append_left (by rw [oy.len]; exact hi)] at e1
          rw [List.getElem?_append_left hi] at e2
          exact oy.own i v o e1 e2
        · rw [if_neg hi]
          rw [List.getElem?_append_right (by rw [oy.len]; omega)] at e1
          rw [List.getElem?_append_right (by omega)] at e2
          rw [oy.len] at e1
          exact of.own _ v o e1 e2
      · by_cases hi : i < l.length
        · rw [if_pos hi] at h1
          by_cases hj : j < l.length
          · rw [if_pos hj] at h2; exact oy.dj i j b hne h1 h2
          · rw [if_neg hj] at h2; exact h2
        · rw [if_neg hi] at h1; exact h1
    have own2 := owns_close (a := ad) (T' := U1 s) oz nf1 ta1 fun i b q => by
      by_cases hi : i < l.length
      · rw [if_pos hi] at q; exact sb i b q
      · rw [if_neg hi] at q; exact q.elim
    exact p1 σ Hf1 _ _ Kept.refl (rel_chg R1 hv ta1 nf1 own2 fun b q => .inl q) (step_chg S1 ta1 fun b q => .inl q)
theorem few_none : (backTo cpos (starEach [] X.env)).all (fun x => !x.1) = true := rfl
/-- x.reverse() -/
theorem s_reverse {s : Nat} (ha : PE X a (tVar s)) (hb : attributeBase a "reverse" X.env (eval a X.env) = eval a X.env) (hl : (apos.endLine == cpos.line) = true) :
    PS X (.Expr (.Call (.Attribute a "reverse" apos) [] [] cpos) pos) (tS X.K ct W fx fun ρ => (mdP revF s [] ρ).bind fun _ ρ => .ok .nx ρ) :=
  (ps_expr (pe_bm0 PySem.F.plainAttrs_list PySem.F.slot_list_reverse PySem.F.type_list_reverse mt_reverse ha hb hl) rfl).weak fun D σ H h => by
  obtain ⟨Hf, ρ, U, R0, p1⟩ := h
  dsimp only at p1
  rcases mdP_case (f := revF) (s := s) (is := []) (ρ := ρ) with e | ⟨r, oo, o', e1, e2, e⟩
  · rw [e] at p1; exact p1.elim
  rw [e] at p1
  rw [modP_nil] at e2
  cases oo <;> simp only [revF, reduceCtorEq] at e2
  rename_i l
  cases e2
  obtain ⟨v, hv, ov⟩ := R0.own _ _ (ldV_of e1)
  obtain ⟨ad, xs, Y, rfl, ha0, nf0, ta0, oy, sb⟩ := own_open ov
  refine ⟨.ref ad, hv, .inl ⟨rfl, _, SqL.of ha0⟩, ad, xs, rfl, rfl, ha0, ?_⟩
  have oz : Owns X.K Hf H xs.reverse l.reverse (fun i => if i < l.length then Y (l.length - 1 - i) else fun _ => False) := by
    refine ⟨by simp [oy.len], fun i v o e1 e2 => ?_, fun i j b hne h1 h2 => ?_⟩
    · have hi : i < l.length := by
        have := (List.getElem?_eq_some_iff.mp e2).1
        simpa using this
      rw [if_pos hi]
      rw [List.getElem?_reverse (by rw [oy.len]; exact hi), oy.len] at e1
      rw [List.getElem?_reverse hi] at e2
      exact oy.own _ v o e1 e2
    · by_cases hi : i < l.length
      · rw [if_pos hi] at h1
        by_cases hj : j < l.length
        · rw [if_pos hj] at h2; exact oy.dj _ _ b (by omega) h1 h2
        · rw [if_neg hj] at h2; exact h2
      · rw [if_neg hi] at h1; exact h1
  have own2 := owns_close (a := ad) (T' := U s) oz nf0 ta0 fun i b q => by
    by_cases hi : i < l.length
    · rw [if_pos hi] at q; exact sb _ b q
    · rw [if_neg hi] at q; exact q.elim
  exact p1 σ Hf _ _ Kept.refl (rel_chg R0 hv ta0 nf0 own2 fun b q => .inl q) (step_chg Step.refl ta0 fun b q => .inl q)
/-- x.pop() -/
theorem f_pop {s : Nat} (ha : PE X a (tVar s)) (hb : attributeBase a "pop" X.env (eval a X.env) = eval a X.env) (hl : (apos.endLine == cpos.line) = true) :
    PE X (.Call (.Attribute a "pop" apos) [] [] cpos) (tF X.K ct W fun ρ => mdP popF s [] ρ) :=
  (pe_bm0 PySem.F.plainAttrs_list PySem.F.slot_list_pop PySem.F.type_list_pop mt_pop ha hb hl).weak fun σ H Q h => by
  obtain ⟨Hf, ρ, U, R0, p1⟩ := h
  dsimp only at p1
  rcases mdP_case (f := popF) (s := s) (is := []) (ρ := ρ) with e | ⟨r, oo, o', e1, e2, e⟩
  · rw [e] at p1; exact p1.elim
  rw [e] at p1
  rw [modP_nil] at e2
  cases oo <;> simp only [popF, reduceCtorEq] at e2
  rename_i l
  split at e2 <;> first | contradiction | skip
  rename_i o eo
  cases e2
  obtain ⟨v, hv, ov⟩ := R0.own _ _ (ldV_of e1)
  obtain ⟨ad, xs, Y, rfl, ha0, nf0, ta0, oy, sb⟩ := own_open ov
  obtain ⟨hlt, _⟩ := List.getElem?_eq_some_iff.mp eo
  have ey : xs[xs.length - 1]? = some (xs[xs.length - 1]'(by have := oy.len; omega)) := List.getElem?_eq_getElem _
  refine ⟨.ref ad, hv, .inl ⟨rfl, _, SqL.of ha0⟩, ad, xs, _, rfl, rfl, ha0, ey, ?_⟩
  have oz : Owns X.K Hf H xs.dropLast l.dropLast (fun i => if i < l.length - 1 then Y i else fun _ => False) := by
    refine ⟨by simp [oy.len], fun i v o' e1 e2 => ?_, fun i j b hne h1 h2 => ?_⟩
    · have hi : i < l.length - 1 := by
        have := (List.getElem?_eq_some_iff.mp e2).1
        simpa using this
      rw [if_pos hi]
      rw [List.dropLast_eq_take, List.getElem?_take_of_lt (by rw [oy.len]; exact hi)] at e1
      rw [List.dropLast_eq_take, List.getElem?_take_of_lt hi] at e2
      exact oy.own i v o' e1 e2
    · by_cases hi : i < l.length - 1
      · rw [if_pos hi] at h1
        by_cases hj : j < l.length - 1
        · rw [if_pos hj] at h2; exact oy.dj _ _ b hne h1 h2
        · rw [if_neg hj] at h2; exact h2
      · rw [if_neg hi] at h1; exact h1
  have own2 := owns_close (a := ad) (T' := fun b => U s b ∧ ¬ Y (l.length - 1) b) oz nf0 ⟨ta0, fun q => (sb _ _ q).2 rfl⟩ fun i b q => by
    by_cases hi : i < l.length - 1
    · rw [if_pos hi] at q; exact ⟨⟨(sb _ b q).1, oy.dj i _ b (by omega) q⟩, (sb _ b q).2⟩
    · rw [if_neg hi] at q; exact q.elim
  have R2 := rel_chg R0 hv ta0 nf0 own2 fun b q => .inl q.1
  have S2 := step_chg (T' := fun b => U s b ∧ ¬ Y (l.length - 1) b) (u := .lst xs.dropLast) (Step.refl (Hf := Hf) (H := H) (F := foot U)) ta0 fun b q => .inl q.1
  have ox := oy.own (l.length - 1) _ _ (by rw [← oy.len]; exact ey) eo
  refine p1 Hf _ _ R2 S2 _ (Y (l.length - 1)) (own_chg (fun b t => (sb _ b t).2) ox) fun b tb => ⟨fun ⟨j, w⟩ => ?_, upd_alive (R0.alive s b (sb _ b tb).1), .inl ⟨s, (sb _ b tb).1⟩⟩
  by_cases hj : j = s
  · subst hj; rw [updU_same] at w; exact w.2 tb
  · rw [updU_ne hj] at w; exact R0.dj j s b hj w (sb _ b tb).1
theorem seq_of_ixN {n : Nat} {i : Int} {j : Nat} (h : Tr.ixN n i = some j) : seqIndex? i n = some j := (L2.ixN_seq (by rw [← ixN_same]; exact h)).1
/-- x.pop(e) -/
theorem f_popAt {s : Nat} (ha : PE X a (tVar s)) (he : PE X e (tE X.K ct W ma)) (hb : attributeBase a "pop" X.env (eval a X.env) = eval a X.env) (hl : (apos.endLine == cpos.line) = true) (hs : notStar e = true) :
    PE X (.Call (.Attribute a "pop" apos) [e] [] cpos) (tF X.K ct W fun ρ => if isBox s ρ then (ma ρ).bind fun k ρ => mdP (popAtF k) s [] ρ else .bad) :=
  (pe_bm PySem.F.plainAttrs_list PySem.F.slot_list_pop PySem.F.type_list_pop mt_popAt ha (pa_cons he pa_nil (starEach_cons hs)) hb (few_one hs) hl (starEach_cons hs) back_nil).weak fun σ H Q h => by
  obtain ⟨Hf0, ρ0, U0, R00, p⟩ := h
  dsimp only at p
  split at p <;> first | exact p.elim | skip
  rename_i hbx
  obtain ⟨l0, e0⟩ := isBox_of hbx
  obtain ⟨v, hv, ov⟩ := R00.own _ _ e0
  obtain ⟨ad, xs0, Y0, rfl, ha0', nf0', ta0', _, _⟩ := own_open ov
  refine ⟨.ref ad, hv, .inl ⟨rfl, _, SqL.of ha0'⟩, Hf0, ρ0, U0, R00, p.then0 fun d ρ Hf H1 U R0 S1 p1 x rx => ?_⟩
  rcases mdP_case (f := popAtF d) (s := s) (is := []) (ρ := ρ) with e | ⟨r, oo, o', e1, e2, e⟩
  · rw [e] at p1; exact p1.elim
  rw [e] at p1
  rw [modP_nil] at e2
  cases oo <;> simp only [popAtF, reduceCtorEq] at e2
  rename_i l
  cases d <;> simp only [reduceCtorEq] at e2
  rename_i k
  split at e2 <;> first | contradiction | skip
  rename_i hk
  split at e2 <;> first | contradiction | skip
  rename_i j ej
  split at e2 <;> first | contradiction | skip
  rename_i o eo
  cases e2
  have ex := rx.int_of
  subst ex
  obtain ⟨v, hv', ov⟩ := R0.own _ _ (ldV_of e1)
  rw [hv] at hv'
  cases hv'
  obtain ⟨ad', xs, Y, ead, ha0, nf0, ta0, oy, sb⟩ := own_open ov
  cases ead
  obtain ⟨hlt, _⟩ := List.getElem?_eq_some_iff.mp eo
  have ey : xs[j]? = some (xs[j]'(by have := oy.len; omega)) := List.getElem?_eq_getElem _
  refine ⟨ad, xs, k, j, _, rfl, rfl, ha0, hk.1, hk.2, by rw [oy.len]; exact seq_of_ixN ej, ey, ?_⟩
  have sh : ∀ i, (if i < j then i else i + 1) ≠ j := fun i => by split <;> omega
  have oz : Owns X.K Hf H1 (xs.eraseIdx j) (l.eraseIdx j) (fun i => Y (if i < j then i else i + 1)) := by
    refine ⟨by rw [List.length_eraseIdx, List.length_eraseIdx, oy.len], fun i v o' e1 e2 => ?_, fun i i' b hne h1 h2 => ?_⟩
    · rw [List.getElem?_eraseIdx] at e1 e2
      by_cases hi : i < j
      · rw [if_pos hi] at e1 e2 ⊢; exact oy.own i v o' e1 e2
      · rw [if_neg hi] at e1 e2 ⊢; exact oy.own (i + 1) v o' e1 e2
    · refine oy.dj _ _ b ?_ h1 h2
      by_cases hi : i < j <;> by_cases hi' : i' < j <;> simp only [hi, hi', if_true, if_false] <;> omega
  have own2 := owns_close (a := ad) (T' := fun b => U s b ∧ ¬ Y j b) oz nf0 ⟨ta0, fun q => (sb _ _ q).2 rfl⟩ fun i b q => ⟨⟨(sb _ b q).1, oy.dj _ _ b (sh i) q⟩, (sb _ b q).2⟩
  have R2 := rel_chg R0 hv ta0 nf0 own2 fun b q => .inl q.1
  have S2 := step_chg (T' := fun b => U s b ∧ ¬ Y j b) (u := .lst (xs.eraseIdx j)) S1 ta0 fun b q => .inl q.1
  have ox := oy.own j _ _ ey eo
  refine p1 Hf _ _ R2 S2 _ (Y j) (own_chg (fun b t => (sb _ b t).2) ox) fun b tb => ⟨fun ⟨i, w⟩ => ?_, upd_alive (R0.alive s b (sb _ b tb).1), S1.foot b ⟨s, (sb _ b tb).1⟩⟩
  by_cases hj : i = s
  · subst hj; rw [updU_same] at w; exact w.2 tb
  · rw [updU_ne hj] at w; exact R0.dj i s b hj w (sb _ b tb).1
theorem ins_get {α : Type} {l : List α} {k : Nat} {y : α} (hk : k ≤ l.length) (i : Nat) : (l.take k ++ [y] ++ l.drop k)[i]? = if i < k then l[i]? else if i = k then some y else l[i - 1]? := by
  have h1 : (l.take k).length = k := by rw [List.length_take]; omega
  by_cases h : i < k
  · rw [if_pos h, List.append_assoc, List.getElem?_append_left (by omega), List.getElem?_take, if_pos h]
  · rw [if_neg h, List.append_assoc, List.getElem?_append_right (by omega), h1]
    by_cases h2 : i = k
    · rw [if_pos h2, h2, Nat.sub_self]; rfl
    · rw [if_neg h2, List.getElem?_append_right (by simp; omega), List.getElem?_drop]
      congr 1
      simp
      omega
theorem ins_cond {K : PySem.W.Frag} {Hf H : Hp} {xs : List V} {l : List O} {Y : UU} {x : V} {o : O} {k : Nat} (h : Owns K Hf H xs l Y) (hk : k ≤ l.length) (ho : Own K Hf H x o (fun _ => False)) :
    Owns K Hf H (xs.take k ++ [x] ++ xs.drop k) (l.take k ++ [o] ++ l.drop k) (fun i => if i < k then Y i else if i = k then (fun _ => False) else Y (i - 1)) := by
  refine ⟨by simp [h.len], fun i v o' e1 e2 => ?_, fun i j b hne h1 h2 => ?_⟩
  · rw [ins_get (by rw [h.len]; exact hk)] at e1
    rw [ins_get hk] at e2
    by_cases hi : i < k
    · rw [if_pos hi] at e1 e2 ⊢; exact h.own i v o' e1 e2
    · rw [if_neg hi] at e1 e2 ⊢
      by_cases h2 : i = k
      · rw [if_pos h2] at e1 e2 ⊢; cases e1; cases e2; exact ho
      · rw [if_neg h2] at e1 e2 ⊢; exact h.own (i - 1) v o' e1 e2
  · have sh : ∀ i, ¬ i < k → i ≠ k → k < i := fun i a b => by omega
    by_cases hi : i < k
    · rw [if_pos hi] at h1
      by_cases hj : j < k
      · rw [if_pos hj] at h2; exact h.dj i j b hne h1 h2
      · rw [if_neg hj] at h2
        by_cases hj2 : j = k
        · rw [if_pos hj2] at h2; exact h2
        · rw [if_neg hj2] at h2; exact h.dj i (j - 1) b (by omega) h1 h2
    · rw [if_neg hi] at h1
      by_cases hi2 : i = k
      · rw [if_pos hi2] at h1; exact h1
      · rw [if_neg hi2] at h1
        by_cases hj : j < k
        · rw [if_pos hj] at h2; exact h.dj (i - 1) j b (by omega) h1 h2
        · rw [if_neg hj] at h2
          by_cases hj2 : j = k
          · rw [if_pos hj2] at h2; exact h2
          · rw [if_neg hj2] at h2; exact h.dj (i - 1) (j - 1) b (by omega) h1 h2
theorem few_two {e e' : Expr} {cpos : Pos} {X : Cx} (h : notStar e = true) (h' : notStar e' = true) : ((backTo cpos (starEach [e, e'] X.env)).all (fun x => !x.1) && (backToKw cpos (keywordEach [] X.env)).all (fun x => x.1.isSome)
      && decide (([e, e'] : List Expr).length + ([] : List Keyword).length + (if ([] : List Keyword).isEmpty then 0 else 1) < 30)) = true := by
  rw [starEach_cons h, starEach_cons h']
  rfl
/-- x.insert(i, e) -/
theorem s_insert {s : Nat} (ha : PE X a (tVar s)) (hi : PE X b (tE X.K ct W ma)) (he : PE X e (tE X.K ct W mb)) (hb : attributeBase a "insert" X.env (eval a X.env) = eval a X.env) (hl : (apos.endLine == cpos.line) = true) (hs : notStar b = true) (hs2 : notStar e = true) :
    PS X (.Expr (.Call (.Attribute a "insert" apos) [b, e] [] cpos) pos) (tS X.K ct W fx fun ρ => if isBox s ρ then (ma ρ).bind fun k ρ => (mb ρ).bind fun d ρ => (mdP (insF k d) s [] ρ).bind fun _ ρ => .ok .nx ρ else .bad) :=
  (ps_expr (pe_bm PySem.F.plainAttrs_list PySem.F.slot_list_insert PySem.F.type_list_insert mt_insert ha (pa_cons hi (pa_cons he pa_nil (starEach_cons hs2)) (starEach_cons hs)) hb (few_two hs hs2) hl (starEach_cons hs) (by rw [starEach_cons hs2]; rfl)) rfl).weak fun D σ H h => by
  obtain ⟨Hf, ρ, U, R0, p⟩ := h
  dsimp only at p
  split at p <;> first | exact p.elim | skip
  rename_i hbx
  obtain ⟨l0, e0⟩ := isBox_of hbx
  obtain ⟨v, hv, ov⟩ := R0.own _ _ e0
  obtain ⟨ad, xs0, Y0, rfl, ha0, nf0, ta0, _, _⟩ := own_open ov
  refine ⟨.ref ad, hv, .inl ⟨rfl, _, SqL.of ha0⟩, Hf, ρ, U, R0, p.bndE fun k ρ1 Hf1 H1 U1 R1 S1 p1 y ry => ⟨Hf1, ρ1, U1, R1, (p1.from Kept.refl S1).bndE fun d ρ2 Hf2 H2 U2 R2 S2 p2 x rx => ?_⟩⟩
  rcases mdP_case (f := insF k d) (s := s) (is := []) (ρ := ρ2) with e | ⟨r, oo, o', e1, e2, e⟩
  · rw [e] at p2; exact p2.elim
  rw [e] at p2
  rw [modP_nil] at e2
  cases oo <;> simp only [insF, reduceCtorEq] at e2
  rename_i l
  cases k <;> simp only [reduceCtorEq] at e2
  rename_i k
  split at e2 <;> first | contradiction | skip
  rename_i hk
  cases e2
  have ey := ry.int_of
  subst ey
  obtain ⟨v1, hv1, ov1⟩ := R2.own _ _ (ldV_of e1)
  rw [hv] at hv1
  cases hv1
  obtain ⟨ad', xs, Y, ead, ha1, nf1, ta1, oy, sb⟩ := own_open ov1
  cases ead
  refine ⟨ad, xs, k, x, rfl, rfl, ha1, by rw [oy.len, line_eq]; exact hk.2.2, hk.1, by have := hk.2.1; have := hk.2.2; rw [← line_eq] at *; have : sizeLine = 16777216 := rfl; omega, ?_⟩
  have own2 := owns_close (a := ad) (T' := fun b => U2 s b) (ins_cond (k := k.toNat) oy (by omega) (.frz rx)) nf1 ta1 fun i b q => by
    by_cases hi : i < k.toNat
    · rw [if_pos hi] at q; exact sb i b q
    · rw [if_neg hi] at q
      by_cases hi2 : i = k.toNat
      · rw [if_pos hi2] at q; exact q.elim
      · rw [if_neg hi2] at q; exact sb (i - 1) b q
  exact p2 σ Hf2 _ _ Kept.refl (rel_chg R2 hv ta1 nf1 own2 fun b q => .inl q) (step_chg S2 ta1 fun b q => .inl q)
/-- x += e, whole numbers -/
theorem s_aug {i : Nat} {x : Str} {pos' : Pos} (hN : X.N.Nodup) (hi : X.N[i]? = some x) (hx : Loc X.env.scope x) (he : PE X e (tE X.K ct W ma)) (hf : X.fn x = true ∨ X.env.scope.names.lookup x = some .local) (nf : ¬ fx i) :
    PS X (.AugAssign (.Name x pos') .Add e pos) (tS X.K ct W fx fun ρ => match ρ[i]? with
    | some (some (.frz (.int x))) => (ma ρ).bind fun d ρ => match d with
      | .int y => .ok .nx (putO ρ i (.frz (.int (x + y))))
      | _ => .bad
    | _ => .bad) := (ps_aug hN hi hx he ip_add hf).weak fun D σ H h => by
  obtain ⟨Hf, ρ, U, R0, p⟩ := h
  dsimp only at p
  split at p <;> first | exact p.elim | skip
  rename_i k ek
  obtain ⟨v, hv, ov⟩ := R0.own _ _ ek
  cases ov with
  | frz rv =>
    have ev := rv.int_of
    subst ev
    refine ⟨_, hv, Hf, ρ, U, R0, p.bndE fun d ρ1 Hf1 H1 U1 R1 S1 p1 y ry => ?_⟩
    cases ry <;> first | exact p1.elim | skip
    rename_i j
    obtain ⟨R2, S2⟩ := take_step (i := i) R1 S1 (.frz (T := fun _ => False) (.int (k + j))) fun _ q => q.elim
    exact ⟨k, j, rfl, rfl, p1 _ Hf1 H1 _ (Kept.set nf) R2 S2⟩
/-- a, b = e -/
theorem s_unpack {is : List Nat} {ns : List Expr} {k0 : Nat} {tp : Pos} (hc : X.calm = true) (hN : X.N.Nodup) (hr : NameRow X fx is ns) (he : PE X e (tE X.K ct W ma)) (hw : swappedStores [.Tuple ns k0 tp] e X.env = pure none) :
    PS X (.Assign [.Tuple ns k0 tp] e pos) (tS X.K ct W fx fun ρ => (ma ρ).bind fun d ρ => match asgT (.tup is) d ρ with
    | some ρ => .ok .nx ρ
    | none => .bad) := (ps_asg he (pg_any hc (hr.pgs hN) hr.len hr.noStar) (by cases e <;> rfl) hw rfl).weak fun D σ H h => by
  obtain ⟨Hf, ρ, U, R0, p⟩ := h
  refine ⟨Hf, ρ, U, R0, p.bndE fun d ρ1 Hf1 H1 U1 R1 S1 p1 x rx => ?_⟩
  simp only [asgT] at p1
  cases ed : itemsD d with
  | none => rw [ed] at p1; exact p1.elim
  | some l =>
    rw [ed] at p1
    dsimp only at p1
    split at p1
    · rename_i ρ2 e2
      split at e2 <;> first | contradiction | skip
      rename_i hlen
      cases e2
      obtain ⟨a, xs, rfl, sq, n, it, _⟩ := rx.items ed
      refine ⟨a, xs, rfl, ?_, by omega, row_put (by omega) n it R1 hr.free fun σ' U' k' R' fu _ => p1 σ' Hf1 H1 U' k' R' ⟨S1.mono, S1.dom, S1.frame, fun b q => S1.foot b (fu b q)⟩⟩
      rcases sq with sq | sq
      · exact .inl (Same.seq R1.sub sq)
      · exact .inr (Same.seqT R1.sub sq)
    · exact p1.elim
end
end Tr
set_option Elab.async false
set_option linter.all false
set_option maxRecDepth 100000
set_option maxHeartbeats 4000000
/-! TrC9: stores into lists, also into lists within lists. -/
namespace Tr
open PySem PySem.Spec PyProof.Rows L2

/-- down boxes alone: from v along places to w -/
inductive BoxP (H : Hp) : V → List D → V → Prop where
  | nil {v : V} : BoxP H v [] v
  | cons {a : Addr} {xs : List V} {i : Int} {j : Nat} {w v' : V} {is : List D} (h : H a = some (.lst xs)) (hj : L2.ixN xs.length i = some j) (hw : xs[j]? = some w) (r : BoxP H w is v') : BoxP H (.ref a) (.int i :: is) v'
theorem BoxP.snoc {H : Hp} {v v1 w : V} {is : List D} {a : Addr} {xs : List V} {i : Int} {j : Nat} (h : BoxP H v is v1) (e : v1 = .ref a) (ha : H a = some (.lst xs)) (hj : L2.ixN xs.length i = some j) (hw : xs[j]? = some w) : BoxP H v (is ++ [.int i]) w := by
  induction h with
  | nil => subst e; exact .cons ha hj hw .nil
  | cons h2 hj2 hw2 r ih => exact .cons h2 hj2 hw2 (ih e)
theorem BoxP.inj {H : Hp} {v w w' : V} {is : List D} (h : BoxP H v is w) (h' : BoxP H v is w') : w = w' := by
  induction h with
  | nil => cases h'; rfl
  | cons h2 hj2 hw2 r ih =>
    cases h' with
    | cons h3 hj3 hw3 r3 =>
      rw [h2] at h3
      cases h3
      rw [hj2] at hj3
      cases hj3
      rw [hw2] at hw3
      cases hw3
      exact ih r3
section
variable {K : PySem.W.Frag} {Hf H : Hp} {ρ : Env} {σ : L2.St} {U : UU}
theorem look_frz : ∀ {is : List D} {d : D} {o : O}, lookP (.frz d) is = some o → ∃ e, o = .frz e
  | [], d, o, h => by
    simp only [lookP, Option.some.injEq] at h
    exact ⟨d, h.symm⟩
  | k :: is, d, o, h => by
    simp only [lookP] at h
    split at h <;> first | contradiction | skip
    exact look_frz h
theorem own_path : ∀ {is : List D} {v v' : V} {o o1 : O} {T : Addr → Prop}, Own K Hf H v o T → BoxP H v is v' → (∃ l, o1 = .box l) → lookP o is = some o1 → ∃ T', Own K Hf H v' o1 T'
  | [], v, v', o, o1, T, h, p, _, e => by
    cases p
    cases o <;> simp only [lookP, Option.some.injEq] at e <;> subst e <;> exact ⟨T, h⟩
  | d :: is, v, v', o, o1, T, h, p, bx, e => by
    cases p with
    | @cons a xs i j w _ _ ha hj hw r =>
      cases h with
      | frz hr =>
        exfalso
        obtain ⟨l, rfl⟩ := bx
        obtain ⟨_, q⟩ := look_frz e
        cases q
      | @box _ ys l0 _ U0 h2 nf ta n it dj sb =>
        rw [ha] at h2
        cases h2
        simp only [lookP] at e
        cases e1 : atD l0 i with
        | none => rw [e1] at e; cases e
        | some o2 =>
          rw [e1] at e
          obtain ⟨j', e2, e3⟩ := atD_get e1
          rw [ixN_same, ← n, hj] at e2
          cases e2
          exact own_path (it j w o2 hw e3) r bx e
      | @scr _ l0 _ hs =>
        exfalso
        simp only [lookP] at e
        split at e <;> first | contradiction | skip
        obtain ⟨l, rfl⟩ := bx
        cases is with
        | nil => simp [lookP] at e
        | cons d2 is => simp [lookP, ixD] at e
theorem own_mod {α : Type} {f : O → Option (α × O)} (hf : ∀ o r, f o = some r → ∃ l, o = .box l) : ∀ (is : List D) (v : V) (o : O) (T : Addr → Prop) (r : α) (o' : O), Own K Hf H v o T → modP f o is = some (r, o') →
    ∃ (a : Addr) (xs : List V) (l : List O) (Y : UU) (T0 : Addr → Prop) (l1 : O), BoxP H v is (.ref a) ∧ H a = some (.lst xs) ∧ Hf a = none ∧ T a ∧ Owns K Hf H xs l Y ∧ T0 a ∧ (∀ i b, Y i b → T0 b ∧ b ≠ a) ∧ (∀ b, T0 b → T b) ∧ f (.box l) = some (r, l1) ∧
      ∀ (xs' : List V) (T1 N : Addr → Prop), (∀ b, N b → ¬ T b) → Own K Hf (upd H a (.lst xs')) (.ref a) l1 T1 → (∀ b, T1 b → T0 b ∨ N b) → Own K Hf (upd H a (.lst xs')) v o' (fun b => T b ∨ N b)
  | [], v, o, T, r, o', h, e => by
    rw [modP_nil] at e
    obtain ⟨l, rfl⟩ := hf _ _ e
    obtain ⟨a, xs, Y, rfl, ha, nf, ta, oy, sb⟩ := own_open h
    exact ⟨a, xs, l, Y, T, o', .nil, ha, nf, ta, oy, ta, sb, fun _ q => q, e, fun xs' T1 N _ ow tw => ow.wide tw⟩
  | d :: is, v, o, T, r, o', h, e => by
    cases o with
    | frz => simp [modP] at e
    | scr => simp [modP] at e
    | box l0 =>
      cases d <;> simp only [modP, reduceCtorEq] at e
      rename_i i
      split at e <;> first | contradiction | skip
      rename_i j ej
      split at e <;> first | contradiction | skip
      rename_i o1 eo
      split at e <;> first | contradiction | skip
      rename_i r1 o1' em
      cases e
      obtain ⟨a0, xs0, U0, rfl, ha0, nf0, ta0, oy0, sb0⟩ := own_open h
      obtain ⟨hlt, _⟩ := List.getElem?_eq_some_iff.mp eo
      have ew : xs0[j]? = some (xs0[j]'(by have := oy0.len; omega)) := List.getElem?_eq_getElem _
      obtain ⟨a, xs, l, Y, T0, l1, bp, ha, nf, ta, oy, t0, sb, st, ef, fin⟩ := own_mod hf is _ o1 (U0 j) r o1' (oy0.own j _ o1 ew eo) em
      have ne : a ≠ a0 := (sb0 j a ta).2
      refine ⟨a, xs, l, Y, T0, l1, .cons ha0 (by rw [oy0.len]; exact ej) ew bp, ha, nf, (sb0 j a ta).1, oy, t0, sb, fun b q => (sb0 j b (st b q)).1, ef, fun xs' T1 N nt ow tw => ?_⟩
      have own1 := fin xs' T1 N (fun b q z => nt b q (sb0 j b z).1) ow tw
      refine .box (fun i => if i = j then fun b => U0 j b ∨ N b else U0 i) (by rw [upd_ne (Ne.symm ne)]; exact ha0) nf0 (.inl ta0) (by rw [List.length_set]; exact oy0.len) (fun i w o2 e1 e2 => ?_) (fun i i' b hne h1 h2 => ?_) fun i b q => ?_
      · rcases set_get e2 with ⟨rfl, rfl⟩ | ⟨hi, e3⟩
        · rw [ew] at e1
          cases e1
          simp only [if_true]
          exact own1
        · simp only [if_neg hi]
          exact own_chg (fun b t z => oy0.dj i j b hi t (z ▸ ta)) (oy0.own i w o2 e1 e3)
      · by_cases hi : i = j
        · simp only [if_pos hi] at h1
          by_cases hi' : i' = j
          · exact hne (hi.trans hi'.symm)
          · simp only [if_neg hi'] at h2
            rcases h1 with h1 | h1
            · exact oy0.dj j i' b (Ne.symm hi') h1 h2
            · exact nt b h1 (sb0 i' b h2).1
        · simp only [if_neg hi] at h1
          by_cases hi' : i' = j
          · simp only [if_pos hi'] at h2
            rcases h2 with h2 | h2
            · exact oy0.dj i j b hi h1 h2
            · exact nt b h2 (sb0 i b h1).1
          · simp only [if_neg hi'] at h2
            exact oy0.dj i i' b hne h1 h2
      · by_cases hi : i = j
        · simp only [if_pos hi] at q
          rcases q with q | q
          · exact ⟨.inl (sb0 j b q).1, (sb0 j b q).2⟩
          · exact ⟨.inr q, fun z => nt b q (z ▸ ta0)⟩
        · simp only [if_neg hi] at q
          exact ⟨.inl (sb0 i b q).1, (sb0 i b q).2⟩
theorem storeF_box {i : D} {v : O} : ∀ o r, storeF i v o = some r → ∃ l, o = .box l := fun o r e => by
  cases o <;> simp only [storeF, reduceCtorEq] at e
  exact ⟨_, rfl⟩
theorem set_cond {xs : List V} {l : List O} {Y : UU} {x : V} {o : O} {T : Addr → Prop} {j : Nat} (h : Owns K Hf H xs l Y) (ho : Own K Hf H x o T) (d : ∀ i b, Y i b → ¬ T b) : Owns K Hf H (xs.set j x) (l.set j o) (fun i => if i = j then T else Y i) := by
  refine ⟨by simp [h.len], fun i v o' e1 e2 => ?_, fun i i' b hne h1 h2 => ?_⟩
  · rcases set_get e1 with ⟨rfl, rfl⟩ | ⟨hi, e3⟩
    · rcases set_get e2 with ⟨_, rfl⟩ | ⟨hi, _⟩
      · simp only [if_true]; exact ho
      · exact absurd rfl hi
    · rcases set_get e2 with ⟨rfl, _⟩ | ⟨_, e4⟩
      · exact absurd rfl hi
      · simp only [if_neg hi]; exact h.own i v o' e3 e4
  · by_cases hi : i = j
    · simp only [if_pos hi] at h1
      by_cases hi' : i' = j
      · exact hne (hi.trans hi'.symm)
      · simp only [if_neg hi'] at h2; exact d i' b h2 h1
    · simp only [if_neg hi] at h1
      by_cases hi' : i' = j
      · simp only [if_pos hi'] at h2; exact d i b h1 h2
      · simp only [if_neg hi'] at h2; exact h.dj i i' b hne h1 h2
/-- the store itself: what has to be shown of the heap behind it -/
theorem store_at {s : Nat} {is : List D} {k : Int} {o oo o' : O} {x v v' : V} {T : Addr → Prop} {u : Unit} {Hf0 H0 : Hp} {U0 : UU} {G : L2.St → Hp → Prop} (R : Rel K Hf H ρ σ U) (S : Step Hf0 H0 (foot U0) Hf H (foot U)) (e1 : ldV s ρ = some oo) (e2 : modP (storeF (.int k) o) oo is = some (u, o'))
    (hv : σ[s]? = some (some v)) (bp : BoxP H v is v') (ox : Own K Hf H x o T) (tx : ∀ b, T b → ¬ foot U b ∧ H b ≠ none ∧ (foot U0 b ∨ H0 b = none))
    (q : ∀ H' U', Rel K Hf H' (putO ρ s o') σ U' → Step Hf0 H0 (foot U0) Hf H' (foot U') → G σ H') : rSetL v' (.int k) x H fun H3 => G σ H3 := by
  obtain ⟨v1, hv1, ov⟩ := R.own _ _ (ldV_of e1)
  rw [hv] at hv1
  cases hv1
  obtain ⟨a, xs, l, Y, T0, l1, bp', ha, nf, ta, oy, t0, sb, st, ef, fin⟩ := own_mod storeF_box is v oo (U s) u o' ov e2
  have ev := bp.inj bp'
  subst ev
  simp only [storeF] at ef
  split at ef <;> first | contradiction | skip
  rename_i j ej
  cases ef
  refine ⟨a, xs, k, j, rfl, rfl, ha, by rw [oy.len]; exact ej, ?_⟩
  have own1 := owns_close (a := a) (T' := fun b => T0 b ∨ T b) (set_cond (j := j) oy ox fun i b yb tb => (tx b tb).1 ⟨s, st b (sb i b yb).1⟩) nf (.inl t0) fun i b q => by
    by_cases hi : i = j
    · simp only [if_pos hi] at q; exact ⟨.inr q, fun e => (tx b q).1 (e ▸ ⟨s, ta⟩)⟩
    · simp only [if_neg hi] at q; exact ⟨.inl (sb i b q).1, (sb i b q).2⟩
  have own2 := fin (xs.set j x) _ T (fun b tb z => (tx b tb).1 ⟨s, z⟩) own1 fun b q => q
  refine q _ _ (rel_chg R hv ta nf own2 fun b q => ?_) (step_chg S ta fun b q => ?_)
  · rcases q with q | q
    · exact .inl q
    · exact .inr ⟨(tx b q).1, (tx b q).2.1⟩
  · rcases q with q | q
    · exact .inl q
    · exact .inr (tx b q).2.2
end
section
variable {X : Cx} {ct : Str → Option Addr} {W : WX} {fx : Fix} {a b c e i : Expr} {ma mb mc : Env → R D} {mf : Env → R O} {pos apos cpos ip : Pos} {es : List Expr}
theorem temp_step {K : PySem.W.Frag} {Hf1 H1 Hf2 H2 H0 : Hp} {U0 U1 U2 : UU} {x : V} {o : O} {T : Addr → Prop} (S2 : Step Hf1 H1 (foot U1) Hf2 H2 (foot U2)) (ox : Own K Hf1 H1 x o T) (tx : ∀ b, T b → ¬ foot U1 b ∧ H1 b ≠ none ∧ (foot U0 b ∨ H0 b = none)) :
    Own K Hf2 H2 x o T ∧ ∀ b, T b → ¬ foot U2 b ∧ H2 b ≠ none ∧ (foot U0 b ∨ H0 b = none) := by
  refine ⟨ox.step S2 fun b q => (tx b q).1, fun b q => ⟨fun z => ?_, fun z => ?_, (tx b q).2.2⟩⟩
  · rcases S2.foot b z with w | w
    · exact (tx b q).1 w
    · exact (tx b q).2.1 w
  · rcases S2.old z with w | w
    · exact (tx b q).1 w
    · exact (tx b q).2.1 w
theorem assign_sub {a i : Expr} {env : PySem.Env} {ip : Pos} (h : notSlice i = true) : ∀ v, assign (.Subscript a i ip) env v = (do
      let ov ← holding [v] (eval a env)
      let iv ← holding [v, ov] (eval i env)
      standAt ip
      holding [v, ov, iv] (setItem ov iv v)
      release [v, ov, iv] []) := by
  intro v
  cases i <;> first | rfl | (simp [notSlice] at h)
/-- x[i] = e -/
theorem s_store {s : Nat} (ha : PE X a (tVar s)) (hi : PE X i (tE X.K ct W ma)) (he : PE X e (tF X.K ct W mf)) (hs : notSlice i = true) : PS X (.Assign [.Subscript a i ip] e pos) (tS X.K ct W fx fun ρ => (mf ρ).bind fun o ρ => if isBox s ρ then (ma ρ).bind fun k ρ => (mdP (storeF k o) s [] ρ).bind fun _ ρ => .ok .nx ρ else .bad) :=
  (ps_asg he (pg_sub ha hi set_list (assign_sub hs)) (by cases e <;> rfl) (by cases e <;> rfl) rfl).weak fun D σ H h => by
  obtain ⟨Hf0, ρ0, U0, R0, p⟩ := h
  refine ⟨Hf0, ρ0, U0, R0, p.bndE fun o ρ1 Hf1 H1 U1 R1 S1 p1 x T ox tx => ?_⟩
  split at p1 <;> first | exact p1.elim | skip
  rename_i hbx
  obtain ⟨l0, e0⟩ := isBox_of hbx
  obtain ⟨v, hv, ov⟩ := R1.own _ _ e0
  refine ⟨v, hv, Hf1, ρ1, U1, R1, p1.bndE2 S1 fun k ρ2 Hf2 H2 U2 R2 S2 p2 y ry => ?_⟩
  obtain ⟨ox2, tx2⟩ := temp_step S2 ox tx
  rcases mdP_case (f := storeF k o) (s := s) (is := []) (ρ := ρ2) with e | ⟨r, oo, o', e1, e2, e⟩
  · rw [e] at p2; exact p2.elim
  rw [e] at p2
  cases k with
  | int k =>
    have ey := ry.int_of
    subst ey
    exact store_at (G := fun σ H' => D.nx σ H') R2 (S1.trans S2) e1 e2 hv .nil ox2 tx2 fun H' U' R' S' => p2 σ Hf2 H' U' Kept.refl R' S'
  | _ =>
    exfalso
    rw [modP_nil] at e2
    cases oo <;> simp only [storeF, reduceCtorEq] at e2
/-- down boxes to a place -/
def tBP (K : PySem.W.Frag) (p : P) : TE := fun σ H Q => ∃ Hf ρ U, Rel K Hf H ρ σ U ∧ ∃ s l o l', p.sem ρ = some (s, l) ∧ ldV s ρ = some o ∧ lookP o l = some (.box l') ∧ ∀ v v', σ[s]? = some (some v) → BoxP H v l v' → Q v' H
theorem bp_v {s : Nat} (h : PE X a (tVar s)) : PE X a (tBP X.K (.v s)) := h.weak fun σ H Q q => by
  obtain ⟨Hf, ρ, U, R0, s', l, o, l', e1, e2, e3, q⟩ := q
  cases e1
  obtain ⟨v, h1, h2⟩ := R0.own _ _ (ldV_of e2)
  exact ⟨v, h1, q v v h1 .nil⟩
theorem look_box {o : O} {i : Int} {l : List O} (h : lookP o [.int i] = some (.box l)) : ∃ l0, o = .box l0 ∧ atD l0 i = some (.box l) := by
  cases o with
  | frz d =>
    simp only [lookP] at h
    split at h <;> cases h
  | scr d =>
    simp only [lookP] at h
    split at h <;> cases h
  | box l0 =>
    simp only [lookP] at h
    cases e : atD l0 i with
    | none => rw [e] at h; cases h
    | some o1 =>
      rw [e] at h
      have h' : lookP o1 [] = some (.box l) := h
      cases o1 <;> simp only [lookP, Option.some.injEq, reduceCtorEq] at h'
      exact ⟨l0, rfl, by rw [h'] at e; exact e⟩
theorem bp_ix {p : P} {q : Qx} (ha : PE X a (tBP X.K p)) (hb : PE X b (tQ X.K q)) (hs : notSlice b = true) : PE X (.Subscript a b pos) (tBP X.K (.ix p q)) := (pe_ix ix_seq ha hb (plainIx_of hs)).weak fun σ H Q h => by
  obtain ⟨Hf, ρ, U, R0, s, l, o, l', e1, e2, e3, h⟩ := h
  simp only [P.sem] at e1
  split at e1
  · rename_i s' m k ep ek
    cases e1
    rw [look_app] at e3
    cases e4 : lookP o m with
    | none => rw [e4] at e3; cases e3
    | some o1 =>
      rw [e4] at e3
      obtain ⟨l0, rfl, e5⟩ := look_box e3
      refine ⟨Hf, ρ, U, R0, s, m, o, l0, ep, e2, e4, fun v v' hv bp => ⟨Hf, ρ, U, R0, k, ek, ?_⟩⟩
      obtain ⟨v1, h1, ov⟩ := R0.own _ _ (ldV_of e2)
      rw [hv] at h1
      cases h1
      obtain ⟨T', ov'⟩ := own_path ov bp ⟨_, rfl⟩ e4
      obtain ⟨ad, xs, Y, rfl, ha', nf, ta, oy, sb⟩ := own_open ov'
      obtain ⟨j, e6, e7⟩ := atD_get e5
      obtain ⟨hlt, _⟩ := List.getElem?_eq_some_iff.mp e7
      have ew : xs[j]? = some (xs[j]'(by have := oy.len; omega)) := List.getElem?_eq_getElem _
      exact .inl ⟨ad, xs, k, _, rfl, rfl, SqL.of ha', atI_of oy.len e6 ew, h v _ hv (bp.snoc rfl ha' (by rw [oy.len]; exact e6) ew)⟩
  · cases e1
/-- p[q] = e, p a way down boxes -/
theorem s_storeP {p : P} {q : Qx} (ha : PE X a (tBP X.K p)) (hi : PE X i (tQ X.K q)) (he : PE X e (tF X.K ct W mf)) (hs : notSlice i = true) : PS X (.Assign [.Subscript a i ip] e pos) (tS X.K ct W fx fun ρ => (mf ρ).bind fun o ρ => (R.of (p.sem ρ) ρ).bind fun l ρ => (R.of (q.sem ρ) ρ).bind fun k ρ => (mdP (storeF (.int k) o) l.1 l.2 ρ).bind fun _ ρ => .ok .nx ρ) :=
  (ps_asg he (pg_sub ha hi set_list (assign_sub hs)) (by cases e <;> rfl) (by cases e <;> rfl) rfl).weak fun D σ H h => by
  obtain ⟨Hf0, ρ0, U0, R0, p⟩ := h
  refine ⟨Hf0, ρ0, U0, R0, p.bndE fun o ρ1 Hf1 H1 U1 R1 S1 p1 x T ox tx => ?_⟩
  cases ep : P.sem _ ρ1 with
  | none => rw [ep] at p1; exact p1.elim
  | some sl =>
    obtain ⟨s, l⟩ := sl
    rw [ep] at p1
    simp only [R.of_some, R.bind_ok] at p1
    cases eq : q.sem ρ1 with
    | none => rw [eq] at p1; exact p1.elim
    | some k =>
      rw [eq] at p1
      simp only [R.of_some, R.bind_ok] at p1
      rcases mdP_case (f := storeF (.int k) o) (s := s) (is := l) (ρ := ρ1) with e | ⟨r, oo, o', e1, e2, e⟩
      · rw [e] at p1; exact p1.elim
      rw [e] at p1
      obtain ⟨v, hv, ov⟩ := R1.own _ _ (ldV_of e1)
      -- what stands at the path is a box
      have lk : ∃ l', lookP oo l = some (.box l') := mod_look (fun o r e => storeF_box o r e) l oo e2
      obtain ⟨l', lk⟩ := lk
      refine ⟨Hf1, ρ1, U1, R1, s, l, oo, l', ep, e1, lk, fun v1 v' hv1 bp => ⟨Hf1, ρ1, U1, R1, k, eq, ?_⟩⟩
      exact store_at (G := fun σ H' => D.nx σ H') R1 S1 e1 e2 hv1 bp ox tx fun H' U' R' S' => p1 σ Hf1 H' U' Kept.refl R' S'
where
  mod_look {α : Type} {f : O → Option (α × O)} (hf : ∀ o r, f o = some r → ∃ l, o = .box l) : ∀ (is : List D) (o : O) {r : α × O}, modP f o is = some r → ∃ l', lookP o is = some (.box l')
    | [], o, r, h => by
      rw [modP_nil] at h
      obtain ⟨l, rfl⟩ := hf _ _ h
      exact ⟨l, rfl⟩
    | d :: is, o, r, h => by
      cases o with
      | frz => simp [modP] at h
      | scr => simp [modP] at h
      | box l0 =>
        cases d <;> simp only [modP, reduceCtorEq] at h
        rename_i i
        split at h <;> first | contradiction | skip
        rename_i j ej
        split at h <;> first | contradiction | skip
        rename_i o1 eo
        split at h <;> first | contradiction | skip
        rename_i r1 o1' em
        obtain ⟨l', e⟩ := mod_look hf is o1 em
        refine ⟨l', ?_⟩
        have ea : atD l0 i = some o1 := by
          unfold atD
          rw [ej]
          exact eo
        simp only [lookP, ea]
        exact e
end
end Tr
set_option Elab.async false
set_option linter.all false
set_option maxRecDepth 100000
set_option maxHeartbeats 4000000
/-! TrC10: what is walked; for, while. -/
namespace Tr
open PySem PySem.Spec PyProof.Rows L2

/-- the turns of J give ds, one by one -/
structure Feeds (K : PySem.W.Frag) (J : It) (Hf : Hp) (ds : List D) : Prop where
  stop : ∀ H, Same Hf H → J.stop ds.length H
  go : ∀ i, i < ds.length → ∀ H, Same Hf H → J.go i H
  yld : ∀ i Hf1 H1 x H2, i < ds.length → Same Hf Hf1 → Same Hf1 H1 → J.yld i H1 x H2 → ∃ d Hf2, ds[i]? = some d ∧ Rep K Hf2 x d ∧ ((Hf2 = Hf1 ∧ H2 = H1) ∨ ∃ T o, H1 T = none ∧ Hf2 = upd Hf1 T o ∧ H2 = upd H1 T o)
theorem Feeds.mono {K : PySem.W.Frag} {J : It} {Hf Hf' : Hp} {ds : List D} (h : Feeds K J Hf ds) (e : Same Hf Hf') : Feeds K J Hf' ds :=
  ⟨fun H s => h.stop H (e.trans s), fun i hi H s => h.go i hi H (e.trans s), fun i Hf1 H1 x H2 hi s1 s2 y => h.yld i Hf1 H1 x H2 hi (e.trans s1) s2 y⟩
def tI (K : PySem.W.Frag) (ct : Str → Option Addr) (W : WX) (m : Env → R (List D)) : TI := fun σ H Rr => ∃ Hf ρ U, Rel K Hf H ρ σ U ∧ Post K σ Hf H U (EW K ct W σ) (fun ds _ Hf' H' _ => ∀ J, Feeds K J Hf' ds → Rr J H') (m ρ)
theorem feeds_list {K : PySem.W.Frag} {Hf : Hp} {a : Addr} {xs : List V} {l : List D} (h : Hf a = some (.lst xs)) (n : xs.length = l.length) (it : ∀ (i : Nat) v d, xs[i]? = some v → l[i]? = some d → Rep K Hf v d) : Feeds K (Itl K a) Hf l := by
  refine ⟨fun H s => ⟨xs, SqL.of (s _ _ h), by omega⟩, fun i hi H s => ⟨xs, xs[i]'(by omega), SqL.of (s _ _ h), List.getElem?_eq_getElem _⟩, fun i Hf1 H1 x H2 hi s1 s2 y => ?_⟩
  obtain ⟨rfl, y⟩ := y
  have e1 := y xs (SqL.of ((s1.trans s2) _ _ h))
  exact ⟨l[i], Hf1, List.getElem?_eq_getElem hi, (it i x _ e1 (List.getElem?_eq_getElem hi)).mono s1, .inl ⟨rfl, rfl⟩⟩
theorem feeds_tup {K : PySem.W.Frag} {Hf : Hp} {a : Addr} {xs : List V} {l : List D} (h : SqT K Hf a xs) (n : xs.length = l.length) (it : ∀ (i : Nat) v d, xs[i]? = some v → l[i]? = some d → Rep K Hf v d) : Feeds K (Itt K a) Hf l := by
  refine ⟨fun H s => ⟨xs, Same.seqT s h, by omega⟩, fun i hi H s => ⟨xs, xs[i]'(by omega), Same.seqT s h, List.getElem?_eq_getElem _⟩, fun i Hf1 H1 x H2 hi s1 s2 y => ?_⟩
  obtain ⟨rfl, y⟩ := y
  have e1 := y xs (Same.seqT (s1.trans s2) h)
  exact ⟨l[i], Hf1, List.getElem?_eq_getElem hi, (it i x _ e1 (List.getElem?_eq_getElem hi)).mono s1, .inl ⟨rfl, rfl⟩⟩
theorem rng_len {lo : Int} {n : Nat} : (rng lo n).length = n := by simp [rng]
theorem feeds_rng {K : PySem.W.Frag} {Hf : Hp} {lo : Int} {n : Nat} : Feeds K (Itr lo n) Hf (rng lo n) := by
  refine ⟨fun H s => (by show n ≤ _; rw [rng_len]; exact Nat.le_refl _), fun i hi H s => (by show i < n; rw [rng_len] at hi; exact hi), fun i Hf1 H1 x H2 hi s1 s2 y => ?_⟩
  obtain ⟨rfl, rfl⟩ := y
  rw [rng_len] at hi
  exact ⟨.int (lo + i), Hf1, by simp [rng, hi], .int _, .inl ⟨rfl, rfl⟩⟩
def iAny (K : PySem.W.Frag) (tl : TE) : TI := fun σ H Rr => tl σ H fun x H1 => ∃ a, x = .ref a ∧ (((∃ xs, SqL K H1 a xs) ∧ Rr (Itl K a) H1) ∨ ((∃ xs, SqT K H1 a xs) ∧ Rr (Itt K a) H1))
theorem pi_any {X : Cx} {tg l : Expr} {tl : TE} (hl : PE X l tl) : PI X tg l (iAny X.K tl) := by
  refine ⟨fun pins s σ H Rr I h => ?_⟩
  refine thn (hl.run pins s σ H _ I h) fun v s1 ⟨x, H1, I1, r1, q1⟩ => ?_
  obtain ⟨a, e, q⟩ := q1
  subst e
  cases r1
  rcases q with ⟨⟨xs, hq⟩, q⟩ | ⟨⟨xs, hq⟩, q⟩
  · obtain ⟨its, rv, p, hz⟩ := I1.list hq
    refine wpAny_pyIter_list p.isList ?_
    refine ⟨s1.heap.objs.size, [s1.heap.objs.size], _, _, H1, rfl, I1.kept (t' := s1.toks) fun b o e => Heap.get?_push_of_some _ e, turn_list a _, ⟨_, Heap.get?_push_size _ rfl, rfl, rfl⟩, fun b hb => ?_, q⟩
    have e : b = s1.heap.objs.size := by simpa using hb
    subst e
    exact I1.fpOk (Nat.le_refl _) (I1.hok.fresh (Nat.le_refl _))
  · obtain ⟨its, rv, p, hz⟩ := I1.tuple hq
    refine wpAny_pyIter_tuple (show s1.heap.IsTuple a its.toArray from p) ?_
    refine ⟨s1.heap.objs.size, [s1.heap.objs.size], _, _, H1, rfl, I1.kept (t' := s1.toks) fun b o e => Heap.get?_push_of_some _ e, turn_tuple a _, ⟨_, Heap.get?_push_size _ rfl, rfl, rfl⟩, fun b hb => ?_, q⟩
    have e : b = s1.heap.objs.size := by simpa using hb
    subst e
    exact I1.fpOk (Nat.le_refl _) (I1.hok.fresh (Nat.le_refl _))
end Tr
namespace L2
theorem PI.weak {X : Cx} {tg e : PySem.Expr} {t t' : TI} (h : PI X tg e t) (w : ∀ σ H Q, t' σ H Q → t σ H Q) : PI X tg e t' := ⟨fun pins s σ H Q I q => h.run pins s σ H Q I (w σ H Q q)⟩
end L2
namespace Tr
open PySem PySem.Spec PyProof.Rows L2
section
variable {X : Cx} {ct : Str → Option Addr} {W : WX} {fx : Fix} {a b c e tg : Expr} {ma mb mc : Env → R D} {mf : Env → R O} {mi : Env → R (List D)} {pos : Pos} {es : List Expr}
theorem i_seq (ha : PE X a (tE X.K ct W ma)) : PI X tg a (tI X.K ct W fun ρ => (ma ρ).bind fun d ρ => R.of (itemsD d) ρ) := (pi_any ha).weak fun σ H Rr h => by
  obtain ⟨Hf, ρ, U, R0, p⟩ := h
  refine ⟨Hf, ρ, U, R0, p.then fun d ρ1 Hf1 H1 U1 R1 S1 p1 x rx => ?_⟩
  obtain ⟨l, e1, q⟩ := p1.of R1
  cases rx <;> simp only [itemsD, reduceCtorEq, Option.some.injEq] at e1
  case lst ad xs l' h n it =>
    subst e1
    exact ⟨ad, rfl, .inl ⟨⟨xs, SqL.of (R1.sub _ _ h)⟩, q _ (feeds_list h n it)⟩⟩
  case tup ad xs l' h n it =>
    subst e1
    exact ⟨ad, rfl, .inr ⟨⟨xs, Same.seqT R1.sub h⟩, q _ (feeds_tup h n it)⟩⟩
theorem starEach_one {e : Expr} {env : PySem.Env} (h : notStar e = true) : starEach [e] env = [(false, eval e env)] := starEach_cons h
theorem i_range1 {p : Pos} (bl : Blt X "range") (ha : PE X a (tE X.K ct W ma)) (hs : notStar a = true) : PI X tg (.Call (.Name "range" p) [a] [] pos) (tI X.K ct W fun ρ => (ma ρ).bind fun d ρ => R.of (range1D d) ρ) :=
  (pi_range1 bl.gl bl.no (pa_cons ha pa_nil (starEach_cons hs)) (starEach_one hs)).weak fun σ H Rr h => by
  obtain ⟨Hf, ρ, U, R0, p⟩ := h
  refine ⟨Hf, ρ, U, R0, p.then fun d ρ1 Hf1 H1 U1 R1 S1 p1 x rx => ?_⟩
  obtain ⟨l, e1, q⟩ := p1.of R1
  cases rx <;> simp only [range1D, reduceCtorEq] at e1
  split at e1 <;> first | contradiction | skip
  rename_i j hj
  cases e1
  exact ⟨_, rfl, hj.1, hj.2, q _ feeds_rng⟩
theorem i_range2 {p : Pos} (bl : Blt X "range") (ha : PE X a (tE X.K ct W ma)) (hb : PE X b (tE X.K ct W mb)) (hs : notStar a = true) (hs2 : notStar b = true) :
    PI X tg (.Call (.Name "range" p) [a, b] [] pos) (tI X.K ct W fun ρ => (ma ρ).bind fun d ρ => (mb ρ).bind fun e ρ => R.of (range2D d e) ρ) :=
  (pi_range2 bl.gl bl.no (pa_cons ha (pa_cons hb pa_nil (starEach_cons hs2)) (starEach_cons hs)) (by rw [starEach_cons hs, starEach_one hs2]) (starEach_one hs2)).weak fun σ H Rr h => by
  obtain ⟨Hf, ρ, U, R0, p⟩ := h
  refine ⟨Hf, ρ, U, R0, p.then fun d ρ1 Hf1 H1 U1 R1 S1 p1 x rx => ⟨Hf1, ρ1, U1, R1, p1.then fun e ρ2 Hf2 H2 U2 R2 S2 p2 y ry => ?_⟩⟩
  obtain ⟨l, e1, q⟩ := p2.of R2
  cases rx <;> cases ry <;> simp only [range2D, reduceCtorEq] at e1
  split at e1 <;> first | contradiction | skip
  rename_i hj
  cases e1
  exact ⟨_, _, rfl, hj, q _ feeds_rng⟩
theorem enum_get : ∀ {l : List D} {n i : Nat} {d : D}, l[i]? = some d → (enumFrom n l)[i]? = some (.tuple [.int ((n + i : Nat) : Int), d])
  | [], n, i, d, h => by simp at h
  | x :: l, n, 0, d, h => by
    have e : x = d := by simpa using h
    subst e
    simp [enumFrom]
  | x :: l, n, i + 1, d, h => by
    have := enum_get (l := l) (n := n + 1) (i := i) (d := d) (by simpa using h)
    simp only [enumFrom, List.getElem?_cons_succ]
    rw [this, show n + 1 + i = n + (i + 1) by omega]
theorem enum_len : ∀ {l : List D} {n : Nat}, (enumFrom n l).length = l.length
  | [], _ => rfl
  | _ :: l, n => by simp [enumFrom, enum_len (l := l)]
theorem pair_rep {K : PySem.W.Frag} {Hf : Hp} {T : Addr} {x y : V} {d e : D} (hn : Hf T = none) (hx : Rep K Hf x d) (hy : Rep K Hf y e) : Rep K (upd Hf T (.tup [x, y])) (.ref T) (.tuple [d, e]) :=
  .tup (SqT.of upd_same) rfl fun i v d' e1 e2 => by
    cases i with
    | zero => cases e1; cases e2; exact hx.mono (upd_mono hn)
    | succ i =>
      cases i with
      | zero => cases e1; cases e2; exact hy.mono (upd_mono hn)
      | succ i => simp at e1
theorem feeds_enum {K : PySem.W.Frag} {Hf : Hp} {a : Addr} {xs : List V} {l : List D} (h : Hf a = some (.lst xs)) (n : xs.length = l.length) (it : ∀ (i : Nat) v d, xs[i]? = some v → l[i]? = some d → Rep K Hf v d) : Feeds K (Ite K a) Hf (enumFrom 0 l) := by
  refine ⟨fun H s => ⟨xs, SqL.of (s _ _ h), by rw [enum_len]; omega⟩, fun i hi H s => ⟨xs, xs[i]'(by rw [enum_len] at hi; omega), SqL.of (s _ _ h), List.getElem?_eq_getElem _⟩, fun i Hf1 H1 x H2 hi s1 s2 y => ?_⟩
  rw [enum_len] at hi
  obtain ⟨T, z, rfl, hT, rfl, y⟩ := y
  have e1 := y xs (SqL.of ((s1.trans s2) _ _ h))
  have rz := (it i z _ e1 (List.getElem?_eq_getElem hi)).mono s1
  refine ⟨_, _, enum_get (List.getElem?_eq_getElem hi), ?_, .inr ⟨T, _, hT, rfl, rfl⟩⟩
  rw [Nat.zero_add]
  exact pair_rep (s2.free hT) (.int _) rz
/-- enumerate of a list -/
theorem i_enum {p tpos : Pos} {kk : Nat} {elts : List Expr} (bl : Blt X "enumerate") (ha : PE X a (tE X.K ct W ma)) (hs : notStar a = true) : PI X (.Tuple elts kk tpos) (.Call (.Name "enumerate" p) [a] [] pos) (tI X.K ct W fun ρ => (ma ρ).bind fun d ρ => R.of ((listD d).map (enumFrom 0)) ρ) :=
  (pi_enum bl.gl bl.no (pa_cons ha pa_nil (starEach_cons hs)) (starEach_one hs)).weak fun σ H Rr h => by
  obtain ⟨Hf, ρ, U, R0, p⟩ := h
  refine ⟨Hf, ρ, U, R0, p.then fun d ρ1 Hf1 H1 U1 R1 S1 p1 x rx => ?_⟩
  obtain ⟨l, e1, q⟩ := p1.of R1
  cases rx <;> simp only [listD, reduceCtorEq, Option.map_some, Option.map_none, Option.some.injEq] at e1
  case lst ad xs l' h n it =>
    subst e1
    exact ⟨ad, xs, rfl, SqL.of (R1.sub _ _ h), q _ (feeds_enum h n it)⟩
theorem zip_get {l m : List D} {i : Nat} (hl : i < l.length) (hm : i < m.length) : (l.zip m)[i]? = some (l[i], m[i]) := by
  rw [List.getElem?_eq_getElem (by simp; omega), List.getElem_zip]
theorem feeds_zip {K : PySem.W.Frag} {Hf : Hp} {a b : Addr} {xs ys : List V} {l m : List D} (h : Hf a = some (.lst xs)) (n : xs.length = l.length) (it : ∀ (i : Nat) v d, xs[i]? = some v → l[i]? = some d → Rep K Hf v d) (h2 : Hf b = some (.lst ys)) (n2 : ys.length = m.length) (it2 : ∀ (i : Nat) v d, ys[i]? = some v → m[i]? = some d → Rep K Hf v d) :
    Feeds K (Itz K a b) Hf ((l.zip m).map fun p => .tuple [p.1, p.2]) := by
  have hlen : ((l.zip m).map fun p => (PyData.tuple [p.1, p.2] : D)).length = min l.length m.length := by simp
  refine ⟨fun H s => ⟨xs, ys, SqL.of (s _ _ h), SqL.of (s _ _ h2), by rw [hlen]; omega⟩, fun i hi H s => ?_, fun i Hf1 H1 x H2 hi s1 s2 y => ?_⟩
  · rw [hlen] at hi
    exact ⟨xs, ys, xs[i]'(by omega), ys[i]'(by omega), SqL.of (s _ _ h), SqL.of (s _ _ h2), List.getElem?_eq_getElem _, List.getElem?_eq_getElem _⟩
  · rw [hlen] at hi
    obtain ⟨T, z, w, rfl, hT, rfl, y1, y2⟩ := y
    have e1 := y1 xs (SqL.of ((s1.trans s2) _ _ h))
    have e2 := y2 ys (SqL.of ((s1.trans s2) _ _ h2))
    have hl : i < l.length := by omega
    have hm : i < m.length := by omega
    exact ⟨.tuple [l[i], m[i]], _, by rw [List.getElem?_map, zip_get hl hm]; rfl, pair_rep (s2.free hT) ((it i z _ e1 (List.getElem?_eq_getElem hl)).mono s1) ((it2 i w _ e2 (List.getElem?_eq_getElem hm)).mono s1), .inr ⟨T, _, hT, rfl, rfl⟩⟩
theorem feeds_zipT {K : PySem.W.Frag} {Hf : Hp} {a b : Addr} {xs ys : List V} {l m : List D} (h : SqT K Hf a xs) (n : xs.length = l.length) (it : ∀ (i : Nat) v d, xs[i]? = some v → l[i]? = some d → Rep K Hf v d) (h2 : SqT K Hf b ys) (n2 : ys.length = m.length) (it2 : ∀ (i : Nat) v d, ys[i]? = some v → m[i]? = some d → Rep K Hf v d) :
    Feeds K (RZ.ItzT K a b) Hf ((l.zip m).map fun p => .tuple [p.1, p.2]) := by
  have hlen : ((l.zip m).map fun p => (PyData.tuple [p.1, p.2] : D)).length = min l.length m.length := by simp
  refine ⟨fun H s => ⟨xs, ys, Same.seqT s h, Same.seqT s h2, by rw [hlen]; omega⟩, fun i hi H s => ?_, fun i Hf1 H1 x H2 hi s1 s2 y => ?_⟩
  · rw [hlen] at hi
    exact ⟨xs, ys, xs[i]'(by omega), ys[i]'(by omega), Same.seqT s h, Same.seqT s h2, List.getElem?_eq_getElem _, List.getElem?_eq_getElem _⟩
  · rw [hlen] at hi
    obtain ⟨T, z, w, rfl, hT, rfl, y1, y2⟩ := y
    have e1 := y1 xs (Same.seqT (s1.trans s2) h)
    have e2 := y2 ys (Same.seqT (s1.trans s2) h2)
    have hl : i < l.length := by omega
    have hm : i < m.length := by omega
    exact ⟨.tuple [l[i], m[i]], _, by rw [List.getElem?_map, zip_get hl hm]; rfl, pair_rep (s2.free hT) ((it i z _ e1 (List.getElem?_eq_getElem hl)).mono s1) ((it2 i w _ e2 (List.getElem?_eq_getElem hm)).mono s1), .inr ⟨T, _, hT, rfl, rfl⟩⟩
/-- zip of two lists, of two tuples -/
theorem i_zip {p tpos : Pos} {kk : Nat} {elts : List Expr} (bl : Blt X "zip") (ha : PE X a (tE X.K ct W ma)) (hb : PE X b (tE X.K ct W mb)) (hs : notStar a = true) (hs2 : notStar b = true) :
    PI X (.Tuple elts kk tpos) (.Call (.Name "zip" p) [a, b] [] pos) (tI X.K ct W fun ρ => (ma ρ).bind fun d ρ => (mb ρ).bind fun e ρ => R.of (pairsD d e) ρ) :=
  (RZ.pi_zipA bl.gl bl.no (pa_cons ha (pa_cons hb pa_nil (starEach_cons hs2)) (starEach_cons hs)) (starEach_cons hs) (back_one hs2)).weak fun σ H Rr h => by
  obtain ⟨Hf, ρ, U, R0, p⟩ := h
  refine ⟨Hf, ρ, U, R0, p.then fun d ρ1 Hf1 H1 U1 R1 S1 p1 x rx => ⟨Hf1, ρ1, U1, R1, p1.then fun e ρ2 Hf2 H2 U2 R2 S2 p2 y ry => ?_⟩⟩
  obtain ⟨l, e1, q⟩ := p2.of R2
  have rx2 := rx.mono S2.mono
  cases rx2 <;> cases ry <;> simp only [pairsD, itemsD, reduceCtorEq, Option.some.injEq] at e1
  case lst.lst ad xs l' h n it b2 ys m h2 n2 it2 =>
    subst e1
    exact ⟨ad, b2, xs, ys, rfl, .inl ⟨SqL.of (R2.sub _ _ h), SqL.of (R2.sub _ _ h2), q _ (feeds_zip h n it h2 n2 it2)⟩⟩
  case tup.tup ad xs l' h n it b2 ys m h2 n2 it2 =>
    subst e1
    exact ⟨ad, b2, xs, ys, rfl, .inr ⟨Same.seqT R2.sub h, Same.seqT R2.sub h2, q _ (feeds_zipT h n it h2 n2 it2)⟩⟩
end
end Tr
set_option Elab.async false
set_option linter.all false
set_option maxRecDepth 100000
set_option maxHeartbeats 4000000
/-! TrC11: for, while, comprehensions. -/
namespace Tr
open PySem PySem.Spec PyProof.Rows L2

/-! ### targets -/
def gOf (K : PySem.W.Frag) : Tg → TG
  | .name i => gName i
  | .tup is => gAny K is.length (gRow is)
def slotsT : Tg → List Nat
  | .name i => [i]
  | .tup is => is
inductive TgOk (X : Cx) (fx : Fix) : Tg → Expr → Prop where
  | name {i : Nat} {x : Str} {p : Pos} (hi : X.N[i]? = some x) (hx : Loc X.env.scope x) (hf : X.fn x = true ∨ X.env.scope.names.lookup x = some .local) (nf : ¬ fx i) : TgOk X fx (.name i) (.Name x p)
  | tup {is : List Nat} {es : List Expr} {k : Nat} {p : Pos} (r : NameRow X fx is es) : TgOk X fx (.tup is) (.Tuple es k p)
theorem TgOk.pg {X : Cx} {fx : Fix} {t : Tg} {tg : Expr} (hc : X.calm = true) (hN : X.N.Nodup) (h : TgOk X fx t tg) : PG X tg (gOf X.K t) := by
  cases h with
  | name hi hx hf nf => exact pg_name hN hi hx hf
  | tup r => exact pg_any hc (r.pgs hN) r.len r.noStar
theorem TgOk.free {X : Cx} {fx : Fix} {t : Tg} {tg : Expr} (h : TgOk X fx t tg) : ∀ i ∈ slotsT t, ¬ fx i := by
  cases h with
  | name hi hx hf nf =>
    intro i hi'
    rcases List.mem_singleton.mp hi' with rfl
    exact nf
  | tup r => exact r.free
theorem asg_put {K : PySem.W.Frag} {Hf H : Hp} {Q : L2.St → Hp → Prop} {fx : Fix} {t : Tg} {σ : L2.St} {ρ ρ1 : Env} {U : UU} {x : V} {d : D} (R : Rel K Hf H ρ σ U) (rx : Rep K Hf x d) (nf : ∀ i ∈ slotsT t, ¬ fx i) (e : asgT t d ρ = some ρ1)
    (q : ∀ σ' U', Kept fx σ σ' → Rel K Hf H ρ1 σ' U' → (∀ b, foot U' b → foot U b) → (∀ ns, (∀ i ∈ slotsT t, i ∈ ns) → wipe σ' ns = wipe σ ns) → Q σ' H) : gOf K t x σ H Q := by
  cases t with
  | name i =>
    simp only [asgT, Option.some.injEq] at e
    subst e
    exact q _ _ (Kept.set (nf i (List.mem_singleton.mpr rfl))) (R.put (.frz (T := fun _ => False) rx) (fun _ q => q.elim) fun _ q => q.elim) (foot_updU fun _ q => q.elim) fun ns hns => row_put.wipe_set (hns i (List.mem_singleton.mpr rfl))
  | tup is =>
    simp only [asgT] at e
    split at e <;> first | contradiction | skip
    rename_i l el
    split at e <;> first | contradiction | skip
    rename_i hl
    cases e
    obtain ⟨a, xs, rfl, sq, n, it, _⟩ := rx.items el
    refine ⟨a, xs, rfl, ?_, by omega, row_put (by omega) n it R nf q⟩
    rcases sq with sq | sq
    · exact .inl (Same.seq R.sub sq)
    · exact .inr (Same.seqT R.sub sq)

section
variable {X : Cx} {ct : Str → Option Addr} {W : WX} {fx : Fix} {a b c e tg iter elt : Expr} {ma mb mc : Env → R D} {mf : Env → R O} {mi : Env → R (List D)} {ms : Env → R Fl} {pos : Pos} {body : List Stmt} {t : Tg}
/-- what a walk's turn leaves -/
theorem feed_rel {K : PySem.W.Frag} {Hf1 H1 Hf2 H2 : Hp} {ρ : Env} {σ : L2.St} {U : UU} (R : Rel K Hf1 H1 ρ σ U) (h : (Hf2 = Hf1 ∧ H2 = H1) ∨ ∃ T o, H1 T = none ∧ Hf2 = upd Hf1 T o ∧ H2 = upd H1 T o) : Rel K Hf2 H2 ρ σ U ∧ Step Hf1 H1 (foot U) Hf2 H2 (foot U) := by
  rcases h with ⟨rfl, rfl⟩ | ⟨T, o, hT, rfl, rfl⟩
  · exact ⟨R, Step.refl⟩
  · exact ⟨R.newF hT, Step.newF R.sub hT⟩
theorem s_for (hp : PassesOwn (model X.prog X.w) X.A X.env X.xe) (hc : X.calm = true) (hN : X.N.Nodup) (hi : PI X tg iter (tI X.K ct W mi)) (hg : TgOk X fx t tg) (hb : PSs X body (tS X.K ct W fx ms)) (hs : ∀ x, foldedSetIterable iter X.env x = pure x) :
    PS X (.For tg iter body [] pos) (tS X.K ct W fx fun ρ => (mi ρ).bind fun ds ρ => loopL (asgT t) ms ds ρ) := (ps_for hp hc hi (hg.pg hc hN) hb hs).weak fun D σ H h => by
  obtain ⟨Hf, ρ, U, R0, p⟩ := h
  refine ⟨Hf, ρ, U, R0, p.bndE fun ds ρ1 Hf1 H1 U1 R1 S1 p1 J fd => ?_⟩
  refine ⟨fun i m σ' H' => m = ds.length - i ∧ i ≤ ds.length ∧ ∃ Hf' ρ' U', Rel X.K Hf' H' ρ' σ' U' ∧ Same Hf1 Hf' ∧ PostS X.K ct W fx σ' Hf' H' U' D (loopL (asgT t) ms (ds.drop i) ρ'), ⟨ds.length, by simp, Nat.zero_le _, Hf1, ρ1, U1, R1, Same.refl _, p1.from Kept.refl S1⟩, ?_⟩
  rintro i m σ' H' ⟨rfl, hi', Hf', ρ', U', R', sm, p'⟩
  by_cases hlt : i < ds.length
  · refine .inr ⟨fd.go i hlt H' (sm.trans R'.sub), _, fun σ'' H'' h => ⟨ds.length - (i + 1), by omega, h⟩, fun x H2 y => ?_⟩
    obtain ⟨d, Hf2, ed, rx, st⟩ := fd.yld i Hf' H' x H2 hlt sm R'.sub y
    obtain ⟨R2, S2⟩ := feed_rel R' st
    have ed' : ds[i] = d := by
      rw [List.getElem?_eq_getElem hlt] at ed
      exact Option.some.inj ed
    rw [List.drop_eq_getElem_cons hlt, ed'] at p'
    simp only [loopL] at p'
    split at p' <;> first | exact p'.elim | skip
    rename_i ρ2 e2
    refine asg_put R2 rx hg.free e2 fun σ2 U2 k2 R3 fu _ => ⟨Hf2, ρ2, U2, R3, ?_⟩
    have S3 : Step Hf' H' (foot U') Hf2 H2 (foot U2) := ⟨S2.mono, S2.dom, S2.frame, fun b q => S2.foot b (fu b q)⟩
    cases eb : ms ρ2 with
    | bad => rw [eb] at p'; exact p'
    | exc x ρ3 =>
      rw [eb] at p'
      exact fun σ3 Hf3 H3 U3 k3 R4 S4 => p' σ3 Hf3 H3 U3 (k2.trans k3) R4 (S3.trans S4)
    | ok fl ρ3 =>
      rw [eb] at p'
      intro σ3 Hf3 H3 U3 k3 R4 S4
      cases fl with
      | nx => exact ⟨rfl, hlt, Hf3, ρ3, U3, R4, (sm.trans S3.mono).trans S4.mono, PostS.from p' (k2.trans k3) (S3.trans S4)⟩
      | ct => exact ⟨rfl, hlt, Hf3, ρ3, U3, R4, (sm.trans S3.mono).trans S4.mono, PostS.from p' (k2.trans k3) (S3.trans S4)⟩
      | brk => exact p' σ3 Hf3 H3 U3 (k2.trans k3) R4 (S3.trans S4)
      | ret o =>
        intro v T ov tv
        exact PostS.from (σ1 := σ2) (r := .ok (.ret o) ρ3) p' k2 S3 σ3 Hf3 H3 U3 k3 R4 S4 v T ov tv
  · have e : i = ds.length := by omega
    subst e
    refine .inl ⟨fd.stop H' (sm.trans R'.sub), ?_⟩
    rw [List.drop_length] at p'
    exact p' σ' Hf' H' U' Kept.refl R' Step.refl
theorem s_while {nt : Env → R Bool} (hp : PassesOwn (model X.prog X.w) X.A X.env X.xe) (hc : PT X c (tT X.K ct W nt)) (hb : PSs X body (tS X.K ct W fx ms)) : PS X (.While c body [] pos) (tS X.K ct W fx fun ρ => whlS nt ms ρ) := (ps_while hp hc hb).weak fun D σ H h => by
  obtain ⟨Hf, ρ, U, R0, p⟩ := h
  have nb : whlS nt ms ρ ≠ .bad := fun e => by
    dsimp only at p
    rw [e] at p
    exact p
  obtain ⟨n, hn⟩ := whlS_iter nb
  refine ⟨fun m σ' H' => ∃ Hf' ρ' U' r, Rel X.K Hf' H' ρ' σ' U' ∧ iterW nt ms m ρ' = some r ∧ PostS X.K ct W fx σ' Hf' H' U' D r, ⟨n, Hf, ρ, U, _, R0, hn, p⟩, ?_⟩
  rintro m σ' H' ⟨Hf', ρ', U', r, R', hit, p'⟩
  cases m with
  | zero => simp [iterW] at hit
  | succ m =>
    simp only [iterW] at hit
    refine ⟨Hf', ρ', U', R', ?_⟩
    cases ec : nt ρ' with
    | bad =>
      rw [ec] at hit
      cases hit
      exact p'
    | exc x ρ1 =>
      rw [ec] at hit
      cases hit
      exact fun Hf2 H2 U2 R2 S2 => p' σ' Hf2 H2 U2 Kept.refl R2 S2
    | ok b ρ1 =>
      rw [ec] at hit
      intro Hf2 H2 U2 R2 S2
      cases b with
      | false =>
        cases hit
        simp only [Bool.false_eq_true, if_false]
        exact p' σ' Hf2 H2 U2 Kept.refl R2 S2
      | true =>
        simp only [if_true]
        refine ⟨fun σ'' H'' => ∃ Hf' ρ' U' r, Rel X.K Hf' H'' ρ' σ'' U' ∧ iterW nt ms m ρ' = some r ∧ PostS X.K ct W fx σ'' Hf' H'' U' D r, fun σ'' H'' h => ⟨m, Nat.lt_succ_self _, h⟩, Hf2, ρ1, U2, R2, ?_⟩
        simp only at hit
        cases eb : ms ρ1 with
        | bad => rw [eb] at hit; cases hit; exact p'
        | exc x ρ2 => rw [eb] at hit; cases hit; exact fun σ3 Hf3 H3 U3 k3 R3 S3 => p' σ3 Hf3 H3 U3 k3 R3 (S2.trans S3)
        | ok fl ρ2 =>
          rw [eb] at hit
          intro σ3 Hf3 H3 U3 k3 R3 S3
          cases fl with
          | nx => exact ⟨Hf3, ρ2, U3, r, R3, hit, p'.from k3 (S2.trans S3)⟩
          | ct => exact ⟨Hf3, ρ2, U3, r, R3, hit, p'.from k3 (S2.trans S3)⟩
          | brk => cases hit; exact p' σ3 Hf3 H3 U3 k3 R3 (S2.trans S3)
          | ret o =>
            cases hit
            intro v T ov tv
            exact PostS.from (σ1 := σ') (r := .ok (.ret o) ρ2) p' Kept.refl S2 σ3 Hf3 H3 U3 k3 R3 S3 v T ov tv
end
end Tr
set_option Elab.async false
set_option linter.all false
set_option maxRecDepth 100000
set_option maxHeartbeats 4000000
/-! TrC12: comprehensions. -/
namespace Tr
open PySem PySem.Spec PyProof.Rows L2

def WF : WX := fun _ _ _ _ => False
open Classical in
noncomputable def wipeU (own : List Nat) (U : UU) : UU := fun i => if i ∈ own then (fun _ => False) else U i
theorem wipeU_in {own : List Nat} {U : UU} {i : Nat} {b : Addr} (h : wipeU own U i b) : i ∉ own ∧ U i b := by
  unfold wipeU at h
  split at h
  · exact h.elim
  · rename_i h1; exact ⟨h1, h⟩
theorem wipeU_out {own : List Nat} {U : UU} {i : Nat} (h : i ∉ own) : wipeU own U i = U i := by unfold wipeU; rw [if_neg h]
open Classical in
noncomputable def keepU (own : List Nat) (U0 U : UU) : UU := fun i => if i ∈ own then U0 i else U i
theorem keepU_in {own : List Nat} {U0 U : UU} {i : Nat} (h : i ∈ own) : keepU own U0 U i = U0 i := by unfold keepU; rw [if_pos h]
theorem keepU_out {own : List Nat} {U0 U : UU} {i : Nat} (h : i ∉ own) : keepU own U0 U i = U i := by unfold keepU; rw [if_neg h]
theorem wipeE_len : ∀ {own : List Nat} {ρ : Env}, (wipeE own ρ).length = ρ.length
  | [], _ => rfl
  | _ :: r, ρ => by unfold wipeE; rw [List.length_set, wipeE_len (own := r)]
theorem wipeE_some {i : Nat} {o : O} : ∀ {own : List Nat} {ρ : Env}, (wipeE own ρ)[i]? = some (some o) → ρ[i]? = some (some o) ∧ i ∉ own
  | [], ρ, h => ⟨h, by simp⟩
  | v :: vs, ρ, h => by
    unfold wipeE at h
    by_cases hi : v = i
    · subst hi
      by_cases hv : v < (wipeE vs ρ).length
      · rw [List.getElem?_set_self hv] at h; cases h
      · rw [List.getElem?_eq_none (by simpa using hv)] at h; cases h
    · rw [List.getElem?_set_ne hi] at h
      obtain ⟨h1, h2⟩ := wipeE_some h
      exact ⟨h1, by simp only [List.mem_cons, not_or]; exact ⟨fun e => hi e.symm, h2⟩⟩
theorem keepE_len : ∀ {own : List Nat} {ρ0 ρ : Env}, (keepE own ρ0 ρ).length = ρ.length
  | [], _, _ => rfl
  | _ :: r, _, ρ => by unfold keepE; rw [List.length_set, keepE_len (own := r)]
theorem keepE_some {i : Nat} {o : O} : ∀ {own : List Nat} {ρ0 ρ : Env}, (keepE own ρ0 ρ)[i]? = some (some o) → (i ∈ own ∧ ρ0[i]? = some (some o)) ∨ (i ∉ own ∧ ρ[i]? = some (some o))
  | [], ρ0, ρ, h => .inr ⟨by simp, h⟩
  | v :: vs, ρ0, ρ, h => by
    unfold keepE at h
    rcases set_get h with ⟨rfl, e⟩ | ⟨ne, e⟩
    · left
      refine ⟨List.mem_cons_self, ?_⟩
      cases q : ρ0[i]? with
      | none => rw [q] at e; cases e
      | some w => rw [q] at e; exact congrArg some e.symm
    · rcases keepE_some e with ⟨h1, h2⟩ | ⟨h1, h2⟩
      · exact .inl ⟨List.mem_cons_of_mem _ h1, h2⟩
      · exact .inr ⟨by simp only [List.mem_cons, not_or]; exact ⟨ne, h1⟩, h2⟩
theorem wipe_in {σ : L2.St} {i : Nat} : ∀ {ns : List Nat}, i ∈ ns → i < σ.length → (wipe σ ns)[i]? = some none
  | [], h, _ => nomatch h
  | v :: vs, h, hl => by
    unfold wipe
    by_cases e : v = i
    · subst e
      rw [List.getElem?_set_self (by rw [wipe_length]; exact hl)]
    · rw [List.getElem?_set_ne e]
      exact wipe_in ((List.mem_cons.mp h).elim (fun z => absurd z.symm e) id) hl
theorem wipe_wipe {σ : L2.St} {ns : List Nat} : wipe (wipe σ ns) ns = wipe σ ns := by
  apply List.ext_getElem?
  intro i
  by_cases hi : i ∈ ns
  · by_cases hl : i < σ.length
    · rw [wipe_in hi (by rw [wipe_length]; exact hl), wipe_in hi hl]
    · rw [List.getElem?_eq_none (by rw [wipe_length, wipe_length]; omega), List.getElem?_eq_none (by rw [wipe_length]; omega)]
  · rw [wipe_out hi]
theorem foot_wipeU {own : List Nat} {U : UU} : ∀ b, foot (wipeU own U) b → foot U b := fun b ⟨i, h⟩ => ⟨i, (wipeU_in h).2⟩
theorem Rel.wiped {K : PySem.W.Frag} {Hf H : Hp} {ρ : Env} {σ : L2.St} {U : UU} (R : Rel K Hf H ρ σ U) (own : List Nat) : Rel K Hf H (wipeE own ρ) (wipe σ own) (wipeU own U) :=
  ⟨R.sub, by rw [wipeE_len, wipe_length]; exact R.len, fun i o e => by
    obtain ⟨h1, h2⟩ := wipeE_some e
    obtain ⟨v, h3, h4⟩ := R.own i o h1
    exact ⟨v, by rw [wipe_out h2]; exact h3, by rw [wipeU_out h2]; exact h4⟩, fun i j b hne h1 h2 => R.dj i j b hne (wipeU_in h1).2 (wipeU_in h2).2, fun i b h => R.alive i b (wipeU_in h).2⟩
theorem compL_exc {own : List Nat} {asg : D → Env → Option Env} {tst : Env → R Bool} {elt : Env → R O} {x : Ex} {ρ2 : Env} : ∀ {ds : List D} {ρ : Env}, compL own asg tst elt ds ρ ≠ .exc x ρ2
  | [], ρ, h => by simp [compL] at h
  | d :: ds, ρ, h => by
    unfold compL at h
    split at h
    · cases h
    · rename_i ρ1 e1
      cases et : tst ρ1 with
      | bad => rw [et] at h; cases h
      | exc x' ρ' => rw [et] at h; cases h
      | ok b ρ3 =>
        rw [et] at h
        simp only [R.calm_ok, R.bind_ok] at h
        split at h
        · cases ee : elt ρ3 with
          | bad => rw [ee] at h; cases h
          | exc x' ρ' => rw [ee] at h; cases h
          | ok o ρ4 =>
            rw [ee] at h
            simp only [R.calm_ok, R.bind_ok] at h
            cases ec : compL own asg tst elt ds (wipeE own ρ4) with
            | bad => rw [ec] at h; cases h
            | exc x' ρ' => exact compL_exc ec
            | ok l ρ5 => rw [ec] at h; cases h
        · exact compL_exc h
/-- the owned rows grow by one -/
structure Acc (K : PySem.W.Frag) (D : Addr) (Hf1 H1 : Hp) (Fw : Addr → Prop) (Hf H : Hp) (U : UU) (os : List O) (acc : List V) (Y : UU) : Prop where
  at_ : H D = some (.lst acc)
  ow : Owns K Hf H acc os Y
  ap : ∀ i b, Y i b → b ≠ D ∧ ¬ foot U b ∧ H b ≠ none ∧ (Fw b ∨ H1 b = none)
  nf : Hf D = none
  nu : ¬ foot U D
  fr : H1 D = none
theorem Acc.step {K : PySem.W.Frag} {D : Addr} {Hf1 H1 : Hp} {Fw : Addr → Prop} {Hf H : Hp} {U : UU} {os : List O} {acc : List V} {Y : UU} {Hf' H' : Hp} {U' : UU} (h : Acc K D Hf1 H1 Fw Hf H U os acc Y) (S : Step Hf H (foot U) Hf' H' (foot U')) : Acc K D Hf1 H1 Fw Hf' H' U' os acc Y := by
  obtain ⟨h1, h2, h3, nf, nu, fr⟩ := h
  have lv : ∀ b, ¬ foot U b → H b ≠ none → H' b ≠ none := fun b n q => by
    cases e : H b with
    | none => exact absurd e q
    | some u => rw [S.frame b u n e]; exact fun z => by cases z
  refine ⟨S.frame _ _ nu h1, ⟨h2.len, fun i v o e1 e2 => (h2.own i v o e1 e2).step S fun b t => (h3 i b t).2.1, h2.dj⟩, fun i b t => ?_, ?_, ?_, fr⟩
  · obtain ⟨q1, q2, q3, q4⟩ := h3 i b t
    exact ⟨q1, fun z => (S.foot b z).elim q2 q3, lv b q2 q3, q4⟩
  · cases e : Hf' D with
    | none => rfl
    | some u =>
      rcases S.dom D u e with z | z | z
      · rw [nf] at z; cases z
      · rw [h1] at z; cases z
      · exact (nu z).elim
  · exact fun z => (S.foot D z).elim nu fun q => by rw [h1] at q; cases q
section
variable {X : Cx} {ct : Str → Option Addr} {W : WX} {ms : Env → R O} {mi : Env → R (List D)} {nt : Env → R Bool} {t : Tg} {own : List Nat}
theorem comp_sem {K : PySem.W.Frag} (hts : ∀ i ∈ slotsT t, i ∈ own) {σ : L2.St} {H : Hp} {Q : VK}
    (h : tF K ct W (fun ρ => (mi ρ).bind fun ds ρ => (compL own (asgT t) nt ms ds (wipeE own ρ)).bind fun l ρ' => if l.length ≤ line then .ok (.box l) (keepE own ρ ρ') else .bad) σ H Q) :
    tLc (tI K ct W mi) (gOf K t) (tT K ct WF nt) (tF K ct WF ms) own σ H Q := by
  obtain ⟨Hf, ρ, U, R0, p⟩ := h
  refine ⟨Hf, ρ, U, R0, p.then fun ds ρ1 Hf1 H1 U1 R1 S1 p1 J fd D hD => ?_⟩
  have Rw := (R1.wiped own).new (o' := .lst []) hD
  have SU : Step Hf1 H1 (foot (wipeU own U1)) Hf1 (upd H1 D (.lst [])) (foot (wipeU own U1)) := Step.new hD
  have nU : ∀ b, foot U1 b → H1 b ≠ none := fun b ⟨i, q⟩ => R1.alive i b q
  let fin : List O → Env → R O := fun l ρ' => if l.length ≤ line then .ok (.box l) (keepE own ρ1 ρ') else .bad
  refine ⟨fun i m H' => m = ds.length - i ∧ i ≤ ds.length ∧ ∃ Hf' ρ' U' os acc Y, Rel K Hf' H' ρ' (wipe σ own) U' ∧ (∀ i ∈ own, ∀ b, ¬ U' i b) ∧ Step Hf1 H1 (foot (wipeU own U1)) Hf' H' (foot U') ∧
    Acc K D Hf1 H1 (foot (wipeU own U1)) Hf' H' U' os acc Y ∧ Post K σ Hf1 H1 U1 (EW K ct W σ) (fun o _ Hf' H' U' => ∀ v T, Own K Hf' H' v o T → (∀ b, T b → ¬ foot U' b ∧ H' b ≠ none ∧ (foot U b ∨ H b = none)) → Q v H')
      ((compL own (asgT t) nt ms (ds.drop i) ρ').bind fun l ρe => fin (os ++ l) ρe), ⟨_, rfl, Nat.zero_le _, Hf1, _, _, [], [], fun _ _ => False, Rw, fun i hi b q => (wipeU_in q).1 hi, SU,
      ⟨upd_same, ⟨rfl, fun i v o e => by simp at e, fun _ _ _ _ q => q.elim⟩, fun _ _ q => q.elim, R1.sub.free hD, fun q => nU D (foot_wipeU _ q) hD, hD⟩, p1⟩, ?_⟩
  rintro i m H' ⟨rfl, hi', Hf', ρ', U', os, acc, Y, R', nw, S', ac, p'⟩
  by_cases hlt : i < ds.length
  · refine .inr ⟨fd.go i hlt H' (S'.mono.trans R'.sub), _, fun H'' h => ⟨ds.length - (i + 1), by omega, rfl, hlt, h⟩, fun x H2 y => ?_⟩
    obtain ⟨d, Hf2, ed, rx, st⟩ := fd.yld i Hf' H' x H2 hlt S'.mono R'.sub y
    obtain ⟨R2, S2⟩ := feed_rel R' st
    have ed' : ds[i] = d := by
      rw [List.getElem?_eq_getElem hlt] at ed
      exact Option.some.inj ed
    rw [List.drop_eq_getElem_cons hlt, ed'] at p'
    unfold compL at p'
    split at p' <;> first | exact p'.elim | skip
    rename_i ρ2 e2
    refine asg_put (fx := fun _ => False) R2 rx (fun _ _ q => q) e2 fun σ2 U2 k2 R3 fu wp => ?_
    have ew : wipe σ2 own = wipe σ own := (wp own hts).trans wipe_wipe
    refine ⟨ew, Hf2, ρ2, U2, R3, ?_⟩
    have S3 : Step Hf' H' (foot U') Hf2 H2 (foot U2) := ⟨S2.mono, S2.dom, S2.frame, fun b q => S2.foot b (fu b q)⟩
    cases et : nt ρ2 with
    | bad => rw [et] at p'; exact p'
    | exc x' ρ3 => rw [et] at p'; exact p'.elim
    | ok b ρ3 =>
      rw [et] at p'
      intro Hf3 H3 U3 R4 S4
      have S5 := S3.trans S4
      simp only [R.calm_ok, R.bind_ok] at p'
      have fw : ∀ b, foot (wipeU own U3) b → foot U3 b := foot_wipeU
      cases b with
      | false =>
        simp only [Bool.false_eq_true, if_false] at p' ⊢
        have S6 : Step Hf' H' (foot U') Hf3 H3 (foot (wipeU own U3)) := ⟨S5.mono, S5.dom, S5.frame, fun b q => S5.foot b (fw b q)⟩
        exact ⟨Hf3, _, _, os, acc, Y, ew ▸ R4.wiped own, fun i hi b q => (wipeU_in q).1 hi, S'.trans S6, ac.step S6, p'⟩
      | true =>
        simp only [if_true] at p' ⊢
        refine ⟨Hf3, ρ3, U3, R4, ?_⟩
        cases ee : ms ρ3 with
        | bad => rw [ee] at p'; exact p'
        | exc x' ρ4 => rw [ee] at p'; exact p'.elim
        | ok o ρ4 =>
          rw [ee] at p'
          simp only [R.calm_ok, R.bind_ok] at p'
          intro Hf4 H4 U4 R5 S7 v T ov tv
          have S8 := S5.trans S7
          have S9 : Step Hf' H' (foot U') Hf4 H4 (foot (wipeU own U4)) := ⟨S8.mono, S8.dom, S8.frame, fun b q => S8.foot b (foot_wipeU b q)⟩
          have e3 : ((compL own (asgT t) nt ms (ds.drop (i + 1)) (wipeE own ρ4)).bind fun l ρ4 => .ok (o :: l) ρ4).bind (fun l ρe => fin (os ++ l) ρe) = (compL own (asgT t) nt ms (ds.drop (i + 1)) (wipeE own ρ4)).bind fun l ρe => fin ((os ++ [o]) ++ l) ρe := by
            cases compL own (asgT t) nt ms (ds.drop (i + 1)) (wipeE own ρ4) with
            | bad => rfl
            | exc x' ρ' => rfl
            | ok l ρ' => simp only [R.bind_ok, List.append_assoc, List.cons_append, List.nil_append]
          rw [e3] at p'
          have lo : os.length < line := by
            cases ec : compL own (asgT t) nt ms (ds.drop (i + 1)) (wipeE own ρ4) with
            | bad => rw [ec] at p'; exact p'.elim
            | exc x' ρ' => exact (compL_exc ec).elim
            | ok l ρ' =>
              rw [ec] at p'
              by_cases hn : ((os ++ [o]) ++ l).length ≤ line
              · simp only [List.length_append, List.length_cons, List.length_nil] at hn; omega
              · have e4 : fin ((os ++ [o]) ++ l) ρ' = .bad := if_neg hn
                rw [R.bind_ok, e4] at p'
                exact p'.elim
          have ac4 := ac.step S8
          have ac3 := ac.step S5
          obtain ⟨h1, h2, h3, nf, nu, fr⟩ := ac4
          obtain ⟨g1, g2, g3, nf3, nu3, _⟩ := ac3
          have SD := S'.trans S5
          have tD : ∀ b, T b → b ≠ D := fun b tb e => by
            subst e
            rcases (tv b tb).2.2 with z | z
            · exact nu3 z
            · rw [g1] at z; cases z
          refine ⟨acc, h1, by rw [h2.len]; exact lo, Hf4, wipeE own ρ4, wipeU own U4, os ++ [o], acc ++ [v], fun j => if j < os.length then Y j else if j = os.length then T else fun _ => False, ?_, fun i hi b q => (wipeU_in q).1 hi, ?_, ⟨upd_same, ?_, ?_, nf, fun q => nu (foot_wipeU _ q), fr⟩, p'⟩
          · have Rx := R5.wiped own
            rw [ew] at Rx
            refine ⟨sub_chg Rx.sub nf, Rx.len, fun j o' e => ?_, Rx.dj, fun j b q => upd_alive (Rx.alive j b q)⟩
            obtain ⟨w, w1, w2⟩ := Rx.own j o' e
            exact ⟨w, w1, own_chg (fun b t e => nu (foot_wipeU D ⟨j, e ▸ t⟩)) w2⟩
          · have S10 := S'.trans S9
            exact ⟨S10.mono, S10.dom, fun b u n q => by rw [upd_ne (ne_of_none q hD)]; exact S10.frame b u n q, S10.foot⟩
          · have yt : ∀ i b, Y i b → ¬ T b := fun j b yb tb => (tv b tb).2.2.elim (g3 j b yb).2.1 (g3 j b yb).2.2.1
            have oo : Owns K Hf4 (upd H4 D (.lst (acc ++ [v]))) (acc ++ [v]) (os ++ [o]) (fun i => if i < os.length then Y i else if i = os.length then T else fun _ => False) := by
              have q := app_cond h2 ov yt
              refine ⟨q.len, fun j v' o' e1 e2 => own_chg (fun b t => ?_) (q.own j v' o' e1 e2), q.dj⟩
              split at t
              · exact (h3 _ _ t).1
              · split at t
                · exact tD b t
                · exact t.elim
            exact oo
          · intro j b t
            have g : b ≠ D ∧ ¬ foot U4 b ∧ H4 b ≠ none ∧ (foot (wipeU own U1) b ∨ H1 b = none) := by
              split at t
              · exact h3 _ _ t
              · split at t
                · refine ⟨tD b t, (tv b t).1, (tv b t).2.1, ?_⟩
                  rcases (tv b t).2.2 with z | z
                  · exact SD.foot b z
                  · exact SD.old z
                · exact t.elim
            exact ⟨g.1, fun q => g.2.1 (foot_wipeU _ q), upd_alive g.2.2.1, g.2.2.2⟩
  · have e : i = ds.length := by omega
    subst e
    refine .inl ⟨fd.stop H' (S'.mono.trans R'.sub), ?_⟩
    rw [List.drop_length] at p'
    simp only [compL, R.bind_ok, List.append_nil] at p'
    by_cases hn : os.length ≤ line
    · have e4 : fin os ρ' = .ok (.box os) (keepE own ρ1 ρ') := if_pos hn
      rw [e4] at p'
      obtain ⟨h1, h2, h3, nf, nu, fr⟩ := ac
      have kin : ∀ j ∈ own, ∀ b, U1 j b → ¬ foot (wipeU own U1) b := fun j hj b q ⟨k, z⟩ => by
        obtain ⟨z1, z2⟩ := wipeU_in z
        exact R1.dj j k b (fun e => z1 (e ▸ hj)) q z2
      have lv : ∀ b, ¬ foot (wipeU own U1) b → H1 b ≠ none → H' b ≠ none := fun b n q => by
        cases e : H1 b with
        | none => exact absurd e q
        | some u => rw [S'.frame b u n e]; exact fun z => by cases z
      have fk : ∀ b, foot (keepU own U1 U') b → (∃ j ∈ own, U1 j b) ∨ foot U' b := fun b ⟨j, q⟩ => by
        by_cases hj : j ∈ own
        · rw [keepU_in hj] at q; exact .inl ⟨j, hj, q⟩
        · rw [keepU_out hj] at q; exact .inr ⟨j, q⟩
      refine p' Hf' H' (keepU own U1 U') ?_ ?_ (.ref D) (fun b => b = D ∨ ∃ j, Y j b) (.box Y h1 nf (.inl rfl) h2.len h2.own h2.dj fun j b q => ⟨.inr ⟨j, q⟩, (h3 j b q).1⟩) ?_
      · refine ⟨R'.sub, by rw [keepE_len, R'.len, wipe_length], fun j o e => ?_, fun j k b hne q1 q2 => ?_, fun j b q => ?_⟩
        · rcases keepE_some e with ⟨hj, e1⟩ | ⟨hj, e1⟩
          · obtain ⟨v, v1, v2⟩ := R1.own j o e1
            rw [keepU_in hj]
            exact ⟨v, v1, v2.step S' (kin j hj)⟩
          · obtain ⟨v, v1, v2⟩ := R'.own j o e1
            rw [keepU_out hj]
            exact ⟨v, by rw [wipe_out hj] at v1; exact v1, v2⟩
        · have mix : ∀ j k, j ∈ own → U1 j b → U' k b → False := fun j k hj z1 z2 => by
            rcases S'.foot b ⟨k, z2⟩ with z | z
            · exact kin j hj b z1 z
            · exact R1.alive j b z1 z
          by_cases hj : j ∈ own
          · rw [keepU_in hj] at q1
            by_cases hk : k ∈ own
            · rw [keepU_in hk] at q2; exact R1.dj j k b hne q1 q2
            · rw [keepU_out hk] at q2; exact mix j k hj q1 q2
          · rw [keepU_out hj] at q1
            by_cases hk : k ∈ own
            · rw [keepU_in hk] at q2; exact mix k j hk q2 q1
            · rw [keepU_out hk] at q2; exact R'.dj j k b hne q1 q2
        · by_cases hj : j ∈ own
          · rw [keepU_in hj] at q; exact lv b (kin j hj b q) (R1.alive j b q)
          · rw [keepU_out hj] at q; exact R'.alive j b q
      · refine ⟨S'.mono, fun a u q => ?_, fun a u n q => S'.frame a u (fun z => n (foot_wipeU _ z)) q, fun b q => ?_⟩
        · rcases S'.dom a u q with z | z | z
          · exact .inl z
          · exact .inr (.inl z)
          · exact .inr (.inr (foot_wipeU _ z))
        · rcases fk b q with ⟨j, _, z⟩ | z
          · exact .inl ⟨j, z⟩
          · rcases S'.foot b z with w | w
            · exact .inl (foot_wipeU _ w)
            · exact .inr w
      · intro b tb
        have key : ¬ foot U' b ∧ H' b ≠ none ∧ (foot (wipeU own U1) b ∨ H1 b = none) := by
          rcases tb with rfl | ⟨j, tb⟩
          · exact ⟨nu, (by rw [h1]; exact fun z => by cases z), Or.inr fr⟩
          · exact ⟨(h3 j b tb).2.1, (h3 j b tb).2.2.1, (h3 j b tb).2.2.2⟩
        refine ⟨fun z => ?_, key.2.1, ?_⟩
        · rcases fk b z with ⟨j, hj, w⟩ | w
          · rcases key.2.2 with q | q
            · exact kin j hj b w q
            · exact R1.alive j b w q
          · exact key.1 w
        · rcases key.2.2 with q | q
          · exact S1.foot b (foot_wipeU _ q)
          · exact S1.old q
    · have e4 : fin os ρ' = .bad := if_neg hn
      rw [e4] at p'
      exact p'.elim
theorem pts_no {X' : Cx} : PTs X' [] (tT X'.K ct W fun ρ => .ok true ρ) := ⟨fun pins s σ H Q I h => by
  obtain ⟨Hf, ρ, U, R0, p⟩ := h
  exact (pts_nil (X := X')).run pins s σ H Q I (p.ok R0)⟩
/-- the block's context -/
abbrev blkX (X : Cx) (scope : Scope) (s : Shared) (H : Hp) (C : Addr) (cl : List (Str × Addr)) (fp : List Addr) : Cx := X.blk s H scope (compEnvC scope cl C X.env) fp
theorem f_comp {elt tg iter : Expr} {ifs : List Expr} {scope : Scope} {own : List (Str × Nat)} {pos : Pos} (hc : X.calm = true) (hN : X.N.Nodup) (hi : PI X tg iter (tI X.K ct W mi)) (ok : BlkOk X.N X.env.scope scope own)
    (hg : ∀ s H C cl fp, TgOk (blkX X scope s H C cl fp) (fun _ => False) t tg) (ht : ∀ s H C cl fp, PTs (blkX X scope s H C cl fp) ifs (tT X.K ct WF nt)) (he : ∀ s H C cl fp, PE (blkX X scope s H C cl fp) elt (tF X.K ct WF ms))
    (hts : ∀ i ∈ slotsT t, i ∈ own.map (·.2)) (hs : ∀ x, foldedSetIterable iter X.env x = pure x) :
    PE X (.ListComp elt [⟨tg, iter, ifs, 0⟩] scope pos) (tF X.K ct W fun ρ => (mi ρ).bind fun ds ρ => (compL (own.map (·.2)) (asgT t) nt ms ds (wipeE (own.map (·.2)) ρ)).bind fun l ρ' => if l.length ≤ line then .ok (.box l) (keepE (own.map (·.2)) ρ ρ') else .bad) :=
  (pe_lc hc hN hi ok (fun s H C cl fp => TgOk.pg (X := blkX X scope s H C cl fp) hc hN (hg s H C cl fp)) ht he hs).weak fun σ H Q h => comp_sem hts h
theorem s_setLc {i : Nat} {y : Str} {py : Pos} {elt tg iter : Expr} {ifs : List Expr} {scope : Scope} {own : List (Str × Nat)} {pos spos : Pos} {fx : Fix} (hc : X.calm = true) (hN : X.N.Nodup) (hy : X.N[i]? = some y) (hyl : X.env.scope.names.lookup y = some .local)
    (hsw : swapsWith (.ListComp elt [⟨tg, iter, ifs, 0⟩] scope pos) (some (.Name y py)) spos.line X.env = pure true) (hi : PI X tg iter (tI X.K ct W mi)) (ok : BlkOk X.N X.env.scope scope own)
    (hg : ∀ s H C cl fp, TgOk (blkX X scope s H C cl fp) (fun _ => False) t tg) (ht : ∀ s H C cl fp, PTs (blkX X scope s H C cl fp) ifs (tT X.K ct WF nt)) (he : ∀ s H C cl fp, PE (blkX X scope s H C cl fp) elt (tF X.K ct WF ms))
    (hts : ∀ i ∈ slotsT t, i ∈ own.map (·.2)) (hs : ∀ x, foldedSetIterable iter X.env x = pure x) (nf : ¬ fx i) :
    PS X (.Assign [.Name y py] (.ListComp elt [⟨tg, iter, ifs, 0⟩] scope pos) spos) (tS X.K ct W fx fun ρ => ((mi ρ).bind fun ds ρ => (compL (own.map (·.2)) (asgT t) nt ms ds (wipeE (own.map (·.2)) ρ)).bind fun l ρ' => if l.length ≤ line then .ok (.box l) (keepE (own.map (·.2)) ρ ρ') else .bad).bind fun o ρ => .ok .nx (putO ρ i o)) :=
  (ps_setLc hc hN hy hyl hsw hi ok (fun s H C cl fp => TgOk.pg (X := blkX X scope s H C cl fp) hc hN (hg s H C cl fp)) ht he hs).weak fun D σ H h => by
  obtain ⟨Hf, ρ, U, R0, p⟩ := h
  refine comp_sem (W := W) (ct := ct) hts ⟨Hf, ρ, U, R0, p.bndE fun o ρ1 Hf1 H1 U1 R1 S1 q v T ov tv => ?_⟩
  obtain ⟨R2, S2⟩ := take_step (i := i) R1 S1 ov tv
  exact q _ Hf1 H1 _ (Kept.set nf) R2 S2
end
end Tr
set_option Elab.async false
set_option linter.all false
set_option maxRecDepth 100000
set_option maxHeartbeats 4000000
/-! TrC13: calls. -/
namespace Tr
open PySem PySem.Spec PyProof.Rows L2

/-- the by-name parameters' answers, place by place -/
def RefsAt (P : Nat → Option O → Prop) : List Bool → Env → Nat → Prop
  | [], refs, _ => refs = []
  | true :: m, refs, i => ∃ o r, refs = o :: r ∧ P i o ∧ RefsAt P m r (i + 1)
  | false :: m, refs, i => RefsAt P m refs (i + 1)
theorem refsOf_at {P : Nat → Option O → Prop} {ρ : Env} : ∀ {m : List Bool} {i : Nat}, (∀ j, m[j]? = some true → P (i + j) (ρ[i + j]?).join) → RefsAt P m (refsOf ρ m i) i
  | [], i, h => rfl
  | true :: m, i, h => ⟨_, _, rfl, h 0 rfl, refsOf_at fun j e => by rw [show i + 1 + j = i + (j + 1) by omega]; exact h (j + 1) (by simpa using e)⟩
  | false :: m, i, h => refsOf_at (m := m) (i := i + 1) fun j e => by rw [show i + 1 + j = i + (j + 1) by omega]; exact h (j + 1) (by simpa using e)
/-- the caller's side of it -/
theorem RefsAt.get {P : Nat → Option O → Prop} : ∀ {as : List Ag} {refs : Env} {n : Nat}, RefsAt P (modesOf as) refs n → ∀ (j s : Nat) (o : Option O), (slotsR as)[j]? = some s → refs[j]? = some o → ∃ i, as[i]? = some (.r s) ∧ P (n + i) o
  | [], refs, n, h, j, s, o, e1, e2 => by simp [slotsR] at e1
  | .r s0 :: r, refs, n, h, j, s, o, e1, e2 => by
    obtain ⟨o0, r0, rfl, p0, h⟩ := h
    cases j with
    | zero =>
      simp only [slotsR, List.getElem?_cons_zero, Option.some.injEq] at e1 e2
      subst e1; subst e2
      exact ⟨0, rfl, p0⟩
    | succ j =>
      obtain ⟨i, h1, h2⟩ := h.get j s o (by simpa [slotsR] using e1) (by simpa using e2)
      exact ⟨i + 1, by simpa using h1, by rw [show n + (i + 1) = n + 1 + i by omega]; exact h2⟩
  | .d d :: r, refs, n, h, j, s, o, e1, e2 => by
    have h : RefsAt P (modesOf r) refs (n + 1) := h
    obtain ⟨i, h1, h2⟩ := h.get j s o (by simpa [slotsR] using e1) e2
    exact ⟨i + 1, by simpa using h1, by rw [show n + (i + 1) = n + 1 + i by omega]; exact h2⟩
  | .b d :: r, refs, n, h, j, s, o, e1, e2 => by
    have h : RefsAt P (modesOf r) refs (n + 1) := h
    obtain ⟨i, h1, h2⟩ := h.get j s o (by simpa [slotsR] using e1) e2
    exact ⟨i + 1, by simpa using h1, by rw [show n + (i + 1) = n + 1 + i by omega]; exact h2⟩
theorem slotsR_mem : ∀ {as : List Ag} {s i : Nat}, as[i]? = some (.r s) → s ∈ slotsR as
  | [], s, i, h => by simp at h
  | a :: r, s, 0, h => by
    have e : a = .r s := by simpa using h
    subst e
    exact List.mem_cons_self
  | a :: r, s, i + 1, h => by
    have q := slotsR_mem (as := r) (i := i) (s := s) (by simpa using h)
    cases a with
    | d d => exact q
    | r s0 => exact List.mem_cons_of_mem _ q
    | b s0 => exact q
theorem slotsR_uniq : ∀ {as : List Ag} {s i j : Nat}, (slotsR as).Nodup → as[i]? = some (.r s) → as[j]? = some (.r s) → i = j
  | [], s, i, j, _, h, _ => by simp at h
  | a :: r, s, 0, 0, _, _, _ => rfl
  | a :: r, s, 0, j + 1, nd, h1, h2 => by
    have e : a = .r s := by simpa using h1
    subst e
    exact absurd (slotsR_mem (as := r) (i := j) (by simpa using h2)) (List.nodup_cons.mp nd).1
  | a :: r, s, i + 1, 0, nd, h1, h2 => by
    have e : a = .r s := by simpa using h2
    subst e
    exact absurd (slotsR_mem (as := r) (i := i) (by simpa using h1)) (List.nodup_cons.mp nd).1
  | a :: r, s, i + 1, j + 1, nd, h1, h2 => by
    have nd' : (slotsR r).Nodup := by
      cases a with
      | d d => exact nd
      | r s0 => exact (List.nodup_cons.mp nd).2
      | b s0 => exact nd
    exact congrArg Nat.succ (slotsR_uniq (as := r) (s := s) nd' (by simpa using h1) (by simpa using h2))
theorem slotsB_mem : ∀ {as : List Ag} {s i : Nat}, as[i]? = some (.b s) → s ∈ slotsB as
  | [], s, i, h => by simp at h
  | a :: r, s, 0, h => by
    have e : a = .b s := by simpa using h
    subst e
    exact List.mem_cons_self
  | a :: r, s, i + 1, h => by
    have q := slotsB_mem (as := r) (i := i) (s := s) (by simpa using h)
    cases a with
    | d d => exact q
    | r s0 => exact q
    | b s0 => exact List.mem_cons_of_mem _ q
theorem putBack_some {s : Nat} {o : O} : ∀ {is : List Nat} {refs ρ : Env}, is.Nodup → refs.length = is.length → (putBack is refs ρ)[s]? = some (some o) → (∃ j : Nat, is[j]? = some s ∧ refs[j]? = some (some o)) ∨ (s ∉ is ∧ ρ[s]? = some (some o))
  | [], refs, ρ, _, hl, h => by
    cases refs with
    | nil => exact .inr ⟨by simp, h⟩
    | cons _ _ => simp at hl
  | i :: is, [], ρ, _, hl, h => by simp at hl
  | i :: is, r :: refs, ρ, nd, hl, h => by
    unfold putBack at h
    obtain ⟨n1, n2⟩ := List.nodup_cons.mp nd
    rcases putBack_some n2 (by simpa using hl) h with ⟨j, h1, h2⟩ | ⟨h1, h2⟩
    · exact .inl ⟨j + 1, by simpa using h1, by simpa using h2⟩
    · rcases set_get h2 with ⟨rfl, e⟩ | ⟨ne, e⟩
      · exact .inl ⟨0, by simp, by simp [e]⟩
      · exact .inr ⟨by simp only [List.mem_cons, not_or]; exact ⟨ne, h1⟩, e⟩
theorem putBack_len : ∀ {is : List Nat} {refs ρ : Env}, (putBack is refs ρ).length = ρ.length
  | [], refs, ρ => by cases refs <;> rfl
  | i :: is, [], ρ => rfl
  | i :: is, r :: refs, ρ => by unfold putBack; rw [putBack_len, List.length_set]
theorem fzAll_len : ∀ {bs : List Nat} {ρ : Env}, (fzAll bs ρ).length = ρ.length
  | [], ρ => rfl
  | i :: is, ρ => by
    unfold fzAll
    split
    · rw [fzAll_len, putO, List.length_set]
    · exact fzAll_len
theorem fzAll_some {s : Nat} {o : O} : ∀ {bs : List Nat} {ρ : Env}, (fzAll bs ρ)[s]? = some (some o) → (∃ l, s ∈ bs ∧ ρ[s]? = some (some (.box l)) ∧ o = .frz (.list (fzs l))) ∨ (ρ[s]? = some (some o) ∧ (s ∈ bs → ∀ l, o ≠ .box l))
  | [], ρ, h => .inr ⟨h, fun q => nomatch q⟩
  | i :: is, ρ, h => by
    unfold fzAll at h
    split at h
    · rename_i l el
      have el' : ρ[i]? = some (some (.box l)) := by
        unfold ldV at el
        split at el
        · rename_i e; cases el; exact e
        · cases el
      rcases fzAll_some h with ⟨m, h1, h2, h3⟩ | ⟨h1, h2⟩
      · rcases set_get h2 with ⟨rfl, e⟩ | ⟨ne, e⟩
        · cases e
        · exact .inl ⟨m, List.mem_cons_of_mem _ h1, e, h3⟩
      · rcases set_get h1 with ⟨rfl, e⟩ | ⟨ne, e⟩
        · cases e
          exact .inl ⟨l, List.mem_cons_self, el', rfl⟩
        · exact .inr ⟨e, fun q => (List.mem_cons.mp q).elim (fun z => absurd z ne) h2⟩
    · rename_i nb
      rcases fzAll_some h with ⟨m, h1, h2, h3⟩ | ⟨h1, h2⟩
      · exact .inl ⟨m, List.mem_cons_of_mem _ h1, h2, h3⟩
      · refine .inr ⟨h1, fun q => (List.mem_cons.mp q).elim (fun z l e => ?_) h2⟩
        subst z; subst e
        exact nb l (by unfold ldV; rw [h1])
def GatAt (ρ : Env) (a : Ag) (o : O) : Prop := match a with
    | .d d => o = .frz d
    | .r s => ρ[s]? = some (some o)
    | .b s => ∃ o', ρ[s]? = some (some o') ∧ o'.clean = true ∧ o = .frz o'.fz
theorem gather_get {ρ : Env} : ∀ {as : List Ag} {os : List O}, gather ρ as = some os → os.length = as.length ∧ ∀ (i : Nat) (a : Ag), as[i]? = some a → ∃ o, os[i]? = some o ∧ GatAt ρ a o
  | [], os, h => by
    simp only [gather, Option.some.injEq] at h
    subst h
    exact ⟨rfl, fun i a e => by simp at e⟩
  | a :: r, os, h => by
    have key : ∃ o os', os = o :: os' ∧ gather ρ r = some os' ∧ GatAt ρ a o := by
      cases a with
      | d d =>
        simp only [gather] at h
        cases e : gather ρ r with
        | none => rw [e] at h; cases h
        | some os' => rw [e] at h; cases h; exact ⟨_, _, rfl, rfl, rfl⟩
      | r s =>
        simp only [gather] at h
        split at h
        · rename_i o eo
          cases e : gather ρ r with
          | none => rw [e] at h; cases h
          | some os' => rw [e] at h; cases h; exact ⟨_, _, rfl, rfl, ldV_of eo⟩
        · cases h
      | b s =>
        simp only [gather] at h
        split at h
        · rename_i d eo
          cases e : gather ρ r with
          | none => rw [e] at h; cases h
          | some os' => rw [e] at h; cases h; exact ⟨_, _, rfl, rfl, _, ldV_of eo, rfl, rfl⟩
        · rename_i m eo
          split at h
          · rename_i cm
            cases e : gather ρ r with
            | none => rw [e] at h; cases h
            | some os' => rw [e] at h; cases h; exact ⟨_, _, rfl, rfl, _, ldV_of eo, cm, rfl⟩
          · cases h
        · cases h
    obtain ⟨o, os', rfl, h2, h3⟩ := key
    obtain ⟨l, g⟩ := gather_get h2
    refine ⟨by simp [l], fun i a' e => ?_⟩
    cases i with
    | zero =>
      have e' : a = a' := by simpa using e
      subst e'
      exact ⟨o, rfl, h3⟩
    | succ i =>
      obtain ⟨o', q1, q2⟩ := g i a' (by simpa using e)
      exact ⟨o', by simpa using q1, q2⟩
/-- what is promised of a def: its by-name parameters and its answer -/
def refP (K : PySem.W.Frag) (Hf H : Hp) (vs : List V) (Ur : UU) : Nat → Option O → Prop := fun i oo => ∀ o, oo = some o → ∃ v, vs[i]? = some v ∧ Own K Hf H v o (Ur i)
def spF (K : PySem.W.Frag) (ct : Str → Option Addr) (fn : Fn) : Sp := fun vs H Q E => ∃ Hf os Ua, Same Hf H ∧ vs.length = fn.modes.length ∧ Owns K Hf H vs os Ua ∧ (∀ i b, Ua i b → H b ≠ none) ∧ match fn.run os with
  | .ok o refs => ∀ v Hf' H' (Ur : UU) (T : Addr → Prop), Same Hf' H' → Step Hf H (foot Ua) Hf' H' (foot Ur) → (∀ i j b, i ≠ j → Ur i b → ¬ Ur j b) → (∀ i b, Ur i b → H' b ≠ none) → RefsAt (refP K Hf' H' vs Ur) fn.modes refs 0 →
      Own K Hf' H' v o T → (∀ b, T b → ¬ foot Ur b ∧ H' b ≠ none ∧ (foot Ua b ∨ H b = none)) → Q v H'
  | .exc x refs => ∀ cls d Hf' H' (Ur : UU), Same Hf' H' → Step Hf H (foot Ua) Hf' H' (foot Ur) → (∀ i j b, i ≠ j → Ur i b → ¬ Ur j b) → (∀ i b, Ur i b → H' b ≠ none) → RefsAt (refP K Hf' H' vs Ur) fn.modes refs 0 → ExR K ct Hf' H' x cls d → E cls d H'
  | .bad => False
/-- the arguments as they lie -/
def ArgAt (K : PySem.W.Frag) (Hf : Hp) (σ : L2.St) (a : Ag) (v : V) : Prop := match a with
  | .d d => Rep K Hf v d
  | .r s => σ[s]? = some (some v)
  | .b s => σ[s]? = some (some v)
def tA (K : PySem.W.Frag) (ct : Str → Option Addr) (W : WX) (m : Env → R (List Ag)) : TA := fun σ H Q => ∃ Hf ρ U, Rel K Hf H ρ σ U ∧ Post K σ Hf H U (EW K ct W σ) (fun as _ Hf' H' _ => ∀ vs, vs.length = as.length → (∀ (i : Nat) v a, vs[i]? = some v → as[i]? = some a → ArgAt K Hf' σ a v) → Q vs H') (m ρ)
theorem ArgAt.mono {K : PySem.W.Frag} {Hf Hf' : Hp} {σ : L2.St} {a : Ag} {v : V} (e : Same Hf Hf') (h : ArgAt K Hf σ a v) : ArgAt K Hf' σ a v := by
  cases a with
  | d d => exact Rep.mono e h
  | r s => exact h
  | b s => exact h
theorem call_ref {K : PySem.W.Frag} {Hf1 H1 Hf' H' : Hp} {ρ : Env} {σ : L2.St} {U1 Ur : UU} {as : List Ag} {vs : List V} {os : List O} {refs : Env} {B : Addr → Prop} {Ua : UU}
    (R1 : Rel K Hf1 H1 ρ σ U1) (ok1 : (slotsR as).Nodup) (ok2 : ∀ s ∈ slotsB as, s ∉ slotsR as) (hB : ∀ b, B b ↔ ∃ s ∈ slotsB as, U1 s b) (ha : ∀ (i : Nat) v a, vs[i]? = some v → as[i]? = some a → ArgAt K Hf1 σ a v) (hl : vs.length = as.length) (hg : gather ρ as = some os)
    (hUa : ∀ i b, Ua i b ↔ ∃ s, as[i]? = some (.r s) ∧ U1 s b) (sm : Same Hf' H') (S : Step (joinC Hf1 H1 B) H1 (foot Ua) Hf' H' (foot Ur)) (dj : ∀ i j b, i ≠ j → Ur i b → ¬ Ur j b) (al : ∀ i b, Ur i b → H' b ≠ none)
    (rf : RefsAt (refP K Hf' H' vs Ur) (modesOf as) refs 0) (rl : refs.length = (slotsR as).length) :
    ∃ U2 : UU, Rel K Hf' H' (fzAll (slotsB as) (putBack (slotsR as) refs ρ)) σ U2 ∧ Step Hf1 H1 (foot U1) Hf' H' (foot U2) ∧ ∀ b, foot U2 b → foot Ur b ∨ ∃ s, s ∉ slotsR as ∧ U1 s b := by
  have SB : Step Hf1 H1 (foot U1) (joinC Hf1 H1 B) H1 (foot Ua) := Step.fz R1.sub (fun b q => let ⟨s, _, z⟩ := (hB b).mp q; ⟨s, z⟩) fun b ⟨i, q⟩ => let ⟨s, _, z⟩ := (hUa i b).mp q; ⟨s, z⟩
  have SS := SB.trans S
  have apUa : ∀ s b, s ∉ slotsR as → U1 s b → ¬ foot Ua b := fun s b hs q ⟨i, z⟩ => by
    obtain ⟨s', e, w⟩ := (hUa i b).mp z
    exact R1.dj s s' b (fun e2 => hs (e2 ▸ slotsR_mem e)) q w
  have apUr : ∀ s b, s ∉ slotsR as → U1 s b → ¬ foot Ur b := fun s b hs q z => by
    rcases S.foot b z with w | w
    · exact apUa s b hs q w
    · exact R1.alive s b q w
  let U2 : UU := fun s b => (∃ i, as[i]? = some (.r s) ∧ Ur i b) ∨ (s ∉ slotsR as ∧ s ∉ slotsB as ∧ U1 s b)
  have lv : ∀ s b, s ∉ slotsR as → U1 s b → H' b ≠ none := fun s b hs q => by
    cases e : H1 b with
    | none => exact absurd e (R1.alive s b q)
    | some u => rw [S.frame b u (apUa s b hs q) e]; exact fun z => by cases z
  refine ⟨U2, ⟨sm, by rw [fzAll_len, putBack_len, R1.len], fun s o e => ?_, fun s s' b hne q1 q2 => ?_, fun s b q => ?_⟩, ⟨SS.mono, SS.dom, SS.frame, fun b ⟨s, q⟩ => ?_⟩, fun b ⟨s, q⟩ => ?_⟩
  · have base : (ρ[s]? = some (some o) ∧ s ∉ slotsR as ∧ (s ∈ slotsB as → ∀ l, o ≠ .box l)) ∨ (∃ l, s ∈ slotsB as ∧ s ∉ slotsR as ∧ ρ[s]? = some (some (.box l)) ∧ o = .frz (.list (fzs l))) ∨ ∃ i, as[i]? = some (.r s) ∧ refP K Hf' H' vs Ur i (some o) := by
      rcases fzAll_some e with ⟨l, h1, h2, h3⟩ | ⟨h1, h2⟩
      · rcases putBack_some ok1 rl h2 with ⟨j, g1, g2⟩ | ⟨g1, g2⟩
        · exact absurd (List.mem_of_getElem? g1) (ok2 s h1)
        · exact .inr (.inl ⟨l, h1, g1, g2, h3⟩)
      · rcases putBack_some ok1 rl h1 with ⟨j, g1, g2⟩ | ⟨g1, g2⟩
        · obtain ⟨i, k1, k2⟩ := rf.get j s _ g1 g2
          rw [Nat.zero_add] at k2
          exact .inr (.inr ⟨i, k1, k2⟩)
        · exact .inl ⟨g2, g1, h2⟩
    rcases base with ⟨h1, h2, h3⟩ | ⟨l, h1, h2, h3, rfl⟩ | ⟨i, h1, h2⟩
    · obtain ⟨v, g1, g2⟩ := R1.own s o h1
      refine ⟨v, g1, ?_⟩
      by_cases hb : s ∈ slotsB as
      · cases g2 with
        | frz r => exact .frz (r.mono SS.mono)
        | scr r => exact .scr (Same.seq SS.mono r)
        | box => exact absurd rfl (h3 hb _)
      · have o1 := g2.other (T' := B) R1.sub fun b q z => by
          obtain ⟨s', w1, w2⟩ := (hB b).mp z
          exact R1.dj s s' b (fun e => hb (e ▸ w1)) q w2
        exact (o1.step S fun b q => apUa s b h2 q).wide fun b q => .inr ⟨h2, hb, q⟩
    · obtain ⟨v, g1, g2⟩ := R1.own s _ h3
      have cl : cleans l = true := by
        have : ∀ {as : List Ag}, s ∈ slotsB as → ∃ i : Nat, as[i]? = some (Ag.b s) := by
          intro as h
          induction as with
          | nil => cases h
          | cons a r ih =>
            cases a with
            | d d => obtain ⟨i, q⟩ := ih h; exact ⟨i + 1, by simpa using q⟩
            | r s0 => obtain ⟨i, q⟩ := ih h; exact ⟨i + 1, by simpa using q⟩
            | b s0 =>
              rcases List.mem_cons.mp h with rfl | h
              · exact ⟨0, rfl⟩
              · obtain ⟨i, q⟩ := ih h; exact ⟨i + 1, by simpa using q⟩
        obtain ⟨i, q⟩ := this h1
        obtain ⟨o', _, o2, k1, k2, _⟩ := (gather_get hg).2 i _ q
        rw [h3] at k1
        cases k1
        exact k2
      refine ⟨v, g1, .frz ((g2.fz R1.sub cl (T' := B) fun b q => (hB b).mpr ⟨s, h1, q⟩).mono S.mono)⟩
    · obtain ⟨v, g1, g2⟩ := h2 o rfl
      have hv := ha i v _ g1 h1
      exact ⟨v, hv, g2.wide fun b q => .inl ⟨i, h1, q⟩⟩
  · rcases q1 with ⟨i, h1, h2⟩ | ⟨h1, h2, h3⟩
    · rcases q2 with ⟨j, g1, g2⟩ | ⟨g1, g2, g3⟩
      · refine dj i j b (fun e => ?_) h2 g2
        subst e
        rw [h1] at g1
        cases g1
        exact hne rfl
      · exact apUr s' b g1 g3 ⟨i, h2⟩
    · rcases q2 with ⟨j, g1, g2⟩ | ⟨g1, g2, g3⟩
      · exact apUr s b h1 h3 ⟨j, g2⟩
      · exact R1.dj s s' b hne h3 g3
  · rcases q with ⟨i, h1, h2⟩ | ⟨h1, h2, h3⟩
    · exact al i b h2
    · exact lv s b h1 h3
  · rcases q with ⟨i, h1, h2⟩ | ⟨h1, h2, h3⟩
    · exact SS.foot b ⟨i, h2⟩
    · exact .inl ⟨s, h3⟩
  · rcases q with ⟨i, h1, h2⟩ | ⟨h1, h2, h3⟩
    · exact .inl ⟨i, h2⟩
    · exact .inr ⟨s, h1, h3⟩
theorem call_sem {K : PySem.W.Frag} {ct : Str → Option Addr} {W : WX} {σ : L2.St} {Hf H Hf1 H1 : Hp} {U U1 : UU} {ρ : Env} {Q : VK} {Φ : Tab} {k : Nat} {fn : Fn} {as : List Ag} {vs : List V} (hf : Φ.fn[k]? = some fn) (R1 : Rel K Hf1 H1 ρ σ U1) (S1 : Step Hf H (foot U) Hf1 H1 (foot U1))
    (p : Post K σ Hf1 H1 U1 (EW K ct W σ) (fun o _ Hf' H' U' => ∀ v T, Own K Hf' H' v o T → (∀ b, T b → ¬ foot U' b ∧ H' b ≠ none ∧ (foot U b ∨ H b = none)) → Q v H') (callF Φ k as ρ))
    (hl : vs.length = as.length) (ha : ∀ (i : Nat) v a, vs[i]? = some v → as[i]? = some a → ArgAt K Hf1 σ a v) : spF K ct fn vs H1 Q (WE W σ) := by
  unfold callF at p
  rw [hf] at p
  dsimp only at p
  cases ok : callOk as fn with
  | false => rw [ok] at p; exact p.elim
  | true =>
    rw [ok] at p
    dsimp only at p
    cases hg : gather ρ as with
    | none => rw [hg] at p; exact p.elim
    | some os =>
      rw [hg] at p
      dsimp only at p
      unfold callOk at ok
      simp only [Bool.and_eq_true, decide_eq_true_eq, List.all_eq_true, Bool.not_eq_true', List.contains_eq_mem, decide_eq_false_iff_not] at ok
      obtain ⟨⟨om, ok1⟩, ok2⟩ := ok
      have hml : ∀ {as : List Ag}, (modesOf as).length = as.length := by
        intro as
        induction as with
        | nil => rfl
        | cons a r ih => cases a <;> simp [modesOf, ih]
      obtain ⟨gl, gg⟩ := gather_get hg
      let B : Addr → Prop := fun b => ∃ s ∈ slotsB as, U1 s b
      let Ua : UU := fun i b => ∃ s, as[i]? = some (.r s) ∧ U1 s b
      have ow : Owns K (joinC Hf1 H1 B) H1 vs os Ua := by
        refine ⟨by omega, fun i v o e1 e2 => ?_, fun i j b hne ⟨s, h1, h2⟩ ⟨s', h3, h4⟩ => ?_⟩
        · have hi : i < as.length := by
            have := (List.getElem?_eq_some_iff.mp e1).1
            omega
          have ea := List.getElem?_eq_getElem hi
          have av := ha i v _ e1 ea
          obtain ⟨o', g1, g2⟩ := gg i _ ea
          rw [e2] at g1
          cases g1
          revert av g2 ea
          cases as[i] with
          | d d =>
            intro ea av g2
            subst g2
            exact .frz (Rep.mono (joinC_same R1.sub) av)
          | r s =>
            intro ea av g2
            obtain ⟨v', h1, h2⟩ := R1.own s o g2
            have ev : some (some v') = some (some v) := h1.symm.trans av
            cases ev
            exact (h2.other (T' := B) R1.sub fun b q ⟨s', w1, w2⟩ => R1.dj s s' b (fun e => ok2 s' w1 (e ▸ slotsR_mem ea)) q w2).wide fun b q => ⟨s, ea, q⟩
          | b s =>
            intro ea av g2
            obtain ⟨o2, g3, g4, g5⟩ := g2
            subst g5
            obtain ⟨v', h1, h2⟩ := R1.own s o2 g3
            have ev : some (some v') = some (some v) := h1.symm.trans av
            cases ev
            exact .frz (h2.fz R1.sub g4 (T' := B) fun b q => ⟨s, slotsB_mem ea, q⟩)
        · refine R1.dj s s' b (fun e => hne ?_) h2 h4
          subst e
          exact slotsR_uniq ok1 h1 h3
      refine ⟨joinC Hf1 H1 B, os, Ua, joinC_sub R1.sub, by rw [hl, ← om, hml], ow, fun i b ⟨s, _, q⟩ => R1.alive s b q, ?_⟩
      cases er : fn.run os with
      | bad => rw [er] at p; exact p
      | exc x refs =>
        rw [er] at p
        dsimp only at p ⊢
        intro cls d Hf' H' Ur sm S dj al rf ex
        split at p
        · rename_i rl
          rw [← om] at rf
          obtain ⟨U2, R2, S2, _⟩ := call_ref (B := B) (Ua := Ua) R1 ok1 ok2 (fun b => Iff.rfl) ha hl hg (fun i b => Iff.rfl) sm S dj al rf rl
          exact p Hf' H' U2 R2 S2 cls d ex
        · exact p.elim
      | ok o refs =>
        rw [er] at p
        dsimp only at p ⊢
        intro v Hf' H' Ur T sm S dj al rf ov tv
        split at p
        · rename_i rl
          rw [← om] at rf
          by_cases hp : (plainO o && (slotsR as).isEmpty) = true
          · rw [if_pos hp] at p
            simp only [Bool.and_eq_true, List.isEmpty_iff] at hp
            obtain ⟨hp1, hp2⟩ := hp
            have nU : ∀ b, ¬ foot Ua b := fun b ⟨i, s, q, _⟩ => by
              have := slotsR_mem q
              rw [hp2] at this
              cases this
            have fr : ∀ b u, H1 b = some u → H' b = some u := fun b u e => S.frame b u (nU b) e
            have R2 : Rel K Hf1 H' ρ σ U1 := ⟨fun a u q => fr a u (R1.sub a u q), R1.len, fun i o e => let ⟨v, h1, h2⟩ := R1.own i o e; ⟨v, h1, h2.keep (fun _ _ q => q) (fun b u _ q => fr b u q) fun _ _ _ _ n => n⟩, R1.dj, fun i b q => by
              cases e : H1 b with
              | none => exact absurd e (R1.alive i b q)
              | some u => rw [fr b u e]; exact fun z => by cases z⟩
            refine p Hf1 H' U1 R2 ⟨fun _ _ q => q, fun _ _ q => .inl q, fun a u _ q => fr a u q, fun _ q => .inl q⟩ v (fun _ => False) ?_ fun _ q => q.elim
            cases ov with
            | box => simp [plainO] at hp1
            | scr => simp [plainO] at hp1
            | frz r =>
              refine .frz ?_
              cases r with
              | non => exact .non
              | bl b => exact .bl b
              | int b => exact .int b
              | str b => exact .str b
              | lst => simp [plainO] at hp1
              | tup => simp [plainO] at hp1
              | dct => simp [plainO] at hp1
          · rw [if_neg hp] at p
            obtain ⟨U2, R2, S2, ap⟩ := call_ref (B := B) (Ua := Ua) R1 ok1 ok2 (fun b => Iff.rfl) ha hl hg (fun i b => Iff.rfl) sm S dj al rf rl
            refine p Hf' H' U2 R2 S2 v T ov fun b tb => ?_
            obtain ⟨t1, t2, t3⟩ := tv b tb
            have t4 : foot U1 b ∨ H1 b = none := t3.elim (fun ⟨i, s, _, w⟩ => .inl ⟨s, w⟩) .inr
            refine ⟨fun z => ?_, t2, t4.elim (S1.foot b) fun w => S1.old w⟩
            rcases ap b z with w | ⟨s, w1, w2⟩
            · exact t1 w
            · rcases t3 with ⟨i, s', e, w3⟩ | w3
              · exact R1.dj s s' b (fun e2 => w1 (e2 ▸ slotsR_mem e)) w2 w3
              · exact R1.alive s b w2 w3
        · exact p.elim
end Tr
set_option Elab.async false
set_option linter.all false
set_option maxRecDepth 100000
set_option maxHeartbeats 4000000
/-! TrC14: calls as expressions; defs. -/
namespace Tr
open PySem PySem.Spec PyProof.Rows L2

section
variable {X : Cx} {ct : Str → Option Addr} {W : WX} {fx : Fix} {a b c e : Expr} {es : List Expr} {ma : Env → R D} {mas : Env → R (List Ag)} {pos : Pos}
theorem ag_nil : PA X [] (tA X.K ct W fun ρ => .ok [] ρ) := pa_nil.weak fun σ H Q q => by
  obtain ⟨Hf, ρ, U, R0, p⟩ := q
  exact p.ok R0 [] rfl fun i v d e => by simp at e
theorem ag_e (ha : PE X a (tE X.K ct W ma)) (hr : PA X es (tA X.K ct W mas)) (hs : notStar a = true) : PA X (a :: es) (tA X.K ct W fun ρ => (ma ρ).bind fun d ρ => (mas ρ).bind fun l ρ => .ok (.d d :: l) ρ) := by
  refine (pa_cons ha hr (starEach_cons hs)).weak fun σ H Q q => ?_
  obtain ⟨Hf, ρ, U, R0, p⟩ := q
  refine ⟨Hf, ρ, U, R0, p.then fun d ρ1 Hf1 H1 U1 R1 S1 p1 x rx => ⟨Hf1, ρ1, U1, R1, p1.then fun l ρ2 Hf2 H2 U2 R2 S2 p2 vs n it => ?_⟩⟩
  refine p2.ok R2 (x :: vs) (by simp [n]) fun i v a' e1 e2 => ?_
  cases i with
  | zero =>
    have e1' : x = v := by simpa using e1
    have e2' : Ag.d d = a' := by simpa using e2
    subst e1'; subst e2'
    exact rx.mono S2.mono
  | succ i => exact it i v a' (by simpa using e1) (by simpa using e2)
theorem ag_slot {s : Nat} {g : Ag} (hg : g = .r s ∨ g = .b s) (ha : PE X a (tVar s)) (hr : PA X es (tA X.K ct W mas)) (hs : notStar a = true) : PA X (a :: es) (tA X.K ct W fun ρ => if (ldV s ρ).isSome then (mas ρ).bind fun l ρ => .ok (g :: l) ρ else .bad) := by
  refine (pa_cons ha hr (starEach_cons hs)).weak fun σ H Q q => ?_
  obtain ⟨Hf, ρ, U, R0, p⟩ := q
  dsimp only at p
  split at p
  · rename_i hsm
    obtain ⟨o, eo⟩ := some_of hsm
    obtain ⟨v, h1, _⟩ := R0.own _ _ (ldV_of eo)
    refine ⟨v, h1, Hf, ρ, U, R0, p.then fun l ρ2 Hf2 H2 U2 R2 S2 p2 vs n it => ?_⟩
    refine p2.ok R2 (v :: vs) (by simp [n]) fun i w a' e1 e2 => ?_
    cases i with
    | zero =>
      have e1' : v = w := by simpa using e1
      have e2' : g = a' := by simpa using e2
      subst e1'; subst e2'
      rcases hg with rfl | rfl
      · exact h1
      · exact h1
    | succ i => exact it i w a' (by simpa using e1) (by simpa using e2)
  · exact p.elim
def noStars (es : List Expr) : Bool := es.all notStar
theorem back_all {pos : Pos} {env : PySem.Env} : ∀ {es : List Expr}, noStars es = true → (backTo pos (starEach es env)).any (·.1) = false
  | [], _ => rfl
  | e :: es, h => by
    unfold noStars at h
    rw [List.all_cons, Bool.and_eq_true] at h
    have ih := back_all (pos := pos) (env := env) (es := es) h.2
    rw [starEach_cons h.1]
    revert ih
    generalize starEach es env = l
    intro ih
    cases l with
    | nil => rfl
    | cons p r =>
      first
        | exact ih
        | (simp only [backTo, List.any_cons, List.any_map, Bool.false_or] at ih ⊢; exact ih)
/-- a def's promise where no text of a row is under way -/
structure FnG (P : Program) (w : World) (K : PySem.W.Frag) (mg : Str → Option Value) (base : Heap) (CX : CXT) (k : Nat) (f : Addr) (fd : FuncData) (ps : List Str) (sp : Sp) : Prop where
  len : ∀ vs H Q E, sp vs H Q E → vs.length = ps.length
  go : ∀ (A : Around), A.guards = some [] → ∀ (out : List PySem.Env) (s : Shared) (H : Hp) (az : Args) (us : List Value) (vs : List V) (Q : VK) (E : XK), Room k A → Env0 P w K mg base A out s H → BindsTo s fd az (ps.zip us) → Vals vs us →
    sp vs H Q E → codeAny (model P w) A (.call (.ref f) az) (CR CX out P w H s Q E) s
theorem FnG.mono {P : Program} {w : World} {K : PySem.W.Frag} {mg : Str → Option Value} {base : Heap} {CX : CXT} {j k : Nat} {f : Addr} {fd : FuncData} {ps : List Str} {sp : Sp} (F : FnG P w K mg base CX j f fd ps sp) (h : j ≤ k) :
    FnG P w K mg base CX k f fd ps sp := ⟨F.len, fun A g out s H az us vs Q E room => F.go A g out s H az us vs Q E (room.mono h)⟩
/-- it runs, called from a body -/
theorem run_fnG {CX : CXT} {k : Nat} {f : Addr} {fd : FuncData} {ps : List Str} {sp : Sp} {E : L2.St → XK} {pins : List (Addr × Obj)} {σ : L2.St} {H : Hp} {s : Shared} {Q : VK} {us : List Value} {vs : List V} (F : FnG X.prog X.w X.K X.mg X.base CX k f fd ps sp)
    (g : X.A.guards = some []) (room : Room k X.A) (hb : Binds X.K fd ps []) (hx : PassesAt CX X σ (E σ)) (I : Inv X pins σ H s) (r : Vals vs us) (h : sp vs H Q (E σ)) : wpAny (model X.prog X.w) X.A (call (.ref f) us) (EP X pins σ Q) X.xe s := by
  have b : BindsTo s fd ⟨us, []⟩ (ps.zip us) := by
    have b0 := hb s us I.kIn (by rw [List.append_nil, ← r.length]; exact F.len _ _ _ _ h)
    rwa [List.append_nil] at b0
  refine wpAny_call (codeAny_mono (F.go X.A g X.stack s H ⟨us, []⟩ us vs Q (E σ) room I.env0 b r h) fun res s2 hq => ?_)
  match res, hq with
  | .error e, hq => exact hx pins H s e s2 I hq
  | .ok (.ret u), hq => exact I.after hq
  | .ok .next, hq => exact False.elim hq
  | .ok .brk, hq => exact False.elim hq
  | .ok .cont, hq => exact False.elim hq
theorem pe_callG {CX : CXT} {k : Nat} {f : Addr} {fd : FuncData} {ps : List Str} {sp : Sp} {E : L2.St → XK} {x : Str} {p : Pos} {t : TA} (F : FnG X.prog X.w X.K X.mg X.base CX k f fd ps sp) (g : X.A.guards = some []) (room : Room k X.A) (hg : Gl X x) (hm : X.mg x = some (.ref f))
    (hk : PySem.W.keepIn X.K (.ref f) = true) (hb : Binds X.K fd ps []) (hx : ∀ σ, PassesAt CX X σ (E σ)) (ha : PA X (e :: es) t) (hdb : (x == ("__debug__" : Str)) = false) (he : starEach (e :: es) X.env = (false, eval e X.env) :: starEach es X.env) (hpl : (backTo pos (starEach es X.env)).any (·.1) = false) :
    PE X (.Call (.Name x p) (e :: es) [] pos) (tCallS sp E t) := ⟨fun pins s σ H Q I h =>
  wpAny_Call_Name_kw (ld_glob I hg hm (PySem.W.callWith_K (h₀ := X.base) I.ok.mod.kin hk (thn (ha.run pos pins s σ H _ I h) fun us s2 ⟨vs, H2, I2, r, q⟩ => ⟨I2.kIn, run_fnG F g room hb (hx σ) I2 r q⟩) he hpl) hdb)⟩
/-- what a def that stands in the module promises, seen from a body -/
structure Def1 (X : Cx) (ct : Str → Option Addr) (x : Str) (fn : Fn) : Prop where
  ok : ∃ k f fd ps, FnG X.prog X.w X.K X.mg X.base (L2.CX X.prog X.w) k f fd ps (spF X.K ct fn) ∧ X.A.guards = some [] ∧ Room k X.A ∧ X.mg x = some (.ref f) ∧ PySem.W.keepIn X.K (.ref f) = true ∧ Binds X.K fd ps []
theorem f_call {x : Str} {p : Pos} {Φ : Tab} {j : Nat} {fn : Fn} (hf : Φ.fn[j]? = some fn) (D1 : Def1 X ct x fn) (hg : Gl X x) (tk : Takes X W) (ha : PA X (e :: es) (tA X.K ct W mas)) (hd : (x == ("__debug__" : Str)) = false) (hs : notStar e = true) (hss : noStars es = true) :
    PE X (.Call (.Name x p) (e :: es) [] pos) (tF X.K ct W fun ρ => (mas ρ).bind fun l ρ => callF Φ j l ρ) := by
  obtain ⟨k, f, fd, ps, F, g, hr, hm, hk, hb⟩ := D1.ok
  refine (pe_callG (E := WE W) F g hr hg hm hk hb (passAt tk) ha hd (starEach_cons hs) (back_all hss)).weak fun σ H Q q => ?_
  obtain ⟨Hf, ρ, U, R0, q⟩ := q
  exact ⟨Hf, ρ, U, R0, q.then fun as ρ1 Hf1 H1 U1 R1 S1 p1 vs n it => call_sem hf R1 S1 p1 n it⟩
theorem f_call0 {x : Str} {p : Pos} {Φ : Tab} {j : Nat} {fn : Fn} (hf : Φ.fn[j]? = some fn) (D1 : Def1 X ct x fn) (hg : Gl X x) (tk : Takes X W) (hd : (x == ("__debug__" : Str)) = false) :
    PE X (.Call (.Name x p) [] [] pos) (tF X.K ct W fun ρ => callF Φ j [] ρ) := by
  obtain ⟨k, f, fd, ps, F, g, hr, hm, hk, hb⟩ := D1.ok
  refine ⟨fun pins s σ H Q I q => ?_⟩
  refine wpAny_Call_Name_kw (ld_glob I hg hm ?_ hd)
  obtain ⟨Hf, ρ, U, R0, q⟩ := q
  exact PySem.W.callWith_K0 I.kIn hk (run_fnG (E := WE W) (us := []) F g hr hb (passAt tk σ) I .nil (call_sem hf R0 Step.refl q rfl fun i v a e => by simp at e))
end

/-! ### defs -/
def fxOf (modes : List Bool) : Fix := fun i => modes[i]? = some true
theorem start_get {N : List Str} {vs : List V} {i : Nat} {v : V} (h : vs[i]? = some v) : (L2.start N vs)[i]? = some (some v) := by
  have hi := (List.getElem?_eq_some_iff.mp h).1
  unfold L2.start
  rw [List.getElem?_append_left (by simpa using hi), List.getElem?_map, h]
  rfl
/-- a body's reading makes a def's promise -/
theorem def_sem {K : PySem.W.Frag} {ct : Str → Option Addr} {n : Nat} {modes : List Bool} {body : Env → R Fl} {N : List Str} (hn : N.length = n) (hm : modes.length ≤ n) {vs : List V} {H : Hp} {Q : VK} {E : XK} (h : spF K ct (mkFn n modes body) vs H Q E) :
    tS K ct (fun cls d _ H => E cls d H) (fxOf modes) body { nx := fun _ H' => Q .non H', rt := Q } (L2.start N vs) H := by
  obtain ⟨Hf, os, Ua, sub, hl, ow, al, h⟩ := h
  have hlo : os.length = modes.length := ow.len.symm.trans hl
  have hlv : vs.length = modes.length := hl
  simp only [mkFn] at h
  rw [if_pos hlo] at h
  let Ur0 : UU := fun i => if i < vs.length then Ua i else fun _ => False
  have fU : ∀ b, foot Ur0 b → foot Ua b := fun b ⟨i, q⟩ => by
    dsimp only [Ur0] at q
    split at q
    · exact ⟨i, q⟩
    · exact q.elim
  have R0 : Rel K Hf H (os.map some ++ List.replicate (n - os.length) none) (L2.start N vs) Ur0 := by
    refine ⟨sub, by unfold L2.start; simp only [List.length_append, List.length_map, List.length_replicate]; omega, fun i o e => ?_, fun i j b hne q1 q2 => ?_, fun i b q => ?_⟩
    · have hi : i < os.length := by
        by_cases hi : i < os.length
        · exact hi
        · rw [List.getElem?_append_right (by simpa using hi), List.getElem?_replicate] at e
          split at e <;> cases e
      rw [List.getElem?_append_left (by simpa using hi), List.getElem?_map] at e
      have hv : i < vs.length := by omega
      have eo : os[i]? = some o := by
        cases q : os[i]? with
        | none => rw [q] at e; cases e
        | some o' => rw [q] at e; cases e; rfl
      have ev : vs[i]? = some vs[i] := List.getElem?_eq_getElem hv
      refine ⟨_, start_get ev, ?_⟩
      have eU : Ur0 i = Ua i := if_pos hv
      rw [eU]
      exact ow.own i _ o ev eo
    · dsimp only [Ur0] at q1 q2
      split at q1
      · split at q2
        · exact ow.dj i j b hne q1 q2
        · exact q2.elim
      · exact q1.elim
    · dsimp only [Ur0] at q
      split at q
      · exact al i b q
      · exact q.elim
  have SA : ∀ {Hf' H' F'}, Step Hf H (foot Ur0) Hf' H' F' → Step Hf H (foot Ua) Hf' H' F' := fun S => ⟨S.mono, fun a u q => by
    rcases S.dom a u q with z | z | z
    · exact .inl z
    · exact .inr (.inl z)
    · exact .inr (.inr (fU _ z)), fun a u n q => S.frame a u (fun z => n (fU _ z)) q, fun b q => (S.foot b q).imp (fU b) id⟩
  have rfs : ∀ {ρ' : Env} {σ' : L2.St} {Hf' H' : Hp} {U' : UU}, Kept (fxOf modes) (L2.start N vs) σ' → Rel K Hf' H' ρ' σ' U' → RefsAt (refP K Hf' H' vs U') modes (refsOf ρ' modes 0) 0 := fun {ρ' σ' Hf' H' U'} k R' => by
    refine refsOf_at fun j ej o eo => ?_
    rw [Nat.zero_add] at eo ⊢
    have hj : j < vs.length := by
      have := (List.getElem?_eq_some_iff.mp ej).1
      omega
    have e1 : ρ'[j]? = some (some o) := by
      cases q : ρ'[j]? with
      | none => rw [q] at eo; cases eo
      | some w => rw [q] at eo; exact congrArg some eo
    obtain ⟨v, h1, h2⟩ := R'.own j o e1
    refine ⟨v, ?_, h2⟩
    rw [k.2 j ej, start_get (List.getElem?_eq_getElem hj)] at h1
    cases h1
    exact List.getElem?_eq_getElem hj
  refine ⟨Hf, _, Ur0, R0, ?_⟩
  cases eb : body (os.map some ++ List.replicate (n - os.length) none) with
  | bad => rw [eb] at h; exact h
  | exc x ρ' =>
    rw [eb] at h
    intro σ' Hf' H' U' k R' S cls d ex
    exact h cls d Hf' H' U' R'.sub (SA S) R'.dj R'.alive (rfs k R') ex
  | ok fl ρ' =>
    rw [eb] at h
    intro σ' Hf' H' U' k R' S
    cases fl with
    | nx => exact h .non Hf' H' U' (fun _ => False) R'.sub (SA S) R'.dj R'.alive (rfs k R') (.frz .non) fun _ q => q.elim
    | brk => exact h.elim
    | ct => exact h.elim
    | ret o =>
      intro v T ov tv
      exact h v Hf' H' U' T R'.sub (SA S) R'.dj R'.alive (rfs k R') ov fun b tb => ⟨(tv b tb).1, (tv b tb).2.1, (tv b tb).2.2.imp (fU b) id⟩
/-- a def whose object is known, from its body where no text of a row is under way -/
theorem FunD.okG {CX : CXT} {P : Program} {w : World} {K : PySem.W.Frag} {mg : Str → Option Value} {base : Heap} {x qual : Str} {params : Arguments} {body : List Stmt} {scope : Scope} {f : Addr} {fd : FuncData} {N ps : List Str} {k : Nat} {sp : Sp}
    (F : FunD K x qual params body scope [] [] f fd) (S : FnScope N ps scope) (len : ∀ vs H Q E, sp vs H Q E → vs.length = ps.length)
    (hbody : ∀ (cdv : Value) (A : Around) (out : List PySem.Env) (s : Shared) (H : Hp) (vs : List V) (Q : VK) (E : XK), (A.deeper (envOfC qual scope s.heap.objs.size f cdv)).guards = some [] → Room k (A.deeper (envOfC qual scope s.heap.objs.size f cdv)) → sp vs H Q E →
      ∃ t, PSs (cxOf CX P w K mg base N qual scope f cdv A out s H E) body t ∧ t { nx := fun _ H' => Q .non H', rt := Q } (L2.start N vs) H) : FnG P w K mg base CX (k + 1) f fd ps sp := by
  obtain ⟨oc, od, dV, kV, doc, pm, an, cdv, ct, osl, rfl, lk, hcd, _, _⟩ := F.ex
  refine ⟨len, fun A g out s H az us vs Q E room e0 hb r hsp => ?_⟩
  have kin : K.In s.heap := e0.mod.kin.keeps fun b o e => (e0.bs b o e).1
  have lim : s.heap.NoLimit := e0.mod.nolimit.keeps fun b o e => (e0.bs b o e).1
  refine codeAny_call_function room.depth (kin _ _ lk) rfl S.co S.gen rfl (PySem.W.codeRec_of kin hcd) (hb _ _ _ _ (wpAny_newFunctionEnv_cells S.kind (fun y hy => ?_) fun env he s1 x => ?_))
  · rcases S.par y.1 (List.of_mem_zip (show (y.1, y.2) ∈ _ from hy)).1 with q | q
    · exact .inl q
    · exact .inr ⟨q, PySem.W.cellsFrom_some _ _ _ (.inl q)⟩
  · subst he
    refine ⟨lim.keeps x.toInCall.keep, codeAny_func ?_⟩
    obtain ⟨t, ht, hq⟩ := hbody cdv A out s H vs Q E g (room.deeper _) hsp
    refine wpAny_mono (ht.run [] s1 (L2.start N vs) H _ (inv_start S room.hd e0 (len _ _ _ _ hsp) r x) hq) (fun fl s2 hs => ?_) fun e s2 hs => hs
    match fl, hs with
    | .ret u, ⟨v, σ2, H2, J, rv, q⟩ => exact ⟨v, H2, J.os, J.bare, J.base, J.hok, rv, q⟩
    | .next, ⟨σ2, H2, J, q⟩ => exact ⟨V.non, H2, J.os, J.bare, J.base, J.hok, rfl, q⟩
    | .brk, ⟨_, _, _, q⟩ => exact False.elim q
    | .cont, ⟨_, _, _, q⟩ => exact False.elim q
/-- THE RULE: a def, by its body's reading -/
theorem def_ok {P : Program} {w : World} {K : PySem.W.Frag} {mg : Str → Option Value} {base : Heap} {ct : Str → Option Addr} {x qual : Str} {params : Arguments} {body : List Stmt} {scope : Scope} {f : Addr} {fd : FuncData} {N ps : List Str} {k : Nat} {modes : List Bool} {mb : Env → R Fl}
    (F : FunD K x qual params body scope [] [] f fd) (S : FnScope N ps scope) (hm : modes.length = ps.length)
    (hbody : ∀ X : Cx, X.prog = P → X.w = w → X.K = K → X.mg = mg → X.base = base → X.N = N → X.env.scope = scope → X.calm = true → (∀ x, X.fn x = true) → X.A.guards = some [] → Room k X.A → ∀ W, Takes X W → PassesOwn (model X.prog X.w) X.A X.env X.xe → PSs X body (tS X.K ct W (fxOf modes) mb)) :
    FnG P w K mg base (L2.CX P w) (k + 1) f fd ps (spF K ct (mkFn N.length modes mb)) := by
  have hpl : ps.length ≤ N.length := by have := congrArg List.length S.pre; rw [List.length_take] at this; omega
  refine FunD.okG F S (fun vs H Q E h => ?_) (fun cdv A outer s H vs Q E g hr h => ⟨_, ?_, def_sem rfl (by omega) h⟩)
  · obtain ⟨Hf, os, Ua, _, hl, _⟩ := h
    exact hl.trans hm
  · exact hbody (cxOf (L2.CX P w) P w K mg base N qual scope f cdv A outer s H E) rfl rfl rfl rfl rfl rfl rfl rfl (fun _ => rfl) g hr _ (takes_of rfl rfl rfl rfl) (passes_of rfl)
end Tr
set_option Elab.async false
set_option linter.all false
set_option maxRecDepth 100000
set_option maxHeartbeats 4000000
/-! TrC15: list(reversed(a list)). -/
namespace RT
open PySem PySem.Calls PyProof.Rows PyProof
section
variable {prog : Program} {w : World} {A : Around} {E : Value → Shared → Prop} {s : Shared}
theorem extend_rev {it l S : Addr} {items : Array Value} {res : Value} {c₀ : Nat} {Q : Result → Shared → Prop} (hh : A.handled = none) (hit : s.heap.IsRevIter it l ((items.size : Int) - 1)) (hl : s.heap.IsList l items) (hne : l ≠ it) (hn : items.size ≤ sizeLine) (hSi : S ≠ it) (hSl : S ≠ l)
    (hS : s.heap.get? S = some { cls := .type "list", data := .seq #[] c₀ })
    (hQ : ∀ (s' : Shared) (acc : Array Value) (c' : Nat), (∀ b o, b ≠ it → b ≠ S → s.heap.get? b = some o → s'.heap.get? b = some o) → s' = { s with heap := s'.heap, toks := s'.toks } → s'.heap.get? S = some { cls := .type "list", dict := none, data := .seq acc c', slots := #[] } →
      ItemsOf (fun i v => items[items.size - 1 - i]? = some v) acc items.size → Q (.ok (.ret res)) s') :
    wpAny (model prog w) A.in1 (Builtin.List.listExtendWith (.ref S) (.ref it) res)
      (fun fin s' => match fin with | .done f => Q (.ok f) s' | .again c' => c'.quiet = true ∧ codeAny (model prog w) A c' Q s') (fun e s' => Q (.error e) s') s := by
  have W := (Walks.listRev (prog := prog) (w := w) (A := A.in1) hh it l hne items).toS
  have hSf : S ∉ [it, l] := by simp only [List.mem_cons, List.not_mem_nil, or_false, not_or]; exact ⟨hSi, hSl⟩
  have hT : s.TypeIs (.ref it) "list_reverseiterator" := Heap.IsRevIter.typeIs hit
  have h1 : Builtin.List.listSameRef (.ref S) (.ref it) = false := by simp [Builtin.List.listSameRef, hSi]
  unfold Builtin.List.listExtendWith
  refine wpAny_bind (wpAny_typeOf hT ?_)
  rw [if_neg (by rw [h1]; decide)]
  refine wpAny_bind (wpAny_pyIter_revIter hit ?_)
  refine wpAny_bind (wpAny_holding ?_)
  unfold Builtin.List.listLengthHint
  refine wpAny_bind (wpAny_specialOf hT nolen_lri ?_)
  show wpAny _ A.in1 (specialOf (Value.ref it) (Str.ofString "__length_hint__") >>= _) _ _ _
  refine wpAny_bind (wpAny_specialOf hT hint_lri ?_)
  generalize hid : ("list_reverseiterator.__length_hint__" : String) = id0
  wp_delta
  rw [show splitId id0 = some ("list_reverseiterator", "__length_hint__") from by subst hid; decide +kernel]
  subst hid
  refine wpAny_bind (wpAny_isInstance (b := true) hT (by rw [isSubtype_type]; kernel_rfl) ?_)
  refine wpAny_pure ?_
  rw [if_neg (by decide)]
  have e0 : ((items.size : Nat) : Int) - 1 - ((0 : Nat) : Int) = (items.size : Int) - 1 := by omega
  refine wpAny_pure ⟨plainId_quiet F.plain_extend_loop _, codeAny_extend_loopS W hn _ hSf _ items.size 0 _ _ _ rfl (Nat.zero_le _) ⟨Nat.zero_le _, by rw [e0]; exact hit, hl⟩ hS (ItemsOf.nil _) fun s' acc' c' hm hS' hacc => ?_⟩
  refine hQ s' acc' c' (fun b o h1 h2 e => hm.heap b o (fun hmem => ?_) e) (Moved.eq_with hm) hS' hacc
  rcases List.mem_cons.mp hmem with e' | hmem
  · exact h2 e'
  · exact h1 (List.mem_singleton.mp hmem)
end
end RT
namespace RT
open PySem PySem.Calls PyProof.Rows PyProof
section
variable {prog : Program} {w : World} {A : Around} {E : Value → Shared → Prop} {s : Shared}
theorem call_list_rev {it l : Addr} {items : Array Value} {Q : Value → Shared → Prop} (hh : A.handled = none) (hit : s.heap.IsRevIter it l ((items.size : Int) - 1)) (hl : s.heap.IsList l items) (hne : l ≠ it) (hn : items.size ≤ sizeLine)
    (hQ : ∀ (h' : Heap) (tk : Nat) (acc : Array Value) (c' : Nat), (∀ b o, b ≠ it → s.heap.get? b = some o → h'.get? b = some o) → h'.get? s.heap.objs.size = some { cls := .type "list", dict := none, data := .seq acc c', slots := #[] } →
      ItemsOf (fun i v => items[items.size - 1 - i]? = some v) acc items.size → Q (.ref s.heap.objs.size) { s with heap := h', toks := tk }) :
    wpAny (model prog w) A (call (.type "list") [.ref it]) Q E s := by
  obtain ⟨oi, hoi, _⟩ := id hit
  obtain ⟨ol, hol, _⟩ := id hl
  have hSi : s.heap.objs.size ≠ it := Nat.ne_of_gt (Heap.lt_size hoi)
  have hSl : s.heap.objs.size ≠ l := Nat.ne_of_gt (Heap.lt_size hol)
  refine callType_codes (Q₁ := fun obj s₁ => obj = .ref s.heap.objs.size ∧ s₁ = { s with heap := s.heap.push { cls := .type "list", data := .seq #[] } }) F.called_list (F.typeCall_list_1 _) F.entry_list_init
    (code_list_new _ ⟨rfl, rfl⟩) fun obj s₁ h₁ => ?_
  obtain ⟨rfl, rfl⟩ := h₁
  have hS : (s.heap.push { cls := .type "list", data := .seq #[] }).get? s.heap.objs.size = some { cls := .type "list", data := .seq #[] } := Heap.get?_push_size _ rfl
  refine ⟨⟨_, hS, rfl⟩, F.args_list_init_2 _ _, ?_⟩
  show wpAny _ A.in1.in1 (do let old ← Builtin.List.listItems (.ref s.heap.objs.size); Builtin.List.listUpdate (.ref s.heap.objs.size) (fun _ => #[]); letGo old.toList.reverse; Builtin.List.listExtendWith (.ref s.heap.objs.size) (.ref it) .none) _ _ _
  refine wpAny_bind ?_
  unfold Builtin.List.listItems
  refine wpAny_bind (wpAny_seqItems hS rfl (wpAny_pure ?_))
  show wpAny _ A.in1.in1 (updateSeq s.heap.objs.size (fun _ => #[]) >>= fun _ => letGo (#[] : Array Value).toList.reverse >>= fun _ => Builtin.List.listExtendWith (.ref s.heap.objs.size) (.ref it) .none) _ _ _
  refine wpAny_bind (wpAny_updateSeq hS rfl ?_)
  have hS2 := Heap.get?_update_self (Obj.mapSeq (fun _ => (#[] : Array Value))) hS rfl
  refine wpAny_bind (wpAny_letGo ?_)
  have up : ∀ b o, s.heap.get? b = some o → ((s.heap.push { cls := .type "list", data := .seq #[] }).update s.heap.objs.size (Obj.mapSeq (fun _ => (#[] : Array Value)))).get? b = some o := fun b o e =>
    (Heap.get?_update_other _ _ (Ne.symm (Nat.ne_of_lt (Heap.lt_size e)))).trans (Heap.get?_push_of_some _ e)
  refine extend_rev (s := { s with heap := _ }) (A := A.in1) hh (hit.at fun o e => up _ _ e) (hl.at fun o e => up _ o e) hne hn hSi hSl hS2 fun s' acc c' kp es hS' hacc => ?_
  refine ⟨rfl, ?_⟩
  rw [es]
  exact hQ s'.heap s'.toks acc c' (fun b o h1 e => kp b o h1 (Nat.ne_of_lt (Heap.lt_size e)) (up b o e)) hS' hacc
end
end RT
namespace Tr
open PySem PySem.Spec PyProof.Rows L2
section
variable {X : Cx} {ct : Str → Option Addr} {W : WX} {a b c e : Expr} {ma mb mc : Env → R D} {pos : Pos}
/-- list(reversed(x)), x a list: a new list -/
def tListRev (K : PySem.W.Frag) (te : TE) : TE := fun σ H Q => te σ H fun v H1 => ∃ (a : Addr) (xs : List V), v = .ref a ∧ SqL K H1 a xs ∧ ∀ q, H1 q = none → Q (.ref q) (upd H1 q (.lst xs.reverse))
theorem pe_listRev {e : Expr} {te : TE} {p p2 pos pos2 : Pos} (hc : X.calm = true) (hg : Gl X "list") (hm : X.mg "list" = none) (hg2 : Gl X "reversed") (hm2 : X.mg "reversed" = none) (he : PE X e te) (hs : notStar e = true) :
    PE X (.Call (.Name "list" p) [.Call (.Name "reversed" p2) [e] [] pos2] [] pos) (tListRev X.K te) := by
  have hs1 : starEach [e] X.env = (false, eval e X.env) :: starEach [] X.env := starEach_cons hs
  refine ⟨fun pins s σ H Q I h => ?_⟩
  refine Call_ (ld_blt I hg hm boot_list (PyProof.Rows.callWith_type1 (args_cons (Call_ (ld_blt I hg2 hm2 PyProof.Rows.boot_reversed (PyProof.Rows.callWith_type1 (args_cons (thn (he.run pins s σ H _ I h) fun u s1 ⟨v, H1, I1, r1, q1⟩ => args_nil ?_) hs1) hs1))))))
  obtain ⟨a, xs, ev, hq, q⟩ := q1
  subst ev
  obtain rfl : u = Value.ref a := r1
  obtain ⟨its, rv, p', hz⟩ := I1.list hq
  refine call_reversed_list p'.isList (args_nil ?_)
  have k0 : ∀ b o, s1.heap.get? b = some o → (s1.heap.push (revObj a ((its.toArray.size : Int) - 1))).get? b = some o := fun b o e => Heap.get?_push_of_some _ e
  have I2 : Inv X pins σ H1 { s1 with heap := s1.heap.push (revObj a ((its.toArray.size : Int) - 1)) } := I1.kept (t' := s1.toks) k0
  have fp := I1.fpOk (H' := H1) (b := s1.heap.objs.size) (Nat.le_refl _) (I1.hok.fresh (Nat.le_refl _))
  have hl := p'.isList
  obtain ⟨ol, hol, _⟩ := id hl
  have hne : a ≠ s1.heap.objs.size := Nat.ne_of_lt (Heap.lt_size hol)
  have hn : its.toArray.size ≤ sizeLine := by rw [List.size_toArray, ← rv.length]; exact hz
  refine RT.call_list_rev (s := { s1 with heap := s1.heap.push (revObj a ((its.toArray.size : Int) - 1)) }) (I1.ok.hd hc) ⟨_, Heap.get?_push_size _ rfl, rfl, rfl⟩ (hl.push _) hne hn fun h' tk acc c' hk hS hi => ?_
  have fp2 : ∀ b ∈ [s1.heap.objs.size], FpOk X pins H1 b := fun b hb => by
    have e : b = s1.heap.objs.size := by simpa using hb
    subst e
    exact fp
  have I3 := I2.turnedNew (ob := .lst xs.reverse) (t' := tk) (ch := [s1.heap.objs.size]) (T := (s1.heap.push (revObj a ((its.toArray.size : Int) - 1))).objs.size) (fun b o hb e => hk b o (by simpa using hb) e) fp2 (Nat.le_refl _)
    (show ObjOk X.prog X.w _ h' _ (.lst xs.reverse) from ⟨by rw [List.length_reverse]; exact hz, acc.toList, c', RT.vals_rev rv hi, by rw [Array.toArray_toList]; exact hS⟩)
  exact ⟨.ref _, _, I3, rfl, q _ (I2.hok.fresh (Nat.le_refl _))⟩
theorem f_rev (hc : X.calm = true) {p p2 pos2 : Pos} (bl : Blt X "list") (bl2 : Blt X "reversed") (ha : PE X a (tE X.K ct W ma)) (hs : notStar a = true) : PE X (.Call (.Name "list" p) [.Call (.Name "reversed" p2) [a] [] pos2] [] pos) (tF X.K ct W fun ρ => (ma ρ).bind fun d ρ => R.of (revO d) ρ) := by
  refine (pe_listRev hc bl.gl bl.no bl2.gl bl2.no ha hs).weak fun σ H Q h => oneF (R1' := fun x H' => ∃ (a : Addr) (xs : List V), x = .ref a ∧ SqL X.K H' a xs ∧ ∀ q, H' q = none → Q (.ref q) (upd H' q (.lst xs.reverse))) h fun d o Hf H U ρ' Hf' H' U' x R1 S1 rx e1 p => ?_
  unfold revO at e1
  split at e1 <;> first | contradiction | skip
  rename_i l
  split at e1 <;> first | contradiction | skip
  cases e1
  cases rx with
  | @lst a xs l h n it =>
    refine ⟨a, xs, rfl, SqL.of (R1.sub _ _ h), fun z hz => new_post p R1 S1 (by rw [List.length_reverse, List.length_reverse]; exact n) (fun i v d e1 e2 => ?_) hz⟩
    have hi : i < l.length := by
      have := (List.getElem?_eq_some_iff.mp e2).1
      simpa using this
    rw [List.getElem?_reverse (by omega)] at e1
    rw [List.getElem?_reverse hi] at e2
    exact it _ v d e1 (by rw [n]; exact e2)
end
end Tr
set_option Elab.async false
set_option linter.all false
set_option maxRecDepth 100000
set_option maxHeartbeats 4000000
/-! TrC16: lists of ranges, of the script; dict displays. -/
namespace Tr
open PySem PySem.Spec PyProof.Rows L2

section
variable {X : Cx} {ct : Str → Option Addr} {W : WX} {a b c : Expr} {ma mb mc : Env → R D} {pos : Pos}
theorem rgV_it {K : PySem.W.Frag} {Hf : Hp} {i : Int} {n : Nat} : ∀ (k : Nat) v d, ((List.range n).map fun (j : Nat) => V.int (i + (j : Int)))[k]? = some v → (rng i n)[k]? = some d → Rep K Hf v d := by
  intro k v d e1 e2
  unfold rng at e2
  rw [List.getElem?_map] at e1 e2
  cases e : (List.range n)[k]? with
  | none => rw [e] at e1; cases e1
  | some j => rw [e] at e1 e2; cases e1; cases e2; exact .int _
theorem f_listv {p : Pos} {s : Nat} (bl : Blt X "list") (ha : PE X a (tVar s)) (hs : notStar a = true) : PE X (.Call (.Name "list" p) [a] [] pos) (tF X.K ct W fun ρ => R.of ((ldV s ρ).bind scrO) ρ) := by
  refine (pe_callTy call_list_of bl.gl bl.no (by decide +kernel) (pa_cons ha pa_nil (starEach_cons hs)) (by decide) (by decide) (starEach_cons hs) back_nil).weak fun σ H Q q => ?_
  obtain ⟨Hf, ρ, U, R0, p⟩ := q
  obtain ⟨o', e1, _⟩ := p.of R0
  dsimp only at p
  rw [e1] at p
  rw [Option.bind_eq_some_iff] at e1
  obtain ⟨o, e2, e3⟩ := e1
  obtain ⟨v, h1, ov⟩ := R0.own _ _ (ldV_of e2)
  cases ov with
  | box => cases e3
  | frz => cases e3
  | @scr a m T hs =>
    simp only [scrO, Option.some.injEq] at e3
    subst e3
    refine ⟨_, h1, a, _, rfl, .inl (Same.seq R0.sub hs), fun z hz => ?_⟩
    have p4 : Post X.K σ Hf H U (EW X.K ct W σ) (kF X.K H U Q) (R.ok (.box ((m.map fun i => PyData.int i).map .frz)) ρ) := by
      rw [List.map_map]
      exact p
    refine new_post p4 R0 Step.refl (by simp) (fun i v d e1 e2 => ?_) hz
    rw [List.getElem?_map] at e1 e2
    cases e : m[i]? with
    | none => rw [e] at e1; cases e1
    | some k => rw [e] at e1 e2; cases e1; cases e2; exact .int k
theorem f_lrg1 (hc : X.calm = true) {p p2 pos2 : Pos} (bl : Blt X "list") (bl2 : Blt X "range") (ha : PE X a (tE X.K ct W ma)) (hs : notStar a = true) : PE X (.Call (.Name "list" p) [.Call (.Name "range" p2) [a] [] pos2] [] pos) (tF X.K ct W fun ρ => (ma ρ).bind fun d ρ => R.of (lrg1D d) ρ) := by
  refine (pe_listRg hc bl.gl bl.no (prg_1 bl2.gl bl2.no ha (starEach_cons hs)) rfl).weak fun σ H Q h => oneF (R1' := fun x H' => ∃ n, x = .int n ∧ RgOk 0 n ∧ ∀ q, H' q = none → Q (.ref q) (upd H' q (.lst (rgV 0 n)))) h fun d o Hf H U ρ' Hf' H' U' x R1 S1 rx e1 p => ?_
  cases rx <;> simp only [lrg1D, reduceCtorEq] at e1
  split at e1 <;> first | contradiction | skip
  rename_i n hn
  cases e1
  refine ⟨_, rfl, ⟨by omega, by omega, hn.1, by omega, by omega⟩, fun z hz => ?_⟩
  unfold rgV
  rw [Int.sub_zero]
  exact new_post p R1 S1 (by simp [rng]) rgV_it hz
theorem f_lrg2 (hc : X.calm = true) {p p2 pos2 : Pos} (bl : Blt X "list") (bl2 : Blt X "range") (ha : PE X a (tE X.K ct W ma)) (hb : PE X b (tE X.K ct W mb)) (hs : notStar a = true) (hs2 : notStar b = true) : PE X (.Call (.Name "list" p) [.Call (.Name "range" p2) [a, b] [] pos2] [] pos) (tF X.K ct W fun ρ => (ma ρ).bind fun d ρ => (mb ρ).bind fun e ρ => R.of (lrg2D d e) ρ) := by
  refine (pe_listRg hc bl.gl bl.no (prg_2 bl2.gl bl2.no ha hb (starEach_cons hs) (starEach_cons hs2) (back_one hs2)) rfl).weak fun σ H Q h => twoF (R2' := fun x y H' => ∃ i n, x = .int i ∧ y = .int n ∧ RgOk i n ∧ ∀ q, H' q = none → Q (.ref q) (upd H' q (.lst (rgV i n)))) h fun d e o Hf H U ρ' Hf' H' U' x y R1 S1 rx ry e1 p => ?_
  cases rx <;> cases ry <;> simp only [lrg2D, reduceCtorEq] at e1
  split at e1 <;> first | contradiction | skip
  rename_i hn
  cases e1
  obtain ⟨h1, h2, h3, h4, h5⟩ := hn
  refine ⟨_, _, rfl, rfl, ⟨h1, h2, h3, h4, h5⟩, fun z hz => ?_⟩
  unfold rgV
  exact new_post p R1 S1 (by simp [rng]) rgV_it hz

/-! ### dict displays -/
theorem dct_nil : PE X (.Dict [] [] pos) (tE X.K ct W fun ρ => R.of (dctD [] []) ρ) := pe_dnewK.weak fun σ H Q h => by
  obtain ⟨Hf, ρ, U, R0, p⟩ := h
  intro z hz
  exact p _ _ _ (R0.newF (o' := .dK []) hz) (Step.newF R0.sub hz) (.ref z) (.dct upd_same rfl rfl fun i p q e => by simp at e)
/-- the pairs of a display -/
structure DRow (X : Cx) (ct : Str → Option Addr) (W : WX) (pos : Pos) (ks : List Key) (keys : List (Option Expr)) (vs : List Expr) (m : Env → R (List D)) : Prop where
  trs : ∃ trs, PPs X pos keys vs trs ∧ ∀ σ H (Q : List (V × V) → Hp → Prop), tEs X.K ct W m σ H (fun ws H' => Q ((ks.zip ws).map fun kv => (kV kv.1, kv.2)) H') → tPairs trs σ H Q
  some : keys.all (·.isSome) = true
  len : keys.length = ks.length
  len2 : keys.length = vs.length
theorem drow_nil : DRow X ct W pos [] [] [] fun ρ => .ok [] ρ where
  trs := ⟨[], pps_nil, fun σ H Q q => by
    obtain ⟨Hf, ρ, U, R0, p⟩ := q
    exact p.ok R0 [] rfl fun i v d e => by simp at e⟩
  some := rfl
  len := rfl
  len2 := rfl
theorem drow_cons {k : Key} {ks : List Key} {ke v : Expr} {keys : List (Option Expr)} {vs : List Expr} {mm : Env → R (List D)} (hk : PE X ke (tC (kV k))) (hv : PE X v (tE X.K ct W ma)) (h : DRow X ct W pos ks keys vs mm) :
    DRow X ct W pos (k :: ks) (.some ke :: keys) (v :: vs) fun ρ => (ma ρ).bind fun d ρ => (mm ρ).bind fun l ρ => .ok (d :: l) ρ where
  trs := by
    obtain ⟨trs, h1, h2⟩ := h.trs
    refine ⟨_, pps_cons hk hv h1, fun σ H Q q => ?_⟩
    obtain ⟨Hf, ρ, U, R0, p⟩ := q
    show tE X.K ct W ma σ H _
    refine ⟨Hf, ρ, U, R0, p.then fun d ρ1 Hf1 H1 U1 R1 S1 p1 x rx => ?_⟩
    refine h2 _ _ _ ⟨Hf1, ρ1, U1, R1, p1.then fun l ρ2 Hf2 H2 U2 R2 S2 p2 vs n it => ?_⟩
    refine p2.ok R2 (x :: vs) (by simp [n]) fun i v d' e1 e2 => ?_
    cases i with
    | zero =>
      have e1' : x = v := by simpa using e1
      have e2' : d = d' := by simpa using e2
      subst e1' e2'
      exact rx.mono S2.mono
    | succ i => exact it i v d' (by simpa using e1) (by simpa using e2)
  some := by simpa using h.some
  len := by simp [h.len]
  len2 := by simp [h.len2]
theorem mergeK_nodup : ∀ (more kvs : List (Key × V)), ((kvs ++ more).map (·.1)).Nodup → mergeK kvs more = kvs ++ more
  | [], kvs, _ => by simp [mergeK]
  | p :: r, kvs, h => by
    have hp : (kvs.any fun kv => decide (kv.1 = p.1)) = false := by
      rw [List.any_eq_false]
      intro q hq hc
      have hc' : q.1 = p.1 := by simpa using hc
      rw [List.map_append, List.map_cons, List.nodup_append] at h
      exact h.2.2 q.1 (List.mem_map_of_mem hq) p.1 (by simp) hc'
    have e : putK kvs p.1 p.2 = kvs ++ [p] := by
      unfold putK
      rw [hp]
      rfl
    show mergeK (putK kvs p.1 p.2) r = _
    rw [e, mergeK_nodup r (kvs ++ [p]) (by simpa using h)]
    simp
theorem Post.shift {α : Type} {K : PySem.W.Frag} {σ : L2.St} {Hf H Hf1 H1 : Hp} {U U1 : UU} {E : Ex → Env → Hp → Hp → UU → Prop} {k : α → Env → Hp → Hp → UU → Prop} {r : R α} (h : Post K σ Hf H U E k r) (S : Step Hf H (foot U) Hf1 H1 (foot U1)) : Post K σ Hf1 H1 U1 E k r := by
  cases r with
  | bad => exact h
  | exc x ρ' => exact fun Hf' H' U' R S' => h Hf' H' U' R (S.trans S')
  | ok a ρ' => exact fun Hf' H' U' R S' => h Hf' H' U' R (S.trans S')
theorem upd_over {H : Hp} {p : Addr} {o : HO} {a : Addr} {u : HO} (h : H a = some u) (n : a ≠ p) : L2.upd H p o a = some u := by rw [upd_ne n]; exact h
/-- an object that nothing owns is written once, and stays -/
theorem Rel.fill {K : PySem.W.Frag} {Hf H : Hp} {ρ : Env} {σ : L2.St} {U : UU} {z : Addr} {o : HO} (R : Rel K Hf H ρ σ U) (h1 : Hf z = none) (h2 : ¬ foot U z) : Rel K (L2.upd Hf z o) (L2.upd H z o) ρ σ U where
  sub := fun a u q => by
    by_cases e : a = z
    · subst e; rw [upd_same] at q ⊢; exact q
    · rw [upd_ne e] at q ⊢; exact R.sub a u q
  len := R.len
  own := fun i o' e => let ⟨v, g1, g2⟩ := R.own i o' e; ⟨v, g1, g2.keep (upd_mono h1) (fun b u t q => upd_over q fun e => h2 ⟨i, by rw [← e]; exact t⟩) fun b u t q n => by
    rw [upd_ne fun e => h2 ⟨i, by rw [← e]; exact t⟩]; exact n⟩
  dj := R.dj
  alive := fun i b q z' => by
    by_cases e : b = z
    · subst e; exact h2 ⟨i, q⟩
    · rw [upd_ne e] at z'; exact R.alive i b q z'
theorem e_dct {ks : List Key} {keys : List (Option Expr)} {vs : List Expr} {mm : Env → R (List D)} (h : DRow X ct W pos ks keys vs mm) (h0 : keys ≠ []) (h15 : keys.length ≤ 15) :
    PE X (.Dict keys vs pos) (tE X.K ct W fun ρ => (mm ρ).bind fun l ρ => R.of (dctD ks l) ρ) := by
  obtain ⟨trs, h1, h2⟩ := h.trs
  refine (pe_disp h1 h.some h.len2 h0 h15).weak fun σ H Q q z hz => ?_
  obtain ⟨Hf, ρ, U, R0, p⟩ := q
  refine h2 _ _ _ ⟨Hf, ρ, U, R0.new (o' := .dK []) hz, (p.shift (Step.new hz)).bnd.mono fun l ρ1 Hf1 H1 U1 er R1 S1 p1 ws n it => ?_⟩
  have fz : Hf z = none := R0.sub.free hz
  have nu : ¬ foot U z := fun ⟨i, q⟩ => R0.alive i z q hz
  have up : L2.upd H z (.dK []) z = some (.dK []) := upd_same
  have f1 : Hf1 z = none := by
    cases e : Hf1 z with
    | none => rfl
    | some u =>
      rcases S1.dom z u e with q | q | q
      · rw [fz] at q; cases q
      · rw [up] at q; cases q
      · exact (nu q).elim
  have n1 : ¬ foot U1 z := fun q => by
    rcases S1.foot z q with q | q
    · exact nu q
    · rw [up] at q; cases q
  obtain ⟨d, e1, _⟩ := p1.of R1
  dsimp only at p
  rw [er, R.bind_ok, e1] at p
  unfold dctD at e1
  split at e1 <;> first | contradiction | skip
  rename_i hd
  obtain ⟨g1, g2, g3⟩ := hd
  cases e1
  have hw : ws.length = ks.length := n.trans g3
  have em : mergeK [] (ks.zip ws) = ks.zip ws := by
    rw [mergeK_nodup _ [] (by rw [List.nil_append, List.map_fst_zip (by omega)]; exact g1)]
    rfl
  refine ⟨S1.frame z _ nu up, ks.zip ws, rfl, by rw [List.length_zip]; omega, ?_⟩
  rw [em]
  have m1 : Same Hf1 (L2.upd Hf1 z (.dK (ks.zip ws))) := upd_mono f1
  refine p _ _ _ (R1.fill (o := .dK (ks.zip ws)) f1 n1) ?_ (.ref z) (.dct upd_same ?_ ?_ ?_)
  · exact ⟨fun a u q => m1 a u (S1.mono a u q), fun a u q => by
      by_cases e : a = z
      · subst e; exact .inr (.inl hz)
      · rw [upd_ne e] at q
        rcases S1.dom a u q with w | w | w
        · exact .inl w
        · rw [upd_ne e] at w; exact .inr (.inl w)
        · exact .inr (.inr w), fun a u na q => by
      have e : a ≠ z := fun e => by subst e; rw [hz] at q; cases q
      rw [upd_ne e]
      exact S1.frame a u na (by rw [upd_ne e]; exact q), fun a q => by
      rcases S1.foot a q with w | w
      · exact .inl w
      · by_cases e : a = z
        · subst e; exact .inr hz
        · rw [upd_ne e] at w; exact .inr w⟩
  · simp [List.length_zip, hw, g3]
  · rw [List.map_fst_zip (by simp [g3]), show (ks.zip ws).map (fun p => keyD p.1) = ((ks.zip ws).map (·.1)).map keyD by rw [List.map_map]; rfl, List.map_fst_zip (by omega)]
  · intro i p q e1 e2
    rw [List.getElem?_zip_eq_some] at e1 e2
    exact (it i _ _ e1.2 e2.2).mono m1
end
end Tr
set_option Elab.async false
set_option linter.all false
set_option maxRecDepth 100000
set_option maxHeartbeats 4000000
/-! TrC17: sets of whole numbers counted and sorted; sorted lists; tuples of ranges; lists the other way round. -/
namespace Tr
theorem nodup_dups : ∀ (n : Nat) (l : List Int), l.length ≤ n → l.eraseDups.Nodup
  | _, [], _ => by simp
  | 0, _ :: _, h => by simp at h
  | n + 1, a :: l, h => by
    rw [List.eraseDups_cons]
    refine List.nodup_cons.mpr ⟨fun q => ?_, nodup_dups n _ ?_⟩
    · rw [List.mem_eraseDups, List.mem_filter] at q
      simp at q
    · have := List.length_filter_le (fun b => !b == a) l
      simp at h
      omega
theorem dups_perm {ks r : List Int} (nd : ks.Nodup) (m : ∀ k, k ∈ ks ↔ k ∈ r) : ks.Perm r.eraseDups :=
  (List.perm_ext_iff_of_nodup nd (nodup_dups _ r (Nat.le_refl _))).mpr fun k => by rw [m, List.mem_eraseDups]
theorem dups_le (r : List Int) : r.eraseDups.length ≤ r.length :=
  (nodup_dups _ r (Nat.le_refl _)).length_le_of_subset fun k h => List.mem_eraseDups.mp h
theorem isort_perm (l : List Int) : (isort l).Perm l := List.mergeSort_perm _ _
theorem isort_le (l : List Int) : (isort l).Pairwise (· ≤ ·) :=
  (List.pairwise_mergeSort (le := fun (a b : Int) => decide (a ≤ b)) (fun a b c h1 h2 => by simp at h1 h2 ⊢; omega) (fun a b => by simp; omega) l).imp fun h => by simpa using h
theorem isort_eq {l m : List Int} (p : m.Perm l) (s : m.Pairwise (· ≤ ·)) : m = isort l :=
  List.Perm.eq_of_pairwise (fun a b _ _ h1 h2 => Int.le_antisymm h1 h2) s (isort_le l) (p.trans (isort_perm l).symm)
theorem isort_lt (r : List Int) : (isort r.eraseDups).Pairwise (· < ·) := by
  have nd : (isort r.eraseDups).Nodup := (isort_perm _).nodup_iff.mpr (nodup_dups _ r (Nat.le_refl _))
  exact ((isort_le r.eraseDups).and nd).imp fun {a b} ⟨h1, h2⟩ => by have h3 : a ≠ b := h2; omega
theorem mem_isort {r : List Int} {k : Int} : k ∈ isort r.eraseDups ↔ k ∈ r := by rw [(isort_perm _).mem_iff, List.mem_eraseDups]
end Tr
namespace RS
open PySem PySem.Calls PyProof.Rows PyProof L2
/-- the empty set that is made first -/
abbrev set0 (w : World) : Obj := { cls := .type "set", dict := none, data := .set #[] 0 (.fresh 0 0 (!w.params.followText "set-order")) }
section
variable {P : Program} {w : World} {A : Around} {E : Value → Shared → Prop} {s : Shared}
set_option maxHeartbeats 3200000 in
theorem set_of_list {l : Addr} {items : Array Value} (ns : List Int) {Q : Value → Shared → Prop} (calm : A.handled = none) (isl : s.heap.IsList l items) (isI : IntsAre items.toList ns) (few : ns.length + 1 < scanBound)
    (then_ : ∀ (h' : Heap) (tk c : Nat), SetR w h' s.heap.objs.size (fun j => decide (j ∈ ns)) c → (∀ b o, s.heap.get? b = some o → h'.get? b = some o) → Q (.ref s.heap.objs.size) { s with heap := h', toks := tk }) :
    wpAny (model P w) A (call (.type "set") [.ref l]) Q E s := by
  have sz : items.size = ns.length := by rw [← Array.length_toList]; exact IntsAre.length isI
  obtain ⟨c, tl, mro⟩ := F.called_set.mro
  have made := F.called_set.made
  have sub := F.called_set.sub
  have nt := F.called_set.notType
  have cc := F.called_set.canCreate
  have tc := F.typeCall_set_1 (.ref l)
  refine wpAny_call (codeAny_of_tree ?_)
  show wpAny _ _ (callAny (.type "set") _) _ _ _
  refine wpAny_pure ⟨Code.quiet_builtin _ (by decide +kernel), codeAny_builtin PySem.F.entry_type_call ?_⟩
  rw [Around.under_plain (weight_type_call_type "set" [.ref l] []) rfl]
  repeat (any_goals (first | assumption | wp_step))
  refine codeAny_mono (code_set_led1 (.ref l) (E := E) (Q₁ := fun obj t => obj = .ref s.heap.objs.size ∧ t = { s with heap := s.heap.push (set0 w) }) ⟨rfl, rfl⟩) fun r t hr => ?_
  cases r with
  | error e => exact hr
  | ok fl =>
    cases fl with
    | ret obj =>
      obtain ⟨rfl, rfl⟩ := hr
      have g0 : (s.heap.push (set0 w)).get? s.heap.objs.size = some (set0 w) := Heap.get?_push_size _ rfl
      have ty : Shared.TypeIs { s with heap := s.heap.push (set0 w) } (.ref s.heap.objs.size) "set" := ⟨_, g0, rfl⟩
      have li := F.called_set.init.lookup
      have bi := F.called_set.init.bind (.ref s.heap.objs.size)
      repeat (any_goals (first | assumption | wp_step))
      refine codeAny_mono (codeAny_call_builtin (R := wants (fun r t => r = .none ∧ ∃ h' tk c, t = { s with heap := h', toks := tk } ∧ SetR w h' s.heap.objs.size (fun j => decide (j ∈ ns)) c ∧ ∀ b o, s.heap.get? b = some o → h'.get? b = some o) E)
        F.called_set.init.plain F.entry_set_init (check_set_init_1 ty ?_)) fun r t hr => ?_
      · obtain ⟨⟨_, od, _, os⟩, hol, hc, nl, hd⟩ := isl
        simp only at hc hd
        subst hc hd
        have gl : (s.heap.push (set0 w)).get? l = some { cls := .type "list", dict := od, data := .seq items nl, slots := os } := Heap.get?_push_of_some _ hol
        have s1 := F.sub_list_set
        have s2 := F.sub_list_frozenset
        have ne : (Value.type "list" == Value.type "dict") = false := by decide
        have il : (s.heap.push (set0 w)).IsList l items := ⟨_, gl, rfl, nl, rfl⟩
        unfold Builtin.«set.__init__» noKeywords Builtin.Frozenset.updateFrom
        generalize hp : pyIter = pit
        wp_walk
        subst hp
        refine wpAny_pyIter_list il (wpAny_bind (wpAny_runValue ?_))
        have lt : l < s.heap.objs.size := Heap.lt_size hol
        have z1 : (s.heap.push (set0 w)).objs.size = s.heap.objs.size + 1 := Heap.size_push ..
        have nI : l ≠ (s.heap.push (set0 w)).objs.size := by rw [z1]; exact Nat.ne_of_lt (Nat.lt_succ_of_lt lt)
        have nF : s.heap.objs.size ∉ [(s.heap.push (set0 w)).objs.size, l] := by
          rw [z1]
          simp only [List.mem_cons, List.not_mem_nil, or_false, not_or]
          exact ⟨Nat.ne_of_lt (Nat.lt_succ_self _), fun q => Nat.lt_irrefl _ (q ▸ lt)⟩
        refine set_update_ints ((Walks.list (by simp [calm]) _ l nI items).toS) s.heap.objs.size nF ns sz few (fun i v hv => ?_) (items.size - 0) 0 _ (by omega) (Nat.zero_le _) ⟨⟨_, Heap.get?_push_size _ rfl, rfl, rfl⟩, il.push _⟩ ⟨0, Nat.le_refl 0, ?_⟩ fun t' c' mv _ hS => ?_
        · have hi : i < ns.length := by rw [← sz]; exact (Array.getElem?_eq_some_iff.mp hv).1
          obtain ⟨tk, e⟩ := IntsAre.int_at isI i v (by rw [Array.getElem?_toList]; exact hv)
          rw [List.getD_eq_getElem?_getD, List.getElem?_eq_getElem hi] at e
          exact ⟨ns[i], tk, List.getElem?_eq_getElem hi, e⟩
        · exact setR_new_at (Heap.get?_push_of_some _ g0)
        · obtain ⟨h', g2, d2, tk2, o2⟩ := t'
          have eg : g2 = s.gens := mv.gens
          have ed : d2 = s.drawn := mv.drawn
          have eo : o2 = s.os := mv.os
          subst eg ed eo
          show wpAny _ _ _ _ _ _
          refine wpAny_pure ?_
          show wpAny _ _ (ret Value.none) _ _ _
          refine wpAny_pure ⟨rfl, h', tk2, c', rfl, hS, fun b o e => mv.heap b o (fun hm => ?_) (Heap.get?_push_of_some _ (Heap.get?_push_of_some _ e))⟩
          have b1 : b < s.heap.objs.size := Heap.lt_size e
          rcases List.mem_cons.mp hm with q | q
          · rw [q] at b1; exact Nat.lt_irrefl _ b1
          · have q := List.mem_singleton.mp q
            rw [z1] at q
            rw [q] at b1
            exact Nat.lt_irrefl _ (Nat.lt_of_succ_lt b1)
      · cases r with
        | error e => exact hr
        | ok fl =>
          cases fl with
          | ret r =>
            obtain ⟨rfl, h', tk, c', rfl, hS, hk⟩ := hr
            repeat (any_goals (first | assumption | wp_step))
            exact then_ _ _ _ hS hk
          | _ => exact hr.elim
    | _ => exact hr.elim
end
end RS
namespace Tr
open PySem PySem.Spec PyProof.Rows L2
theorem setR_count {w : World} {h : Heap} {a : Addr} {ns : List Int} {c : Nat} (R : SetR w h a (fun j => decide (j ∈ ns)) c) : c = ns.eraseDups.length := by
  obtain ⟨o, es, ep, t, ho, hx, hd, g, nd, hm, hb, hf, hn, _⟩ := R
  have := (dups_perm nd (r := ns) fun k => by rw [← hm k]; simp).length_eq
  rw [List.length_map, Array.length_toList] at this
  omega
section
variable {X : Cx} {ct : Str → Option Addr} {W : WX} {a b c : Expr} {ma mb mc : Env → R D} {pos : Pos}
/-- set(x), x a list or a tuple of whole numbers -/
def rSetI (K : PySem.W.Frag) (w : World) : List V → Hp → VK → Prop := fun vs H Q => ∃ (a : Addr) (ns : List Int), vs = [.ref a] ∧ (SqL K H a (ns.map V.int) ∨ SqT K H a (ns.map V.int)) ∧ ns.length < 4000 ∧
  ∀ p, H p = none → Q (.ref p) (upd H p (SetO w p (fun j => decide (j ∈ ns)) ns.eraseDups.length))
theorem cr_setI (hc : X.calm = true) : CallR X (.type "set") (rSetI X.K X.w) := by
  intro pins s σ H vs us Q I r h
  obtain ⟨a, ns, rfl, hs, hl, q⟩ := h
  rw [Vals.ref1 r]
  have few : ns.length + 1 < scanBound := by unfold scanBound; omega
  have fin : ∀ (h' : Heap) (tk c : Nat), SetR X.w h' s.heap.objs.size (fun j => decide (j ∈ ns)) c → (∀ b o, s.heap.get? b = some o → h'.get? b = some o) → EP X pins σ Q (.ref s.heap.objs.size) { s with heap := h', toks := tk } := fun h' tk c R k => by
    have e := setR_count R
    subst e
    exact ⟨.ref _, _, I.laid k (Nat.le_refl _) (setO_new R), rfl, q _ (I.hok.fresh (Nat.le_refl _))⟩
  rcases hs with hs | hs
  · obtain ⟨its, rv, hi, hz⟩ := I.list hs
    exact RS.set_of_list ns (I.ok.hd hc) hi.isList (by simpa using rv.ints) few fin
  · obtain ⟨its, rv, hi, hz⟩ := I.tuple hs
    exact call_set_tupI ns (I.ok.hd hc) hi (by simpa using rv.ints) few fun h' tk c R _ k => fin h' tk c R k
/-- len(s), s such a set -/
def rLenO (w : World) : List V → Hp → VK → Prop := fun vs H Q => ∃ (a : Addr) (S : Int → Bool) (n : Nat), vs = [.ref a] ∧ H a = some (SetO w a S n) ∧ Q (.int (n : Nat)) H
theorem cr_lenO : CallR X (.builtin "len") (rLenO X.w) := by
  intro pins s σ H vs us Q I r h
  obtain ⟨a, S, n, rfl, ha, q⟩ := h
  rw [Vals.ref1 r]
  obtain ⟨o, es, ep, t, ho, hx, hd, g, nd, hm, hb, hf, hn, _⟩ := setO_get I ha
  refine call_len_set ho hx hd hf (by unfold scanBound at hb; omega) ⟨.int (n : Nat), H, I.tok _, ⟨_, by rw [hn]⟩, q⟩
theorem seq_ints {K : PySem.W.Frag} {Hf H : Hp} {x : V} {d : D} {ns : List Int} (h : Rep K Hf x d) (sub : Same Hf H) (e : (∃ l, d = .list l ∧ intsD l = some ns) ∨ ∃ l, d = .tuple l ∧ intsD l = some ns) : ∃ a, x = .ref a ∧ (SqL K H a (ns.map V.int) ∨ SqT K H a (ns.map V.int)) := by
  rcases e with ⟨l, rfl, e⟩ | ⟨l, rfl, e⟩
  · cases h with
    | lst h n it =>
      have := Rep.ints n it e
      subst this
      exact ⟨_, rfl, .inl (SqL.of (sub _ _ h))⟩
  · cases h with
    | tup h n it =>
      have := Rep.ints n it e
      subst this
      exact ⟨_, rfl, .inr (Same.seqT sub h)⟩
theorem lsetD_of {d e : D} (h : lsetD d = some e) : ∃ ns, ((∃ l, d = .list l ∧ intsD l = some ns) ∨ ∃ l, d = .tuple l ∧ intsD l = some ns) ∧ ns.length < 4000 ∧ e = .int (ns.eraseDups.length : Nat) := by
  cases d <;> simp only [lsetD, reduceCtorEq] at h
  all_goals
    rw [Option.bind_eq_some_iff] at h
    obtain ⟨r, h1, h2⟩ := h
    split at h2 <;> first | contradiction | skip
    cases h2
  · exact ⟨r, .inl ⟨_, rfl, h1⟩, by assumption, rfl⟩
  · exact ⟨r, .inr ⟨_, rfl, h1⟩, by assumption, rfl⟩
theorem sortSO_of {d : D} {o : O} (h : sortSO d = some o) : ∃ ns, ((∃ l, d = .list l ∧ intsD l = some ns) ∨ ∃ l, d = .tuple l ∧ intsD l = some ns) ∧ ns.length < 60 ∧ o = intsF (isort ns.eraseDups) := by
  cases d <;> simp only [sortSO, reduceCtorEq] at h
  all_goals
    rw [Option.bind_eq_some_iff] at h
    obtain ⟨r, h1, h2⟩ := h
    split at h2 <;> first | contradiction | skip
    cases h2
  · exact ⟨r, .inl ⟨_, rfl, h1⟩, by assumption, rfl⟩
  · exact ⟨r, .inr ⟨_, rfl, h1⟩, by assumption, rfl⟩
theorem Post.shiftO {α : Type} {K : PySem.W.Frag} {σ : L2.St} {Hf H : Hp} {U : UU} {z : Addr} {o : HO} {E : Ex → Env → Hp → Hp → UU → Prop} {k : α → Env → Hp → Hp → UU → Prop} {r : R α} (h : Post K σ Hf H U E k r) (hz : H z = none) : Post K σ Hf (upd H z o) U E k r :=
  h.shift (Step.new hz)
theorem e_lset (hc : X.calm = true) {p p2 pos2 : Pos} (bl : Blt X "len") (bl2 : Blt X "set") (ha : PE X a (tE X.K ct W ma)) (hs : notStar a = true) :
    PE X (.Call (.Name "len" p) [.Call (.Name "set" p2) [a] [] pos2] [] pos) (tE X.K ct W fun ρ => (ma ρ).bind fun d ρ => R.of (lsetD d) ρ) := by
  refine (pe_callB cr_lenO bl.gl bl.no PySem.boot_len (pa_cons (pe_callTy (cr_setI hc) bl2.gl bl2.no (by decide +kernel) (pa_cons ha pa_nil (starEach_cons hs)) (by decide) (by decide) (starEach_cons hs) back_nil) pa_nil (starEach_cons rfl)) (by decide) (by decide) (starEach_cons rfl) back_nil).weak fun σ H Q h => ?_
  obtain ⟨Hf, ρ, U, R0, p⟩ := h
  refine ⟨Hf, ρ, U, R0, p.then fun d ρ1 Hf1 H1 U1 R1 S1 p1 x rx => ?_⟩
  obtain ⟨e, e1, _⟩ := p1.of R1
  rw [e1] at p1
  obtain ⟨ns, e2, e3, rfl⟩ := lsetD_of e1
  obtain ⟨ad, rfl, sq⟩ := seq_ints rx R1.sub e2
  refine ⟨ad, ns, rfl, sq, e3, fun z hz => ⟨z, _, _, rfl, upd_same, ?_⟩⟩
  exact p1 _ _ _ (R1.new hz) (Step.new hz) _ (.int _)
theorem ints_it {K : PySem.W.Frag} {Hf : Hp} {ns : List Int} : ∀ (i : Nat) v d, (ns.map V.int)[i]? = some v → (ns.map fun i => (PyData.int i : D))[i]? = some d → Rep K Hf v d := by
  intro i v d e1 e2
  rw [List.getElem?_map] at e1 e2
  cases e : ns[i]? with
  | none => rw [e] at e1; cases e1
  | some k => rw [e] at e1 e2; cases e1; cases e2; exact .int k
theorem f_sortS (hc : X.calm = true) {p p2 pos2 : Pos} (bl : Blt X "sorted") (bl2 : Blt X "set") (ha : PE X a (tE X.K ct W ma)) (hs : notStar a = true) :
    PE X (.Call (.Name "sorted" p) [.Call (.Name "set" p2) [a] [] pos2] [] pos) (tF X.K ct W fun ρ => (ma ρ).bind fun d ρ => R.of (sortSO d) ρ) := by
  refine (pe_callB (cr_sortedSet hc) bl.gl bl.no (by decide +kernel) (pa_cons (pe_callTy (cr_setI hc) bl2.gl bl2.no (by decide +kernel) (pa_cons ha pa_nil (starEach_cons hs)) (by decide) (by decide) (starEach_cons hs) back_nil) pa_nil (starEach_cons rfl)) (by decide) (by decide) (starEach_cons rfl) back_nil).weak fun σ H Q h => ?_
  refine oneF (R1' := fun x H' => ∃ (a : Addr) (ns : List Int), [x] = [.ref a] ∧ (SqL X.K H' a (ns.map V.int) ∨ SqT X.K H' a (ns.map V.int)) ∧ ns.length < 4000 ∧ ∀ p, H' p = none → rSortedSet X.w [.ref p] (upd H' p (SetO X.w p (fun j => decide (j ∈ ns)) ns.eraseDups.length)) Q) h fun d o Hf H U ρ' Hf' H' U' x R1 S1 rx e1 p => ?_
  obtain ⟨ns, e2, e3, rfl⟩ := sortSO_of e1
  obtain ⟨ad, rfl, sq⟩ := seq_ints rx R1.sub e2
  refine ⟨ad, ns, rfl, sq, by omega, fun z hz => ⟨z, _, _, rfl, upd_same, ?_, fun ms q h1 h2 h3 hq => ?_⟩⟩
  · have := dups_le ns
    omega
  · have nd : ms.Nodup := h1.imp fun {a b} h => by omega
    have e4 : ms = isort ns.eraseDups := isort_eq (dups_perm nd fun k => by rw [h2]; simp) (h1.imp fun h => Int.le_of_lt h)
    rw [e4]
    exact new_post (p.shiftO hz) (R1.new hz) (S1.trans (Step.new hz)) (by simp) ints_it hq
theorem f_sort (hc : X.calm = true) {p : Pos} (bl : Blt X "sorted") (ha : PE X a (tE X.K ct W ma)) (hs : notStar a = true) :
    PE X (.Call (.Name "sorted" p) [a] [] pos) (tF X.K ct W fun ρ => (ma ρ).bind fun d ρ => R.of (sortO d) ρ) := by
  refine (pe_callB cr_sortedI bl.gl bl.no (by decide +kernel) (pa_cons ha pa_nil (starEach_cons hs)) (by decide) (by decide) (starEach_cons hs) back_nil).weak fun σ H Q h =>
    oneF (R1' := fun x H' => rSortedI X.K [x] H' Q) h fun d o Hf H U ρ' Hf' H' U' x R1 S1 rx e1 p => ?_
  cases d <;> simp only [sortO, reduceCtorEq] at e1
  rw [Option.map_eq_some_iff] at e1
  obtain ⟨ns, e2, rfl⟩ := e1
  obtain ⟨ad, rfl, sq⟩ := list_ints rx R1.sub e2
  refine ⟨ad, ns, rfl, sq, fun ms q h1 h2 hq => ?_⟩
  rw [isort_eq h1 h2]
  exact new_post p R1 S1 (by simp) ints_it hq
theorem e_tupRg (hc : X.calm = true) {p p2 pos2 : Pos} (bl : Blt X "tuple") (bl2 : Blt X "range") (ha : PE X a (tE X.K ct W ma)) (hs : notStar a = true) : PE X (.Call (.Name "tuple" p) [.Call (.Name "range" p2) [a] [] pos2] [] pos) (tE X.K ct W fun ρ => (ma ρ).bind fun d ρ => R.of (tupRgD d) ρ) := by
  refine (pe_tupRg hc bl.gl bl.no (prg_1 bl2.gl bl2.no ha (starEach_cons hs)) rfl).weak fun σ H Q h => ?_
  obtain ⟨Hf, ρ, U, R0, p⟩ := h
  refine ⟨Hf, ρ, U, R0, p.then fun d ρ1 Hf1 H1 U1 R1 S1 p1 x rx => ?_⟩
  obtain ⟨e, e1, _⟩ := p1.of R1
  rw [e1] at p1
  cases rx <;> simp only [tupRgD, reduceCtorEq] at e1
  split at e1 <;> first | contradiction | skip
  rename_i n hn
  cases e1
  refine ⟨_, rfl, ⟨by omega, by omega, hn.1, by omega, by omega⟩, fun z hz => ?_⟩
  have m := upd_mono (H := Hf1) (p := z) (o := .tup (rgV 0 n)) (R1.sub.free hz)
  refine p1 _ _ _ (R1.newF (o' := .tup (rgV 0 n)) hz) (Step.newF R1.sub hz) _ (.tup (SqT.of upd_same) (by simp [rng, rgV]) fun i v d e1 e2 => ?_)
  unfold rgV at e1
  rw [Int.sub_zero] at e1
  exact (rgV_it i v d e1 e2).mono m
end
end Tr
set_option Elab.async false
set_option linter.all false
set_option maxRecDepth 100000
set_option maxHeartbeats 4000000
/-! TrC18: tuples the other way round. -/
namespace RT2
open PySem PySem.Spec PyProof.Rows HT
section
variable {prog : Program} {w : World} {A : Around} {E : Value → Shared → Prop} {s : Shared}
theorem adjust_rev (n : Nat) : Builtin.Slice.sliceAdjust none none (-1) (n : Int) = ((n : Int) - 1, -1) := by
  unfold Builtin.Slice.sliceAdjust
  simp
theorem places_rev (n : Nat) : Builtin.Slice.slicePlaces ((n : Int) - 1) (-1) (-1) = n := by
  unfold Builtin.Slice.slicePlaces
  have h1 : ¬ ((-1 : Int) > 0) := by decide
  simp only [h1, if_false]
  split
  · have e : ((n : Int) - 1 - -1 - 1) / (- -1) = (n : Int) - 1 := by
      rw [show (- -1 : Int) = 1 by decide, Int.ediv_one]
      omega
    omega
  · omega
theorem sliceApplied_rev {sl : Addr} {t : Tok} {n : Nat} {Q : Int × Int × Nat → Shared → Prop} (hs : s.heap.IsSliceOf sl .none .none (.int (-1) t))
    (h : Q ((n : Int) - 1, -1, n) s) : wpAny (model prog w) A (Builtin.Slice.sliceApplied (.ref sl) (pure (n : Int))) Q E s := by
  obtain ⟨os, hos, hcs, hds⟩ := id hs
  unfold Builtin.Slice.sliceApplied Builtin.Slice.sliceFields
  refine wpAny_bind (wpAny_bind (wpAny_field hos hds (x := .none) rfl (wpAny_bind (wpAny_field hos hds (x := .none) rfl (wpAny_bind (wpAny_field hos hds (x := .int (-1) t) rfl (wpAny_pure ?_)))))))
  refine wpAny_bind (slicePart_int ?_)
  show wpAny _ _ (if ((-1 : Int) == 0) = true then _ else _) _ _ s
  rw [if_neg (by decide)]
  refine wpAny_bind (slicePart_none (wpAny_bind (slicePart_none (wpAny_bind (wpAny_pure ?_)))))
  show wpAny _ _ (match Builtin.Slice.sliceAdjust none none (-1) (n : Int) with | (lo, hi) => pure (lo, (-1 : Int), Builtin.Slice.slicePlaces lo hi (-1))) _ _ s
  rw [adjust_rev n]
  show wpAny _ _ (pure ((n : Int) - 1, (-1 : Int), Builtin.Slice.slicePlaces ((n : Int) - 1) (-1) (-1))) _ _ s
  rw [places_rev]
  exact wpAny_pure h
theorem fm_congr {α β : Type} {f g : α → Option β} : ∀ {l : List α}, (∀ x ∈ l, f x = g x) → l.filterMap f = l.filterMap g
  | [], _ => rfl
  | a :: l, h => by rw [List.filterMap_cons, List.filterMap_cons, h a List.mem_cons_self, fm_congr fun x hx => h x (List.mem_cons_of_mem _ hx)]
theorem pick_rev (xs : Array Value) : ((List.range xs.size).filterMap fun (m : Nat) => xs[((xs.size : Int) - 1 + (m : Int) * (-1)).toNat]?).toArray = xs.toList.reverse.toArray := by
  have e : (List.range xs.size).filterMap (fun (m : Nat) => xs[((xs.size : Int) - 1 + (m : Int) * (-1)).toNat]?) = ((List.range xs.size).map fun k => xs.size - 1 - k).filterMap (xs[·]?) := by
    rw [List.filterMap_map]
    refine fm_congr fun m hm => ?_
    have := List.mem_range.mp hm
    have e : ((xs.size : Int) - 1 + (m : Int) * (-1)).toNat = xs.size - 1 - m := by omega
    show xs[_]? = xs[xs.size - 1 - m]?
    rw [e]
  rw [e, PySem.W.krv_range, List.filterMap_reverse, PySem.W.krv_all]
theorem getItem_tuple_rev {t sl : Addr} {items : Array Value} {k : Tok} {Q : Value → Shared → Prop} (ht : IsTup s.heap t items) (hs : s.heap.IsSliceOf sl .none .none (.int (-1) k))
    (h : Q (.ref s.heap.objs.size) { s with heap := s.heap.push { cls := .type "tuple", data := .seq items.toList.reverse.toArray } })
    (hsz : items.size ≤ sizeLine) : wpAny (model prog w) A (getItem (.ref t) (.ref sl)) Q E s := by
  have htake : sizeOk (.seq items.toList.reverse.toArray) := by
    show items.toList.reverse.toArray.size ≤ sizeLine
    rw [List.size_toArray, List.length_reverse, Array.length_toList]
    omega
  obtain ⟨os, hos, hcs, hds⟩ := id hs
  have hTs : s.TypeIs (.ref sl) "slice" := ⟨os, hos, hcs⟩
  unfold getItem
  try with_reducible refine wpAny_holding ?_
  first | refine wpAny_bind (wpAny_pure ?_) | skip
  refine wpAny_bind (wpAny_sequenceKey ht.typeIs (by decide) ?_)
  refine wpAny_bind (wpAny_callSpecial?_slot (name := Str.ofString "__getitem__") ht.typeIs PyProof.Rows.slot_tuple_getitem
    (wpAny_call_entry PyProof.Rows.slot_tuple_getitem ht.typeIs entry_tuple_getitem ?_ (args_tuple_getitem _ _)))
  show wpAny _ _ (Builtin.Tuple.tupleItemsOf (.ref t) >>= _) _ _ s
  refine wpAny_bind (tupleItemsOf_ ht ?_)
  refine wpAny_bind (wpAny_typeOf hTs ?_)
  rw [if_pos (by decide)]
  refine wpAny_bind (sliceApplied_rev hs ?_)
  have hno : ¬ ((((items.size : Int) - 1) == 0 && (-1 : Int) == 1 && items.size == items.size) = true) := by simp
  show wpAny _ _ (if ((((items.size : Int) - 1) == 0 && (-1 : Int) == 1 && items.size == items.size) = true) then _ else _) _ _ s
  rw [if_neg hno, pick_rev]
  first
    | exact wpAny_bind (m := Builtin.Tuple.tupleExact _) (wpAny_newObj_type (wpAny_pure ⟨_, rfl, wpAny_pure h⟩) htake)
    | exact wpAny_bind (m := Builtin.Tuple.tupleExact _) (wpAny_newObj_type (wpAny_bind (wpAny_pure (wpAny_pure ⟨_, rfl, wpAny_pure h⟩))) htake)
    | exact wpAny_bind (wpAny_bind (m := Builtin.Tuple.tupleExact _) (wpAny_newObj_type (wpAny_pure (wpAny_pure ⟨_, rfl, wpAny_pure h⟩)) htake))
    | exact wpAny_bind (wpAny_bind (m := Builtin.Tuple.tupleExact _) (wpAny_newObj_type (wpAny_pure ⟨_, rfl, wpAny_pure h⟩) htake))
end
end RT2

namespace Tr
open PySem PySem.Spec PyProof.Rows L2
def tRevX (K : PySem.W.Frag) (te : TE) : TE := fun σ H Q => te σ H fun x H1 => (∃ a xs, x = .ref a ∧ SqL K H1 a xs ∧ ∀ p, H1 p = none → Q (.ref p) (upd H1 p (.lst xs.reverse))) ∨ (∃ a xs, x = .ref a ∧ SqT K H1 a xs ∧ ∀ p, H1 p = none → Q (.ref p) (upd H1 p (.tup xs.reverse)))
theorem pe_revX {X : Cx} {e : Expr} {te : TE} {k : Nat} {p1 p2 p3 pos : Pos} (he : PE X e te) : PE X (.Subscript e (.Slice none none (some (.UnaryOp .USub (.Constant (.int 1) k p1) p2)) p3) pos) (tRevX X.K te) := by
  refine ⟨fun pins s σ H Q I h => ?_⟩
  refine Subscript_ (thn (he.run pins s σ H _ I h) fun v s1 ⟨x, H1, I1, r1, q1⟩ => ?_)
  have hst : PO X (some (.UnaryOp .USub (.Constant (.int 1) k p1) p2)) (tPart (tUn (rU fun i => .int (-i)) (tC (.int 1)))) := po_some (pe_un un_neg pe_int)
  refine wpAny_Slice (thn (po_none.run pins s1 σ H1 (fun o H2 => o = none ∧ H2 = H1) I1 ⟨rfl, rfl⟩) fun vl s2 ⟨l, H2, I2, pl, el, e2⟩ => ?_)
  subst el e2
  refine thn (po_none.run pins s2 σ H2 (fun o H3 => o = none ∧ H3 = H2) I2 ⟨rfl, rfl⟩) fun vu s3 ⟨u, H3, I3, pu, eu, e3⟩ => ?_
  subst eu e3
  refine thn (hst.run pins s3 σ H3 (fun o H4 => o = some (-1) ∧ H4 = H3) I3 ⟨1, rfl, -1, rfl, rfl, rfl⟩) fun vs s4 ⟨o, H4, I4, ps, eo, e4⟩ => ?_
  subst eo e4
  have I5 : Inv X pins σ H4 { s4 with heap := s4.heap.push { cls := .type "slice", data := .fields #[vl, vu, vs] } } := I4.kept (t' := s4.toks) fun b ob q => Heap.get?_push_of_some _ q
  rcases q1 with ⟨a, xs, ex, hx, q⟩ | ⟨a, xs, ex, hx, q⟩
  · subst ex
    cases r1
    obtain ⟨its, r, ht, hz⟩ := I5.list hx
    have hlen := r.length
    show wpAny (model X.prog X.w) X.A (subscriptTail e (.Slice none none (some (.UnaryOp .USub (.Constant (.int 1) k p1) p2)) p3) (.ref a) (.ref s4.heap.objs.size)) (EP X pins σ Q) X.xe { s4 with heap := s4.heap.push { cls := .type "slice", data := .fields #[vl, vu, vs] } }
    refine tail_any (ops := [.ref a, .ref s4.heap.objs.size]) ht.isList.typeIs (PySem.slot_list_getitem.lookup) ?_ (by with_unfolding_all rfl)
    refine wpAny_getItem_list_slice ht.isList (Heap.IsSliceOf.new _ vl vu vs) pl pu ps (by decide) ?_ (by rw [List.size_toArray]; omega)
    rw [PySem.W.krv_pick]
    refine ⟨.ref _, _, I5.laid (t' := s4.toks) (o := .lst xs.reverse) (fun b ob q => Heap.get?_push_of_some _ q) (Nat.le_refl _) ?_, rfl, q _ (I5.hok.fresh (Nat.le_refl _))⟩
    exact ⟨by rw [List.length_reverse]; exact hz, _, 0, r.reverse, Heap.get?_push_size _ rfl⟩
  · subst ex
    cases r1
    cases pl
    cases pu
    obtain ⟨tk, rfl⟩ : ∃ tk, vs = .int (-1) tk := by cases ps; exact ⟨_, rfl⟩
    obtain ⟨its, r, ht, hz⟩ := I5.tuple hx
    have hlen := r.length
    show wpAny (model X.prog X.w) X.A (subscriptTail e (.Slice none none (some (.UnaryOp .USub (.Constant (.int 1) k p1) p2)) p3) (.ref a) (.ref s4.heap.objs.size)) (EP X pins σ Q) X.xe { s4 with heap := s4.heap.push { cls := .type "slice", data := .fields #[.none, .none, .int (-1) tk] } }
    refine tail_any (ops := [.ref a, .ref s4.heap.objs.size]) ht.typeIs PyProof.Rows.slot_tuple_getitem.lookup ?_ (by with_unfolding_all rfl)
    refine RT2.getItem_tuple_rev ht (Heap.IsSliceOf.new _ .none .none (.int (-1) tk)) ?_ (by rw [List.size_toArray]; omega)
    refine ⟨.ref _, _, I5.laid (t' := s4.toks) (o := .tup xs.reverse) (fun b ob q => Heap.get?_push_of_some _ q) (Nat.le_refl _) ?_, rfl, q _ (I5.hok.fresh (Nat.le_refl _))⟩
    exact ⟨by rw [List.length_reverse]; exact hz, _, r.reverse, IsTup.new _ _⟩
section
variable {X : Cx} {ct : Str → Option Addr} {W : WX} {a : Expr} {ma : Env → R D} {pos : Pos}
theorem f_revX {k : Nat} {p1 p2 p3 : Pos} (ha : PE X a (tE X.K ct W ma)) :
    PE X (.Subscript a (.Slice none none (some (.UnaryOp .USub (.Constant (.int 1) k p1) p2)) p3) pos) (tF X.K ct W fun ρ => (ma ρ).bind fun d ρ => R.of (revX d) ρ) := by
  refine (pe_revX ha).weak fun σ H Q h => oneF (R1' := fun x H' => (∃ (a : Addr) (xs : List V), x = .ref a ∧ SqL X.K H' a xs ∧ ∀ q, H' q = none → Q (.ref q) (upd H' q (.lst xs.reverse))) ∨ (∃ (a : Addr) (xs : List V), x = .ref a ∧ SqT X.K H' a xs ∧ ∀ q, H' q = none → Q (.ref q) (upd H' q (.tup xs.reverse)))) h fun d o Hf H U ρ' Hf' H' U' x R1 S1 rx e1 p => ?_
  unfold revX at e1
  split at e1 <;> first | contradiction | skip
  · rename_i l
    split at e1 <;> first | contradiction | skip
    cases e1
    cases rx with
    | @lst a xs l h n it =>
      refine .inl ⟨a, xs, rfl, SqL.of (R1.sub _ _ h), fun z hz => new_post p R1 S1 (by simp [n]) (fun i v d e1 e2 => ?_) hz⟩
      have hi : i < l.length := by
        have := (List.getElem?_eq_some_iff.mp e2).1
        simpa using this
      rw [List.getElem?_reverse (by omega)] at e1
      rw [List.getElem?_reverse hi] at e2
      exact it _ v d e1 (by rw [n]; exact e2)
  · rename_i l
    cases e1
    cases rx with
    | @tup a xs l h n it =>
      refine .inr ⟨a, xs, rfl, Same.seqT R1.sub h, fun z hz => tup_post p R1 (by simp [n]) (fun i v d e1 e2 => ?_) hz⟩
      have hi : i < l.length := by
        have := (List.getElem?_eq_some_iff.mp e2).1
        simpa using this
      rw [List.getElem?_reverse (by omega)] at e1
      rw [List.getElem?_reverse hi] at e2
      exact it _ v d e1 (by rw [n]; exact e2)
end
end Tr
set_option Elab.async false
set_option linter.all false
set_option maxRecDepth 100000
set_option maxHeartbeats 4000000
/-! TrD: the check that an IR text says what a text of the program says. -/
namespace Tr
open PySem PySem.Spec PyProof.Rows L2

/-! ### views -/
def vName : Expr → Option Str
  | .Name x _ => some x
  | _ => none
theorem vName_eq {e : Expr} {x : Str} (h : vName e = some x) : ∃ p, e = .Name x p := by
  cases e <;> first | (cases h; exact ⟨_, rfl⟩) | cases h
def vConst : Expr → Option Const
  | .Constant k _ _ => some k
  | _ => none
theorem vConst_eq {e : Expr} {x : Const} (h : vConst e = some x) : ∃ j p, e = .Constant x j p := by
  cases e <;> first | (cases h; exact ⟨_, _, rfl⟩) | cases h
def vTup : Expr → Option (List Expr)
  | .Tuple l _ _ => some l
  | _ => none
theorem vTup_eq {e : Expr} {x : List Expr} (h : vTup e = some x) : ∃ j p, e = .Tuple x j p := by
  cases e <;> first | (cases h; exact ⟨_, _, rfl⟩) | cases h
def vList : Expr → Option (List Expr)
  | .List l _ => some l
  | _ => none
theorem vList_eq {e : Expr} {x : List Expr} (h : vList e = some x) : ∃ p, e = .List x p := by
  cases e <;> first | (cases h; exact ⟨_, rfl⟩) | cases h
def vSub : Expr → Option (Expr × Expr)
  | .Subscript a b _ => some (a, b)
  | _ => none
theorem vSub_eq {e : Expr} {x : Expr × Expr} (h : vSub e = some x) : ∃ p, e = .Subscript x.1 x.2 p := by
  cases e <;> first | (cases h; exact ⟨_, rfl⟩) | cases h
def vSlice : Expr → Option (Option Expr × Option Expr)
  | .Slice lo hi none _ => some (lo, hi)
  | _ => none
theorem vSlice_eq {e : Expr} {x : Option Expr × Option Expr} (h : vSlice e = some x) : ∃ p, e = .Slice x.1 x.2 none p := by
  cases e <;> try cases h
  case Slice lo hi st p => cases st <;> first | (cases h; exact ⟨_, rfl⟩) | cases h
def vUn : Expr → Option (UnaryOp × Expr)
  | .UnaryOp o a _ => some (o, a)
  | _ => none
theorem vUn_eq {e : Expr} {x : UnaryOp × Expr} (h : vUn e = some x) : ∃ p, e = .UnaryOp x.1 x.2 p := by
  cases e <;> first | (cases h; exact ⟨_, rfl⟩) | cases h
def vBin : Expr → Option (Expr × Operator × Expr)
  | .BinOp a o b _ => some (a, o, b)
  | _ => none
theorem vBin_eq {e : Expr} {x : Expr × Operator × Expr} (h : vBin e = some x) : ∃ p, e = .BinOp x.1 x.2.1 x.2.2 p := by
  cases e <;> first | (cases h; exact ⟨_, rfl⟩) | cases h
def vCmp : Expr → Option (Expr × List CmpOp × List Expr)
  | .Compare a os bs _ => some (a, os, bs)
  | _ => none
theorem vCmp_eq {e : Expr} {x : Expr × List CmpOp × List Expr} (h : vCmp e = some x) : ∃ p, e = .Compare x.1 x.2.1 x.2.2 p := by
  cases e <;> first | (cases h; exact ⟨_, rfl⟩) | cases h
def vBool : Expr → Option (BoolOp × List Expr × Pos)
  | .BoolOp o l p => some (o, l, p)
  | _ => none
theorem vBool_eq {e : Expr} {x : BoolOp × List Expr × Pos} (h : vBool e = some x) : e = .BoolOp x.1 x.2.1 x.2.2 := by
  cases e <;> first | (cases h; rfl) | cases h
def vIf : Expr → Option (Expr × Expr × Expr)
  | .IfExp a b c _ => some (a, b, c)
  | _ => none
theorem vIf_eq {e : Expr} {x : Expr × Expr × Expr} (h : vIf e = some x) : ∃ p, e = .IfExp x.1 x.2.1 x.2.2 p := by
  cases e <;> first | (cases h; exact ⟨_, rfl⟩) | cases h
def vCall : Expr → Option (Str × List Expr)
  | .Call (.Name x _) l [] _ => some (x, l)
  | _ => none
theorem vCall_eq {e : Expr} {x : Str × List Expr} (h : vCall e = some x) : ∃ p q, e = .Call (.Name x.1 p) x.2 [] q := by
  unfold vCall at h
  split at h
  · cases h; exact ⟨_, _, rfl⟩
  · cases h
def vMeth : Expr → Option (Expr × Str × List Expr)
  | .Call (.Attribute o x ap) l [] cp => if ap.endLine == cp.line then some (o, x, l) else none
  | _ => none
theorem vMeth_eq {e : Expr} {x : Expr × Str × List Expr} (h : vMeth e = some x) : ∃ p q, e = .Call (.Attribute x.1 x.2.1 p) x.2.2 [] q ∧ (p.endLine == q.line) = true := by
  unfold vMeth at h
  split at h
  · split at h
    · rename_i hl
      cases h; exact ⟨_, _, rfl, hl⟩
    · cases h
  · cases h
def vDict : Expr → Option (List (Option Expr) × List Expr)
  | .Dict ks vs _ => some (ks, vs)
  | _ => none
theorem vDict_eq {e : Expr} {x : List (Option Expr) × List Expr} (h : vDict e = some x) : ∃ p, e = .Dict x.1 x.2 p := by
  cases e <;> first | (cases h; exact ⟨_, rfl⟩) | cases h
def isKey (k : Key) (e : Expr) : Bool := match vConst e, k with
  | some (.int i), .inl j => decide (i = j)
  | some (.str x), .inr y => decide (x = y)
  | _, _ => false
/-- [::-1] -/
def vRevS : Expr → Option Expr
  | .Subscript a (.Slice none none (some (.UnaryOp .USub (.Constant (.int 1) _ _) _)) _) _ => some a
  | _ => none
theorem vRevS_eq {e : Expr} {x : Expr} (h : vRevS e = some x) : ∃ k p1 p2 p3 p4, e = .Subscript x (.Slice none none (some (.UnaryOp .USub (.Constant (.int 1) k p1) p2)) p3) p4 := by
  unfold vRevS at h
  split at h
  · cases h; exact ⟨_, _, _, _, _, rfl⟩
  · cases h
structure VC where
  elt : Expr
  tg : Expr
  iter : Expr
  ifs : List Expr
  scope : Scope
  pos : Pos
def vComp : Expr → Option VC
  | .ListComp elt [⟨tg, iter, ifs, 0⟩] scope pos => some ⟨elt, tg, iter, ifs, scope, pos⟩
  | _ => none
theorem vComp_eq {e : Expr} {x : VC} (h : vComp e = some x) : e = .ListComp x.elt [⟨x.tg, x.iter, x.ifs, 0⟩] x.scope x.pos := by
  unfold vComp at h
  split at h
  · cases h; rfl
  · cases h
def isComp : Expr → Bool
  | .ListComp .. => true
  | .SetComp .. => true
  | .DictComp .. => true
  | _ => false
def isSet : Expr → Bool
  | .Set .. => true
  | _ => false
theorem folded_of {e : Expr} {env : PySem.Env} (h : isSet e = false) (x : Value) : foldedSetIterable e env x = pure x := by
  cases e <;> first | rfl | cases h
theorem swaps_of {e : Expr} {t : Option Expr} {l : Nat} {env : PySem.Env} (h : isComp e = false) : swapsWith e t l env = pure false := by
  cases e <;> first | rfl | cases h
theorem attr_of {x : Str} {p : Pos} {at_ : Str} {env : PySem.Env} : attributeBase (.Name x p) at_ env (eval (.Name x p) env) = eval (.Name x p) env := rfl
/-- a test that is no test by itself -/
def plainT : Expr → Bool
  | .UnaryOp .Not _ _ => false
  | .BoolOp _ _ _ => false
  | .IfExp _ _ _ _ => false
  | .Compare _ _ _ _ => false
  | _ => true
theorem isTrue_of {a : Expr} {env : PySem.Env} (h : plainT a = true) : ∀ whole, isTrue a env whole = (do let v ← whole; standAt a.pos; holding [v] (truthy v)) := by
  intro whole
  cases a with
  | UnaryOp o b p => cases o <;> first | rfl | cases h
  | BoolOp => cases h
  | IfExp => cases h
  | Compare => cases h
  | _ => rfl
def notTup : Expr → Bool
  | .Tuple .. => false
  | _ => true
theorem swapped_of {ns : List Expr} {k : Nat} {tp : Pos} {e : Expr} {env : PySem.Env} (h : notTup e = true) : swappedStores [.Tuple ns k tp] e env = pure none := by
  cases e <;> first | rfl | cases h

/-! ### what is known of a body's names -/
structure Cs where
  N : List Str
  sc : Scope
  own : Option (List (Str × NameKind))
  fns : List (Str × Nat)
  gls : List (Str × Nat)
  blts : List Str
def okName (x : Str) : Bool := !(x == ("__debug__" : Str)) && !(x == ("__classdict__" : Str))
def Cs.var (c : Cs) (i : Nat) (x : Str) : Bool := decide (c.N[i]? = some x) && okName x && (match c.sc.names.lookup x with | some .local => true | some .cell => true | some .free => true | _ => false)
def Cs.isV (c : Cs) (i : Nat) (e : Expr) : Bool := match vName e with
  | some x => c.var i x
  | none => false
/-- a name that may be stored -/
def Cs.fnx (c : Cs) (x : Str) : Bool := match c.own with
  | none => true
  | some names => names.lookup x == some .cell
def Cs.st (c : Cs) (i : Nat) (x : Str) : Bool := decide (c.N[i]? = some x) && (match c.sc.names.lookup x with | some .local => true | some .cell => c.fnx x | _ => false)
def Cs.gl (c : Cs) (x : Str) : Bool := decide (c.sc.names.lookup x = some .globalImplicit) && okName x
def Cs.blt (c : Cs) (x y : Str) : Bool := decide (y = x) && c.gl x && decide (x ∈ c.blts)
def Cs.fn (c : Cs) (x : Str) (k : Nat) : Bool := c.gl x && decide (c.fns.lookup x = some k)
def Cs.glob (c : Cs) (x : Str) (k : Nat) : Bool := c.gl x && decide (c.gls.lookup x = some k)
/-- the block's scope as it is looked into -/
def relab (sc scope : Scope) : Scope := { scope with names := scope.names.map fun (n, k) => if (k == NameKind.free && sc.kind == .function && sc.names.lookup n == some .cell) then (n, NameKind.cell) else (n, k) }
theorem relab_eq (scope : Scope) (env : PySem.Env) : relabel scope env = relab env.scope scope := rfl
def Cs.blk (c : Cs) (s : Scope) : Cs := { c with sc := relab c.sc s, own := some s.names }
def Cs.ownN (c : Cs) (own : List Nat) : List (Str × Nat) := own.map fun i => (c.N.getD i "", i)
structure Fits (X : Cx) (ct : Str → Option Addr) (W : WX) (Φ : Tab) (c : Cs) : Prop where
  N : X.N = c.N
  nd : c.N.Nodup
  sc : X.env.scope = c.sc
  calm : X.calm = true
  gds : X.A.guards = some []
  sys : SysOk X.K
  hu : X.A.units + 65 < cLine
  cel : ∀ x, c.fnx x = true → X.fn x = true
  tk : Takes X W
  fns : ∀ x k, c.fns.lookup x = some k → ∃ fn, Φ.fn[k]? = some fn ∧ Def1 X ct x fn
  gls : ∀ x k, c.gls.lookup x = some k → ∃ u v d, X.mg x = some u ∧ RelV v u ∧ (∀ H, Rep X.K H v d) ∧ Φ.gl[k]? = some d
  blts : ∀ x ∈ c.blts, X.mg x = none
section
variable {X : Cx} {ct : Str → Option Addr} {W : WX} {Φ : Tab} {c : Cs}
theorem Fits.blk (f : Fits X ct W Φ c) (scope : Scope) (s : Shared) (H : Hp) (C : Addr) (cl : List (Str × Addr)) (fp : List Addr) : Fits (blkX X scope s H C cl fp) ct WF Φ (c.blk scope) where
  N := f.N
  nd := f.nd
  sc := by
    show relab X.env.scope scope = relab c.sc scope
    rw [f.sc]
  calm := f.calm
  gds := f.gds
  sys := f.sys
  hu := f.hu
  cel := fun x h => h
  tk := fun u s' ⟨_, _, _, _, _, _, _, _, _, _, _, _, _, _, _, _, w⟩ => w.elim
  fns := fun x k h => by
    obtain ⟨fn, h1, h2⟩ := f.fns x k h
    exact ⟨fn, h1, ⟨h2.ok⟩⟩
  gls := f.gls
  blts := f.blts
theorem okName_d {x : Str} (h : okName x = true) : (x == ("__debug__" : Str)) = false ∧ (x == ("__classdict__" : Str)) = false := by
  unfold okName at h
  simp only [Bool.and_eq_true, Bool.not_eq_true'] at h
  exact h
theorem Fits.var (f : Fits X ct W Φ c) {i : Nat} {x : Str} {p : Pos} (h : c.var i x = true) : PE X (.Name x p) (tVar i) := by
  unfold Cs.var at h
  simp only [Bool.and_eq_true, decide_eq_true_eq] at h
  obtain ⟨⟨h1, h2⟩, h3⟩ := h
  obtain ⟨d1, d2⟩ := okName_d h2
  refine pe_var (by rw [f.N]; exact h1) ?_ d1 d2
  unfold Vis
  rw [f.sc]
  split at h3
  · exact .inl ‹_›
  · exact .inr (.inl ‹_›)
  · exact .inr (.inr ‹_›)
  · cases h3
theorem Fits.isV (f : Fits X ct W Φ c) {i : Nat} {e : Expr} (h : c.isV i e = true) : PE X e (tVar i) := by
  unfold Cs.isV at h
  split at h
  · rename_i x hx
    obtain ⟨p, rfl⟩ := vName_eq hx
    exact f.var h
  · cases h
theorem isV_name {i : Nat} {e : Expr} (h : c.isV i e = true) : ∃ x p, e = .Name x p := by
  unfold Cs.isV at h
  split at h
  · rename_i x hx
    obtain ⟨p, rfl⟩ := vName_eq hx
    exact ⟨x, p, rfl⟩
  · cases h
theorem Fits.st (f : Fits X ct W Φ c) {i : Nat} {x : Str} (h : c.st i x = true) : X.N[i]? = some x ∧ L2.Loc X.env.scope x ∧ (X.fn x = true ∨ X.env.scope.names.lookup x = some .local) := by
  unfold Cs.st at h
  simp only [Bool.and_eq_true, decide_eq_true_eq] at h
  obtain ⟨h1, h3⟩ := h
  rw [f.N, f.sc]
  unfold L2.Loc
  refine ⟨h1, ?_⟩
  split at h3
  · exact ⟨.inl ‹_›, .inr ‹_›⟩
  · exact ⟨.inr ‹_›, .inl (f.cel _ h3)⟩
  · cases h3
theorem Fits.gl (f : Fits X ct W Φ c) {x : Str} (h : c.gl x = true) : Gl X x ∧ (x == ("__debug__" : Str)) = false := by
  unfold Cs.gl at h
  simp only [Bool.and_eq_true, decide_eq_true_eq] at h
  refine ⟨?_, (okName_d h.2).1⟩
  unfold Gl Env.kindOf
  rw [f.sc]
  exact h.1
theorem Fits.blt (f : Fits X ct W Φ c) {x y : Str} (h : c.blt x y = true) : y = x ∧ Blt X x := by
  unfold Cs.blt at h
  simp only [Bool.and_eq_true, decide_eq_true_eq] at h
  exact ⟨h.1.1, (f.gl h.1.2).1, f.blts x h.2⟩
end
def swapped2 (c : Cs) (x y : Str) (px py : Pos) (va vb : Expr) : Bool :=
  decide (c.sc.names.lookup x = some .local) && decide (c.sc.names.lookup y = some .local) && (px.line == py.line) && decide (x ≠ y) && !(foldedForSure 8 va && foldedForSure 8 vb) && !(constantsAlone 8 va && constantsAlone 8 vb)

def swapped3 (c : Cs) (x y z : Str) (px py pz : Pos) (va vb vc : Expr) : Bool :=
  decide (c.sc.names.lookup x = some .local) && decide (c.sc.names.lookup y = some .local) && decide (c.sc.names.lookup z = some .local) && (px.line == py.line) && (px.line == pz.line) && decide (x ≠ y) && decide (x ≠ z) && decide (y ≠ z) && !(foldedForSure 8 va && foldedForSure 8 vb && foldedForSure 8 vc) && !(constantsAlone 8 va && constantsAlone 8 vb && constantsAlone 8 vc)

/-! ### the check -/
mutual
def ckQ (c : Cs) : Qx → Expr → Bool
  | .v i, e => c.isV i e
  | .int i, e => match vConst e with
    | some (.int j) => decide (i = j)
    | _ => false
  | .add a b, e => match vBin e with
    | some (x, .Add, y) => ckQ c a x && ckQ c b y
    | _ => false
  | .sub a b, e => match vBin e with
    | some (x, .Sub, y) => ckQ c a x && ckQ c b y
    | _ => false
  | .neg a, e => match vUn e with
    | some (.USub, x) => ckQ c a x
    | _ => false
  | .p p, e => ckP c p e
def ckP (c : Cs) : P → Expr → Bool
  | .v s, e => c.isV s e
  | .ix p i, e => match vSub e with
    | some (a, b) => notSlice b && ckP c p a && ckQ c i b
    | none => false
end
def ckKs (c : Cs) : List Kd → List Expr → Bool
  | [], [] => true
  | k :: ks, e :: es => (match vName e with
    | some x => c.blt (kdStr k) x
    | none => false) && ckKs c ks es
  | _, _ => false
def ckNs (c : Cs) (modes : List Bool) : List Nat → List Expr → Bool
  | [], [] => true
  | i :: is, e :: es => (match vName e with
    | some x => c.st i x && decide (modes[i]? ≠ some true)
    | none => false) && ckNs c modes is es
  | _, _ => false
def ckTg (c : Cs) (modes : List Bool) : Tg → Expr → Bool
  | .name i, e => match vName e with
    | some x => c.st i x && decide (modes[i]? ≠ some true)
    | none => false
  | .tup is, e => match vTup e with
    | some l => ckNs c modes is l
    | none => false
/-- the value of a comprehension is stored inside it -/
def swapC (c : Cs) (x : Str) (p : Pos) (v : VC) : Bool := (match c.sc.kind with | .function => true | _ => false) && decide (c.sc.names.lookup x = some .local) && (p.line == v.pos.line) && !(v.scope.names.any fun (n, k) => n == x && (k == .local || k == .cell))
mutual
def ckE (c : Cs) : E → Expr → Bool
  | .v i, e => c.isV i e
  | .int i, e => match vConst e with
    | some (.int j) => decide (i = j)
    | _ => false
  | .bl i, e => match vConst e with
    | some (.bool j) => decide (i = j)
    | _ => false
  | .non, e => match vConst e with
    | some .none => true
    | _ => false
  | .str s, e => match vConst e with
    | some (.str j) => decide (s = j)
    | _ => false
  | .glob k, e => match vName e with
    | some x => c.glob x k
    | none => false
  | .tup es, e => match vTup e with
    | some l => ckEs c es l
    | none => false
  | .dct ks es, e => match vDict e with
    | some (kes, vs) => decide (kes.length ≤ 15) && ckDs c es ks kes vs
    | none => false
  | .ix o i, e => match vSub e with
    | some (a, b) => notSlice b && ckE c o a && ckE c i b
    | none => false
  | .ix1 s i, e => match vSub e with
    | some (a, b) => notSlice b && c.isV s a && ckE c i b
    | none => false
  | .pix p, e => ckP c p e
  | .plen p, e => match vCall e with
    | some (f, [a]) => c.blt "len" f && notStar a && ckP c p a
    | _ => false
  | .ofF f, e => ckF c f e
  | .neg a, e => match vUn e with
    | some (.USub, x) => ckE c a x
    | _ => false
  | .not a, e => match vUn e with
    | some (.Not, x) => ckE c a x
    | _ => false
  | .op o a b, e => match vBin e with
    | some (x, p, y) => decide (p = bopOp o) && ckE c a x && ckE c b y
    | none => false
  | .cmp o a b, e => match vCmp e with
    | some (x, [p], [y]) => decide (p = copOp o) && !behindInMarks (copOp o) y && ckE c a x && ckE c b y
    | _ => false
  | .memS n a s, e => match vCmp e with
    | some (x, [p], [y]) => decide (p = memOp n) && !behindInMarks (memOp n) y && ckE c a x && c.isV s y
    | _ => false
  | .eqS n s b, e => match vCmp e with
    | some (x, [p], [y]) => decide (p = eqOp n) && !behindInMarks (eqOp n) y && c.isV s x && ckE c b y
    | _ => false
  | .chain o p a b d, e => match vCmp e with
    | some (x, [o', p'], [y, z]) => decide (o' = copOp o) && decide (p' = copOp p) && !lastMarks [copOp o, copOp p] [y, z] && ckE c a x && ckE c b y && ckE c d z
    | _ => false
  | .isN n a, e => match vCmp e with
    | some (x, [p], [y]) => decide (p = if n then .IsNot else .Is) && (match vConst y with | some .none => true | _ => false) && ckE c a x
    | _ => false
  | .isB n a b, e => match vCmp e with
    | some (x, [p], [y]) => decide (p = if n then .IsNot else .Is) && (match vConst y with | some (.bool b') => decide (b' = b) | _ => false) && ckE c a x
    | _ => false
  | .and a b, e => match vBool e with
    | some (.And, x :: y :: r, p) => ckE c a x && ckE c b (match r with | [] => y | _ => .BoolOp .And (y :: r) p)
    | _ => false
  | .or a b, e => match vBool e with
    | some (.Or, x :: y :: r, p) => ckE c a x && ckE c b (match r with | [] => y | _ => .BoolOp .Or (y :: r) p)
    | _ => false
  | .ife t a b, e => match vIf e with
    | some (x, y, z) => ckT c t x && ckE c a y && ckE c b z
    | none => false
  | .b1 f a, e => match vCall e with
    | some (g, [x]) => c.blt (b1Name f) g && notStar x && ckE c a x
    | _ => false
  | .b2 f a b, e => match vCall e with
    | some (g, [x, y]) => c.blt (b2Name f) g && notStar x && notStar y && ckE c a x && ckE c b y
    | _ => false
  | .isi a ks, e => match vCall e with
    | some (g, [x, y]) => c.blt "isinstance" g && notStar x && ckE c a x && (match vName y with
      | some k => (match ks with
        | [k'] => c.blt (kdStr k') k
        | _ => false)
      | none => (match vTup y with
        | some l => decide (ks.length ≤ line) && ckKs c ks l
        | none => false))
    | _ => false
  | .lset a, e => match vCall e with
    | some (g, [y]) => (match vCall y with
      | some (g2, [x]) => c.blt "len" g && c.blt "set" g2 && notStar x && ckE c a x
      | _ => false)
    | _ => false
  | .tupRg a, e => match vCall e with
    | some (g, [y]) => (match vCall y with
      | some (g2, [x]) => c.blt "tuple" g && c.blt "range" g2 && notStar x && ckE c a x
      | _ => false)
    | _ => false
def ckEs (c : Cs) : Es → List Expr → Bool
  | .nil, l => match l with
    | [] => true
    | _ => false
  | .cons e es, l => match l with
    | x :: xs => notStar x && ckE c e x && ckEs c es xs
    | [] => false
def ckDs (c : Cs) : Es → List Key → List (Option Expr) → List Expr → Bool
  | .nil, ks, kes, vs => ks.isEmpty && kes.isEmpty && vs.isEmpty
  | .cons e es, ks, kes, vs => match ks, kes, vs with
    | k :: ks, some ke :: kes, v :: vs => isKey k ke && ckE c e v && ckDs c es ks kes vs
    | _, _, _ => false
def ckF (c : Cs) : F → Expr → Bool
  | .ofE a, e => ckE c a e
  | .mv i, e => c.isV i e
  | .lst fs, e => match vList e with
    | some l => ckFs c fs l
    | none => false
  | .add a b, e => match vBin e with
    | some (x, .Add, y) => ckE c a x && ckE c b y
    | _ => false
  | .mul a b, e => match vBin e with
    | some (x, .Mult, y) => ckE c a x && ckE c b y
    | _ => false
  | .slice o lo hi, e => match vSub e with
    | some (a, b) => (match vSlice b with
      | some (l, h) => ckE c o a && ckPt c lo l && ckPt c hi h
      | none => false)
    | none => false
  | .cut s lo hi, e => match vSub e with
    | some (a, b) => (match vSlice b with
      | some (l, h) => c.isV s a && ckPt c lo l && ckPt c hi h
      | none => false)
    | none => false
  | .list a, e => match vCall e with
    | some (g, [x]) => c.blt "list" g && notStar x && ckE c a x
    | _ => false
  | .rev a, e => match vCall e with
    | some (g, [y]) => (match vCall y with
      | some (g2, [x]) => c.blt "list" g && c.blt "reversed" g2 && notStar x && ckE c a x
      | _ => false)
    | _ => false
  | .sort a, e => match vCall e with
    | some (g, [x]) => c.blt "sorted" g && notStar x && ckE c a x
    | _ => false
  | .sortS a, e => match vCall e with
    | some (g, [y]) => (match vCall y with
      | some (g2, [x]) => c.blt "sorted" g && c.blt "set" g2 && notStar x && ckE c a x
      | _ => false)
    | _ => false
  | .revL a, e => match vRevS e with
    | some x => ckE c a x
    | none => false
  | .listv s, e => match vCall e with
    | some (g, [x]) => c.blt "list" g && notStar x && c.isV s x
    | _ => false
  | .lrg1 a, e => match vCall e with
    | some (g, [y]) => (match vCall y with
      | some (g2, [x]) => c.blt "list" g && c.blt "range" g2 && notStar x && ckE c a x
      | _ => false)
    | _ => false
  | .lrg2 a b, e => match vCall e with
    | some (g, [y]) => (match vCall y with
      | some (g2, [x, z]) => c.blt "list" g && c.blt "range" g2 && notStar x && notStar z && ckE c a x && ckE c b z
      | _ => false)
    | _ => false
  | .call f as, e => match vCall e with
    | some (g, l) => c.fn g f && noStars l && ckAs c as l
    | none => false
  | .comp t it cs e own, x => match vComp x with
    | some v => ckI c it v.tg v.iter && blkC c.N c.sc v.scope (c.ownN own) && ckTg (c.blk v.scope) [] t v.tg && ckTs (c.blk v.scope) cs v.ifs && ckF (c.blk v.scope) e v.elt && (slotsT t).all (fun i => own.contains i) && !isSet v.iter
    | none => false
  | .pop s, e => match vMeth e with
    | some (o, x, []) => decide (x = "pop") && c.isV s o
    | _ => false
  | .popAt s i, e => match vMeth e with
    | some (o, x, [a]) => decide (x = "pop") && c.isV s o && notStar a && ckE c i a
    | _ => false
def ckPt (c : Cs) : Pt → Option Expr → Bool
  | .none, e => match e with
    | none => true
    | _ => false
  | .some a, e => match e with
    | some x => ckE c a x
    | none => false
def ckFs (c : Cs) : Fs → List Expr → Bool
  | .nil, l => match l with
    | [] => true
    | _ => false
  | .cons e es, l => match l with
    | x :: xs => notStar x && ckF c e x && ckFs c es xs
    | [] => false
def ckAs (c : Cs) : As → List Expr → Bool
  | .nil, l => match l with
    | [] => true
    | _ => false
  | .e a as, l => match l with
    | x :: xs => notStar x && ckE c a x && ckAs c as xs
    | [] => false
  | .r s as, l => match l with
    | x :: xs => notStar x && c.isV s x && ckAs c as xs
    | [] => false
  | .b s as, l => match l with
    | x :: xs => notStar x && c.isV s x && ckAs c as xs
    | [] => false
def ckT (c : Cs) : T → Expr → Bool
  | .cmp o a b, e => match vCmp e with
    | some (x, [p], [y]) => decide (p = copOp o) && !behindInMarks (copOp o) y && ckE c a x && ckE c b y
    | _ => false
  | .memS n a s, e => match vCmp e with
    | some (x, [p], [y]) => decide (p = memOp n) && !behindInMarks (memOp n) y && ckE c a x && c.isV s y
    | _ => false
  | .eqS n s b, e => match vCmp e with
    | some (x, [p], [y]) => decide (p = eqOp n) && !behindInMarks (eqOp n) y && c.isV s x && ckE c b y
    | _ => false
  | .chain o p a b d, e => match vCmp e with
    | some (x, [o', p'], [y, z]) => decide (o' = copOp o) && decide (p' = copOp p) && !lastMarks [copOp o, copOp p] [y, z] && ckE c a x && ckE c b y && ckE c d z
    | _ => false
  | .isN n a, e => match vCmp e with
    | some (x, [p], [y]) => decide (p = if n then .IsNot else .Is) && (match vConst y with | some .none => true | _ => false) && ckE c a x
    | _ => false
  | .isB n a b, e => match vCmp e with
    | some (x, [p], [y]) => decide (p = if n then .IsNot else .Is) && (match vConst y with | some (.bool b') => decide (b' = b) | _ => false) && ckE c a x
    | _ => false
  | .and a b, e => match vBool e with
    | some (.And, x :: y :: r, p) => ckT c a x && ckT c b (match r with | [] => y | _ => .BoolOp .And (y :: r) p)
    | _ => false
  | .or a b, e => match vBool e with
    | some (.Or, x :: y :: r, p) => ckT c a x && ckT c b (match r with | [] => y | _ => .BoolOp .Or (y :: r) p)
    | _ => false
  | .not a, e => match vUn e with
    | some (.Not, x) => ckT c a x
    | _ => false
  | .tru a, e => plainT e && ckE c a e
def ckTs (c : Cs) : Ts → List Expr → Bool
  | .nil, l => match l with
    | [] => true
    | _ => false
  | .one t, l => match l with
    | [x] => ckT c t x
    | _ => false
def ckI (c : Cs) : I → Expr → Expr → Bool
  | .seq a, _, e => ckE c a e
  | .range1 a, _, e => match vCall e with
    | some (g, [x]) => c.blt "range" g && notStar x && ckE c a x
    | _ => false
  | .range2 a b, _, e => match vCall e with
    | some (g, [x, y]) => c.blt "range" g && notStar x && notStar y && ckE c a x && ckE c b y
    | _ => false
  | .enum a, t, e => match vTup t, vCall e with
    | some _, some (g, [x]) => c.blt "enumerate" g && notStar x && ckE c a x
    | _, _ => false
  | .zip a b, t, e => match vTup t, vCall e with
    | some _, some (g, [x, y]) => c.blt "zip" g && notStar x && notStar y && ckE c a x && ckE c b y
    | _, _ => false
end
def vAssign : Stmt → Option (Expr × Expr × Pos)
  | .Assign [t] e p => some (t, e, p)
  | _ => none
theorem vAssign_eq {s : Stmt} {x : Expr × Expr × Pos} (h : vAssign s = some x) : s = .Assign [x.1] x.2.1 x.2.2 := by
  unfold vAssign at h
  split at h
  · cases h; rfl
  · cases h
def vExprS : Stmt → Option Expr
  | .Expr e _ => some e
  | _ => none
theorem vExprS_eq {s : Stmt} {x : Expr} (h : vExprS s = some x) : ∃ p, s = .Expr x p := by
  unfold vExprS at h
  split at h
  · cases h; exact ⟨_, rfl⟩
  · cases h
def vAug : Stmt → Option (Expr × Expr)
  | .AugAssign t .Add e _ => some (t, e)
  | _ => none
theorem vAug_eq {s : Stmt} {x : Expr × Expr} (h : vAug s = some x) : ∃ p, s = .AugAssign x.1 .Add x.2 p := by
  unfold vAug at h
  split at h
  · cases h; exact ⟨_, rfl⟩
  · cases h
def vIfS : Stmt → Option (Expr × List Stmt × List Stmt)
  | .If c a b _ => some (c, a, b)
  | _ => none
theorem vIfS_eq {s : Stmt} {x : Expr × List Stmt × List Stmt} (h : vIfS s = some x) : ∃ p, s = .If x.1 x.2.1 x.2.2 p := by
  unfold vIfS at h
  split at h
  · cases h; exact ⟨_, rfl⟩
  · cases h
def vFor : Stmt → Option (Expr × Expr × List Stmt)
  | .For t i b [] _ => some (t, i, b)
  | _ => none
theorem vFor_eq {s : Stmt} {x : Expr × Expr × List Stmt} (h : vFor s = some x) : ∃ p, s = .For x.1 x.2.1 x.2.2 [] p := by
  unfold vFor at h
  split at h
  · cases h; exact ⟨_, rfl⟩
  · cases h
def vWhile : Stmt → Option (Expr × List Stmt)
  | .While c b [] _ => some (c, b)
  | _ => none
theorem vWhile_eq {s : Stmt} {x : Expr × List Stmt} (h : vWhile s = some x) : ∃ p, s = .While x.1 x.2 [] p := by
  unfold vWhile at h
  split at h
  · cases h; exact ⟨_, rfl⟩
  · cases h
def vRet : Stmt → Option (Option Expr)
  | .Return e _ => some e
  | _ => none
theorem vRet_eq {s : Stmt} {x : Option Expr} (h : vRet s = some x) : ∃ p, s = .Return x p := by
  unfold vRet at h
  split at h
  · cases h; exact ⟨_, rfl⟩
  · cases h
structure VN where
  x : Str
  p : Pos
def vNm : Expr → Option VN
  | .Name x p => some ⟨x, p⟩
  | _ => none
theorem vNm_eq {e : Expr} {v : VN} (h : vNm e = some v) : e = .Name v.x v.p := by
  unfold vNm at h
  split at h
  · cases h; rfl
  · cases h
def isCompF : F → Bool
  | .comp .. => true
  | _ => false
mutual
def ckS (c : Cs) (m : List Bool) : S → Stmt → Bool
  | .set i f, st => match vAssign st with
    | some (t, e, _) => (match vNm t with
      | some v => c.st i v.x && decide (m[i]? ≠ some true) && ckF c f e && (match vComp e with
        | none => !isComp e
        | some w => !swapC c v.x v.p w || isCompF f)
      | none => false)
    | none => false
  | .unpack is a, st => match vAssign st with
    | some (t, e, _) => (match vTup t with
      | some ns => ckNs c m is ns && notTup e && ckE c a e
      | none => false)
    | none => false
  | .par i j a b, st => match vAssign st with
    | some (t, e, _) => (match vTup t, vTup e with
      | some [n1, n2], some [va, vb] => (match vNm n1, vNm n2 with
        | some x, some y => c.st i x.x && c.st j y.x && decide (i ≠ j) && decide (m[i]? ≠ some true) && decide (m[j]? ≠ some true) && notStar va && notStar vb && swapped2 c x.x y.x x.p y.p va vb && ckE c a va && ckE c b vb
        | _, _ => false)
      | _, _ => false)
    | none => false
  | .par3 i j l a b d, st => match vAssign st with
    | some (t, e, _) => (match vTup t, vTup e with
      | some [n1, n2, n3], some [va, vb, vd] => (match vNm n1, vNm n2, vNm n3 with
        | some x, some y, some z => c.st i x.x && c.st j y.x && c.st l z.x && decide (i ≠ j) && decide (i ≠ l) && decide (j ≠ l) && decide (m[i]? ≠ some true) && decide (m[j]? ≠ some true) && decide (m[l]? ≠ some true) && notStar va && notStar vb && notStar vd && swapped3 c x.x y.x z.x x.p y.p z.p va vb vd && ckE c a va && ckE c b vb && ckE c d vd
        | _, _, _ => false)
      | _, _ => false)
    | none => false
  | .insert s i a, st => match vExprS st with
    | some e => (match vMeth e with
      | some (o, x, [k, d]) => decide (x = "insert") && c.isV s o && notStar k && notStar d && ckE c i k && ckE c a d
      | _ => false)
    | none => false
  | .store s i f, st => match vAssign st with
    | some (t, e, _) => (match vSub t with
      | some (a, k) => notSlice k && c.isV s a && ckE c i k && ckF c f e
      | none => false)
    | none => false
  | .storeP p q f, st => match vAssign st with
    | some (t, e, _) => (match vSub t with
      | some (a, k) => notSlice k && ckP c p a && ckQ c q k && ckF c f e
      | none => false)
    | none => false
  | .append s f, st => match vExprS st with
    | some e => (match vMeth e with
      | some (o, x, [a]) => decide (x = "append") && c.isV s o && notStar a && ckF c f a
      | _ => false)
    | none => false
  | .extend s f, st => match vExprS st with
    | some e => (match vMeth e with
      | some (o, x, [a]) => decide (x = "extend") && c.isV s o && notStar a && ckE c f a
      | _ => false)
    | none => false
  | .reverse s, st => match vExprS st with
    | some e => (match vMeth e with
      | some (o, x, []) => decide (x = "reverse") && c.isV s o
      | _ => false)
    | none => false
  | .expr f, st => match vExprS st with
    | some e => !isComp e && ckF c f e
    | none => false
  | .aug i a, st => match vAug st with
    | some (t, e) => (match vName t with
      | some x => c.st i x && decide (m[i]? ≠ some true) && ckE c a e
      | none => false)
    | none => false
  | .ite t a b, st => match vIfS st with
    | some (x, y, z) => ckT c t x && ckSs c m a y && ckSs c m b z
    | none => false
  | .loop t it b, st => match vFor st with
    | some (g, e, l) => ckTg c m t g && ckI c it g e && ckSs c m b l && !isSet e
    | none => false
  | .whl t b, st => match vWhile st with
    | some (x, l) => ckT c t x && ckSs c m b l
    | none => false
  | .ret f, st => match vRet st with
    | some (some e) => ckF c f e
    | _ => false
  | .retN, st => match vRet st with
    | some none => true
    | _ => false
  | .pass, st => match st with
    | .Pass _ => true
    | _ => false
  | .brk, st => match st with
    | .Break _ => true
    | _ => false
  | .ct, st => match st with
    | .Continue _ => true
    | _ => false
  | .never, _ => true
def ckSs (c : Cs) (m : List Bool) : Ss → List Stmt → Bool
  | .nil, l => match l with
    | [] => true
    | _ => false
  | .cons s ss, l => match l with
    | x :: xs => ckS c m s x && ckSs c m ss xs
    | [] => false
end

/-! ### the check is sound -/
section
variable {X : Cx} {ct : Str → Option Addr} {W : WX} {Φ : Tab} {c : Cs}
mutual
theorem ckQ_ok (f : Fits X ct W Φ c) : ∀ (q : Qx) (e : Expr), ckQ c q e = true → PE X e (tQ X.K q)
  | .v i, e, h => q_v (f.isV (by simpa only [ckQ] using h))
  | .int i, e, h => by
    simp only [ckQ] at h
    split at h
    · rename_i j hj
      obtain ⟨k, p, rfl⟩ := vConst_eq hj
      have := of_decide_eq_true h
      subst this
      exact q_int
    · cases h
  | .add a b, e, h => by
    simp only [ckQ] at h
    split at h
    · rename_i x y hx
      obtain ⟨p, rfl⟩ := vBin_eq hx
      simp only [Bool.and_eq_true] at h
      exact q_add (ckQ_ok f a _ h.1) (ckQ_ok f b _ h.2)
    · cases h
  | .sub a b, e, h => by
    simp only [ckQ] at h
    split at h
    · rename_i x y hx
      obtain ⟨p, rfl⟩ := vBin_eq hx
      simp only [Bool.and_eq_true] at h
      exact q_sub (ckQ_ok f a _ h.1) (ckQ_ok f b _ h.2)
    · cases h
  | .neg a, e, h => by
    simp only [ckQ] at h
    split at h
    · rename_i x hx
      obtain ⟨p, rfl⟩ := vUn_eq hx
      exact q_neg (ckQ_ok f a _ h)
    · cases h
  | .p p, e, h => q_p (ckP_ok f p e (by simpa only [ckQ] using h)).1
theorem ckP_ok (f : Fits X ct W Φ c) : ∀ (q : P) (e : Expr), ckP c q e = true → PE X e (tP X.K q) ∧ PE X e (tBP X.K q)
  | .v i, e, h => ⟨p_v (f.isV (by simpa only [ckP] using h)), bp_v (f.isV (by simpa only [ckP] using h))⟩
  | .ix p i, e, h => by
    simp only [ckP] at h
    split at h
    · rename_i a b hx
      obtain ⟨p', rfl⟩ := vSub_eq hx
      simp only [Bool.and_eq_true] at h
      obtain ⟨h1, h2⟩ := ckP_ok f p _ h.1.2
      exact ⟨p_ix h1 (ckQ_ok f i _ h.2) h.1.1, bp_ix h2 (ckQ_ok f i _ h.2) h.1.1⟩
    · cases h
end
theorem ckKs_ok (f : Fits X ct W Φ c) : ∀ (ks : List Kd) (es : List Expr), ckKs c ks es = true → KdRow X ks es
  | [], [], h => kr_nil
  | [], _ :: _, h => by simp [ckKs] at h
  | _ :: _, [], h => by simp [ckKs] at h
  | k :: ks, e :: es, h => by
    unfold ckKs at h
    rw [Bool.and_eq_true] at h
    obtain ⟨h1, h2⟩ := h
    split at h1
    · rename_i x hx
      obtain ⟨p, rfl⟩ := vName_eq hx
      obtain ⟨rfl, b⟩ := f.blt h1
      exact kr_cons b (ckKs_ok f ks es h2)
    · cases h1
theorem ckNs_ok (f : Fits X ct W Φ c) {m : List Bool} {fx : Fix} (hfx : ∀ i, m[i]? ≠ some true → ¬ fx i) : ∀ (is : List Nat) (es : List Expr), ckNs c m is es = true → NameRow X fx is es
  | [], [], h => .nil
  | [], _ :: _, h => by simp [ckNs] at h
  | _ :: _, [], h => by simp [ckNs] at h
  | k :: ks, e :: es, h => by
    unfold ckNs at h
    rw [Bool.and_eq_true] at h
    obtain ⟨h1, h2⟩ := h
    split at h1
    · rename_i x hx
      obtain ⟨p, rfl⟩ := vName_eq hx
      rw [Bool.and_eq_true, decide_eq_true_eq] at h1
      obtain ⟨a1, a2, a3⟩ := f.st h1.1
      exact .cons a1 a2 a3 (hfx _ h1.2) (ckNs_ok f hfx ks es h2)
    · cases h1
theorem ckTg_ok (f : Fits X ct W Φ c) {m : List Bool} {fx : Fix} (hfx : ∀ i, m[i]? ≠ some true → ¬ fx i) : ∀ (t : Tg) (e : Expr), ckTg c m t e = true → TgOk X fx t e
  | .name i, e, h => by
    simp only [ckTg] at h
    split at h
    · rename_i x hx
      obtain ⟨p, rfl⟩ := vName_eq hx
      rw [Bool.and_eq_true, decide_eq_true_eq] at h
      obtain ⟨a1, a2, a3⟩ := f.st h.1
      exact .name a1 a2 a3 (hfx _ h.2)
    · cases h
  | .tup is, e, h => by
    simp only [ckTg] at h
    split at h
    · rename_i l hx
      obtain ⟨j, p, rfl⟩ := vTup_eq hx
      exact .tup (ckNs_ok f hfx is l h)
    · cases h
theorem bool_and {p : Pos} {y : Expr} {r : List Expr} {o : BoolOp} {t : TE} (h : PE X (match r with | [] => y | _ => .BoolOp o (y :: r) p) t) : PE X (.BoolOp o (y :: r) p) t := by
  cases r with
  | nil => exact pe_one h
  | cons => exact h
theorem bool_andT {p : Pos} {y : Expr} {r : List Expr} {t : TT} (h : PT X (match r with | [] => y | _ => .BoolOp .And (y :: r) p) t ∧ ((vBool (match r with | [] => y | _ => .BoolOp .And (y :: r) p)).isSome = true → PW X (match r with | [] => y | _ => .BoolOp .And (y :: r) p) t)) : PW X (.BoolOp .And (y :: r) p) t := by
  cases r with
  | nil => exact pw_and1 h.1
  | cons => exact h.2 rfl
theorem bool_orT {p : Pos} {y : Expr} {r : List Expr} {t : TT} (h : PT X (match r with | [] => y | _ => .BoolOp .Or (y :: r) p) t ∧ ((vBool (match r with | [] => y | _ => .BoolOp .Or (y :: r) p)).isSome = true → PW X (match r with | [] => y | _ => .BoolOp .Or (y :: r) p) t)) : PW X (.BoolOp .Or (y :: r) p) t := by
  cases r with
  | nil => exact pw_or1 h.1
  | cons => exact h.2 rfl
theorem cmp_noB {a : Expr} {os : List CmpOp} {bs : List Expr} {p : Pos} {q : Prop} (h : (vBool (.Compare a os bs p)).isSome = true) : q := by cases h
theorem un_noB {o : UnaryOp} {a : Expr} {p : Pos} {q : Prop} (h : (vBool (.UnaryOp o a p)).isSome = true) : q := by cases h
theorem plain_noB {a : Expr} {q : Prop} (hp : plainT a = true) (h : (vBool a).isSome = true) : q := by
  cases a with
  | BoolOp => simp [plainT] at hp
  | _ => cases h
theorem own_map (c : Cs) (own : List Nat) : (c.ownN own).map (·.2) = own := by
  unfold Cs.ownN
  induction own with
  | nil => rfl
  | cons i r ih => rw [List.map_cons, List.map_cons, ih]
end
end Tr
set_option Elab.async false
set_option linter.all false
set_option maxRecDepth 100000
set_option maxHeartbeats 4000000
/-! TrE: the check is sound. -/
namespace Tr
open PySem PySem.Spec PyProof.Rows L2
theorem isSome_none {α : Type} {o : Option α} (h : o = none) : o.isSome = true → False := by rw [h]; exact fun q => by cases q
theorem fx_none : ∀ i, ([] : List Bool)[i]? ≠ some true → ¬ (fun _ : Nat => False) i := fun _ _ q => q
abbrev PTW (X : Cx) (e : Expr) (t : TT) : Prop := PT X e t ∧ ((vBool e).isSome = true → PW X e t)
theorem ptw_cmp {X : Cx} {a : Expr} {os : List CmpOp} {bs : List Expr} {p : Pos} {t : TT} (h : PT X (.Compare a os bs p) t) : PTW X (.Compare a os bs p) t := ⟨h, fun q => cmp_noB q⟩
theorem isKey_ok {X : Cx} {k : Key} {e : Expr} (h : isKey k e = true) : PE X e (tC (kV k)) := by
  unfold isKey at h
  split at h
  · rename_i i j hc
    obtain ⟨q, p, rfl⟩ := vConst_eq hc
    simp only [decide_eq_true_eq] at h
    subst h
    exact pe_int
  · rename_i i j hc
    obtain ⟨q, p, rfl⟩ := vConst_eq hc
    simp only [decide_eq_true_eq] at h
    subst h
    exact pe_str
  · cases h
mutual
theorem ckE_ok {Φ : Tab} : ∀ (m : E) {X : Cx} {ct : Str → Option Addr} {W : WX} {c : Cs} (f : Fits X ct W Φ c) (e : Expr), ckE c m e = true → PE X e (tE X.K ct W (m.sem Φ))
  | .v i, X, ct, W, c, f, e, h => e_v (f.isV h)
  | .int i, X, ct, W, c, f, e, h => by
    simp only [ckE] at h
    split at h
    · rename_i j hj
      obtain ⟨k, p, rfl⟩ := vConst_eq hj
      have := of_decide_eq_true h
      subst this
      exact e_int
    · cases h
  | .bl i, X, ct, W, c, f, e, h => by
    simp only [ckE] at h
    split at h
    · rename_i j hj
      obtain ⟨k, p, rfl⟩ := vConst_eq hj
      have := of_decide_eq_true h
      subst this
      exact e_bl
    · cases h
  | .non, X, ct, W, c, f, e, h => by
    simp only [ckE] at h
    split at h
    · rename_i hj
      obtain ⟨k, p, rfl⟩ := vConst_eq hj
      exact e_non
    · cases h
  | .str i, X, ct, W, c, f, e, h => by
    simp only [ckE] at h
    split at h
    · rename_i j hj
      obtain ⟨k, p, rfl⟩ := vConst_eq hj
      have := of_decide_eq_true h
      subst this
      exact e_str
    · cases h
  | .glob k, X, ct, W, c, f, e, h => by
    simp only [ckE] at h
    split at h
    · rename_i x hx
      obtain ⟨p, rfl⟩ := vName_eq hx
      unfold Cs.glob at h
      rw [Bool.and_eq_true, decide_eq_true_eq] at h
      obtain ⟨u, v, d, h1, h2, h3, h4⟩ := f.gls _ _ h.2
      exact e_glob (f.gl h.1).1 h1 h2 h3 h4 (f.gl h.1).2
    · cases h
  | .tup es, X, ct, W, c, f, e, h => by
    simp only [ckE] at h
    split at h
    · rename_i l hx
      obtain ⟨j, p, rfl⟩ := vTup_eq hx
      exact e_tup (ckEs_ok es f l h)
    · cases h
  | .dct ks es, X, ct, W, c, f, e, h => by
    simp only [ckE] at h
    split at h
    · rename_i kes vs hx
      obtain ⟨p, rfl⟩ := vDict_eq hx
      simp only [Bool.and_eq_true, decide_eq_true_eq] at h
      have d : DRow X ct W p ks kes vs (es.sem Φ) := ckDs_ok es f ks kes vs h.2
      by_cases h0 : kes = []
      · subst h0
        have e1 : ks = [] := List.eq_nil_of_length_eq_zero (by rw [← d.len]; rfl)
        have e2 : vs = [] := List.eq_nil_of_length_eq_zero (by rw [← d.len2]; rfl)
        subst e1
        subst e2
        cases es with
        | nil => exact dct_nil
        | cons _ _ => simp [ckDs] at h
      · exact e_dct d h0 h.1
    · cases h
  | .ix o i, X, ct, W, c, f, e, h => by
    simp only [ckE] at h
    split at h
    · rename_i a b hx
      obtain ⟨p, rfl⟩ := vSub_eq hx
      simp only [Bool.and_eq_true] at h
      exact e_ix (ckE_ok o f a h.1.2) (ckE_ok i f b h.2) h.1.1
    · cases h
  | .ix1 s i, X, ct, W, c, f, e, h => by
    simp only [ckE] at h
    split at h
    · rename_i a b hx
      obtain ⟨p, rfl⟩ := vSub_eq hx
      simp only [Bool.and_eq_true] at h
      exact e_ix1 (f.isV h.1.2) (ckE_ok i f b h.2) h.1.1
    · cases h
  | .pix p, X, ct, W, c, f, e, h => e_pix (ckP_ok f p e h).1
  | .plen p, X, ct, W, c, f, e, h => by
    simp only [ckE] at h
    split at h
    · rename_i g a hx
      obtain ⟨p1, p2, rfl⟩ := vCall_eq hx
      simp only [Bool.and_eq_true] at h
      obtain ⟨e1, b⟩ := f.blt h.1.1
      dsimp only at e1 ⊢
      subst e1
      exact e_plen b (ckP_ok f p a h.2).1 h.1.2
    · cases h
  | .ofF a, X, ct, W, c, f, e, h => e_ofF (ckF_ok a f e h)
  | .neg a, X, ct, W, c, f, e, h => by
    simp only [ckE] at h
    split at h
    · rename_i x hx
      obtain ⟨p, rfl⟩ := vUn_eq hx
      exact e_neg (ckE_ok a f x h)
    · cases h
  | .not a, X, ct, W, c, f, e, h => by
    simp only [ckE] at h
    split at h
    · rename_i x hx
      obtain ⟨p, rfl⟩ := vUn_eq hx
      exact e_not (ckE_ok a f x h)
    · cases h
  | .op o a b, X, ct, W, c, f, e, h => by
    simp only [ckE] at h
    split at h
    · rename_i x p y hx
      obtain ⟨q, rfl⟩ := vBin_eq hx
      simp only [Bool.and_eq_true, decide_eq_true_eq] at h
      obtain ⟨⟨e1, h1⟩, h2⟩ := h
      dsimp only at e1 ⊢
      subst e1
      exact e_op o (ckE_ok a f x h1) (ckE_ok b f y h2)
    · cases h
  | .cmp o a b, X, ct, W, c, f, e, h => by
    simp only [ckE] at h
    split at h
    · rename_i x p y hx
      obtain ⟨q, rfl⟩ := vCmp_eq hx
      simp only [Bool.and_eq_true, decide_eq_true_eq, Bool.not_eq_true'] at h
      obtain ⟨⟨⟨e1, h0⟩, h1⟩, h2⟩ := h
      dsimp only at e1 ⊢
      subst e1
      exact e_cmp f.hu o (ckE_ok a f x h1) (ckE_ok b f y h2) h0
    · cases h
  | .memS n a s, X, ct, W, c, f, e, h => by
    simp only [ckE] at h
    split at h
    · rename_i x p y hx
      obtain ⟨q, rfl⟩ := vCmp_eq hx
      simp only [Bool.and_eq_true, decide_eq_true_eq, Bool.not_eq_true'] at h
      obtain ⟨⟨⟨e1, h0⟩, h1⟩, h2⟩ := h
      dsimp only at e1 ⊢
      subst e1
      exact e_memS f.hu (ckE_ok a f x h1) (f.isV h2) h0
    · cases h
  | .eqS n s b, X, ct, W, c, f, e, h => by
    simp only [ckE] at h
    split at h
    · rename_i x p y hx
      obtain ⟨q, rfl⟩ := vCmp_eq hx
      simp only [Bool.and_eq_true, decide_eq_true_eq, Bool.not_eq_true'] at h
      obtain ⟨⟨⟨e1, h0⟩, h1⟩, h2⟩ := h
      dsimp only at e1 ⊢
      subst e1
      exact e_eqS f.hu (f.isV h1) (ckE_ok b f y h2) h0
    · cases h
  | .chain o p a b d, X, ct, W, c, f, e, h => by
    simp only [ckE] at h
    split at h
    · rename_i x o' p' y z hx
      obtain ⟨q, rfl⟩ := vCmp_eq hx
      simp only [Bool.and_eq_true, decide_eq_true_eq, Bool.not_eq_true'] at h
      obtain ⟨⟨⟨⟨⟨e1, e2⟩, h0⟩, h1⟩, h2⟩, h3⟩ := h
      dsimp only at e1 e2 ⊢
      subst e1
      subst e2
      exact e_chain f.hu o p (ckE_ok a f x h1) (ckE_ok b f y h2) (ckE_ok d f z h3) h0
    · cases h
  | .isN n a, X, ct, W, c, f, e, h => by
    simp only [ckE] at h
    split at h
    · rename_i x p y hx
      obtain ⟨q, rfl⟩ := vCmp_eq hx
      simp only [Bool.and_eq_true, decide_eq_true_eq] at h
      obtain ⟨⟨e1, h0⟩, h1⟩ := h
      dsimp only at e1 ⊢
      subst e1
      split at h0
      · rename_i hk
        obtain ⟨j, p2, rfl⟩ := vConst_eq hk
        exact e_isN (ckE_ok a f x h1)
      · cases h0
    · cases h
  | .isB n a b, X, ct, W, c, f, e, h => by
    simp only [ckE] at h
    split at h
    · rename_i x p y hx
      obtain ⟨q, rfl⟩ := vCmp_eq hx
      simp only [Bool.and_eq_true, decide_eq_true_eq] at h
      obtain ⟨⟨e1, h0⟩, h1⟩ := h
      dsimp only at e1 ⊢
      subst e1
      split at h0
      · rename_i b' hk
        obtain ⟨j, p2, rfl⟩ := vConst_eq hk
        have e2 := of_decide_eq_true h0
        subst e2
        exact e_isB (ckE_ok a f x h1)
      · cases h0
    · cases h
  | .and a b, X, ct, W, c, f, e, h => by
    simp only [ckE] at h
    split at h
    · rename_i x y r p hx
      have e0 := vBool_eq hx
      subst e0
      simp only [Bool.and_eq_true] at h
      exact e_and (ckE_ok a f x h.1) (bool_and (ckE_ok b f _ h.2))
    · cases h
  | .or a b, X, ct, W, c, f, e, h => by
    simp only [ckE] at h
    split at h
    · rename_i x y r p hx
      have e0 := vBool_eq hx
      subst e0
      simp only [Bool.and_eq_true] at h
      exact e_or (ckE_ok a f x h.1) (bool_and (ckE_ok b f _ h.2))
    · cases h
  | .ife t a b, X, ct, W, c, f, e, h => by
    simp only [ckE] at h
    split at h
    · rename_i x y z hx
      obtain ⟨q, rfl⟩ := vIf_eq hx
      simp only [Bool.and_eq_true] at h
      exact e_ife (ckT_ok t f x h.1.1).1 (ckE_ok a f y h.1.2) (ckE_ok b f z h.2)
    · cases h
  | .b1 g a, X, ct, W, c, f, e, h => by
    simp only [ckE] at h
    split at h
    · rename_i gn x hx
      obtain ⟨p1, p2, rfl⟩ := vCall_eq hx
      simp only [Bool.and_eq_true] at h
      obtain ⟨e1, b⟩ := f.blt h.1.1
      dsimp only at e1 ⊢
      subst e1
      exact e_b1 f.gds f.hu f.sys f.calm b (ckE_ok a f x h.2) h.1.2
    · cases h
  | .lset a, X, ct, W, c, f, e, h => by
    simp only [ckE] at h
    split at h
    · rename_i gn y hx
      obtain ⟨p1, p2, rfl⟩ := vCall_eq hx
      split at h
      · rename_i gn2 x hy
        obtain ⟨p3, p4, e3⟩ := vCall_eq hy
        dsimp only at e3
        subst e3
        simp only [Bool.and_eq_true] at h
        obtain ⟨e1, b⟩ := f.blt h.1.1.1
        obtain ⟨e2, b2⟩ := f.blt h.1.1.2
        dsimp only at e1 e2 ⊢
        subst e1
        subst e2
        exact e_lset f.calm b b2 (ckE_ok a f x h.2) h.1.2
      · cases h
    · cases h
  | .tupRg a, X, ct, W, c, f, e, h => by
    simp only [ckE] at h
    split at h
    · rename_i gn y hx
      obtain ⟨p1, p2, rfl⟩ := vCall_eq hx
      split at h
      · rename_i gn2 x hy
        obtain ⟨p3, p4, e3⟩ := vCall_eq hy
        dsimp only at e3
        subst e3
        simp only [Bool.and_eq_true] at h
        obtain ⟨e1, b⟩ := f.blt h.1.1.1
        obtain ⟨e2, b2⟩ := f.blt h.1.1.2
        dsimp only at e1 e2 ⊢
        subst e1
        subst e2
        exact e_tupRg f.calm b b2 (ckE_ok a f x h.2) h.1.2
      · cases h
    · cases h
  | .b2 g a b, X, ct, W, c, f, e, h => by
    simp only [ckE] at h
    split at h
    · rename_i gn x y hx
      obtain ⟨p1, p2, rfl⟩ := vCall_eq hx
      simp only [Bool.and_eq_true] at h
      obtain ⟨e1, bl⟩ := f.blt h.1.1.1.1
      dsimp only at e1 ⊢
      subst e1
      exact e_b2 f.calm bl (ckE_ok a f x h.1.2) (ckE_ok b f y h.2) h.1.1.1.2 h.1.1.2
    · cases h
  | .isi a ks, X, ct, W, c, f, e, h => by
    simp only [ckE] at h
    split at h
    · rename_i gn x y hx
      obtain ⟨p1, p2, rfl⟩ := vCall_eq hx
      simp only [Bool.and_eq_true] at h
      obtain ⟨⟨⟨h1, h2⟩, h3⟩, h4⟩ := h
      obtain ⟨e1, bl⟩ := f.blt h1
      dsimp only at e1 ⊢
      subst e1
      split at h4
      · rename_i k hk
        obtain ⟨q, rfl⟩ := vName_eq hk
        split at h4
        · obtain ⟨e2, bk⟩ := f.blt h4
          subst e2
          exact e_isi1 bl bk (ckE_ok a f x h3) h2
        · cases h4
      · rename_i hk
        split at h4
        · rename_i l hl
          obtain ⟨j, q, rfl⟩ := vTup_eq hl
          simp only [Bool.and_eq_true, decide_eq_true_eq] at h4
          exact e_isi bl (ckKs_ok f ks l h4.2) h4.1 (ckE_ok a f x h3) h2
        · cases h4
    · cases h
theorem ckEs_ok {Φ : Tab} : ∀ (m : Es) {X : Cx} {ct : Str → Option Addr} {W : WX} {c : Cs} (f : Fits X ct W Φ c) (l : List Expr), ckEs c m l = true → PA X l (tEs X.K ct W (m.sem Φ))
  | .nil, X, ct, W, c, f, [], h => a_nil
  | .nil, X, ct, W, c, f, _ :: _, h => by simp [ckEs] at h
  | .cons _ _, X, ct, W, c, f, [], h => by simp [ckEs] at h
  | .cons a as, X, ct, W, c, f, x :: xs, h => by
    simp only [ckEs, Bool.and_eq_true] at h
    exact a_cons (ckE_ok a f x h.1.2) (ckEs_ok as f xs h.2) h.1.1
theorem ckDs_ok {Φ : Tab} : ∀ (m : Es) {X : Cx} {ct : Str → Option Addr} {W : WX} {c : Cs} (f : Fits X ct W Φ c) {p : Pos} (ks : List Key) (kes : List (Option Expr)) (vs : List Expr), ckDs c m ks kes vs = true → DRow X ct W p ks kes vs (m.sem Φ)
  | .nil, X, ct, W, c, f, p, ks, kes, vs, h => by
    simp only [ckDs, Bool.and_eq_true, List.isEmpty_iff] at h
    obtain ⟨⟨rfl, rfl⟩, rfl⟩ := h
    exact drow_nil
  | .cons e es, X, ct, W, c, f, p, ks, kes, vs, h => by
    simp only [ckDs] at h
    split at h
    · rename_i k ks ke kes v vs
      simp only [Bool.and_eq_true] at h
      exact drow_cons (isKey_ok h.1.1) (ckE_ok e f v h.1.2) (ckDs_ok es f ks kes vs h.2)
    · cases h
theorem ckF_ok {Φ : Tab} : ∀ (m : F) {X : Cx} {ct : Str → Option Addr} {W : WX} {c : Cs} (f : Fits X ct W Φ c) (e : Expr), ckF c m e = true → PE X e (tF X.K ct W (m.sem Φ))
  | .ofE a, X, ct, W, c, f, e, h => f_ofE (ckE_ok a f e h)
  | .mv i, X, ct, W, c, f, e, h => f_mv (f.isV h)
  | .lst fs, X, ct, W, c, f, e, h => by
    simp only [ckF] at h
    split at h
    · rename_i l hx
      obtain ⟨p, rfl⟩ := vList_eq hx
      exact f_lst (ckFs_ok fs f l h)
    · cases h
  | .add a b, X, ct, W, c, f, e, h => by
    simp only [ckF] at h
    split at h
    · rename_i x y hx
      obtain ⟨q, rfl⟩ := vBin_eq hx
      simp only [Bool.and_eq_true] at h
      exact f_add (ckE_ok a f x h.1) (ckE_ok b f y h.2)
    · cases h
  | .mul a b, X, ct, W, c, f, e, h => by
    simp only [ckF] at h
    split at h
    · rename_i x y hx
      obtain ⟨q, rfl⟩ := vBin_eq hx
      simp only [Bool.and_eq_true] at h
      exact f_mul (ckE_ok a f x h.1) (ckE_ok b f y h.2)
    · cases h
  | .slice o lo hi, X, ct, W, c, f, e, h => by
    simp only [ckF] at h
    split at h
    · rename_i a b hx
      obtain ⟨p, rfl⟩ := vSub_eq hx
      split at h
      · rename_i l u hy
        obtain ⟨q, e2⟩ := vSlice_eq hy
        dsimp only at e2 ⊢
        subst e2
        simp only [Bool.and_eq_true] at h
        exact f_slice (ckE_ok o f a h.1.1) (ckPt_ok lo f l h.1.2) (ckPt_ok hi f u h.2)
      · cases h
    · cases h
  | .cut s lo hi, X, ct, W, c, f, e, h => by
    simp only [ckF] at h
    split at h
    · rename_i a b hx
      obtain ⟨p, rfl⟩ := vSub_eq hx
      split at h
      · rename_i l u hy
        obtain ⟨q, e2⟩ := vSlice_eq hy
        dsimp only at e2 ⊢
        subst e2
        simp only [Bool.and_eq_true] at h
        exact f_cut (f.isV h.1.1) (ckPt_ok lo f l h.1.2) (ckPt_ok hi f u h.2)
      · cases h
    · cases h
  | .list a, X, ct, W, c, f, e, h => by
    simp only [ckF] at h
    split at h
    · rename_i gn x hx
      obtain ⟨p1, p2, rfl⟩ := vCall_eq hx
      simp only [Bool.and_eq_true] at h
      obtain ⟨e1, b⟩ := f.blt h.1.1
      dsimp only at e1 ⊢
      subst e1
      exact f_list b (ckE_ok a f x h.2) h.1.2
    · cases h
  | .rev a, X, ct, W, c, f, e, h => by
    simp only [ckF] at h
    split at h
    · rename_i gn y hx
      obtain ⟨p1, p2, rfl⟩ := vCall_eq hx
      split at h
      · rename_i gn2 x hy
        obtain ⟨p3, p4, e3⟩ := vCall_eq hy
        dsimp only at e3
        subst e3
        simp only [Bool.and_eq_true] at h
        obtain ⟨e1, b⟩ := f.blt h.1.1.1
        obtain ⟨e2, b2⟩ := f.blt h.1.1.2
        dsimp only at e1 e2 ⊢
        subst e1
        subst e2
        exact f_rev f.calm b b2 (ckE_ok a f x h.2) h.1.2
      · cases h
    · cases h
  | .sortS a, X, ct, W, c, f, e, h => by
    simp only [ckF] at h
    split at h
    · rename_i gn y hx
      obtain ⟨p1, p2, rfl⟩ := vCall_eq hx
      split at h
      · rename_i gn2 x hy
        obtain ⟨p3, p4, e3⟩ := vCall_eq hy
        dsimp only at e3
        subst e3
        simp only [Bool.and_eq_true] at h
        obtain ⟨e1, b⟩ := f.blt h.1.1.1
        obtain ⟨e2, b2⟩ := f.blt h.1.1.2
        dsimp only at e1 e2 ⊢
        subst e1
        subst e2
        exact f_sortS f.calm b b2 (ckE_ok a f x h.2) h.1.2
      · cases h
    · cases h
  | .sort a, X, ct, W, c, f, e, h => by
    simp only [ckF] at h
    split at h
    · rename_i gn x hx
      obtain ⟨p1, p2, rfl⟩ := vCall_eq hx
      simp only [Bool.and_eq_true] at h
      obtain ⟨e1, b⟩ := f.blt h.1.1
      dsimp only at e1 ⊢
      subst e1
      exact f_sort f.calm b (ckE_ok a f x h.2) h.1.2
    · cases h
  | .revL a, X, ct, W, c, f, e, h => by
    simp only [ckF] at h
    split at h
    · rename_i x hx
      obtain ⟨k, p1, p2, p3, p4, rfl⟩ := vRevS_eq hx
      exact f_revX (ckE_ok a f x h)
    · cases h
  | .listv s, X, ct, W, c, f, e, h => by
    simp only [ckF] at h
    split at h
    · rename_i gn x hx
      obtain ⟨p1, p2, rfl⟩ := vCall_eq hx
      simp only [Bool.and_eq_true] at h
      obtain ⟨e1, b⟩ := f.blt h.1.1
      dsimp only at e1 ⊢
      subst e1
      exact f_listv b (f.isV h.2) h.1.2
    · cases h
  | .lrg1 a, X, ct, W, c, f, e, h => by
    simp only [ckF] at h
    split at h
    · rename_i gn y hx
      obtain ⟨p1, p2, rfl⟩ := vCall_eq hx
      split at h
      · rename_i gn2 x hy
        obtain ⟨p3, p4, e3⟩ := vCall_eq hy
        dsimp only at e3
        subst e3
        simp only [Bool.and_eq_true] at h
        obtain ⟨e1, b⟩ := f.blt h.1.1.1
        obtain ⟨e2, b2⟩ := f.blt h.1.1.2
        dsimp only at e1 e2 ⊢
        subst e1
        subst e2
        exact f_lrg1 f.calm b b2 (ckE_ok a f x h.2) h.1.2
      · cases h
    · cases h
  | .lrg2 a a2, X, ct, W, c, f, e, h => by
    simp only [ckF] at h
    split at h
    · rename_i gn y hx
      obtain ⟨p1, p2, rfl⟩ := vCall_eq hx
      split at h
      · rename_i gn2 x z hy
        obtain ⟨p3, p4, e3⟩ := vCall_eq hy
        dsimp only at e3
        subst e3
        simp only [Bool.and_eq_true] at h
        obtain ⟨⟨⟨⟨⟨h1, h2⟩, h3⟩, h4⟩, h5⟩, h6⟩ := h
        obtain ⟨e1, b⟩ := f.blt h1
        obtain ⟨e2, b2⟩ := f.blt h2
        dsimp only at e1 e2 ⊢
        subst e1
        subst e2
        exact f_lrg2 f.calm b b2 (ckE_ok a f x h5) (ckE_ok a2 f z h6) h3 h4
      · cases h
    · cases h
  | .call k as, X, ct, W, c, f, e, h => by
    simp only [ckF] at h
    split at h
    · rename_i gn l hx
      obtain ⟨p1, p2, rfl⟩ := vCall_eq hx
      simp only [Bool.and_eq_true, Cs.fn, decide_eq_true_eq] at h
      obtain ⟨⟨⟨h1, h2⟩, h3⟩, h4⟩ := h
      obtain ⟨fn, e1, e2⟩ := f.fns _ _ h2
      obtain ⟨g1, g2⟩ := f.gl h1
      cases l with
      | nil =>
        cases as with
        | nil => exact f_call0 e1 e2 g1 f.tk g2
        | e _ _ => simp [ckAs] at h4
        | r _ _ => simp [ckAs] at h4
        | b _ _ => simp [ckAs] at h4
      | cons x xs =>
        have hs : notStar x = true ∧ noStars xs = true := by
          unfold noStars at h3 ⊢
          rw [List.all_cons, Bool.and_eq_true] at h3
          exact h3
        exact f_call e1 e2 g1 f.tk (ckAs_ok as f _ h4) g2 hs.1 hs.2
    · cases h
  | .comp t it cs el own, X, ct, W, c, f, e, h => by
    simp only [ckF] at h
    split at h
    · rename_i v hx
      have e0 := vComp_eq hx
      subst e0
      simp only [Bool.and_eq_true, Bool.not_eq_true'] at h
      obtain ⟨⟨⟨⟨⟨⟨h1, h2⟩, h3⟩, h4⟩, h5⟩, h6⟩, h7⟩ := h
      have q := f_comp (W := W) (ct := ct) (pos := v.pos) f.calm (by rw [f.N]; exact f.nd) (ckI_ok it f _ _ h1) (by rw [f.N, f.sc]; exact blkOk_by h2)
        (fun s H C cl fp => ckTg_ok (f.blk v.scope s H C cl fp) fx_none _ _ h3) (fun s H C cl fp => ckTs_ok cs (f.blk v.scope s H C cl fp) _ h4) (fun s H C cl fp => ckF_ok el (f.blk v.scope s H C cl fp) _ h5)
        (by rw [own_map]; intro i hi; have := List.all_eq_true.mp h6 i hi; simpa using this) (folded_of h7)
      rw [own_map] at q
      exact q
    · cases h
  | .pop s, X, ct, W, c, f, e, h => by
    simp only [ckF] at h
    split at h
    · rename_i o x hx
      obtain ⟨p, q, rfl, hl⟩ := vMeth_eq hx
      simp only [Bool.and_eq_true, decide_eq_true_eq] at h
      obtain ⟨e1, h1⟩ := h
      dsimp only at e1 hl ⊢
      subst e1
      obtain ⟨y, p2, rfl⟩ := isV_name h1
      exact f_pop (f.isV h1) attr_of hl
    · cases h
  | .popAt s i, X, ct, W, c, f, e, h => by
    simp only [ckF] at h
    split at h
    · rename_i o x a hx
      obtain ⟨p, q, rfl, hl⟩ := vMeth_eq hx
      simp only [Bool.and_eq_true, decide_eq_true_eq] at h
      obtain ⟨⟨⟨e1, h1⟩, h2⟩, h3⟩ := h
      dsimp only at e1 hl ⊢
      subst e1
      obtain ⟨y, p2, rfl⟩ := isV_name h1
      exact f_popAt (f.isV h1) (ckE_ok i f a h3) attr_of hl h2
    · cases h
theorem ckPt_ok {Φ : Tab} : ∀ (m : Pt) {X : Cx} {ct : Str → Option Addr} {W : WX} {c : Cs} (f : Fits X ct W Φ c) (e : Option Expr), ckPt c m e = true → PO X e (tPt X.K ct W (m.sem Φ))
  | .none, X, ct, W, c, f, none, h => part_none
  | .none, X, ct, W, c, f, some _, h => by simp [ckPt] at h
  | .some _, X, ct, W, c, f, none, h => by simp [ckPt] at h
  | .some a, X, ct, W, c, f, some x, h => by
    simp only [ckPt] at h
    exact part_some (ckE_ok a f x h)
theorem ckFs_ok {Φ : Tab} : ∀ (m : Fs) {X : Cx} {ct : Str → Option Addr} {W : WX} {c : Cs} (f : Fits X ct W Φ c) (l : List Expr), ckFs c m l = true → PA X l (tFs X.K ct W (m.sem Φ))
  | .nil, X, ct, W, c, f, [], h => fs_nil
  | .nil, X, ct, W, c, f, _ :: _, h => by simp [ckFs] at h
  | .cons _ _, X, ct, W, c, f, [], h => by simp [ckFs] at h
  | .cons a as, X, ct, W, c, f, x :: xs, h => by
    simp only [ckFs, Bool.and_eq_true] at h
    exact fs_cons (ckF_ok a f x h.1.2) (ckFs_ok as f xs h.2) h.1.1
theorem ckAs_ok {Φ : Tab} : ∀ (m : As) {X : Cx} {ct : Str → Option Addr} {W : WX} {c : Cs} (f : Fits X ct W Φ c) (l : List Expr), ckAs c m l = true → PA X l (tA X.K ct W (m.sem Φ))
  | .nil, X, ct, W, c, f, [], h => ag_nil
  | .nil, X, ct, W, c, f, _ :: _, h => by simp [ckAs] at h
  | .e _ _, X, ct, W, c, f, [], h => by simp [ckAs] at h
  | .r _ _, X, ct, W, c, f, [], h => by simp [ckAs] at h
  | .b _ _, X, ct, W, c, f, [], h => by simp [ckAs] at h
  | .e a as, X, ct, W, c, f, x :: xs, h => by
    simp only [ckAs, Bool.and_eq_true] at h
    exact ag_e (ckE_ok a f x h.1.2) (ckAs_ok as f xs h.2) h.1.1
  | .r s as, X, ct, W, c, f, x :: xs, h => by
    simp only [ckAs, Bool.and_eq_true] at h
    exact ag_slot (.inl rfl) (f.isV h.1.2) (ckAs_ok as f xs h.2) h.1.1
  | .b s as, X, ct, W, c, f, x :: xs, h => by
    simp only [ckAs, Bool.and_eq_true] at h
    exact ag_slot (.inr rfl) (f.isV h.1.2) (ckAs_ok as f xs h.2) h.1.1
theorem ckT_ok {Φ : Tab} : ∀ (m : T) {X : Cx} {ct : Str → Option Addr} {W : WX} {c : Cs} (f : Fits X ct W Φ c) (e : Expr), ckT c m e = true → PTW X e (tT X.K ct W (m.sem Φ))
  | .cmp o a b, X, ct, W, c, f, e, h => by
    simp only [ckT] at h
    split at h
    · rename_i x p y hx
      obtain ⟨q, rfl⟩ := vCmp_eq hx
      simp only [Bool.and_eq_true, decide_eq_true_eq, Bool.not_eq_true'] at h
      obtain ⟨⟨⟨e1, h0⟩, h1⟩, h2⟩ := h
      dsimp only at e1 ⊢
      subst e1
      exact ptw_cmp (t_cmp f.hu o (ckE_ok a f x h1) (ckE_ok b f y h2) h0)
    · cases h
  | .memS n a s, X, ct, W, c, f, e, h => by
    simp only [ckT] at h
    split at h
    · rename_i x p y hx
      obtain ⟨q, rfl⟩ := vCmp_eq hx
      simp only [Bool.and_eq_true, decide_eq_true_eq, Bool.not_eq_true'] at h
      obtain ⟨⟨⟨e1, h0⟩, h1⟩, h2⟩ := h
      dsimp only at e1 ⊢
      subst e1
      exact ptw_cmp (t_memS f.hu (ckE_ok a f x h1) (f.isV h2) h0)
    · cases h
  | .eqS n s b, X, ct, W, c, f, e, h => by
    simp only [ckT] at h
    split at h
    · rename_i x p y hx
      obtain ⟨q, rfl⟩ := vCmp_eq hx
      simp only [Bool.and_eq_true, decide_eq_true_eq, Bool.not_eq_true'] at h
      obtain ⟨⟨⟨e1, h0⟩, h1⟩, h2⟩ := h
      dsimp only at e1 ⊢
      subst e1
      exact ptw_cmp (t_eqS f.hu (f.isV h1) (ckE_ok b f y h2) h0)
    · cases h
  | .chain o p a b d, X, ct, W, c, f, e, h => by
    simp only [ckT] at h
    split at h
    · rename_i x o' p' y z hx
      obtain ⟨q, rfl⟩ := vCmp_eq hx
      simp only [Bool.and_eq_true, decide_eq_true_eq, Bool.not_eq_true'] at h
      obtain ⟨⟨⟨⟨⟨e1, e2⟩, h0⟩, h1⟩, h2⟩, h3⟩ := h
      dsimp only at e1 e2 ⊢
      subst e1
      subst e2
      exact ptw_cmp (t_chain f.hu o p (ckE_ok a f x h1) (ckE_ok b f y h2) (ckE_ok d f z h3) h0)
    · cases h
  | .isN n a, X, ct, W, c, f, e, h => by
    simp only [ckT] at h
    split at h
    · rename_i x p y hx
      obtain ⟨q, rfl⟩ := vCmp_eq hx
      simp only [Bool.and_eq_true, decide_eq_true_eq] at h
      obtain ⟨⟨e1, h0⟩, h1⟩ := h
      dsimp only at e1 ⊢
      subst e1
      split at h0
      · rename_i hk
        obtain ⟨j, p2, rfl⟩ := vConst_eq hk
        exact ptw_cmp (t_isN (ckE_ok a f x h1))
      · cases h0
    · cases h
  | .isB n a b, X, ct, W, c, f, e, h => by
    simp only [ckT] at h
    split at h
    · rename_i x p y hx
      obtain ⟨q, rfl⟩ := vCmp_eq hx
      simp only [Bool.and_eq_true, decide_eq_true_eq] at h
      obtain ⟨⟨e1, h0⟩, h1⟩ := h
      dsimp only at e1 ⊢
      subst e1
      split at h0
      · rename_i b' hk
        obtain ⟨j, p2, rfl⟩ := vConst_eq hk
        have e2 := of_decide_eq_true h0
        subst e2
        exact ptw_cmp (t_isB (ckE_ok a f x h1))
      · cases h0
    · cases h
  | .and a b, X, ct, W, c, f, e, h => by
    simp only [ckT] at h
    split at h
    · rename_i x y r p hx
      have e0 := vBool_eq hx
      subst e0
      simp only [Bool.and_eq_true] at h
      have q := t_and (ckT_ok a f x h.1).1 (bool_andT (p := p) (ckT_ok b f _ h.2))
      exact ⟨q.pt, fun _ => q⟩
    · cases h
  | .or a b, X, ct, W, c, f, e, h => by
    simp only [ckT] at h
    split at h
    · rename_i x y r p hx
      have e0 := vBool_eq hx
      subst e0
      simp only [Bool.and_eq_true] at h
      have q := t_or (ckT_ok a f x h.1).1 (bool_orT (p := p) (ckT_ok b f _ h.2))
      exact ⟨q.pt, fun _ => q⟩
    · cases h
  | .not a, X, ct, W, c, f, e, h => by
    simp only [ckT] at h
    split at h
    · rename_i x hx
      obtain ⟨p, rfl⟩ := vUn_eq hx
      exact ⟨t_not (ckT_ok a f x h).1, fun q => un_noB q⟩
    · cases h
  | .tru a, X, ct, W, c, f, e, h => by
    simp only [ckT, Bool.and_eq_true] at h
    exact ⟨t_tru (ckE_ok a f e h.2) (isTrue_of h.1), fun q => plain_noB h.1 q⟩
theorem ckTs_ok {Φ : Tab} : ∀ (m : Ts) {X : Cx} {ct : Str → Option Addr} {W : WX} {c : Cs} (f : Fits X ct W Φ c) (e : List Expr), ckTs c m e = true → PTs X e (tT X.K ct W (m.sem Φ))
  | .nil, X, ct, W, c, f, [], h => pts_no
  | .nil, X, ct, W, c, f, _ :: _, h => by simp [ckTs] at h
  | .one t, X, ct, W, c, f, [], h => by simp [ckTs] at h
  | .one t, X, ct, W, c, f, [x], h => by
    simp only [ckTs] at h
    exact pts_one (ckT_ok t f x h).1
  | .one t, X, ct, W, c, f, _ :: _ :: _, h => by simp [ckTs] at h
theorem ckI_ok {Φ : Tab} : ∀ (m : I) {X : Cx} {ct : Str → Option Addr} {W : WX} {c : Cs} (f : Fits X ct W Φ c) (t e : Expr), ckI c m t e = true → PI X t e (tI X.K ct W (m.sem Φ))
  | .seq a, X, ct, W, c, f, t, e, h => by
    simp only [ckI] at h
    exact i_seq (ckE_ok a f e h)
  | .range1 a, X, ct, W, c, f, t, e, h => by
    simp only [ckI] at h
    split at h
    · rename_i gn x hx
      obtain ⟨p1, p2, rfl⟩ := vCall_eq hx
      simp only [Bool.and_eq_true] at h
      obtain ⟨e1, b⟩ := f.blt h.1.1
      dsimp only at e1 ⊢
      subst e1
      exact i_range1 b (ckE_ok a f x h.2) h.1.2
    · cases h
  | .range2 a b, X, ct, W, c, f, t, e, h => by
    simp only [ckI] at h
    split at h
    · rename_i gn x y hx
      obtain ⟨p1, p2, rfl⟩ := vCall_eq hx
      simp only [Bool.and_eq_true] at h
      obtain ⟨e1, bl⟩ := f.blt h.1.1.1.1
      dsimp only at e1 ⊢
      subst e1
      exact i_range2 bl (ckE_ok a f x h.1.2) (ckE_ok b f y h.2) h.1.1.1.2 h.1.1.2
    · cases h
  | .enum a, X, ct, W, c, f, t, e, h => by
    simp only [ckI] at h
    split at h
    · rename_i l gn x ht hx
      obtain ⟨p1, p2, rfl⟩ := vCall_eq hx
      obtain ⟨j, p3, rfl⟩ := vTup_eq ht
      simp only [Bool.and_eq_true] at h
      obtain ⟨e1, b⟩ := f.blt h.1.1
      dsimp only at e1 ⊢
      subst e1
      exact i_enum b (ckE_ok a f x h.2) h.1.2
    · cases h
  | .zip a b, X, ct, W, c, f, t, e, h => by
    simp only [ckI] at h
    split at h
    · rename_i l gn x y ht hx
      obtain ⟨p1, p2, rfl⟩ := vCall_eq hx
      obtain ⟨j, p3, rfl⟩ := vTup_eq ht
      simp only [Bool.and_eq_true] at h
      obtain ⟨e1, bl⟩ := f.blt h.1.1.1.1
      dsimp only at e1 ⊢
      subst e1
      exact i_zip bl (ckE_ok a f x h.1.2) (ckE_ok b f y h.2) h.1.1.1.2 h.1.1.2
    · cases h
end
end Tr
set_option Elab.async false
set_option linter.all false
set_option maxRecDepth 100000
set_option maxHeartbeats 4000000
/-! TrF: the check of statements is sound; a def by its check. -/
namespace Tr
open PySem PySem.Spec PyProof.Rows L2
theorem fx_of {m : List Bool} : ∀ i, m[i]? ≠ some true → ¬ fxOf m i := fun _ h q => h q
theorem blockKind_of {env : PySem.Env} (h : env.scope.kind = .function) : env.blockKind = .function := by
  unfold Env.blockKind
  rw [h]
  rfl
theorem swapped2_of {X : Cx} {c : Cs} {ct : Str → Option Addr} {W : WX} {Φ : Tab} (f : Fits X ct W Φ c) (hk : c.sc.kind = .function) {x y : Str} {px py pt : Pos} {va vb : Expr} {kt k2 : Nat} {pt2 : Pos} (sa : notStar va = true) (sb : notStar vb = true) (h : swapped2 c x y px py va vb = true) :
    c.sc.names.lookup x = some .local ∧ c.sc.names.lookup y = some .local ∧ swappedStores [.Tuple [.Name x px, .Name y py] kt pt] (.Tuple [va, vb] k2 pt2) X.env = pure (some [x, y]) := by
  unfold swapped2 at h
  simp only [Bool.and_eq_true, decide_eq_true_eq, Bool.not_eq_true'] at h
  obtain ⟨⟨⟨⟨⟨h1, h2⟩, h3⟩, h4⟩, h5⟩, h6⟩ := h
  refine ⟨h1, h2, ?_⟩
  have k1 : X.env.kindOf x = some .local := by unfold Env.kindOf; rw [f.sc]; exact h1
  have k2 : X.env.kindOf y = some .local := by unfold Env.kindOf; rw [f.sc]; exact h2
  have bk : X.env.blockKind = .function := blockKind_of (by rw [f.sc]; exact hk)
  have n4 : (x == y) = false := by simpa using h4
  have ns : ∀ {e : Expr}, notStar e = true → (match e with | .Starred .. => true | _ => false) = false := by
    intro e he
    cases e <;> first | rfl | cases he
  have h3' : py.line = px.line := by simp only [beq_iff_eq] at h3; exact h3.symm
  unfold swappedStores
  have e5 : ([va, vb].all (foldedForSure 8)) = false := by simpa [List.all_cons] using h5
  have e6 : ([va, vb].all (constantsAlone 8)) = false := by simpa [List.all_cons] using h6
  have e7 : ([va, vb].any fun | .Starred .. => true | _ => false) = false := by
    simp only [List.any_cons, List.any_nil, Bool.or_false, Bool.or_eq_false_iff]
    exact ⟨ns sa, ns sb⟩
  have e9 : [x, y].eraseDups = [x, y] := by
    have : (y == x) = false := by simpa using fun e => h4 e.symm
    simp [List.eraseDups_cons, List.filter_cons, this]
  simp only [List.length_cons, List.length_nil, bk]
  simp only [e7, e5, e6]
  simp [List.filterMap_cons, k1, k2, h3', e9, Expr.pos]
  intro hh
  rcases hh with hh | hh
  · cases va <;> first | exact absurd hh Bool.false_ne_true | exact absurd sa Bool.false_ne_true
  · cases vb <;> first | exact absurd hh Bool.false_ne_true | exact absurd sb Bool.false_ne_true
theorem swapped3_of {X : Cx} {c : Cs} {ct : Str → Option Addr} {W : WX} {Φ : Tab} (f : Fits X ct W Φ c) (hk : c.sc.kind = .function) {x y z : Str} {px py pz pt : Pos} {va vb vc : Expr} {kt k2 : Nat} {pt2 : Pos} (sa : notStar va = true) (sb : notStar vb = true) (sc : notStar vc = true) (h : swapped3 c x y z px py pz va vb vc = true) :
    c.sc.names.lookup x = some .local ∧ c.sc.names.lookup y = some .local ∧ c.sc.names.lookup z = some .local ∧ swappedStores [.Tuple [.Name x px, .Name y py, .Name z pz] kt pt] (.Tuple [va, vb, vc] k2 pt2) X.env = pure (some [x, y, z]) := by
  unfold swapped3 at h
  simp only [Bool.and_eq_true, decide_eq_true_eq, Bool.not_eq_true'] at h
  obtain ⟨⟨⟨⟨⟨⟨⟨⟨⟨h1, h2⟩, h0⟩, h3⟩, h3b⟩, h4⟩, h4b⟩, h4c⟩, h5⟩, h6⟩ := h
  refine ⟨h1, h2, h0, ?_⟩
  have k1 : X.env.kindOf x = some .local := by unfold Env.kindOf; rw [f.sc]; exact h1
  have k2 : X.env.kindOf y = some .local := by unfold Env.kindOf; rw [f.sc]; exact h2
  have k3 : X.env.kindOf z = some .local := by unfold Env.kindOf; rw [f.sc]; exact h0
  have bk : X.env.blockKind = .function := blockKind_of (by rw [f.sc]; exact hk)
  have ns : ∀ {e : Expr}, notStar e = true → (match e with | .Starred .. => true | _ => false) = false := by
    intro e he
    cases e <;> first | rfl | cases he
  have h3' : py.line = px.line := by simp only [beq_iff_eq] at h3; exact h3.symm
  have h3'' : pz.line = px.line := by simp only [beq_iff_eq] at h3b; exact h3b.symm
  unfold swappedStores
  have e5 : ([va, vb, vc].all (foldedForSure 8)) = false := by simpa [List.all_cons, Bool.and_assoc] using h5
  have e6 : ([va, vb, vc].all (constantsAlone 8)) = false := by simpa [List.all_cons, Bool.and_assoc] using h6
  have e7 : ([va, vb, vc].any fun | .Starred .. => true | _ => false) = false := by
    simp only [List.any_cons, List.any_nil, Bool.or_false, Bool.or_eq_false_iff]
    exact ⟨ns sa, ns sb, ns sc⟩
  have e9 : [x, y, z].eraseDups = [x, y, z] := by
    have a1 : (y == x) = false := by simpa using fun e => h4 e.symm
    have a2 : (z == x) = false := by simpa using fun e => h4b e.symm
    have a3 : (z == y) = false := by simpa using fun e => h4c e.symm
    simp [List.eraseDups_cons, List.filter_cons, a1, a2, a3]
  simp only [List.length_cons, List.length_nil, bk]
  simp only [e7, e5, e6]
  simp [List.filterMap_cons, k1, k2, k3, h3', h3'', e9, Expr.pos]
  intro hh
  rcases hh with hh | hh | hh
  · cases va <;> first | exact absurd hh Bool.false_ne_true | exact absurd sa Bool.false_ne_true
  · cases vb <;> first | exact absurd hh Bool.false_ne_true | exact absurd sb Bool.false_ne_true
  · cases vc <;> first | exact absurd hh Bool.false_ne_true | exact absurd sc Bool.false_ne_true
theorem swapC_of {X : Cx} {c : Cs} {ct : Str → Option Addr} {W : WX} {Φ : Tab} (f : Fits X ct W Φ c) (hk : c.sc.kind = .function) {x : Str} {p : Pos} {l : Nat} (v : VC) : swapsWith (.ListComp v.elt [⟨v.tg, v.iter, v.ifs, 0⟩] v.scope v.pos) (some (.Name x p)) l X.env = pure (swapC c x p v) := by
  have bk : X.env.blockKind = .function := blockKind_of (by rw [f.sc]; exact hk)
  have k1 : X.env.kindOf x = c.sc.names.lookup x := by unfold Env.kindOf; rw [f.sc]
  unfold swapsWith swapC
  rw [hk]
  simp only [bk, k1]
  have e1 : (c.sc.names.lookup x == some NameKind.local) = decide (c.sc.names.lookup x = some NameKind.local) := by
    by_cases h : c.sc.names.lookup x = some NameKind.local
    · rw [h]; rfl
    · rw [decide_eq_false h]
      simpa using h
  rw [e1]
  rfl
section
variable {X : Cx} {ct : Str → Option Addr} {W : WX} {Φ : Tab} {c : Cs}
structure FitS (X : Cx) (ct : Str → Option Addr) (W : WX) (Φ : Tab) (c : Cs) : Prop extends Fits X ct W Φ c where
  po : PassesOwn (model X.prog X.w) X.A X.env X.xe
  kd : c.sc.kind = .function
mutual
theorem ckS_ok {Φ : Tab} {X : Cx} {ct : Str → Option Addr} {W : WX} {c : Cs} {m : List Bool} (f : FitS X ct W Φ c) : ∀ (s : S) (st : Stmt), ckS c m s st = true → PS X st (tS X.K ct W (fxOf m) (s.sem Φ))
  | .set i g, st, h => by
    simp only [ckS] at h
    split at h
    · rename_i t e ps hx
      have e0 := vAssign_eq hx
      subst e0
      split at h
      · rename_i v hv
        have e1 := vNm_eq hv
        dsimp only at e1 ⊢
        subst e1
        simp only [Bool.and_eq_true, decide_eq_true_eq] at h
        obtain ⟨⟨⟨h1, h2⟩, h3⟩, h4⟩ := h
        obtain ⟨a1, a2, a3⟩ := f.toFits.st h1
        split at h4
        · exact s_set (by rw [f.N]; exact f.nd) a1 a2 (ckF_ok g f.toFits e h3) (swaps_of (by simpa using h4)) a3 (fx_of i h2)
        · rename_i w hw
          have e2 := vComp_eq hw
          subst e2
          cases hs : swapC c v.x v.p w with
          | false => exact s_set (by rw [f.N]; exact f.nd) a1 a2 (ckF_ok g f.toFits _ h3) (by rw [swapC_of f.toFits f.kd, hs]) a3 (fx_of i h2)
          | true =>
            rw [hs] at h4
            cases g with
            | comp t it cs el own =>
              simp only [ckF] at h3
              rw [hw] at h3
              dsimp only at h3
              simp only [Bool.and_eq_true, Bool.not_eq_true'] at h3
              obtain ⟨⟨⟨⟨⟨⟨g1, g2⟩, g3⟩, g4⟩, g5⟩, g6⟩, g7⟩ := h3
              have hl : c.sc.names.lookup v.x = some .local := by
                unfold swapC at hs
                simp only [Bool.and_eq_true, decide_eq_true_eq] at hs
                exact hs.1.1.2
              have F := f.toFits
              have q := s_setLc (W := W) (ct := ct) (pos := w.pos) (spos := ps) (py := v.p) (fx := fxOf m) F.calm (by rw [F.N]; exact F.nd) a1 (by rw [F.sc]; exact hl) (by rw [swapC_of F f.kd, hs]) (ckI_ok it F _ _ g1) (by rw [F.N, F.sc]; exact blkOk_by g2)
                (fun s H C cl fp => ckTg_ok (F.blk w.scope s H C cl fp) fx_none _ _ g3) (fun s H C cl fp => ckTs_ok cs (F.blk w.scope s H C cl fp) _ g4) (fun s H C cl fp => ckF_ok el (F.blk w.scope s H C cl fp) _ g5)
                (by rw [own_map]; intro i hi; have := List.all_eq_true.mp g6 i hi; simpa using this) (folded_of g7) (fx_of i h2)
              rw [own_map] at q
              exact q
            | _ => simp [isCompF] at h4
      · cases h
    · cases h
  | .unpack is a, st, h => by
    simp only [ckS] at h
    split at h
    · rename_i t e ps hx
      have e0 := vAssign_eq hx
      subst e0
      split at h
      · rename_i ns hv
        obtain ⟨k, p, e1⟩ := vTup_eq hv
        dsimp only at e1 ⊢
        subst e1
        simp only [Bool.and_eq_true] at h
        exact s_unpack f.calm (by rw [f.N]; exact f.nd) (ckNs_ok f.toFits fx_of is ns h.1.1) (ckE_ok a f.toFits e h.2) (swapped_of h.1.2)
      · cases h
    · cases h
  | .par i j a b, st, h => by
    simp only [ckS] at h
    split at h
    · rename_i t e ps hx
      have e0 := vAssign_eq hx
      subst e0
      split at h
      · rename_i n1 n2 va vb ht he
        obtain ⟨k, p, e1⟩ := vTup_eq ht
        obtain ⟨k2, p2, e2⟩ := vTup_eq he
        dsimp only at e1 e2 ⊢
        subst e1
        subst e2
        split at h
        · rename_i x y hn1 hn2
          have e3 := vNm_eq hn1
          have e4 := vNm_eq hn2
          subst e3
          subst e4
          simp only [Bool.and_eq_true, decide_eq_true_eq] at h
          obtain ⟨⟨⟨⟨⟨⟨⟨⟨⟨h1, h2⟩, h3⟩, h4⟩, h5⟩, h6⟩, h7⟩, h8⟩, h9⟩, h10⟩ := h
          obtain ⟨a1, _, _⟩ := f.toFits.st h1
          obtain ⟨b1, _, _⟩ := f.toFits.st h2
          obtain ⟨l1, l2, l3⟩ := swapped2_of (pt := p) (kt := k) (k2 := k2) (pt2 := p2) f.toFits f.kd h6 h7 h8
          exact s_par f.calm (by rw [f.N]; exact f.nd) a1 b1 h3 (by rw [f.sc]; exact l1) (by rw [f.sc]; exact l2) (ckE_ok a f.toFits va h9) (ckE_ok b f.toFits vb h10) h6 h7 l3 (fx_of i h4) (fx_of j h5)
        · cases h
      · cases h
    · cases h
  | .store s i g, st, h => by
    simp only [ckS] at h
    split at h
    · rename_i t e ps hx
      have e0 := vAssign_eq hx
      subst e0
      split at h
      · rename_i a k hv
        obtain ⟨p, e1⟩ := vSub_eq hv
        dsimp only at e1 ⊢
        subst e1
        simp only [Bool.and_eq_true] at h
        exact s_store (f.toFits.isV h.1.1.2) (ckE_ok i f.toFits k h.1.2) (ckF_ok g f.toFits e h.2) h.1.1.1
      · cases h
    · cases h
  | .storeP p q g, st, h => by
    simp only [ckS] at h
    split at h
    · rename_i t e ps hx
      have e0 := vAssign_eq hx
      subst e0
      split at h
      · rename_i a k hv
        obtain ⟨p', e1⟩ := vSub_eq hv
        dsimp only at e1 ⊢
        subst e1
        simp only [Bool.and_eq_true] at h
        exact s_storeP (ckP_ok f.toFits p a h.1.1.2).2 (ckQ_ok f.toFits q k h.1.2) (ckF_ok g f.toFits e h.2) h.1.1.1
      · cases h
    · cases h
  | .par3 i j l a b d, st, h => by
    simp only [ckS] at h
    split at h
    · rename_i t e ps hx
      have e0 := vAssign_eq hx
      subst e0
      split at h
      · rename_i n1 n2 n3 va vb vd ht he
        obtain ⟨k, p, e1⟩ := vTup_eq ht
        obtain ⟨k2, p2, e2⟩ := vTup_eq he
        dsimp only at e1 e2 ⊢
        subst e1
        subst e2
        split at h
        · rename_i x y z hn1 hn2 hn3
          have e3 := vNm_eq hn1
          have e4 := vNm_eq hn2
          have e5 := vNm_eq hn3
          subst e3
          subst e4
          subst e5
          simp only [Bool.and_eq_true, decide_eq_true_eq] at h
          obtain ⟨⟨⟨⟨⟨⟨⟨⟨⟨⟨⟨⟨⟨⟨⟨h1, h2⟩, h3⟩, d1⟩, d2⟩, d3⟩, m1⟩, m2⟩, m3⟩, s1⟩, s2⟩, s3⟩, sw⟩, c1⟩, c2⟩, c3⟩ := h
          obtain ⟨a1, _, _⟩ := f.toFits.st h1
          obtain ⟨b1, _, _⟩ := f.toFits.st h2
          obtain ⟨b2, _, _⟩ := f.toFits.st h3
          obtain ⟨l1, l2, l3, l4⟩ := swapped3_of (pt := p) (kt := k) (k2 := k2) (pt2 := p2) f.toFits f.kd s1 s2 s3 sw
          exact s_par3 f.calm (by rw [f.N]; exact f.nd) a1 b1 b2 d1 d2 d3 (by rw [f.sc]; exact l1) (by rw [f.sc]; exact l2) (by rw [f.sc]; exact l3) (ckE_ok a f.toFits va c1) (ckE_ok b f.toFits vb c2) (ckE_ok d f.toFits vd c3) s1 s2 s3 l4 (fx_of i m1) (fx_of j m2) (fx_of l m3)
        · cases h
      · cases h
    · cases h
  | .insert s i g, st, h => by
    simp only [ckS] at h
    split at h
    · rename_i e hx
      obtain ⟨ps, rfl⟩ := vExprS_eq hx
      split at h
      · rename_i o x k a hm
        obtain ⟨p, q, rfl, hl⟩ := vMeth_eq hm
        simp only [Bool.and_eq_true, decide_eq_true_eq] at h
        obtain ⟨⟨⟨⟨⟨e1, h1⟩, h2⟩, h3⟩, h4⟩, h5⟩ := h
        dsimp only at e1 hl ⊢
        subst e1
        obtain ⟨y, p2, rfl⟩ := isV_name h1
        exact s_insert (f.toFits.isV h1) (ckE_ok i f.toFits k h4) (ckE_ok g f.toFits a h5) attr_of hl h2 h3
      · cases h
    · cases h
  | .append s g, st, h => by
    simp only [ckS] at h
    split at h
    · rename_i e hx
      obtain ⟨ps, rfl⟩ := vExprS_eq hx
      split at h
      · rename_i o x a hm
        obtain ⟨p, q, rfl, hl⟩ := vMeth_eq hm
        simp only [Bool.and_eq_true, decide_eq_true_eq] at h
        obtain ⟨⟨⟨e1, h1⟩, h2⟩, h3⟩ := h
        dsimp only at e1 hl ⊢
        subst e1
        obtain ⟨y, p2, rfl⟩ := isV_name h1
        exact s_append (f.toFits.isV h1) (ckF_ok g f.toFits a h3) attr_of hl h2
      · cases h
    · cases h
  | .extend s g, st, h => by
    simp only [ckS] at h
    split at h
    · rename_i e hx
      obtain ⟨ps, rfl⟩ := vExprS_eq hx
      split at h
      · rename_i o x a hm
        obtain ⟨p, q, rfl, hl⟩ := vMeth_eq hm
        simp only [Bool.and_eq_true, decide_eq_true_eq] at h
        obtain ⟨⟨⟨e1, h1⟩, h2⟩, h3⟩ := h
        dsimp only at e1 hl ⊢
        subst e1
        obtain ⟨y, p2, rfl⟩ := isV_name h1
        exact s_extend (f.toFits.isV h1) (ckE_ok g f.toFits a h3) attr_of hl h2
      · cases h
    · cases h
  | .reverse s, st, h => by
    simp only [ckS] at h
    split at h
    · rename_i e hx
      obtain ⟨ps, rfl⟩ := vExprS_eq hx
      split at h
      · rename_i o x hm
        obtain ⟨p, q, rfl, hl⟩ := vMeth_eq hm
        simp only [Bool.and_eq_true, decide_eq_true_eq] at h
        obtain ⟨e1, h1⟩ := h
        dsimp only at e1 hl ⊢
        subst e1
        obtain ⟨y, p2, rfl⟩ := isV_name h1
        exact s_reverse (f.toFits.isV h1) attr_of hl
      · cases h
    · cases h
  | .expr g, st, h => by
    simp only [ckS] at h
    split at h
    · rename_i e hx
      obtain ⟨ps, rfl⟩ := vExprS_eq hx
      simp only [Bool.and_eq_true, Bool.not_eq_true'] at h
      exact s_expr (ckF_ok g f.toFits e h.2) (swaps_of h.1)
    · cases h
  | .aug i a, st, h => by
    simp only [ckS] at h
    split at h
    · rename_i t e hx
      obtain ⟨ps, e0⟩ := vAug_eq hx
      dsimp only at e0
      subst e0
      split at h
      · rename_i x hv
        obtain ⟨p, rfl⟩ := vName_eq hv
        simp only [Bool.and_eq_true, decide_eq_true_eq] at h
        obtain ⟨⟨h1, h2⟩, h3⟩ := h
        obtain ⟨a1, a2, a3⟩ := f.toFits.st h1
        exact s_aug (by rw [f.N]; exact f.nd) a1 a2 (ckE_ok a f.toFits e h3) a3 (fx_of i h2)
      · cases h
    · cases h
  | .ite t a b, st, h => by
    simp only [ckS] at h
    split at h
    · rename_i x y z hx
      obtain ⟨ps, e0⟩ := vIfS_eq hx
      dsimp only at e0
      subst e0
      simp only [Bool.and_eq_true] at h
      exact s_if (ckT_ok t f.toFits x h.1.1).1 (ckSs_ok f a y h.1.2) (ckSs_ok f b z h.2)
    · cases h
  | .loop t it b, st, h => by
    simp only [ckS] at h
    split at h
    · rename_i g e l hx
      obtain ⟨ps, e0⟩ := vFor_eq hx
      dsimp only at e0
      subst e0
      simp only [Bool.and_eq_true, Bool.not_eq_true'] at h
      exact s_for f.po f.calm (by rw [f.N]; exact f.nd) (ckI_ok it f.toFits _ _ h.1.1.2) (ckTg_ok f.toFits fx_of t g h.1.1.1) (ckSs_ok f b l h.1.2) (folded_of h.2)
    · cases h
  | .whl t b, st, h => by
    simp only [ckS] at h
    split at h
    · rename_i x l hx
      obtain ⟨ps, e0⟩ := vWhile_eq hx
      dsimp only at e0
      subst e0
      simp only [Bool.and_eq_true] at h
      exact s_while f.po (ckT_ok t f.toFits x h.1).1 (ckSs_ok f b l h.2)
    · cases h
  | .ret g, st, h => by
    simp only [ckS] at h
    split at h
    · rename_i e hx
      obtain ⟨ps, rfl⟩ := vRet_eq hx
      exact s_ret (ckF_ok g f.toFits e h)
    · cases h
  | .retN, st, h => by
    simp only [ckS] at h
    split at h
    · rename_i hx
      obtain ⟨ps, rfl⟩ := vRet_eq hx
      exact s_retN
    · cases h
  | .pass, st, h => by
    simp only [ckS] at h
    split at h
    · exact s_pass
    · cases h
  | .brk, st, h => by
    simp only [ckS] at h
    split at h
    · exact s_brk
    · cases h
  | .ct, st, h => by
    simp only [ckS] at h
    split at h
    · exact s_ct
    · cases h
  | .never, st, h => s_never
theorem ckSs_ok {Φ : Tab} {X : Cx} {ct : Str → Option Addr} {W : WX} {c : Cs} {m : List Bool} (f : FitS X ct W Φ c) : ∀ (s : Ss) (st : List Stmt), ckSs c m s st = true → PSs X st (tS X.K ct W (fxOf m) (s.sem Φ))
  | .nil, [], h => ss_nil
  | .nil, _ :: _, h => by simp [ckSs] at h
  | .cons _ _, [], h => by simp [ckSs] at h
  | .cons a as, x :: xs, h => by
    simp only [ckSs, Bool.and_eq_true] at h
    exact ss_cons (ckS_ok f a x h.1) (ckSs_ok f as xs h.2)
end
end
end Tr
set_option Elab.async false
set_option linter.all false
set_option maxRecDepth 100000
set_option maxHeartbeats 4000000
/-! TrG: a program of checked defs; the law's end. -/
namespace Tr
open PySem PySem.Spec PyProof.Rows L2

structure Dcl where
  /-- the global's name -/
  x : Str
  /-- the def's own name -/
  nm : Str
  st : Stmt
  N : List Str
  np : Nat
  modes : List Bool
  /-- 0: it doesn't call itself; else how deep it may -/
  dep : Nat
  ir : Ss
def Dcl.ps (d : Dcl) : List Str := d.N.take d.np
def Dcl.cs (d : Dcl) (fns gls : List (Str × Nat)) (blts : List Str) : Cs := ⟨d.N, defScope d.st, none, fns, gls, blts⟩
def isFn : ScopeKind → Bool
  | .function => true
  | _ => false
theorem isFn_eq {k : ScopeKind} (h : isFn k = true) : k = .function := by cases k <;> first | rfl | cases h
def Dcl.ok (d : Dcl) (fns gls : List (Str × Nat)) (blts : List Str) : Bool :=
  isFn (defScope d.st).kind && !(defScope d.st).isCoroutine && !(defScope d.st).isGenerator && decide d.N.Nodup && decide (d.np ≤ d.N.length) && (d.ps.all fun x => decide ((defScope d.st).names.lookup x = some .local) || decide ((defScope d.st).names.lookup x = some .cell)) &&
    ((defScope d.st).names.all fun y => decide (y.2 ≠ .free)) && decide (d.modes.length = d.np) && ckSs (d.cs fns gls blts) d.modes d.ir (defBody d.st)
def okAll (gls : List (Str × Nat)) (blts : List Str) : List Dcl → List (Str × Nat) → Nat → Bool
  | [], _, _ => true
  | d :: ds, fns, n => d.ok (if d.dep = 0 then fns else (d.x, n) :: fns) gls blts && okAll gls blts ds ((d.x, n) :: fns) (n + 1)
/-- a def that calls itself, so many calls deep -/
noncomputable def recFn (gl : List D) (acc : List Fn) (n : Nat) (modes : List Bool) (ir : Ss) : Nat → Fn
  | 0 => ⟨modes, fun _ => .bad⟩
  | k + 1 => mkFn n modes (ir.sem ⟨acc ++ [recFn gl acc n modes ir k], gl⟩)
noncomputable def fnOf (gl : List D) (acc : List Fn) (d : Dcl) : Fn := match d.dep with
  | 0 => mkFn d.N.length d.modes (d.ir.sem ⟨acc, gl⟩)
  | k + 1 => recFn gl acc d.N.length d.modes d.ir (k + 1)
noncomputable def build (gl : List D) : List Dcl → List Fn → List Fn
  | [], acc => acc
  | d :: ds, acc => build gl ds (acc ++ [fnOf gl acc d])
def lvl (d : Dcl) : Nat := d.dep + 1
def lvs : List Dcl → Nat
  | [] => 0
  | d :: ds => lvl d + lvs ds
theorem build_get {gl : List D} : ∀ {ds : List Dcl} {acc : List Fn} {k : Nat} {fn : Fn}, acc[k]? = some fn → (build gl ds acc)[k]? = some fn
  | [], acc, k, fn, h => h
  | d :: ds, acc, k, fn, h => by
    unfold build
    refine build_get ?_
    rw [List.getElem?_append_left (List.getElem?_eq_some_iff.mp h).1]
    exact h
/-- a def as it stands -/
structure Stands (K : PySem.W.Frag) (mg : Str → Option Value) (d : Dcl) : Prop where
  fd : ∃ f fd, FunD K d.nm d.nm (defArgs d.st) (defBody d.st) (defScope d.st) [] [] f fd ∧ mg d.x = some (.ref f) ∧ Binds K fd d.ps []
structure Done (P : Program) (w : World) (K : PySem.W.Frag) (mg : Str → Option Value) (base : Heap) (ct : Str → Option Addr) (m : Nat) (x : Str) (fn : Fn) : Prop where
  ok : ∃ f fd ps, FnG P w K mg base (L2.CX P w) m f fd ps (spF K ct fn) ∧ mg x = some (.ref f) ∧ PySem.W.keepIn K (.ref f) = true ∧ Binds K fd ps []
theorem Done.mono {P : Program} {w : World} {K : PySem.W.Frag} {mg : Str → Option Value} {base : Heap} {ct : Str → Option Addr} {m m' : Nat} {x : Str} {fn : Fn} (h : Done P w K mg base ct m x fn) (hm : m ≤ m') : Done P w K mg base ct m' x fn := by
  obtain ⟨f, fd, ps, F, h⟩ := h.ok
  exact ⟨f, fd, ps, F.mono hm, h⟩
theorem lookup_cons' {x y : Str} {n k : Nat} {fns : List (Str × Nat)} (h : ((y, n) :: fns).lookup x = some k) : (x = y ∧ n = k) ∨ fns.lookup x = some k := by
  rw [List.lookup_cons] at h
  split at h
  · rename_i e
    cases h
    exact .inl ⟨eq_of_beq e, rfl⟩
  · exact .inr h
section
variable {P : Program} {w : World} {K : PySem.W.Frag} {mg : Str → Option Value} {base : Heap} {ct : Str → Option Addr} {gl : List D} {gls : List (Str × Nat)} {blts : List Str} {d : Dcl} {m n : Nat} {fns : List (Str × Nat)} {acc : List Fn}
theorem dcl_body (hsys : SysOk K) (hg : ∀ x k, gls.lookup x = some k → ∃ u v d, mg x = some u ∧ RelV v u ∧ (∀ H, Rep K H v d) ∧ gl[k]? = some d) (hb : ∀ x ∈ blts, mg x = none) {f : Addr} {fd : FuncData} (F : FunD K d.nm d.nm (defArgs d.st) (defBody d.st) (defScope d.st) [] [] f fd)
    (hf : ∀ x k, fns.lookup x = some k → ∃ fn, acc[k]? = some fn ∧ Done P w K mg base ct m x fn) (ok : d.ok fns gls blts = true) :
    FnG P w K mg base (L2.CX P w) (m + 1) f fd d.ps (spF K ct (mkFn d.N.length d.modes (d.ir.sem ⟨acc, gl⟩))) := by
  unfold Dcl.ok at ok
  simp only [Bool.and_eq_true, Bool.not_eq_true', decide_eq_true_eq, List.all_eq_true, Bool.or_eq_true] at ok
  obtain ⟨⟨⟨⟨⟨⟨⟨⟨k1, k2⟩, k3⟩, k4⟩, k5⟩, k6⟩, k7⟩, k8⟩, k9⟩ := ok
  have hlen : d.ps.length = d.np := by unfold Dcl.ps; rw [List.length_take]; omega
  have sc : FnScope d.N d.ps (defScope d.st) := ⟨isFn_eq k1, k2, k3, k4, by unfold Dcl.ps; rw [List.length_take, Nat.min_eq_left k5], k6, k7⟩
  refine def_ok (ct := ct) F sc (by omega) fun X e1 e2 e3 e4 e5 e6 e7 e8 e9 gd hr W tk po => ?_
  subst e1 e2 e3 e4 e5
  refine ckSs_ok (Φ := ⟨acc, gl⟩) (c := d.cs fns gls blts) ⟨⟨e6, k4, e7, e8, gd, hsys, by have := hr.un; omega, fun x _ => e9 x, tk, fun x k h => ?_, hg, hb⟩, po, isFn_eq k1⟩ d.ir _ k9
  obtain ⟨fn, h1, h2⟩ := hf x k h
  obtain ⟨f', fd', ps', g1, g2, g3, g4⟩ := h2.ok
  exact ⟨fn, h1, ⟨m, f', fd', ps', g1, gd, hr, g2, g3, g4⟩⟩
theorem dcl_done (hsys : SysOk K) (hg : ∀ x k, gls.lookup x = some k → ∃ u v d, mg x = some u ∧ RelV v u ∧ (∀ H, Rep K H v d) ∧ gl[k]? = some d) (hb : ∀ x ∈ blts, mg x = none) (hl : acc.length = n)
    (hf : ∀ x k, fns.lookup x = some k → ∃ fn, acc[k]? = some fn ∧ Done P w K mg base ct m x fn) (S : Stands K mg d) (ok : d.ok (if d.dep = 0 then fns else (d.x, n) :: fns) gls blts = true) :
    ∃ f fd, FnG P w K mg base (L2.CX P w) (m + lvl d) f fd d.ps (spF K ct (fnOf gl acc d)) ∧ mg d.x = some (.ref f) ∧ FunD K d.nm d.nm (defArgs d.st) (defBody d.st) (defScope d.st) [] [] f fd ∧ Binds K fd d.ps [] := by
  obtain ⟨f, fd, F, hm, hbd⟩ := S.fd
  refine ⟨f, fd, ?_, hm, F, hbd⟩
  unfold fnOf lvl
  cases e : d.dep with
  | zero =>
    rw [e, if_pos rfl] at ok
    exact dcl_body hsys hg hb F hf ok
  | succ r =>
    rw [e, if_neg (Nat.succ_ne_zero r)] at ok
    have key : ∀ j, FnG P w K mg base (L2.CX P w) (m + j) f fd d.ps (spF K ct (recFn gl acc d.N.length d.modes d.ir j)) := by
      intro j
      induction j with
      | zero => exact ⟨fun vs H Q E ⟨_, _, _, _, _, _, _, h⟩ => h.elim, fun A _ outer s H args us vs Q E _ _ _ _ ⟨_, _, _, _, _, _, _, h⟩ => h.elim⟩
      | succ j ih =>
        have q := dcl_body (P := P) (w := w) (base := base) (ct := ct) (m := m + j) (acc := acc ++ [recFn gl acc d.N.length d.modes d.ir j]) hsys hg hb F (fun x k h => ?_) ok
        · exact q
        · rcases lookup_cons' h with ⟨rfl, rfl⟩ | h
          · exact ⟨_, by rw [List.getElem?_append_right (by omega), hl, Nat.sub_self]; rfl, ⟨f, fd, d.ps, ih, hm, F.kp, hbd⟩⟩
          · obtain ⟨fn, h1, h2⟩ := hf x k h
            exact ⟨fn, by rw [List.getElem?_append_left (List.getElem?_eq_some_iff.mp h1).1]; exact h1, h2.mono (by omega)⟩
    exact (key (r + 1)).mono (by omega)
end
theorem prog_done {P : Program} {w : World} {K : PySem.W.Frag} {mg : Str → Option Value} {base : Heap} {ct : Str → Option Addr} {gl : List D} {gls : List (Str × Nat)} {blts : List Str}
    (hsys : SysOk K) (hg : ∀ x k, gls.lookup x = some k → ∃ u v d, mg x = some u ∧ RelV v u ∧ (∀ H, Rep K H v d) ∧ gl[k]? = some d) (hb : ∀ x ∈ blts, mg x = none) : ∀ (ds : List Dcl) (m n : Nat) (fns : List (Str × Nat)) (acc : List Fn), acc.length = n →
      (∀ x k, fns.lookup x = some k → ∃ fn, acc[k]? = some fn ∧ Done P w K mg base ct m x fn) → (∀ d ∈ ds, Stands K mg d) → okAll gls blts ds fns n = true →
      ∀ k d, ds[k]? = some d → ∃ f fd fn, (build gl ds acc)[n + k]? = some fn ∧ FnG P w K mg base (L2.CX P w) (m + lvs ds) f fd d.ps (spF K ct fn) ∧ mg d.x = some (.ref f) ∧ FunD K d.nm d.nm (defArgs d.st) (defBody d.st) (defScope d.st) [] [] f fd
  | [], m, n, fns, acc, hl, hf, hs, ok, k, d, h => by simp at h
  | d :: ds, m, n, fns, acc, hl, hf, hs, ok, k, d', h => by
    unfold okAll at ok
    rw [Bool.and_eq_true] at ok
    obtain ⟨f, fd, F, hm, FD, hbd⟩ := dcl_done (gl := gl) (base := base) (w := w) (P := P) (ct := ct) hsys hg hb hl hf (hs d List.mem_cons_self) ok.1
    have hn : (acc ++ [fnOf gl acc d])[n]? = some (fnOf gl acc d) := by
      rw [List.getElem?_append_right (by omega), hl, Nat.sub_self]
      rfl
    have hlv : lvs (d :: ds) = lvl d + lvs ds := rfl
    cases k with
    | zero =>
      have e : d = d' := by simpa using h
      subst e
      exact ⟨f, fd, _, by unfold build; rw [Nat.add_zero]; exact build_get hn, F.mono (by omega), hm, FD⟩
    | succ k =>
      have ih := prog_done (ct := ct) (base := base) (w := w) (P := P) hsys hg hb ds (m + lvl d) (n + 1) ((d.x, n) :: fns) (acc ++ [fnOf gl acc d]) (by simp [hl]) (fun x k h => ?_) (fun d hd => hs d (List.mem_cons_of_mem _ hd)) ok.2 k d' (by simpa using h)
      · rw [show n + (k + 1) = n + 1 + k by omega, hlv, ← Nat.add_assoc]
        exact ih
      · rcases lookup_cons' h with ⟨rfl, rfl⟩ | h
        · exact ⟨_, hn, ⟨f, fd, d.ps, F, hm, FD.kp, hbd⟩⟩
        · obtain ⟨fn, h2, h3⟩ := hf x k h
          exact ⟨fn, by rw [List.getElem?_append_left (List.getElem?_eq_some_iff.mp h2).1]; exact h2, h3.mono (by omega)⟩
/-- the law's own promise -/
theorem law_sp {K : PySem.W.Frag} {ct : Str → Option Addr} {fn : Fn} {ns : List Int} {refs : Env} (hm : fn.modes = [false]) (h : fn.run [.scr ns] = .ok (.frz (.bool true)) refs) (hr : refs = []) {H : Hp} {a : Addr} (hs : SqL K H a (ns.map V.int)) :
    spF K ct fn [.ref a] H (fun v _ => v = .bl true) fun _ _ _ => False := by
  refine ⟨H, [.scr ns], fun _ _ => False, Same.refl _, by rw [hm]; rfl, ⟨rfl, fun i v o e1 e2 => ?_, fun _ _ _ _ q => q.elim⟩, fun _ _ q => q.elim, ?_⟩
  · cases i with
    | zero =>
      cases e1
      cases e2
      exact .scr hs
    | succ i => simp at e1
  · rw [h]
    intro v Hf' H' Ur T _ _ _ _ _ ov _
    cases ov with
    | frz r => exact r.bool_of
end Tr
namespace Tr
theorem build_step {gl : List D} {d : Dcl} {ds : List Dcl} {acc r : List Fn} {f : Fn} (h : fnOf gl acc d = f) (h2 : build gl ds (acc ++ [f]) = r) : build gl (d :: ds) acc = r := by
  unfold build
  rw [h]
  exact h2
theorem build_end {gl : List D} {acc : List Fn} : build gl [] acc = acc := rfl
end Tr
set_option Elab.async false
set_option linter.all false
set_option maxRecDepth 100000
set_option maxHeartbeats 4000000
/-! TrH: from the head's facts to the law. -/
namespace Tr
open PySem PySem.Spec PyProof.Rows L2

/-- nothing comes out of it but a value -/
theorem calmed {P : Program} {w : World} {K : PySem.W.Frag} {mg : Str → Option Value} {base : Heap} {k : Nat} {f : Addr} {fd : FuncData} {ps : List Str} {sp : Sp} (F : FnG P w K mg base (L2.CX P w) k f fd ps sp) :
    FnG P w K mg base CX0 k f fd ps (fun vs H Q _ => sp vs H Q fun _ _ _ => False) :=
  ⟨fun vs H Q _ q => F.len _ _ _ _ q, fun A g out s H az us vs Q E room he hb hv hs => codeAny_mono (F.go A g out s H az us vs Q _ room he hb hv hs) fun r s' h => match r, h with
    | .ok (.ret _), h => h
    | .ok .next, h => h
    | .ok .brk, h => h
    | .ok .cont, h => h
    | .error _, ⟨_, _, _, _, _, _, _, _, _, _, _, _, hf⟩ => hf.elim⟩
section
variable {P : Program} {w : World} {K : PySem.W.Frag} {mg mb : Str → Option Value} {CX : CXT} {k : Nat} {fa a : Addr} {fd : FuncData} {x : Str} {sp : Sp} {s : Shared} {vs : List Value} {ns : List Int}
/-- how the law's call must end -/
abbrev LawEnd (s : Shared) : Result → Shared → Prop := fun r s2 => r = .ok (.ret (.bool true)) ∧ OldK s.heap s2.heap ∧ s2.os = s.os ∧ AllBare s2.gens
/-- the law's call from a heap of which at most the script is followed -/
theorem law_from {H : Hp} (kin : K.In s.heap) (g1 : s.heap.Ns mainGlobals mg) (g2 : s.heap.Ns builtinsNs mb) (g3 : ∀ y : Str, y ≠ "__name__" → mb y = bootBuiltins y) (g4 : s.heap.NoLimit) (g5 : s.gens = #[])
    (obj : s.heap.get? a = some { cls := .type "list", data := .seq vs.toArray }) (room : Room k callerA) (F : ∀ base : Heap, K.In base → base.Ns mainGlobals mg → FnG P w K mg base CX k fa fd [x] sp) (bnd : ∀ (s : Shared) (u : Value), BindsTo s fd ⟨[u], []⟩ [(x, u)])
    (just : ∀ b, H b ≠ none → b = a) (free : H a ≠ none → K.lookup a = none) (only : Only H) (good : HOk P w H s.heap) (hs : sp [.ref a] H (fun v _ => v = .bl true) fun _ _ _ => False)
    (hCX : ∀ e s2, CX [] H s (fun _ _ _ => False) e s2 → False) : codeAny (model P w) callerA (.call (.ref fa) ⟨[.ref a], []⟩) (LawEnd s) s := by
  have off : ∀ (b : Addr), (b = a → H b = none) → H b = none := fun b h => (Classical.em (H b = none)).elim id fun n => h (just b n)
  have kin2 : K.In (hidT s.heap H) := fun b o e => hidT_get (kin b o e) (off b fun eb => by
    subst eb
    exact Classical.byContradiction fun n => by rw [free n] at e; cases e)
  have dic : ∀ {b : Addr} {m : Str → Option Value}, s.heap.Ns b m → (hidT s.heap H).Ns b m := fun {b m} ⟨o, es, ep, e, d, r⟩ => ⟨o, es, ep, hidT_get e (off b fun eb => by
    subst eb
    rw [e] at obj
    have := congrArg Obj.data (Option.some.inj obj)
    rw [d] at this
    cases this), d, r⟩
  have md : Mod K mg (hidT s.heap H) := ⟨kin2, dic g1, ⟨mb, dic g2, g3⟩, g4.elim fun mc h => ⟨mc, dic h.1, h.2⟩⟩
  have env : Env0 P w K mg (hidT s.heap H) callerA [] s H := ⟨rfl, md, fun b o e => of_hidT e, Nat.le_of_eq (hidT_size _ _), trivial, fun b hb => absurd (show b ∈ ([] : List Addr) from hb) List.not_mem_nil, good, .of_eq g5⟩
  refine codeAny_mono ((F _ kin2 (dic g1)).go callerA rfl [] s H ⟨[.ref a], []⟩ [.ref a] [.ref a] _ _ room env (bnd s _) (.cons rfl .nil) hs) fun r s2 h => ?_
  match r, h with
  | .error e, h => exact (hCX e s2 h).elim
  | .ok .next, h => exact False.elim h
  | .ok .brk, h => exact False.elim h
  | .ok .cont, h => exact False.elim h
  | .ok (.ret u), ⟨v, H2, os, bare, un, good2, rv, q⟩ =>
    have q2 : v = .bl true := q
    subst q2
    have ru : u = Value.bool true := rv
    subst ru
    refine ⟨rfl, OldK.of_keep fun b o e => ?_, os, bare⟩
    rcases only b with z | ⟨ob, xs, z⟩
    · exact un.keep b o e z (fun y => absurd (show b ∈ ([] : List Addr) from y) List.not_mem_nil) (by simp)
    · obtain ⟨e1, _⟩ := good b _ z
      obtain ⟨e2, _⟩ := good2 b _ (un.frzs b ob _ z)
      rw [e] at e1
      cases e1
      exact e2
theorem law_callG (kin : K.In s.heap) (g1 : s.heap.Ns mainGlobals mg) (g2 : s.heap.Ns builtinsNs mb) (g3 : ∀ y : Str, y ≠ "__name__" → mb y = bootBuiltins y) (g4 : s.heap.NoLimit) (g5 : s.gens = #[])
    (obj : s.heap.get? a = some { cls := .type "list", data := .seq vs.toArray }) (hi : IntsAre vs ns) (hl : ns.length ≤ sizeLine) (room : Room k callerA) (F : ∀ base : Heap, K.In base → base.Ns mainGlobals mg → FnG P w K mg base CX k fa fd [x] sp)
    (bnd : ∀ (s : Shared) (u : Value), BindsTo s fd ⟨[u], []⟩ [(x, u)]) (hsp : ∀ H : Hp, Only H → SqL K H a (ns.map V.int) → sp [.ref a] H (fun v _ => v = .bl true) fun _ _ _ => False)
    (hCX : ∀ H e s2, CX [] H s (fun _ _ _ => False) e s2 → False) : codeAny (model P w) callerA (.call (.ref fa) ⟨[.ref a], []⟩) (LawEnd s) s := by
  have rv := vals_ints hi
  have len := hi.length
  cases hk : K.lookup a with
  | some o =>
    have e := kin a o hk
    rw [obj] at e
    cases e
    have on : Only (fun _ => none : Hp) := fun _ => .inl rfl
    exact law_from kin g1 g2 g3 g4 g5 obj room F bnd (fun b z => absurd rfl z) (fun z => absurd rfl z) on (fun b u z => absurd (show (none : Option HO) = some u from z) nofun) (hsp _ on (.inr ⟨_, vs.toArray, _, hk, rfl, rfl, rfl, by rw [List.size_toArray, len]; exact hl, by simpa using rv⟩)) (hCX _)
  | none =>
    let H : Hp := fun b => if b = a then some (.frz { cls := .type "list", data := .seq vs.toArray } (.lst (ns.map V.int))) else none
    have at_ : H a = _ := if_pos rfl
    have no : ∀ b, b ≠ a → H b = none := fun b n => if_neg n
    have on : Only H := fun b => (Classical.em (b = a)).elim (fun e => by subst e; exact .inr ⟨_, _, at_⟩) fun n => .inl (no b n)
    refine law_from kin g1 g2 g3 g4 g5 obj room F bnd (fun b z => Classical.byContradiction fun n => z (no b n)) (fun _ => hk) on (fun b u z => ?_) (hsp H on (.inl (.inr ⟨_, at_⟩))) (hCX H)
    by_cases hb : b = a
    · subst hb
      rw [at_] at z
      cases z
      exact ⟨obj, by rw [List.length_map]; exact hl, vs, _, rv, obj⟩
    · rw [no b hb] at z
      cases z
end
/-- the goal of a law's walk, from the law's promise -/
theorem walk_ofG {l : PySem.W.OpenLaw} {n k : Nat} {q : Program} {loose : List Str} {XP : (Str → Option Value) → Heap → Prop} {YP : World → Heap → Prop} {d : DefRec} {CX : CXT} {x : Str} (hn : l.most = some n) (hn2 : n ≤ sizeLine) (hdf : d.params.defaults = []) (room : Room k callerA)
    (F : ∀ (w : World) (mg : Str → Option Value) (fa : Addr) (h : Heap), YP w h → h.Ns mainGlobals mg → mg d.name = some (.ref fa) → ∃ (K : PySem.W.Frag) (fd : FuncData) (sp : Sp), K.In h ∧ (∀ (s : Shared) (u : Value), BindsTo s fd ⟨[u], []⟩ [(x, u)]) ∧
      (∀ (H : Hp) (a : Addr) (ns : List Int), ns.length ≤ n → Only H → SqL K H a (ns.map V.int) → sp [.ref a] H (fun v _ => v = .bl true) fun _ _ _ => False) ∧ ∀ base : Heap, K.In base → base.Ns mainGlobals mg → FnG l.prog w K mg base CX k fa fd [x] sp)
    (hCX : ∀ (H : Hp) (s : Shared) (e : Value) (s2 : Shared), CX [] H s (fun _ _ _ => False) e s2 → False) : PySem.W.WalkO q loose XP YP l.row.toRowW d [] (fun f vs => PySem.call f vs) :=
  Att.attach_call hn hdf fun w s₀ s mg mb fa o pm cd doc a vs ns G Y ho hd hcd hmg obj hints hlen hg => by
    obtain ⟨K, fd, sp, kin, bnd, hsp, hF⟩ := F w mg fa _ Y G.T.g hmg
    exact law_callG kin G.T.g G.T.b G.T.builtins G.T.nolimit hg obj hints (Nat.le_trans hlen hn2) room hF bnd (fun H hO hS => hsp H a ns hlen hO hS) fun H e s2 => hCX H s e s2
def toD (d : Dcl) : He.DefD := ⟨(d.x, none), d.nm, d.nm, defArgs d.st, defBody d.st, defScope d.st, [], []⟩
/-- a constant of the module: a whole number, a text, a row of them -/
inductive GD where
  | int (x : Str) (i : Int)
  | str (x z : Str)
  | tup (x : Str) (l : List (Int ⊕ Str))
def GD.x : GD → Str
  | .int x _ => x
  | .str x _ => x
  | .tup x _ => x
def atD' : Int ⊕ Str → D
  | .inl i => .int i
  | .inr s => .str s
def atV : Int ⊕ Str → He.Dv
  | .inl i => .int i
  | .inr s => .str s
def GD.d : GD → D
  | .int _ i => .int i
  | .str _ z => .str z
  | .tup _ l => .tuple (l.map atD')
def GD.fa : GD → He.Fa
  | .int x i => .int x i
  | .str x z => .str x z
  | .tup x _ => .glo x
def GD.tb (K : PySem.W.Frag) : GD → Bool
  | .tup x l => He.tupB K x (l.map atV)
  | _ => true
def glsOf : List GD → Nat → List (Str × Nat)
  | [], _ => []
  | g :: gs, n => (g.x, n) :: glsOf gs (n + 1)
def fas (ds : List Dcl) (gs : List GD) (blts : List Str) : List He.Fa := ds.map (fun d => .glo d.x) ++ (blts.map .free ++ gs.map GD.fa)
def BndD (d : Dcl) : Prop := ∀ (kV doc pm : Value) (an : Option Addr) (cdv ct : Value) (us : List Value), us.length = d.ps.length → bindArgs (PySem.W.fnOf d.nm d.nm (defArgs d.st) (defBody d.st) (defScope d.st) .none kV doc pm an cdv ct) ⟨us, []⟩ = pure (d.ps.zip us)
/-! ### the hook, with the rows -/
/-- the modules are kept in a dict -/
def sysB (K : PySem.W.Frag) : Bool := match K.lookup sysModules with
  | some o => (match o.cls with
    | .type x => x == "dict"
    | _ => false)
  | none => false
theorem sysB_ok {K : PySem.W.Frag} (h : sysB K = true) : SysOk K := by
  unfold sysB at h
  split at h
  · rename_i o e
    refine ⟨o, e, ?_⟩
    split at h
    · rename_i x e2
      rw [e2, eq_of_beq h]
    · cases h
  · cases h
abbrev AlG : Type := He.AlD × Bool
def obsG (gs : List GD) (fa : List He.Fa) (fn : List He.DefD) (K : PySem.W.Frag) : AlG := (He.obsD fa fn K, sysB K && gs.all fun g => g.tb K)
def valG (fn : List He.DefD) : AlG := (He.valD fn, true)
def SaysG (gs : List GD) (fa : List He.Fa) (fn : List He.DefD) (K : PySem.W.Frag) : Prop := obsG gs fa fn K = valG fn
def obsGG (n : Nat) (gs : List GD) (fa : List He.Fa) (fn : List He.DefD) (g : Addr → Option Obj) : AlG := obsG gs fa fn (He.frG g (sysModules :: He.asD g n))
def hookG (n : Nat) (gs : List GD) (fa : List He.Fa) (fn : List He.DefD) : PySem.W.Hook where
  α := AlG
  obs := fun s => obsGG n gs fa fn s.heap.get?
  val := fun _ => valG fn
  says := fun _ h => ∃ K : PySem.W.Frag, K.In h ∧ SaysG gs fa fn K
  of := fun _ _ e => ⟨_, He.frG_in, e⟩
  keeps := fun _ _ _ ⟨K, hK, c⟩ k => ⟨K, PySem.W.Frag.In.keeps hK k, c⟩
theorem obsGG_eq {n : Nat} {gs : List GD} {fa : List He.Fa} {fn : List He.DefD} {g : Addr → Option Obj} {s : Shared} (h : ∀ a, g a = s.heap.get? a) : obsGG n gs fa fn g = (hookG n gs fa fn).obs s := by
  have e : g = s.heap.get? := funext h
  rw [e] <;> rfl
section
variable {K : PySem.W.Frag} {h : Heap} {mg : Str → Option Value} {ds : List Dcl} {blts : List Str} {gs : List GD}
theorem SaysG.d (c : SaysG gs (fas ds gs blts) (ds.map toD) K) : He.SaysD (fas ds gs blts) (ds.map toD) K := congrArg Prod.fst c
theorem SaysG.t (c : SaysG gs (fas ds gs blts) (ds.map toD) K) : ∀ g ∈ gs, g.tb K = true := List.all_eq_true.mp (Bool.and_eq_true_iff.mp (show (sysB K && gs.all fun g => g.tb K) = true from congrArg Prod.snd c)).2
theorem SaysG.s (c : SaysG gs (fas ds gs blts) (ds.map toD) K) : SysOk K := sysB_ok (Bool.and_eq_true_iff.mp (show (sysB K && gs.all fun g => g.tb K) = true from congrArg Prod.snd c)).1
theorem stands (X : K.In h) (G : h.Ns mainGlobals mg) (c : He.SaysD (fas ds gs blts) (ds.map toD) K) (hB : ∀ d ∈ ds, BndD d) : ∀ d ∈ ds, Stands K mg d := fun d hd => by
  obtain ⟨i, hi⟩ := List.getElem?_of_mem hd
  obtain ⟨fd, F⟩ := c.def_ i (d := toD d) (by rw [List.getElem?_map, hi]; rfl)
  have hl := (List.getElem?_eq_some_iff.mp hi).1
  have g := He.glo_ok X G (c.fact i (f := .glo d.x) (by unfold fas; rw [List.getElem?_append_left (by simpa using hl), List.getElem?_map, hi]; rfl))
  exact ⟨_, fd, F, g, FunD.bindsN (ps := d.ps) F (hB d hd)⟩
theorem frees (X : K.In h) (G : h.Ns mainGlobals mg) (c : He.SaysD (fas ds gs blts) (ds.map toD) K) : ∀ x ∈ blts, mg x = none := fun x hx => by
  obtain ⟨i, hi⟩ := List.getElem?_of_mem hx
  have hl := (List.getElem?_eq_some_iff.mp hi).1
  exact He.free_ok X G (c.fact (ds.length + i) (f := .free x) (by unfold fas; rw [List.getElem?_append_right (by simp), List.length_map, Nat.add_sub_cancel_left, List.getElem?_append_left (by simpa using hl), List.getElem?_map, hi]; rfl))
theorem rep_at {H : Hp} {K : PySem.W.Frag} : ∀ a : Int ⊕ Str, Rep K H ((atV a).v K) (atD' a)
  | .inl i => .int i
  | .inr s => .str s
theorem consts (X : K.In h) (G : h.Ns mainGlobals mg) (c : SaysG gs (fas ds gs blts) (ds.map toD) K) : ∀ x k, (glsOf gs 0).lookup x = some k → ∃ u v d, mg x = some u ∧ RelV v u ∧ (∀ H, Rep K H v d) ∧ (gs.map GD.d)[k]? = some d := fun x k hx => by
  have look : ∀ (l : List GD) (n : Nat), (glsOf l n).lookup x = some k → ∃ i g, l[i]? = some g ∧ k = n + i ∧ g.x = x := by
    intro l
    induction l with
    | nil => intro n h; simp [glsOf] at h
    | cons g l ih =>
      intro n h
      unfold glsOf at h
      rcases lookup_cons' h with ⟨rfl, rfl⟩ | h
      · exact ⟨0, g, rfl, rfl, rfl⟩
      · obtain ⟨i, g', h1, h2, h3⟩ := ih (n + 1) h
        exact ⟨i + 1, g', by simpa using h1, by omega, h3⟩
  obtain ⟨i, g, h1, h2, rfl⟩ := look gs 0 hx
  rw [Nat.zero_add] at h2
  subst h2
  have hf := c.d.fact (ds.length + (blts.length + k)) (f := g.fa) (by
    unfold fas
    rw [List.getElem?_append_right (by simp), List.length_map, Nat.add_sub_cancel_left, List.getElem?_append_right (by simp), List.length_map, Nat.add_sub_cancel_left, List.getElem?_map, h1]
    rfl)
  have ht := c.t g (List.mem_of_getElem? h1)
  have hk : (gs.map GD.d)[k]? = some g.d := by rw [List.getElem?_map, h1]; rfl
  cases g with
  | int x i =>
    obtain ⟨t, e⟩ := He.int_ok X G hf
    exact ⟨_, .int i, _, e, ⟨t, rfl⟩, fun _ => .int i, hk⟩
  | str x z =>
    obtain ⟨t, e⟩ := He.str_ok X G hf
    exact ⟨_, .str z, _, e, ⟨t, rfl⟩, fun _ => .str z, hk⟩
  | tup x l =>
    have e := He.glo_ok X G hf
    refine ⟨_, .ref _, _, e, rfl, fun H => ?_, hk⟩
    refine .tup (He.tupB_ok ht H) (by simp) fun i v d e1 e2 => ?_
    rw [List.map_map, List.getElem?_map] at e1
    rw [List.getElem?_map] at e2
    cases ea : l[i]? with
    | none => rw [ea] at e1; cases e1
    | some a =>
      rw [ea] at e1 e2
      cases e1
      cases e2
      exact rep_at a
/-- the law walked: its def is the last -/
theorem law_walk {P : Program} {w : World} {ct : Str → Option Addr} {dl : Dcl} {n k : Nat} {fn : Fn} {fa : Addr} {x : Str} (X : K.In h) (G : h.Ns mainGlobals mg) (c : SaysG gs (fas ds gs blts) (ds.map toD) K) (hB : ∀ d ∈ ds, BndD d)
    (ok : okAll (glsOf gs 0) blts ds [] 0 = true) (hl : ds[n]? = some dl) (hp : dl.ps = [x]) (hx : mg dl.x = some (.ref fa)) (hfn : (build (gs.map GD.d) ds [])[n]? = some fn) (hm : fn.modes = [false]) (hk : lvs ds = k)
    (hrun : ∀ ns : List Int, ns.length ≤ 63 → fn.run [.scr ns] = .ok (.frz (.bool true)) []) :
    ∃ (K : PySem.W.Frag) (fd : FuncData) (sp : Sp), K.In h ∧ (∀ (s : Shared) (u : Value), BindsTo s fd ⟨[u], []⟩ [(x, u)]) ∧
        (∀ (H : Hp) (a : Addr) (ns : List Int), ns.length ≤ 63 → Only H → SqL K H a (ns.map V.int) → sp [.ref a] H (fun v _ => v = .bl true) fun _ _ _ => False) ∧
        ∀ base : Heap, K.In base → base.Ns mainGlobals mg → FnG P w K mg base CX0 k fa fd [x] sp := by
  obtain ⟨f, fd, hFD, hmx, _⟩ := (stands X G c.d hB dl (List.mem_of_getElem? hl)).fd
  rw [hx] at hmx
  cases hmx
  refine ⟨K, fd, fun vs H Q _ => spF K ct fn vs H Q fun _ _ _ => False, X, fun s u => ?_, fun H a ns h1 _ hs => law_sp hm (hrun ns h1) rfl hs, fun base _ _ => ?_⟩
  · have b := FunD.bindsA (ps := dl.ps) hFD (hB dl (List.mem_of_getElem? hl)) s [u] (by rw [hp]; rfl)
    rw [hp] at b
    exact b
  · obtain ⟨f', fd', fn', e1, F, e2, e3⟩ := prog_done (P := P) (w := w) (base := base) (ct := ct) c.s (consts X G c) (frees X G c.d) ds 0 0 [] [] rfl (fun _ _ q => by simp at q) (stands X G c.d hB) ok n dl hl
    rw [Nat.zero_add] at e1 F
    rw [hfn] at e1
    cases e1
    rw [hx] at e2
    cases e2
    obtain ⟨oc, od, dV, kV, doc, pm, an, cdv, ct2, osl, r1, lk1, _⟩ := hFD.ex
    obtain ⟨oc', od', dV', kV', doc', pm', an', cdv', ct2', osl', r2, lk2, _⟩ := e3.ex
    rw [lk1] at lk2
    cases lk2
    rw [hp, hk] at F
    exact calmed F
end
end Tr
set_option Elab.async false
set_option linter.all false
set_option maxRecDepth 100000
set_option maxHeartbeats 4000000
/-! TrP: plain reasoning over the IR's meaning: what comes out, outside in. -/
namespace Tr
open PySem

@[irreducible] def R.wp {α : Type} (r : R α) (Q : α → Env → Prop) : Prop := match r with
  | .ok a ρ => Q a ρ
  | _ => False
@[irreducible] def FR.wp (r : FR) (Q : O → Env → Prop) : Prop := match r with
  | .ok o refs => Q o refs
  | _ => False
theorem R.wpO {α : Type} (a : α) (ρ : Env) (Q : α → Env → Prop) : (R.ok a ρ).wp Q = Q a ρ := by unfold R.wp; rfl
theorem R.wpB {α : Type} (Q : α → Env → Prop) : (R.bad : R α).wp Q = False := by unfold R.wp; rfl
theorem R.wpE {α : Type} (x : Ex) (ρ : Env) (Q : α → Env → Prop) : (R.exc x ρ : R α).wp Q = False := by unfold R.wp; rfl
theorem R.wpB_elim {α : Type} {Q : α → Env → Prop} {P : Prop} (h : (R.bad : R α).wp Q) : P := by rw [R.wpB] at h; exact h.elim
theorem R.wpE_elim {α : Type} {x : Ex} {ρ : Env} {Q : α → Env → Prop} {P : Prop} (h : (R.exc x ρ : R α).wp Q) : P := by rw [R.wpE] at h; exact h.elim
/-- the same, to look into -/
def R.wpD {α : Type} (r : R α) (Q : α → Env → Prop) : Prop := match r with
  | .ok a ρ => Q a ρ
  | _ => False
theorem wp_eqD : @R.wp = @R.wpD := by
  funext α r Q
  unfold R.wp R.wpD
  rfl
theorem FR.wpO (a : O) (ρ : Env) (Q : O → Env → Prop) : (FR.ok a ρ).wp Q = Q a ρ := by unfold FR.wp; rfl
theorem FR.wpB (Q : O → Env → Prop) : FR.bad.wp Q = False := by unfold FR.wp; rfl
theorem FR.wpE (x : Ex) (ρ : Env) (Q : O → Env → Prop) : (FR.exc x ρ).wp Q = False := by unfold FR.wp; rfl
theorem FR.wpB_elim {Q : O → Env → Prop} {P : Prop} (h : FR.bad.wp Q) : P := by rw [FR.wpB] at h; exact h.elim
theorem FR.wpE_elim {x : Ex} {ρ : Env} {Q : O → Env → Prop} {P : Prop} (h : (FR.exc x ρ).wp Q) : P := by rw [FR.wpE] at h; exact h.elim
section
variable {α β : Type} {Q : α → Env → Prop} {Q' : β → Env → Prop} {ρ : Env} {Φ : Tab}
@[simp ↓] theorem wp_ok (a : α) : (R.ok a ρ).wp Q = Q a ρ := R.wpO a ρ Q
@[simp ↓] theorem wp_bad : (R.bad : R α).wp Q = False := R.wpB Q
@[simp ↓] theorem wp_exc (x : Ex) : (R.exc x ρ : R α).wp Q = False := R.wpE x ρ Q
theorem wp_bind (r : R α) (f : α → Env → R β) : (r.bind f).wp Q' = r.wp fun a ρ => (f a ρ).wp Q' := by cases r <;> simp [R.bind, R.wpO, R.wpB, R.wpE]
@[simp ↓] theorem wp_ofs (a : α) : (R.of (some a) ρ).wp Q = Q a ρ := R.wpO a ρ Q
@[simp ↓] theorem wp_ofn : (R.of (none : Option α) ρ).wp Q = False := R.wpB Q
@[simp ↓] theorem wp_if {p : Prop} [Decidable p] (r : R α) : (if p then r else .bad).wp Q = (p ∧ r.wp Q) := by by_cases h : p <;> simp [h, R.wp]
@[simp ↓] theorem wp_ifof {p : Prop} [Decidable p] (a : α) : (R.of (if p then some a else none) ρ).wp Q = (p ∧ Q a ρ) := by by_cases h : p <;> simp [h, R.wp, R.of]
@[simp ↓] theorem wp_ifofn {p : Prop} [Decidable p] (a : α) : (R.of (if p then none else some a) ρ).wp Q = (¬p ∧ Q a ρ) := by by_cases h : p <;> simp [h, R.wp, R.of]
theorem R.wp_mono {r : R α} {Q Q' : α → Env → Prop} (h : r.wp Q) (m : ∀ a ρ, Q a ρ → Q' a ρ) : r.wp Q' := by
  cases r with
  | ok a ρ => rw [R.wpO] at h ⊢; exact m _ _ h
  | bad => exact R.wpB_elim h
  | exc x ρ => exact R.wpE_elim h
theorem FR.wp_mono {r : FR} {Q Q' : O → Env → Prop} (h : r.wp Q) (m : ∀ a ρ, Q a ρ → Q' a ρ) : r.wp Q' := by
  cases r with
  | ok a ρ => rw [FR.wpO] at h ⊢; exact m _ _ h
  | bad => exact FR.wpB_elim h
  | exc x ρ => exact FR.wpE_elim h
@[simp ↓] theorem fwp_ok {Q : O → Env → Prop} (o : O) (refs : Env) : (FR.ok o refs).wp Q = Q o refs := FR.wpO o refs Q
theorem FR.wp_iff {r : FR} {Q : O → Env → Prop} : r.wp Q ↔ ∃ o refs, r = .ok o refs ∧ Q o refs := by
  cases r with
  | ok o refs => exact ⟨fun h => ⟨o, refs, rfl, by rw [FR.wpO] at h; exact h⟩, fun ⟨_, _, e, h⟩ => by cases e; rw [FR.wpO]; exact h⟩
  | exc x ρ => exact ⟨fun h => FR.wpE_elim h, fun ⟨_, _, e, h⟩ => by cases e⟩
  | bad => exact ⟨fun h => FR.wpB_elim h, fun ⟨_, _, e, h⟩ => by cases e⟩
end

/-! ### names -/
section
variable {Q : D → Env → Prop} {QO : O → Env → Prop} {r : Env} {x : Option O} {i : Nat} {d : D} {l : List O}
@[simp ↓] theorem rd_frz : (rdV 0 (some (.frz d) :: r)).wp Q = Q d (some (.frz d) :: r) := R.wpO _ _ _
@[simp ↓] theorem rd_box : (rdV 0 (some (.box l) :: r)).wp Q = (cleans l = true ∧ Q (.list (fzs l)) (some (.frz (.list (fzs l))) :: r)) := by
  by_cases h : cleans l = true <;> simp [rdV, h, R.wp, putO]
@[simp ↓] theorem rd_succ : (rdV (i + 1) (x :: r)).wp Q = (rdV i r).wp fun d r' => Q d (x :: r') := by
  unfold rdV
  rw [List.getElem?_cons_succ]
  cases e : r[i]? with
  | none => (unfold R.wp; rfl)
  | some o => cases o with
    | none => (unfold R.wp; rfl)
    | some o => cases o with
      | frz d => (unfold R.wp; rfl)
      | scr l => (unfold R.wp; rfl)
      | box l => by_cases h : cleans l = true <;> simp [h, R.wp, putO]
@[simp ↓] theorem mv_frz : (mvV 0 (some (.frz d) :: r)).wp QO = QO (.frz d) (some (.frz d) :: r) := R.wpO _ _ _
@[simp ↓] theorem mv_box : (mvV 0 (some (.box l) :: r)).wp QO = QO (.box l) (none :: r) := R.wpO _ _ _
@[simp ↓] theorem mv_scr {s : List Int} : (mvV 0 (some (.scr s) :: r)).wp QO = QO (.scr s) (some (.scr s) :: r) := R.wpO _ _ _
@[simp ↓] theorem mv_succ : (mvV (i + 1) (x :: r)).wp QO = (mvV i r).wp fun d r' => QO d (x :: r') := by
  unfold mvV
  rw [List.getElem?_cons_succ]
  cases e : r[i]? with
  | none => (unfold R.wp; rfl)
  | some o => cases o with
    | none => (unfold R.wp; rfl)
    | some o => cases o <;> (unfold R.wp; rfl)
@[simp] theorem ld_some {o : O} : ldV 0 (some o :: r) = some o := rfl
@[simp] theorem ld_none : ldV 0 (none :: r) = none := rfl
@[simp] theorem ld_succ : ldV (i + 1) (x :: r) = ldV i r := by unfold ldV; rw [List.getElem?_cons_succ]
@[simp] theorem isBox_0 : isBox 0 (some (.box l) :: r) = true := rfl
@[simp] theorem isBox_s : isBox (i + 1) (x :: r) = isBox i r := by unfold isBox; rw [List.getElem?_cons_succ]
@[simp] theorem put_0 {o : O} : putO (x :: r) 0 o = some o :: r := rfl
@[simp] theorem put_s {o : O} : putO (x :: r) (i + 1) o = x :: putO r i o := rfl
end

/-! ### expressions -/
section
variable {Φ : Tab} {ρ : Env} {Q : D → Env → Prop} {QO : O → Env → Prop} {QB : Bool → Env → Prop} {QL : List D → Env → Prop} {QF : List O → Env → Prop} {QA : List Ag → Env → Prop} {QP : Option Int → Env → Prop}
@[simp ↓] theorem w_v {i : Nat} : (E.sem Φ (.v i) ρ).wp Q = (rdV i ρ).wp Q := by simp only [E.sem]
@[simp ↓] theorem w_int {i : Int} : (E.sem Φ (.int i) ρ).wp Q = Q (.int i) ρ := by simp only [E.sem, wp_ok]
@[simp ↓] theorem w_bl {i : Bool} : (E.sem Φ (.bl i) ρ).wp Q = Q (.bool i) ρ := by simp only [E.sem, wp_ok]
@[simp ↓] theorem w_non : (E.sem Φ .non ρ).wp Q = Q .none ρ := by simp only [E.sem, wp_ok]
@[simp ↓] theorem w_str {s : Str} : (E.sem Φ (.str s) ρ).wp Q = Q (.str s) ρ := by simp only [E.sem, wp_ok]
@[simp ↓] theorem w_tup {es : Es} : (E.sem Φ (.tup es) ρ).wp Q = (es.sem Φ ρ).wp fun l ρ => l.length ≤ line ∧ Q (.tuple l) ρ := by simp only [E.sem, wp_bind, wp_if, wp_ok]
@[simp ↓] theorem w_dct {ks : List L2.Key} {es : Es} : (E.sem Φ (.dct ks es) ρ).wp Q = (es.sem Φ ρ).wp fun l ρ => (R.of (dctD ks l) ρ).wp Q := by simp only [E.sem, wp_bind]
@[simp ↓] theorem w_ix {o i : E} : (E.sem Φ (.ix o i) ρ).wp Q = (o.sem Φ ρ).wp fun d ρ => (i.sem Φ ρ).wp fun k ρ => (R.of (ixD d k) ρ).wp Q := by simp only [E.sem, wp_bind]
@[simp ↓] theorem w_ix1 {s : Nat} {i : E} : (E.sem Φ (.ix1 s i) ρ).wp Q = ((ldV s ρ).isSome = true ∧ (i.sem Φ ρ).wp fun k ρ => (rdP s [k] ρ).wp Q) := by simp only [E.sem, wp_if, wp_bind]
@[simp ↓] theorem w_pix {p : P} : (E.sem Φ (.pix p) ρ).wp Q = (R.of (p.sem ρ) ρ).wp fun l ρ => (rdP l.1 l.2 ρ).wp Q := by simp only [E.sem, wp_bind]
@[simp ↓] theorem w_plen {p : P} : (E.sem Φ (.plen p) ρ).wp Q = (R.of (p.sem ρ) ρ).wp fun l ρ => (lenP l.1 l.2 ρ).wp Q := by simp only [E.sem, wp_bind]
@[simp ↓] theorem w_ofF {f : F} : (E.sem Φ (.ofF f) ρ).wp Q = (f.sem Φ ρ).wp fun o ρ => o.clean = true ∧ Q o.fz ρ := by simp only [E.sem, wp_bind, wp_if, wp_ok]
@[simp ↓] theorem w_neg {a : E} : (E.sem Φ (.neg a) ρ).wp Q = (a.sem Φ ρ).wp fun d ρ => (R.of (negD d) ρ).wp Q := by simp only [E.sem, wp_bind]
@[simp ↓] theorem w_not {a : E} : (E.sem Φ (.not a) ρ).wp Q = (a.sem Φ ρ).wp fun d ρ => (R.of (notD d) ρ).wp Q := by simp only [E.sem, wp_bind]
@[simp ↓] theorem w_op {o : BOp} {a b : E} : (E.sem Φ (.op o a b) ρ).wp Q = (a.sem Φ ρ).wp fun d ρ => (b.sem Φ ρ).wp fun e ρ => (R.of (opD o d e) ρ).wp Q := by simp only [E.sem, wp_bind]
@[simp ↓] theorem w_cmp {o : COp} {a b : E} : (E.sem Φ (.cmp o a b) ρ).wp Q = (a.sem Φ ρ).wp fun d ρ => (b.sem Φ ρ).wp fun e ρ => (R.of (cmpD o d e) ρ).wp Q := by simp only [E.sem, wp_bind]
@[simp ↓] theorem w_memS {n : Bool} {a : E} {s : Nat} : (E.sem Φ (.memS n a s) ρ).wp Q = (a.sem Φ ρ).wp fun d ρ => (R.of (((ldV s ρ).bind (memO n d)).map .bool) ρ).wp Q := by simp only [E.sem, wp_bind]
@[simp ↓] theorem w_eqS {n : Bool} {s : Nat} {b : E} : (E.sem Φ (.eqS n s b) ρ).wp Q = ((ldV s ρ).isSome = true ∧ (b.sem Φ ρ).wp fun e ρ => (R.of ((ldV s ρ).bind fun o => eqO n o e) ρ).wp Q) := by simp only [E.sem, wp_if, wp_bind]
@[simp ↓] theorem w_isN {n : Bool} {a : E} : (E.sem Φ (.isN n a) ρ).wp Q = (a.sem Φ ρ).wp fun d ρ => Q (.bool (if n then !isNoneD d else isNoneD d)) ρ := by simp only [E.sem, wp_bind, wp_ok]
@[simp ↓] theorem w_isB {n : Bool} {a : E} {b : Bool} : (E.sem Φ (.isB n a b) ρ).wp Q = (a.sem Φ ρ).wp fun d ρ => (R.of ((boolD d).map fun c => .bool (if n then c != b else c == b)) ρ).wp Q := by simp only [E.sem, wp_bind]
@[simp ↓] theorem w_and {a b : E} : (E.sem Φ (.and a b) ρ).wp Q = (a.sem Φ ρ).wp fun d ρ => (R.of (boolD d) ρ).wp fun t ρ => (t = true → (b.sem Φ ρ).wp Q) ∧ (t = false → Q (.bool false) ρ) := by
  simp only [E.sem, wp_bind]
  congr; funext d ρ; congr; funext t ρ
  cases t <;> simp [R.wp]
@[simp ↓] theorem w_or {a b : E} : (E.sem Φ (.or a b) ρ).wp Q = (a.sem Φ ρ).wp fun d ρ => (R.of (boolD d) ρ).wp fun t ρ => (t = true → Q (.bool true) ρ) ∧ (t = false → (b.sem Φ ρ).wp Q) := by
  simp only [E.sem, wp_bind]
  congr; funext d ρ; congr; funext t ρ
  cases t <;> simp [R.wp]
@[simp ↓] theorem w_chain {o p : COp} {a b c : E} : (E.sem Φ (.chain o p a b c) ρ).wp Q = (a.sem Φ ρ).wp fun d ρ => (b.sem Φ ρ).wp fun e ρ => (R.of ((cmpD o d e).bind boolD) ρ).wp fun t ρ => (t = true → (c.sem Φ ρ).wp fun f ρ => (R.of (cmpD p e f) ρ).wp Q) ∧ (t = false → Q (.bool false) ρ) := by
  simp only [E.sem, wp_bind]
  congr; funext d ρ; congr; funext e ρ; congr; funext t ρ
  cases t <;> simp only [Bool.false_eq_true, if_false, if_true, wp_bind, wp_ok, false_implies, true_and, and_true, forall_const, reduceCtorEq, implies_true]
@[simp ↓] theorem w_ife {t : T} {a b : E} : (E.sem Φ (.ife t a b) ρ).wp Q = (t.sem Φ ρ).wp fun c ρ => (c = true → (a.sem Φ ρ).wp Q) ∧ (c = false → (b.sem Φ ρ).wp Q) := by
  simp only [E.sem, wp_bind]
  congr; funext c ρ
  cases c <;> simp
@[simp ↓] theorem w_b1 {f : B1} {a : E} : (E.sem Φ (.b1 f a) ρ).wp Q = (a.sem Φ ρ).wp fun d ρ => (R.of (b1D f d) ρ).wp Q := by simp only [E.sem, wp_bind]
@[simp ↓] theorem w_b2 {f : B2} {a b : E} : (E.sem Φ (.b2 f a b) ρ).wp Q = (a.sem Φ ρ).wp fun d ρ => (b.sem Φ ρ).wp fun e ρ => (R.of (b2D f d e) ρ).wp Q := by simp only [E.sem, wp_bind]
@[simp ↓] theorem w_isi {a : E} {ks : List Kd} : (E.sem Φ (.isi a ks) ρ).wp Q = (a.sem Φ ρ).wp fun d ρ => Q (.bool (ks.any (isK d))) ρ := by simp only [E.sem, wp_bind, wp_ok]
@[simp ↓] theorem w_lset {a : E} : (E.sem Φ (.lset a) ρ).wp Q = (a.sem Φ ρ).wp fun d ρ => (R.of (lsetD d) ρ).wp Q := by simp only [E.sem, wp_bind]
@[simp ↓] theorem w_tupRg {a : E} : (E.sem Φ (.tupRg a) ρ).wp Q = (a.sem Φ ρ).wp fun d ρ => (R.of (tupRgD d) ρ).wp Q := by simp only [E.sem, wp_bind]
@[simp ↓] theorem w_glob {k : Nat} : (E.sem Φ (.glob k) ρ).wp Q = (R.of Φ.gl[k]? ρ).wp Q := by simp only [E.sem]
@[simp ↓] theorem ws_nil : (Es.sem Φ .nil ρ).wp QL = QL [] ρ := by simp only [Es.sem, wp_ok]
@[simp ↓] theorem ws_cons {e : E} {es : Es} : (Es.sem Φ (.cons e es) ρ).wp QL = (e.sem Φ ρ).wp fun d ρ => (es.sem Φ ρ).wp fun l ρ => QL (d :: l) ρ := by simp only [Es.sem, wp_bind, wp_ok]
@[simp ↓] theorem wf_ofE {e : E} : (F.sem Φ (.ofE e) ρ).wp QO = (e.sem Φ ρ).wp fun d ρ => QO (.frz d) ρ := by simp only [F.sem, wp_bind, wp_ok]
@[simp ↓] theorem wf_mv {i : Nat} : (F.sem Φ (.mv i) ρ).wp QO = (mvV i ρ).wp QO := by simp only [F.sem]
@[simp ↓] theorem wf_lst {fs : Fs} : (F.sem Φ (.lst fs) ρ).wp QO = (fs.sem Φ ρ).wp fun l ρ => l.length ≤ line ∧ QO (.box l) ρ := by simp only [F.sem, wp_bind, wp_if, wp_ok]
@[simp ↓] theorem wf_add {a b : E} : (F.sem Φ (.add a b) ρ).wp QO = (a.sem Φ ρ).wp fun d ρ => (b.sem Φ ρ).wp fun e ρ => (R.of (addO d e) ρ).wp QO := by simp only [F.sem, wp_bind]
@[simp ↓] theorem wf_mul {a b : E} : (F.sem Φ (.mul a b) ρ).wp QO = (a.sem Φ ρ).wp fun d ρ => (b.sem Φ ρ).wp fun e ρ => (R.of (mulO d e) ρ).wp QO := by simp only [F.sem, wp_bind]
@[simp ↓] theorem wf_slice {o : E} {lo hi : Pt} : (F.sem Φ (.slice o lo hi) ρ).wp QO = (o.sem Φ ρ).wp fun d ρ => (lo.sem Φ ρ).wp fun l ρ => (hi.sem Φ ρ).wp fun h ρ => (R.of (sliceO d l h) ρ).wp QO := by simp only [F.sem, wp_bind]
@[simp ↓] theorem wf_cut {s : Nat} {lo hi : Pt} : (F.sem Φ (.cut s lo hi) ρ).wp QO = ((ldV s ρ).isSome = true ∧ (lo.sem Φ ρ).wp fun l ρ => (hi.sem Φ ρ).wp fun h ρ => (R.of ((ldV s ρ).bind fun o => cutO o l h) ρ).wp QO) := by simp only [F.sem, wp_if, wp_bind]
@[simp ↓] theorem wf_list {e : E} : (F.sem Φ (.list e) ρ).wp QO = (e.sem Φ ρ).wp fun d ρ => (R.of (listO d) ρ).wp QO := by simp only [F.sem, wp_bind]
@[simp ↓] theorem wf_rev {e : E} : (F.sem Φ (.rev e) ρ).wp QO = (e.sem Φ ρ).wp fun d ρ => (R.of (revO d) ρ).wp QO := by simp only [F.sem, wp_bind]
@[simp ↓] theorem wf_sort {e : E} : (F.sem Φ (.sort e) ρ).wp QO = (e.sem Φ ρ).wp fun d ρ => (R.of (sortO d) ρ).wp QO := by simp only [F.sem, wp_bind]
@[simp ↓] theorem wf_sortS {e : E} : (F.sem Φ (.sortS e) ρ).wp QO = (e.sem Φ ρ).wp fun d ρ => (R.of (sortSO d) ρ).wp QO := by simp only [F.sem, wp_bind]
@[simp ↓] theorem wf_revL {e : E} : (F.sem Φ (.revL e) ρ).wp QO = (e.sem Φ ρ).wp fun d ρ => (R.of (revX d) ρ).wp QO := by simp only [F.sem, wp_bind]
@[simp ↓] theorem wf_listv {s : Nat} : (F.sem Φ (.listv s) ρ).wp QO = (R.of ((ldV s ρ).bind scrO) ρ).wp QO := by simp only [F.sem]
@[simp ↓] theorem wf_lrg1 {e : E} : (F.sem Φ (.lrg1 e) ρ).wp QO = (e.sem Φ ρ).wp fun d ρ => (R.of (lrg1D d) ρ).wp QO := by simp only [F.sem, wp_bind]
@[simp ↓] theorem wf_lrg2 {a b : E} : (F.sem Φ (.lrg2 a b) ρ).wp QO = (a.sem Φ ρ).wp fun d ρ => (b.sem Φ ρ).wp fun e ρ => (R.of (lrg2D d e) ρ).wp QO := by simp only [F.sem, wp_bind]
@[simp ↓] theorem wf_call {k : Nat} {as : As} : (F.sem Φ (.call k as) ρ).wp QO = (as.sem Φ ρ).wp fun l ρ => (callF Φ k l ρ).wp QO := by simp only [F.sem, wp_bind]
@[simp ↓] theorem wf_comp {t : Tg} {it : I} {c : Ts} {e : F} {own : List Nat} : (F.sem Φ (.comp t it c e own) ρ).wp QO = (it.sem Φ ρ).wp fun ds ρ => (compL own (asgT t) (c.sem Φ) (e.sem Φ) ds (wipeE own ρ)).wp fun l ρ' => l.length ≤ line ∧ QO (.box l) (keepE own ρ ρ') := by simp only [F.sem, wp_bind, wp_if, wp_ok]
@[simp ↓] theorem wf_pop {s : Nat} : (F.sem Φ (.pop s) ρ).wp QO = (mdP popF s [] ρ).wp QO := by simp only [F.sem]
@[simp ↓] theorem wf_popAt {s : Nat} {i : E} : (F.sem Φ (.popAt s i) ρ).wp QO = (isBox s ρ = true ∧ (i.sem Φ ρ).wp fun k ρ => (mdP (popAtF k) s [] ρ).wp QO) := by simp only [F.sem, wp_if, wp_bind]
@[simp ↓] theorem wpt_none : (Pt.sem Φ .none ρ).wp QP = QP none ρ := by simp only [Pt.sem, wp_ok]
@[simp ↓] theorem wpt_some {e : E} : (Pt.sem Φ (.some e) ρ).wp QP = (e.sem Φ ρ).wp fun d ρ => (R.of (partD d) ρ).wp QP := by simp only [Pt.sem, wp_bind]
@[simp ↓] theorem wfs_nil : (Fs.sem Φ .nil ρ).wp QF = QF [] ρ := by simp only [Fs.sem, wp_ok]
@[simp ↓] theorem wfs_cons {e : F} {es : Fs} : (Fs.sem Φ (.cons e es) ρ).wp QF = (e.sem Φ ρ).wp fun d ρ => (es.sem Φ ρ).wp fun l ρ => QF (d :: l) ρ := by simp only [Fs.sem, wp_bind, wp_ok]
@[simp ↓] theorem was_nil : (As.sem Φ .nil ρ).wp QA = QA [] ρ := by simp only [As.sem, wp_ok]
@[simp ↓] theorem was_e {a : E} {as : As} : (As.sem Φ (.e a as) ρ).wp QA = (a.sem Φ ρ).wp fun d ρ => (as.sem Φ ρ).wp fun l ρ => QA (.d d :: l) ρ := by simp only [As.sem, wp_bind, wp_ok]
@[simp ↓] theorem was_r {s : Nat} {as : As} : (As.sem Φ (.r s as) ρ).wp QA = ((ldV s ρ).isSome = true ∧ (as.sem Φ ρ).wp fun l ρ => QA (.r s :: l) ρ) := by simp only [As.sem, wp_if, wp_bind, wp_ok]
@[simp ↓] theorem was_b {s : Nat} {as : As} : (As.sem Φ (.b s as) ρ).wp QA = ((ldV s ρ).isSome = true ∧ (as.sem Φ ρ).wp fun l ρ => QA (.b s :: l) ρ) := by simp only [As.sem, wp_if, wp_bind, wp_ok]
@[simp ↓] theorem wt_cmp {o : COp} {a b : E} : (T.sem Φ (.cmp o a b) ρ).wp QB = (a.sem Φ ρ).wp fun d ρ => (b.sem Φ ρ).wp fun e ρ => (R.of ((cmpD o d e).bind boolD) ρ).wp QB := by simp only [T.sem, wp_bind]
@[simp ↓] theorem wt_memS {n : Bool} {a : E} {s : Nat} : (T.sem Φ (.memS n a s) ρ).wp QB = (a.sem Φ ρ).wp fun d ρ => (R.of ((ldV s ρ).bind (memO n d)) ρ).wp QB := by simp only [T.sem, wp_bind]
@[simp ↓] theorem wt_eqS {n : Bool} {s : Nat} {b : E} : (T.sem Φ (.eqS n s b) ρ).wp QB = ((ldV s ρ).isSome = true ∧ (b.sem Φ ρ).wp fun e ρ => (R.of ((ldV s ρ).bind fun o => (eqO n o e).bind boolD) ρ).wp QB) := by simp only [T.sem, wp_if, wp_bind]
@[simp ↓] theorem wt_chain {o p : COp} {a b c : E} : (T.sem Φ (.chain o p a b c) ρ).wp QB = (a.sem Φ ρ).wp fun d ρ => (b.sem Φ ρ).wp fun e ρ => (R.of ((cmpD o d e).bind boolD) ρ).wp fun t ρ => (t = true → (c.sem Φ ρ).wp fun f ρ => (R.of ((cmpD p e f).bind boolD) ρ).wp QB) ∧ (t = false → QB false ρ) := by
  simp only [T.sem, wp_bind]
  congr; funext d ρ; congr; funext e ρ; congr; funext t ρ
  cases t <;> simp only [Bool.false_eq_true, if_false, if_true, wp_bind, wp_ok, false_implies, true_and, and_true, forall_const, reduceCtorEq, implies_true]
@[simp ↓] theorem wt_isN {n : Bool} {a : E} : (T.sem Φ (.isN n a) ρ).wp QB = (a.sem Φ ρ).wp fun d ρ => QB (if n then !isNoneD d else isNoneD d) ρ := by simp only [T.sem, wp_bind, wp_ok]
@[simp ↓] theorem wt_isB {n : Bool} {a : E} {b : Bool} : (T.sem Φ (.isB n a b) ρ).wp QB = (a.sem Φ ρ).wp fun d ρ => (R.of ((boolD d).map fun c => if n then c != b else c == b) ρ).wp QB := by simp only [T.sem, wp_bind]
@[simp ↓] theorem wt_and {a b : T} : (T.sem Φ (.and a b) ρ).wp QB = (a.sem Φ ρ).wp fun t ρ => (t = true → (b.sem Φ ρ).wp QB) ∧ (t = false → QB false ρ) := by
  simp only [T.sem, wp_bind]
  congr; funext c ρ
  cases c <;> simp [R.wp]
@[simp ↓] theorem wt_or {a b : T} : (T.sem Φ (.or a b) ρ).wp QB = (a.sem Φ ρ).wp fun t ρ => (t = true → QB true ρ) ∧ (t = false → (b.sem Φ ρ).wp QB) := by
  simp only [T.sem, wp_bind]
  congr; funext c ρ
  cases c <;> simp [R.wp]
@[simp ↓] theorem wt_not {a : T} : (T.sem Φ (.not a) ρ).wp QB = (a.sem Φ ρ).wp fun t ρ => QB (!t) ρ := by simp only [T.sem, wp_bind, wp_ok]
@[simp ↓] theorem wt_tru {e : E} : (T.sem Φ (.tru e) ρ).wp QB = (e.sem Φ ρ).wp fun d ρ => (R.of (truD d) ρ).wp QB := by simp only [T.sem, wp_bind]
@[simp ↓] theorem wts_nil : (Ts.sem Φ .nil ρ).wp QB = QB true ρ := by simp only [Ts.sem, wp_ok]
@[simp ↓] theorem wts_one {t : T} : (Ts.sem Φ (.one t) ρ).wp QB = (t.sem Φ ρ).wp QB := by simp only [Ts.sem]
@[simp ↓] theorem wi_seq {e : E} : (I.sem Φ (.seq e) ρ).wp QL = (e.sem Φ ρ).wp fun d ρ => (R.of (itemsD d) ρ).wp QL := by simp only [I.sem, wp_bind]
@[simp ↓] theorem wi_range1 {e : E} : (I.sem Φ (.range1 e) ρ).wp QL = (e.sem Φ ρ).wp fun d ρ => (R.of (range1D d) ρ).wp QL := by simp only [I.sem, wp_bind]
@[simp ↓] theorem wi_range2 {a b : E} : (I.sem Φ (.range2 a b) ρ).wp QL = (a.sem Φ ρ).wp fun d ρ => (b.sem Φ ρ).wp fun e ρ => (R.of (range2D d e) ρ).wp QL := by simp only [I.sem, wp_bind]
@[simp ↓] theorem wi_enum {e : E} : (I.sem Φ (.enum e) ρ).wp QL = (e.sem Φ ρ).wp fun d ρ => (R.of ((listD d).map (enumFrom 0)) ρ).wp QL := by simp only [I.sem, wp_bind]
@[simp ↓] theorem wi_zip {a b : E} : (I.sem Φ (.zip a b) ρ).wp QL = (a.sem Φ ρ).wp fun d ρ => (b.sem Φ ρ).wp fun e ρ => (R.of (pairsD d e) ρ).wp QL := by simp only [I.sem, wp_bind]
end

/-! ### statements -/
section
variable {Φ : Tab} {ρ : Env} {Q : Fl → Env → Prop}
/-- what is left of a body -/
def seqK (Φ : Tab) (ss : Ss) (Q : Fl → Env → Prop) : Fl → Env → Prop := fun fl ρ => match fl with
  | .nx => (ss.sem Φ ρ).wp Q
  | fl => Q fl ρ
@[simp ↓] theorem seqK_nx {ss : Ss} : seqK Φ ss Q .nx ρ = (ss.sem Φ ρ).wp Q := id rfl
@[simp ↓] theorem seqK_ret {ss : Ss} {o : O} : seqK Φ ss Q (.ret o) ρ = Q (.ret o) ρ := id rfl
@[simp ↓] theorem seqK_brk {ss : Ss} : seqK Φ ss Q .brk ρ = Q .brk ρ := id rfl
@[simp ↓] theorem seqK_ct {ss : Ss} : seqK Φ ss Q .ct ρ = Q .ct ρ := id rfl
@[simp ↓] theorem wss_nil : (Ss.sem Φ .nil ρ).wp Q = Q .nx ρ := by simp only [Ss.sem, wp_ok]
@[simp ↓] theorem wss_cons {s : S} {ss : Ss} : (Ss.sem Φ (.cons s ss) ρ).wp Q = (s.sem Φ ρ).wp (seqK Φ ss Q) := by
  simp only [Ss.sem, wp_bind]
  congr; funext fl ρ
  cases fl <;> simp [seqK]
@[simp ↓] theorem wst_set {i : Nat} {f : F} : (S.sem Φ (.set i f) ρ).wp Q = (f.sem Φ ρ).wp fun o ρ => Q .nx (putO ρ i o) := by simp only [S.sem, wp_bind, wp_ok]
/-- a row taken apart -/
def unpK (is : List Nat) (d : D) (ρ : Env) (Q : Fl → Env → Prop) : Prop := match itemsD d with
  | some l => l.length = is.length ∧ Q .nx ((is.zip l).foldl (fun r p => putO r p.1 (.frz p.2)) ρ)
  | none => False
@[simp] theorem unpK_tup {is : List Nat} {l : List D} : unpK is (.tuple l) ρ Q = (l.length = is.length ∧ Q .nx ((is.zip l).foldl (fun r p => putO r p.1 (.frz p.2)) ρ)) := rfl
@[simp] theorem unpK_list {is : List Nat} {l : List D} : unpK is (.list l) ρ Q = (l.length = is.length ∧ Q .nx ((is.zip l).foldl (fun r p => putO r p.1 (.frz p.2)) ρ)) := rfl
@[simp ↓] theorem wst_unpack {is : List Nat} {e : E} : (S.sem Φ (.unpack is e) ρ).wp Q = (e.sem Φ ρ).wp fun d ρ => unpK is d ρ Q := by
  simp only [S.sem, wp_bind]
  congr; funext d ρ
  simp only [asgT, unpK]
  cases itemsD d with
  | none => (unfold R.wp; rfl)
  | some l =>
    dsimp only
    by_cases h : l.length = is.length
    · rw [if_pos h, eq_true h, true_and]; (unfold R.wp; rfl)
    · rw [if_neg h, eq_false h, false_and]; (unfold R.wp; rfl)
@[simp ↓] theorem wst_par {i j : Nat} {a b : E} : (S.sem Φ (.par i j a b) ρ).wp Q = (a.sem Φ ρ).wp fun d ρ => (b.sem Φ ρ).wp fun e ρ => Q .nx (putO (putO ρ i (.frz d)) j (.frz e)) := by simp only [S.sem, wp_bind, wp_ok]
@[simp ↓] theorem wst_store {s : Nat} {i : E} {f : F} : (S.sem Φ (.store s i f) ρ).wp Q = (f.sem Φ ρ).wp fun o ρ => isBox s ρ = true ∧ (i.sem Φ ρ).wp fun k ρ => (mdP (storeF k o) s [] ρ).wp fun _ ρ => Q .nx ρ := by simp only [S.sem, wp_bind, wp_if, wp_ok]
@[simp ↓] theorem wst_storeP {p : P} {q : Qx} {f : F} : (S.sem Φ (.storeP p q f) ρ).wp Q = (f.sem Φ ρ).wp fun o ρ => (R.of (p.sem ρ) ρ).wp fun l ρ => (R.of (q.sem ρ) ρ).wp fun k ρ => (mdP (storeF (.int k) o) l.1 l.2 ρ).wp fun _ ρ => Q .nx ρ := by simp only [S.sem, wp_bind, wp_ok]
@[simp ↓] theorem wst_par3 {i j k : Nat} {a b c : E} : (S.sem Φ (.par3 i j k a b c) ρ).wp Q = (a.sem Φ ρ).wp fun d ρ => (b.sem Φ ρ).wp fun e ρ => (c.sem Φ ρ).wp fun f ρ => Q .nx (putO (putO (putO ρ i (.frz d)) j (.frz e)) k (.frz f)) := by simp only [S.sem, wp_bind, wp_ok]
@[simp ↓] theorem wst_insert {s : Nat} {i a : E} : (S.sem Φ (.insert s i a) ρ).wp Q = (isBox s ρ = true ∧ (i.sem Φ ρ).wp fun k ρ => (a.sem Φ ρ).wp fun d ρ => (mdP (insF k d) s [] ρ).wp fun _ ρ => Q .nx ρ) := by simp only [S.sem, wp_if, wp_bind, wp_ok]
@[simp ↓] theorem wst_append {s : Nat} {f : F} : (S.sem Φ (.append s f) ρ).wp Q = (isBox s ρ = true ∧ (f.sem Φ ρ).wp fun o ρ => (mdP (appF o) s [] ρ).wp fun _ ρ => Q .nx ρ) := by simp only [S.sem, wp_if, wp_bind, wp_ok]
@[simp ↓] theorem wst_extend {s : Nat} {e : E} : (S.sem Φ (.extend s e) ρ).wp Q = (isBox s ρ = true ∧ (e.sem Φ ρ).wp fun d ρ => (R.of (listD d) ρ).wp fun ds ρ => (mdP (extF ds) s [] ρ).wp fun _ ρ => Q .nx ρ) := by simp only [S.sem, wp_if, wp_bind, wp_ok]
@[simp ↓] theorem wst_reverse {s : Nat} : (S.sem Φ (.reverse s) ρ).wp Q = (mdP revF s [] ρ).wp fun _ ρ => Q .nx ρ := by simp only [S.sem, wp_bind, wp_ok]
@[simp ↓] theorem wst_expr {f : F} : (S.sem Φ (.expr f) ρ).wp Q = (f.sem Φ ρ).wp fun _ ρ => Q .nx ρ := by simp only [S.sem, wp_bind, wp_ok]
@[simp ↓] theorem wst_ite {t : T} {a b : Ss} : (S.sem Φ (.ite t a b) ρ).wp Q = (t.sem Φ ρ).wp fun c ρ => (c = true → (a.sem Φ ρ).wp Q) ∧ (c = false → (b.sem Φ ρ).wp Q) := by
  simp only [S.sem, wp_bind]
  congr; funext c ρ
  cases c <;> simp
@[simp ↓] theorem wst_loop {t : Tg} {it : I} {b : Ss} : (S.sem Φ (.loop t it b) ρ).wp Q = (it.sem Φ ρ).wp fun ds ρ => (loopL (asgT t) (b.sem Φ) ds ρ).wp Q := by simp only [S.sem, wp_bind]
@[simp ↓] theorem wst_whl {t : T} {b : Ss} : (S.sem Φ (.whl t b) ρ).wp Q = (whlS (t.sem Φ) (b.sem Φ) ρ).wp Q := by simp only [S.sem]
@[simp ↓] theorem wst_ret {f : F} : (S.sem Φ (.ret f) ρ).wp Q = (f.sem Φ ρ).wp fun o ρ => Q (.ret o) ρ := by simp only [S.sem, wp_bind, wp_ok]
@[simp ↓] theorem wst_retN : (S.sem Φ .retN ρ).wp Q = Q (.ret (.frz .none)) ρ := by simp only [S.sem, wp_ok]
@[simp ↓] theorem wst_pass : (S.sem Φ .pass ρ).wp Q = Q .nx ρ := by simp only [S.sem, wp_ok]
@[simp ↓] theorem wst_brk : (S.sem Φ .brk ρ).wp Q = Q .brk ρ := by simp only [S.sem, wp_ok]
@[simp ↓] theorem wst_ct : (S.sem Φ .ct ρ).wp Q = Q .ct ρ := by simp only [S.sem, wp_ok]
@[simp ↓] theorem wst_never : (S.sem Φ .never ρ).wp Q = False := by simp only [S.sem, wp_bad]
end

/-! ### data -/
section
variable {ρ : Env} {Q : D → Env → Prop} {QO : O → Env → Prop} {QB : Bool → Env → Prop} {QL : List D → Env → Prop} {i j : Int} {a b : Bool} {l m : List D} {x y : Str}
@[simp] theorem op_sub_ : opD .sub (.int i) (.int j) = some (.int (i - j)) := rfl
@[simp] theorem op_fdiv_ : opD .fdiv (.int i) (.int j) = if j ≠ 0 ∧ j.natAbs.log2 < 9000 then some (.int (i.fdiv j)) else none := rfl
@[simp] theorem op_mod_ : opD .mod (.int i) (.int j) = if j ≠ 0 then some (.int (i.fmod j)) else none := rfl
@[simp] theorem op_pow_ : opD .pow (.int i) (.int j) = if 0 ≤ j ∧ j ≤ 1000000 ∧ i.natAbs < 2 ^ 64 then some (.int (i ^ j.toNat)) else none := rfl
@[simp] theorem op_shl_ : opD .shl (.int i) (.int j) = if 0 ≤ j ∧ j ≤ 1000000 ∧ i.natAbs < 2 ^ 64 then some (.int (i * 2 ^ j.toNat)) else none := rfl
@[simp] theorem op_shr_ : opD .shr (.int i) (.int j) = if 0 ≤ j then some (.int (i / 2 ^ j.toNat)) else none := rfl
@[simp] theorem op_band_ : opD .band (.int i) (.int j) = some (.int (Builtin.bitAnd i j)) := rfl
@[simp] theorem neg_ : negD (.int i) = some (.int (-i)) := rfl
@[simp] theorem add_ii : addO (.int i) (.int j) = some (.frz (.int (i + j))) := rfl
@[simp] theorem add_ss : addO (.str x) (.str y) = if x.length + y.length ≤ line then some (.frz (.str (x ++ y))) else none := rfl
@[simp] theorem add_tt : addO (.tuple l) (.tuple m) = if l.length + m.length ≤ line then some (.frz (.tuple (l ++ m))) else none := rfl
@[simp] theorem add_ll : addO (.list l) (.list m) = if l.length + m.length ≤ line then some (.box ((l ++ m).map .frz)) else none := rfl
@[simp] theorem mul_ii : mulO (.int i) (.int j) = if i.natAbs.log2 + j.natAbs.log2 < 1000000 then some (.frz (.int (i * j))) else none := rfl
@[simp] theorem mul_ti : mulO (.tuple l) (.int j) = if (((l = [] ∨ j ≤ 1) ∧ -(2 ^ 63) ≤ j ∧ j < 2 ^ 63) ∨ (l ≠ [] ∧ 2 ≤ j ∧ j ≤ 1000 ∧ l.length ≤ 1000)) then some (.frz (.tuple (List.replicate j.toNat l).flatten)) else none := rfl
@[simp] theorem lrg1_i : lrg1D (.int j) = if -(2 ^ 62) ≤ j ∧ j ≤ 16777216 then some (.box ((rng 0 j.toNat).map .frz)) else none := rfl
@[simp] theorem lrg2_ii : lrg2D (.int i) (.int j) = if -(2 ^ 62) ≤ i ∧ i < 2 ^ 62 ∧ -(2 ^ 62) ≤ j ∧ j < 2 ^ 62 ∧ (j - i).toNat ≤ line then some (.box ((rng i (j - i).toNat).map .frz)) else none := rfl
@[simp] theorem scr_o {l : List Int} : scrO (.scr l) = some (.box (l.map fun i => .frz (.int i))) := rfl
@[simp] theorem mul_li : mulO (.list l) (.int j) = if j < 2 ^ 63 ∧ -(2 ^ 63) ≤ j ∧ l.length * j.toNat ≤ line then some (.box ((List.replicate j.toNat l).flatten.map .frz)) else none := rfl
@[simp] theorem tru_b : truD (.bool a) = some a := rfl
@[simp] theorem tru_i : truD (.int i) = some (i != 0) := rfl
@[simp] theorem tru_n : truD .none = some false := rfl
@[simp] theorem not_b : notD (.bool a) = some (.bool (!a)) := rfl
@[simp] theorem bool_b : boolD (.bool a) = some a := rfl
@[simp] theorem cmp_lt_ii : cmpD .lt (.int i) (.int j) = some (.bool (decide (i < j))) := rfl
@[simp] theorem cmp_le_ii : cmpD .le (.int i) (.int j) = some (.bool (decide (i ≤ j))) := rfl
@[simp] theorem cmp_gt_ii : cmpD .gt (.int i) (.int j) = some (.bool (decide (j < i))) := rfl
@[simp] theorem cmp_ge_ii : cmpD .ge (.int i) (.int j) = some (.bool (decide (j ≤ i))) := rfl
@[simp] theorem eqOk_ii : eqOk (.int i) (.int j) = true := rfl
@[simp] theorem eqOk_bb : eqOk (.bool a) (.bool b) = true := rfl
@[simp] theorem cmp_eq_ii : cmpD .eq (.int i) (.int j) = some (.bool (decide (i = j))) := by
  simp only [cmpD, eqOk_ii, if_true, PyData.eqv]
  by_cases h : i = j <;> simp [h]
@[simp] theorem cmp_ne_ii : cmpD .ne (.int i) (.int j) = some (.bool (decide (i ≠ j))) := by
  simp only [cmpD, eqOk_ii, if_true, PyData.eqv]
  by_cases h : i = j <;> simp [h]
@[simp] theorem cmp_eq_bb : cmpD .eq (.bool a) (.bool b) = some (.bool (a == b)) := by
  simp only [cmpD, eqOk_bb, Bool.or_true, if_true, PyData.eqv]
@[simp] theorem cmp_ne_bb : cmpD .ne (.bool a) (.bool b) = some (.bool (a != b)) := by
  simp only [cmpD, eqOk_bb, Bool.or_true, if_true, PyData.eqv]
  cases a <;> cases b <;> rfl
@[simp] theorem cmp_eq_ss {x y : Str} : cmpD .eq (.str x) (.str y) = some (.bool (decide (x = y))) := by
  simp only [cmpD, strs2, Bool.true_or, if_true, PyData.eqv]
  by_cases h : x = y <;> simp [h]
@[simp] theorem cmp_ne_ss {x y : Str} : cmpD .ne (.str x) (.str y) = some (.bool (decide (x ≠ y))) := by
  simp only [cmpD, strs2, Bool.true_or, if_true, PyData.eqv]
  by_cases h : x = y <;> simp [h]
@[simp] theorem b1_abs : b1D .abs (.int i) = some (.int (if i < 0 then -i else i)) := rfl
@[simp] theorem b1_int : b1D .int (.int i) = some (.int i) := rfl
@[simp] theorem b1_intb : b1D .int (.bool a) = some (.int (if a then 1 else 0)) := rfl
@[simp] theorem b1_lenL : b1D .len (.list l) = some (.int l.length) := rfl
@[simp] theorem b1_lenT : b1D .len (.tuple l) = some (.int l.length) := rfl
@[simp] theorem b1_tupL : b1D .tuple (.list l) = some (.tuple l) := rfl
@[simp] theorem b1_tupT : b1D .tuple (.tuple l) = some (.tuple l) := rfl
@[simp] theorem b2_max : b2D .max (.int i) (.int j) = some (.int (if j > i then j else i)) := rfl
@[simp] theorem b2_min : b2D .min (.int i) (.int j) = some (.int (if j < i then j else i)) := rfl
@[simp] theorem ix_L : ixD (.list l) (.int i) = atD l i := rfl
@[simp] theorem ix_T : ixD (.tuple l) (.int i) = atD l i := rfl
@[simp] theorem items_L : itemsD (.list l) = some l := rfl
@[simp] theorem items_T : itemsD (.tuple l) = some l := rfl
@[simp] theorem listD_L : listD (.list l) = some l := rfl
@[simp] theorem listO_L : listO (.list l) = some (.box (l.map .frz)) := rfl
@[simp] theorem listO_T : listO (.tuple l) = some (.box (l.map .frz)) := rfl
@[simp] theorem revO_L : revO (.list l) = if l.length ≤ line then some (.box (l.reverse.map .frz)) else none := rfl
@[simp] theorem revX_L : revX (.list l) = if l.length ≤ line then some (.box (l.reverse.map .frz)) else none := rfl
@[simp] theorem revX_T : revX (.tuple l) = some (.frz (.tuple l.reverse)) := rfl
@[simp] theorem part_i : partD (.int i) = some (some i) := rfl
@[simp] theorem range1_i : range1D (.int j) = if -(2 ^ 62) ≤ j ∧ j < 2 ^ 62 then some (rng 0 j.toNat) else none := rfl
@[simp] theorem range2_i : range2D (.int i) (.int j) = if -(2 ^ 62) ≤ i ∧ i < 2 ^ 62 ∧ -(2 ^ 62) ≤ j ∧ j < 2 ^ 62 then some (rng i (j - i).toNat) else none := rfl
@[simp] theorem sl_L {lo hi : Option Int} : sliceO (.list l) lo hi = some (.box ((cutL l lo hi).map .frz)) := rfl
@[simp] theorem sl_T {lo hi : Option Int} : sliceO (.tuple l) lo hi = some (.frz (.tuple (cutL l lo hi))) := rfl
@[simp] theorem clean_f {d : D} : (O.frz d).clean = true := by simp [O.clean]
@[simp] theorem clean_b {l : List O} : (O.box l).clean = cleans l := by simp [O.clean]
@[simp] theorem fz_f {d : D} : (O.frz d).fz = d := by simp [O.fz]
@[simp] theorem fz_b {l : List O} : (O.box l).fz = .list (fzs l) := by simp [O.fz]
@[simp] theorem cleans_n : cleans [] = true := by simp [cleans]
@[simp] theorem cleans_c {o : O} {l : List O} : cleans (o :: l) = (o.clean && cleans l) := by simp [cleans]
@[simp] theorem fzs_n : fzs [] = [] := by simp [fzs]
@[simp] theorem fzs_c {o : O} {l : List O} : fzs (o :: l) = o.fz :: fzs l := by simp [fzs]
@[simp] theorem cleans_map {l : List D} : cleans (l.map .frz) = true := by induction l <;> simp_all
@[simp] theorem fzs_map {l : List D} : fzs (l.map .frz) = l := by induction l <;> simp_all
@[simp] theorem fzs_comp {α : Type} {f : α → D} {l : List α} : fzs (l.map fun x => .frz (f x)) = l.map f := by induction l <;> simp_all
@[simp] theorem cleans_comp {α : Type} {f : α → D} {l : List α} : cleans (l.map fun x => .frz (f x)) = true := by induction l <;> simp_all
theorem fzs_len {l : List O} : (fzs l).length = l.length := by rw [fzs_eq, List.length_map]
end

/-! ### places -/
theorem atD_ok {α : Type} {l : List α} {i : Int} {a : α} (h0 : 0 ≤ i) (h : l[i.toNat]? = some a) : atD l i = some a := by
  unfold atD ixN
  have hl := (List.getElem?_eq_some_iff.mp h).1
  rw [if_pos h0, if_pos (by omega)]
  exact h
@[simp] theorem atD_0 {α : Type} {a : α} {l : List α} : atD (a :: l) 0 = some a := by
  unfold atD ixN
  simp
@[simp] theorem atD_1 {α : Type} {a b : α} {l : List α} : atD (a :: b :: l) 1 = some b := by
  refine atD_ok (by decide) rfl
@[simp] theorem atD_2 {α : Type} {a b c : α} {l : List α} : atD (a :: b :: c :: l) 2 = some c := atD_ok (by decide) rfl
@[simp] theorem atD_3 {α : Type} {a b c d : α} {l : List α} : atD (a :: b :: c :: d :: l) 3 = some d := atD_ok (by decide) rfl
theorem atD_lt {α : Type} {l : List α} {i : Int} (h0 : 0 ≤ i) (h : i < l.length) : atD l i = some (l[i.toNat]'(by omega)) := atD_ok h0 (List.getElem?_eq_getElem _)

/-! ### loops -/
theorem wpD_ok {α : Type} {Q : α → Env → Prop} {ρ : Env} (a : α) : (R.ok a ρ).wpD Q = Q a ρ := rfl
theorem wpD_bind {α β : Type} {Q' : β → Env → Prop} (r : R α) (f : α → Env → R β) : (r.bind f).wpD Q' = r.wpD fun a ρ => (f a ρ).wpD Q' := by cases r <;> rfl
theorem R.wpD_mono {α : Type} {r : R α} {Q Q' : α → Env → Prop} (h : r.wpD Q) (m : ∀ a ρ, Q a ρ → Q' a ρ) : r.wpD Q' := by
  cases r with
  | ok a ρ => exact m _ _ h
  | _ => exact h
theorem loop_wpD {asg : D → Env → Option Env} {body : Env → R Fl} {Q : Fl → Env → Prop} (Inv : Nat → Env → Prop) : ∀ {ds : List D} {ρ : Env} (i0 : Nat), Inv i0 ρ →
    (∀ i d ρ, ds[i]? = some d → Inv (i0 + i) ρ → ∃ ρ1, asg d ρ = some ρ1 ∧ (body ρ1).wpD fun fl ρ2 => match fl with
      | .nx => Inv (i0 + i + 1) ρ2 | .ct => Inv (i0 + i + 1) ρ2 | .brk => Q .nx ρ2 | .ret o => Q (.ret o) ρ2) → (∀ ρ, Inv (i0 + ds.length) ρ → Q .nx ρ) → (loopL asg body ds ρ).wpD Q
  | [], ρ, i0, h0, _, fin => fin ρ h0
  | d :: ds, ρ, i0, h0, st, fin => by
    obtain ⟨ρ1, e1, h1⟩ := st 0 d ρ rfl h0
    unfold loopL
    rw [e1]
    dsimp only
    have next : ∀ ρ2, Inv (i0 + 0 + 1) ρ2 → (loopL asg body ds ρ2).wpD Q := fun ρ2 h2 =>
      loop_wpD Inv (i0 + 1) h2 (fun i d ρ e hi => by
        have q := st (i + 1) d ρ (by simpa using e) (by rw [show i0 + (i + 1) = i0 + 1 + i by omega]; exact hi)
        rw [show i0 + (i + 1) + 1 = i0 + 1 + i + 1 by omega] at q
        exact q) fun ρ hf => fin ρ (by rw [List.length_cons, show i0 + (ds.length + 1) = i0 + 1 + ds.length by omega]; exact hf)
    cases eb : body ρ1 with
    | bad => rw [eb] at h1; exact h1
    | exc x ρ2 => rw [eb] at h1; exact h1
    | ok fl ρ2 =>
      rw [eb] at h1
      cases fl with
      | nx => exact next ρ2 h1
      | ct => exact next ρ2 h1
      | brk => exact h1
      | ret o => exact h1
/-- a loop, by what is left -/
theorem loop_restD {asg : D → Env → Option Env} {body : Env → R Fl} {Q : Fl → Env → Prop} (Inv : List D → Env → Prop) : ∀ {ds : List D} {ρ : Env}, Inv ds ρ →
    (∀ d rest ρ, Inv (d :: rest) ρ → ∃ ρ1, asg d ρ = some ρ1 ∧ (body ρ1).wpD fun fl ρ2 => match fl with
      | .nx => Inv rest ρ2 | .ct => Inv rest ρ2 | .brk => Q .nx ρ2 | .ret o => Q (.ret o) ρ2) → (∀ ρ, Inv [] ρ → Q .nx ρ) → (loopL asg body ds ρ).wpD Q
  | [], ρ, h0, _, fin => fin ρ h0
  | d :: ds, ρ, h0, st, fin => by
    obtain ⟨ρ1, e1, h1⟩ := st d ds ρ h0
    unfold loopL
    rw [e1]
    dsimp only
    cases eb : body ρ1 with
    | bad => rw [eb] at h1; exact h1
    | exc x ρ2 => rw [eb] at h1; exact h1
    | ok fl ρ2 =>
      rw [eb] at h1
      cases fl with
      | nx => exact loop_restD Inv h1 st fin
      | ct => exact loop_restD Inv h1 st fin
      | brk => exact h1
      | ret o => exact h1
theorem whl_wpD {c : Env → R Bool} {body : Env → R Fl} {Q : Fl → Env → Prop} (Inv : Nat → Env → Prop) (st : ∀ n ρ, Inv n ρ → (c ρ).wpD fun b ρ1 => (b = true → (body ρ1).wpD fun fl ρ2 => match fl with
      | .nx => ∃ m, m < n ∧ Inv m ρ2 | .ct => ∃ m, m < n ∧ Inv m ρ2 | .brk => Q .nx ρ2 | .ret o => Q (.ret o) ρ2) ∧ (b = false → Q .nx ρ1)) : ∀ (n : Nat) {ρ : Env}, Inv n ρ → (whlS c body ρ).wpD Q := by
  intro n
  induction n using Nat.strongRecOn with
  | _ n ih =>
    intro ρ h
    rw [whlS_unfold]
    have q := st n ρ h
    cases ec : c ρ with
    | bad => rw [ec] at q; exact q
    | exc x ρ1 => rw [ec] at q; exact q.elim
    | ok b ρ1 =>
      rw [ec] at q
      cases b with
      | false => exact q.2 rfl
      | true =>
        have q := q.1 rfl
        dsimp only
        cases eb : body ρ1 with
        | bad => rw [eb] at q; exact q
        | exc x ρ2 => rw [eb] at q; exact q.elim
        | ok fl ρ2 =>
          rw [eb] at q
          cases fl with
          | nx => obtain ⟨m, hm, hi⟩ := q; exact ih m hm hi
          | ct => obtain ⟨m, hm, hi⟩ := q; exact ih m hm hi
          | brk => exact q
          | ret o => exact q
theorem comp_wpD {own : List Nat} {asg : D → Env → Option Env} {tst : Env → R Bool} {elt : Env → R O} {Q : List O → Env → Prop} (Inv : Nat → List O → Env → Prop) : ∀ {ds : List D} {ρ : Env} (i0 : Nat) (acc : List O), Inv i0 acc ρ →
    (∀ i d acc ρ, ds[i]? = some d → Inv (i0 + i) acc ρ → ∃ ρ1, asg d ρ = some ρ1 ∧ (tst ρ1).wpD fun b ρ2 => (b = true → (elt ρ2).wpD fun o ρ3 => Inv (i0 + i + 1) (acc ++ [o]) (wipeE own ρ3)) ∧ (b = false → Inv (i0 + i + 1) acc (wipeE own ρ2))) →
    (∀ l ρ, Inv (i0 + ds.length) (acc ++ l) ρ → Q l ρ) → (compL own asg tst elt ds ρ).wpD Q
  | [], ρ, i0, acc, h0, _, fin => fin [] ρ (by rw [List.append_nil]; exact h0)
  | d :: ds, ρ, i0, acc, h0, st, fin => by
    obtain ⟨ρ1, e1, h1⟩ := st 0 d acc ρ rfl h0
    unfold compL
    rw [e1]
    dsimp only
    rw [wpD_bind]
    have st' : ∀ i d acc ρ, ds[i]? = some d → Inv (i0 + 1 + i) acc ρ → ∃ ρ1, asg d ρ = some ρ1 ∧ (tst ρ1).wpD fun b ρ2 => (b = true → (elt ρ2).wpD fun o ρ3 => Inv (i0 + 1 + i + 1) (acc ++ [o]) (wipeE own ρ3)) ∧ (b = false → Inv (i0 + 1 + i + 1) acc (wipeE own ρ2)) := fun i d acc ρ e hi => by
      have q := st (i + 1) d acc ρ (by simpa using e) (by rw [show i0 + (i + 1) = i0 + 1 + i by omega]; exact hi)
      rw [show i0 + (i + 1) + 1 = i0 + 1 + i + 1 by omega] at q
      exact q
    have ln : i0 + (d :: ds).length = i0 + 1 + ds.length := by rw [List.length_cons]; omega
    rw [ln] at fin
    cases et : tst ρ1 with
    | bad => rw [et] at h1; exact h1
    | exc x ρ2 => rw [et] at h1; exact h1
    | ok b ρ2 =>
      rw [et] at h1
      rw [R.calm_ok, wpD_ok]
      cases b with
      | false =>
        rw [if_neg Bool.false_ne_true]
        exact comp_wpD Inv (i0 + 1) acc (h1.2 rfl) st' fin
      | true =>
        rw [if_pos rfl, wpD_bind]
        have h2 := h1.1 rfl
        cases ee : elt ρ2 with
        | bad => rw [ee] at h2; exact h2
        | exc x ρ3 => rw [ee] at h2; exact h2.elim
        | ok o ρ3 =>
          rw [ee] at h2
          rw [R.calm_ok, wpD_ok, wpD_bind]
          exact comp_wpD Inv (i0 + 1) (acc ++ [o]) h2 st' fun l ρ hl => fin (o :: l) ρ (by rw [List.append_assoc] at hl; exact hl)
/-- a comprehension whose items leave the names as they are -/
theorem comp_pureD {own : List Nat} {asg : D → Env → Option Env} {tst : Env → R Bool} {elt : Env → R O} {Q : List O → Env → Prop} {ds : List D} {ρ : Env} (g : D → Option O)
    (h : ∀ d ∈ ds, ∃ ρ1, asg d ρ = some ρ1 ∧ (tst ρ1).wpD fun b ρ2 => (b = true → (elt ρ2).wpD fun o ρ3 => g d = some o ∧ wipeE own ρ3 = ρ) ∧ (b = false → g d = none ∧ wipeE own ρ2 = ρ)) (q : Q (ds.filterMap g) ρ) : (compL own asg tst elt ds ρ).wpD Q := by
  refine comp_wpD (fun i acc ρ' => ρ' = ρ ∧ acc = (ds.take i).filterMap g) 0 [] ⟨rfl, rfl⟩ (fun i d acc ρ' e hi => ?_) fun l ρ' hl => ?_
  · obtain ⟨rfl, rfl⟩ := hi
    obtain ⟨ρ1, e1, h1⟩ := h d (List.mem_of_getElem? e)
    refine ⟨ρ1, e1, R.wpD_mono h1 fun b ρ2 h2 => ?_⟩
    have et : ds.take (0 + i + 1) = ds.take (0 + i) ++ [d] := by rw [List.take_succ, Nat.zero_add, e]; rfl
    refine ⟨fun hb => R.wpD_mono (h2.1 hb) fun o ρ3 h3 => ⟨h3.2, ?_⟩, fun hb => ⟨(h2.2 hb).2, ?_⟩⟩
    · rw [et, List.filterMap_append, List.filterMap_cons, h3.1]; rfl
    · rw [et, List.filterMap_append, List.filterMap_cons, (h2.2 hb).1, List.filterMap_nil, List.append_nil]
  · obtain ⟨rfl, hl⟩ := hl
    rw [Nat.zero_add, List.take_length] at hl
    have hl : l = ds.filterMap g := hl
    rw [hl]
    exact q

theorem loop_wp {asg : D → Env → Option Env} {body : Env → R Fl} {Q : Fl → Env → Prop} (Inv : Nat → Env → Prop) : ∀ {ds : List D} {ρ : Env} (i0 : Nat), Inv i0 ρ →
    (∀ i d ρ, ds[i]? = some d → Inv (i0 + i) ρ → ∃ ρ1, asg d ρ = some ρ1 ∧ (body ρ1).wp fun fl ρ2 => match fl with
      | .nx => Inv (i0 + i + 1) ρ2 | .ct => Inv (i0 + i + 1) ρ2 | .brk => Q .nx ρ2 | .ret o => Q (.ret o) ρ2) → (∀ ρ, Inv (i0 + ds.length) ρ → Q .nx ρ) → (loopL asg body ds ρ).wp Q := by
  rw [wp_eqD]
  exact loop_wpD Inv
theorem loop_rest {asg : D → Env → Option Env} {body : Env → R Fl} {Q : Fl → Env → Prop} (Inv : List D → Env → Prop) : ∀ {ds : List D} {ρ : Env}, Inv ds ρ →
    (∀ d rest ρ, Inv (d :: rest) ρ → ∃ ρ1, asg d ρ = some ρ1 ∧ (body ρ1).wp fun fl ρ2 => match fl with
      | .nx => Inv rest ρ2 | .ct => Inv rest ρ2 | .brk => Q .nx ρ2 | .ret o => Q (.ret o) ρ2) → (∀ ρ, Inv [] ρ → Q .nx ρ) → (loopL asg body ds ρ).wp Q := by
  rw [wp_eqD]
  exact loop_restD Inv
theorem whl_wp {c : Env → R Bool} {body : Env → R Fl} {Q : Fl → Env → Prop} (Inv : Nat → Env → Prop) (st : ∀ n ρ, Inv n ρ → (c ρ).wp fun b ρ1 => (b = true → (body ρ1).wp fun fl ρ2 => match fl with
      | .nx => ∃ m, m < n ∧ Inv m ρ2 | .ct => ∃ m, m < n ∧ Inv m ρ2 | .brk => Q .nx ρ2 | .ret o => Q (.ret o) ρ2) ∧ (b = false → Q .nx ρ1)) : ∀ (n : Nat) {ρ : Env}, Inv n ρ → (whlS c body ρ).wp Q := by
  rw [wp_eqD] at st ⊢
  exact whl_wpD Inv st
theorem comp_wp {own : List Nat} {asg : D → Env → Option Env} {tst : Env → R Bool} {elt : Env → R O} {Q : List O → Env → Prop} (Inv : Nat → List O → Env → Prop) : ∀ {ds : List D} {ρ : Env} (i0 : Nat) (acc : List O), Inv i0 acc ρ →
    (∀ i d acc ρ, ds[i]? = some d → Inv (i0 + i) acc ρ → ∃ ρ1, asg d ρ = some ρ1 ∧ (tst ρ1).wp fun b ρ2 => (b = true → (elt ρ2).wp fun o ρ3 => Inv (i0 + i + 1) (acc ++ [o]) (wipeE own ρ3)) ∧ (b = false → Inv (i0 + i + 1) acc (wipeE own ρ2))) →
    (∀ l ρ, Inv (i0 + ds.length) (acc ++ l) ρ → Q l ρ) → (compL own asg tst elt ds ρ).wp Q := by
  rw [wp_eqD]
  exact comp_wpD Inv
theorem comp_pure {own : List Nat} {asg : D → Env → Option Env} {tst : Env → R Bool} {elt : Env → R O} {Q : List O → Env → Prop} {ds : List D} {ρ : Env} (g : D → Option O)
    (h : ∀ d ∈ ds, ∃ ρ1, asg d ρ = some ρ1 ∧ (tst ρ1).wp fun b ρ2 => (b = true → (elt ρ2).wp fun o ρ3 => g d = some o ∧ wipeE own ρ3 = ρ) ∧ (b = false → g d = none ∧ wipeE own ρ2 = ρ)) (q : Q (ds.filterMap g) ρ) : (compL own asg tst elt ds ρ).wp Q := by
  rw [wp_eqD] at h ⊢
  exact comp_pureD g h q
/-! ### defs and calls -/
/-- behind a body -/
def retK (modes : List Bool) (Q : O → Env → Prop) : Fl → Env → Prop := fun fl ρ => match fl with
  | .nx => Q (.frz .none) (refsOf ρ modes 0)
  | .ret o => Q o (refsOf ρ modes 0)
  | _ => False
@[simp ↓] theorem retK_nx {m : List Bool} {Q : O → Env → Prop} {ρ : Env} : retK m Q .nx ρ = Q (.frz .none) (refsOf ρ m 0) := id rfl
@[simp ↓] theorem retK_ret {m : List Bool} {Q : O → Env → Prop} {ρ : Env} {o : O} : retK m Q (.ret o) ρ = Q o (refsOf ρ m 0) := id rfl
theorem fn_wp {n : Nat} {modes : List Bool} {body : Env → R Fl} {os : List O} {Q : O → Env → Prop} : ((mkFn n modes body).run os).wp Q = (os.length = modes.length ∧ (body (os.map some ++ List.replicate (n - os.length) none)).wp (retK modes Q)) := by
  by_cases h : os.length = modes.length
  · simp only [mkFn, h, if_true, true_and]
    cases body (os.map some ++ List.replicate (n - modes.length) none) with
    | bad => (unfold R.wp FR.wp; rfl)
    | exc x ρ => (unfold R.wp FR.wp; rfl)
    | ok fl ρ => cases fl <;> (unfold R.wp FR.wp; rfl)
  · simp [mkFn, h, FR.wp]
/-- behind a call -/
def callK (as : List Ag) (ρ : Env) (Q : O → Env → Prop) : O → Env → Prop := fun o refs => refs.length = (slotsR as).length ∧ Q o (if plainO o && (slotsR as).isEmpty then ρ else fzAll (slotsB as) (putBack (slotsR as) refs ρ))
theorem call_wp {Φ : Tab} {k : Nat} {as : List Ag} {ρ : Env} {fn : Fn} {os : List O} {Q : O → Env → Prop} (hf : Φ.fn[k]? = some fn) (hc : callOk as fn = true) (hg : gather ρ as = some os) (h : (fn.run os).wp (callK as ρ Q)) : (callF Φ k as ρ).wp Q := by
  unfold callF
  rw [hf]
  dsimp only
  rw [hc]
  dsimp only
  rw [hg]
  dsimp only
  cases e : fn.run os with
  | bad => rw [e] at h; exact FR.wpB_elim h
  | exc x r => rw [e] at h; exact FR.wpE_elim h
  | ok o refs =>
    rw [e, FR.wpO] at h
    dsimp only
    rw [if_pos h.1, R.wpO]
    exact h.2
end Tr
namespace Tr
open PySem
/-! ### lists that change -/
def optK {α : Type} (r : Option (α × O)) (K : α → O → Prop) : Prop := match r with
  | some (a, o) => K a o
  | none => False
@[simp] theorem optK_some {α : Type} {a : α} {o : O} {K : α → O → Prop} : optK (some (a, o)) K = K a o := rfl
@[simp] theorem optK_none {α : Type} {K : α → O → Prop} : optK none K = False := rfl
section
variable {α : Type} {f : O → Option (α × O)} {is : List D} {s : Nat} {x : Option O} {o : O} {r : Tr.Env} {Q : α → Tr.Env → Prop}
@[simp ↓] theorem md_0 : (mdP f 0 is (some o :: r)).wp Q = optK (modP f o is) fun a o' => Q a (some o' :: r) := by
  unfold mdP
  rw [ld_some]
  dsimp only
  cases modP f o is with
  | none => (unfold R.wp; rfl)
  | some p => (unfold R.wp; rfl)
@[simp ↓] theorem md_s : (mdP f (s + 1) is (x :: r)).wp Q = (mdP f s is r).wp fun a r' => Q a (x :: r') := by
  unfold mdP
  rw [ld_succ]
  cases ldV s r with
  | none => (unfold R.wp; rfl)
  | some o =>
    dsimp only
    cases modP f o is with
    | none => (unfold R.wp; rfl)
    | some p => (unfold R.wp; rfl)
theorem modP_nl : modP f o [] = f o := by cases o <;> simp [modP]
@[simp] theorem modP_n {K : α → O → Prop} : optK (modP f o []) K = optK (f o) K := by rw [modP_nl]
theorem modP_c {l : List O} {i : Int} {K : α → O → Prop} {j : Nat} {o : O} (h : ixN l.length i = some j) (e : l[j]? = some o) : optK (modP f (.box l) (.int i :: is)) K = optK (modP f o is) fun a o' => K a (.box (l.set j o')) := by
  rw [modP]
  simp only [h, e]
  cases modP f o is with
  | none => rfl
  | some p => rfl
@[simp ↓] theorem rdp_0 {Q : D → Tr.Env → Prop} : (rdP 0 is (some o :: r)).wp Q = (match lookP o is with | some (.frz d) => Q d (some o :: r) | _ => False) := by
  unfold rdP
  rw [ld_some]
  dsimp only
  cases lookP o is with
  | none => (unfold R.wp; rfl)
  | some o' => cases o' <;> (unfold R.wp; rfl)
@[simp ↓] theorem rdp_s {Q : D → Tr.Env → Prop} : (rdP (s + 1) is (x :: r)).wp Q = (rdP s is r).wp fun d r' => Q d (x :: r') := by
  unfold rdP
  rw [ld_succ]
  cases ldV s r with
  | none => (unfold R.wp; rfl)
  | some o =>
    dsimp only
    cases lookP o is with
    | none => (unfold R.wp; rfl)
    | some o' => cases o' <;> (unfold R.wp; rfl)
end
section
variable {l : List O} {o : O} {d : D} {K : O → O → Prop} {KU : Unit → O → Prop} {is : List D} {i : Int} {ds : List D}
@[simp] theorem pop_b : optK (popF (.box l)) K = ∃ o, l.getLast? = some o ∧ K o (.box l.dropLast) := by
  simp only [popF]
  rw [List.getLast?_eq_getElem?]
  cases l[l.length - 1]? with
  | none => simp
  | some o => simp
@[simp] theorem app_b : optK (appF o (.box l)) KU = (l.length < line ∧ KU () (.box (l ++ [o]))) := by
  simp only [appF]
  by_cases h : l.length < line <;> simp [h]
@[simp] theorem ext_b : optK (extF ds (.box l)) KU = (l.length + ds.length ≤ line ∧ KU () (.box (l ++ ds.map .frz))) := by
  simp only [extF]
  by_cases h : l.length + ds.length ≤ line <;> simp [h]
@[simp] theorem rev_b : optK (revF (.box l)) KU = KU () (.box l.reverse) := rfl
theorem sto_b {j : Nat} (h : ixN l.length i = some j) : optK (storeF (.int i) o (.box l)) KU = KU () (.box (l.set j o)) := by
  simp only [storeF, h, optK_some]
@[simp] theorem look_n : lookP o [] = some o := by cases o <;> simp [lookP]
@[simp] theorem look_b : lookP (.box l) (.int i :: is) = (match atD l i with | some o => lookP o is | none => none) := by first | (simp only [lookP]; done) | (simp only [lookP]; cases atD l i <;> rfl)
@[simp] theorem look_f : lookP (.frz d) (.int i :: is) = (match ixD d (.int i) with | some e => lookP (.frz e) is | none => none) := by first | (simp only [lookP]; done) | (simp only [lookP]; cases ixD d (.int i) <;> rfl)
@[simp] theorem look_s {s : List Int} : lookP (.scr s) (.int i :: is) = (match atD s i with | some k => lookP (.frz (.int k)) is | none => none) := by first | (simp only [lookP]; done) | (simp only [lookP]; cases atD s i <;> rfl)
@[simp] theorem cleans_app {m : List O} : cleans (l ++ m) = (cleans l && cleans m) := by induction l <;> simp_all [Bool.and_assoc]
@[simp] theorem fzs_app {m : List O} : fzs (l ++ m) = fzs l ++ fzs m := by induction l <;> simp_all
@[simp] theorem cleans_mapc {α : Type} {f : α → D} {l : List α} : cleans (l.map (O.frz ∘ f)) = true := cleans_comp
@[simp] theorem fzs_mapc {α : Type} {f : α → D} {l : List α} : fzs (l.map (O.frz ∘ f)) = l.map f := fzs_comp
@[simp] theorem cleans_rep {n : Nat} : cleans (List.replicate n (.frz d)) = true := by induction n <;> simp_all [List.replicate_succ]
@[simp] theorem fzs_rep {n : Nat} : fzs (List.replicate n (.frz d)) = List.replicate n d := by induction n <;> simp_all [List.replicate_succ]
@[simp] theorem fzs_length : (fzs l).length = l.length := fzs_len
end
theorem cutL_len {α : Type} {l : List α} {lo hi : Option Int} : (cutL l lo hi).length ≤ l.length := by
  unfold cutL
  rw [List.length_take, List.length_drop]
  omega
theorem cutL_mem {α : Type} {l : List α} {lo hi : Option Int} {a : α} (h : a ∈ cutL l lo hi) : a ∈ l := List.mem_of_mem_drop (List.mem_of_mem_take h)
theorem cutL_map {α β : Type} {f : α → β} {l : List α} {lo hi : Option Int} : cutL (l.map f) lo hi = (cutL l lo hi).map f := by
  unfold cutL
  rw [List.length_map, List.map_take, List.map_drop]
theorem ixN_ok {n : Nat} {i : Int} (h0 : 0 ≤ i) (h : i < n) : ixN n i = some i.toNat := by
  unfold ixN
  rw [if_pos h0, if_pos h]
@[simp] theorem wipe_n {ρ : Tr.Env} : wipeE [] ρ = ρ := rfl
@[simp] theorem wipe_c {i : Nat} {r : List Nat} {ρ : Tr.Env} : wipeE (i :: r) ρ = (wipeE r ρ).set i none := rfl
@[simp] theorem keep_n {ρ ρ0 : Tr.Env} : keepE [] ρ0 ρ = ρ := rfl
@[simp] theorem keep_c {i : Nat} {r : List Nat} {ρ ρ0 : Tr.Env} : keepE (i :: r) ρ0 ρ = (keepE r ρ0 ρ).set i ((ρ0[i]?).join) := rfl
@[simp] theorem refs_n {ρ : Tr.Env} {i : Nat} : refsOf ρ [] i = [] := rfl
@[simp] theorem refs_t {ρ : Tr.Env} {i : Nat} {m : List Bool} : refsOf ρ (true :: m) i = (ρ[i]?).join :: refsOf ρ m (i + 1) := rfl
@[simp] theorem refs_f {ρ : Tr.Env} {i : Nat} {m : List Bool} : refsOf ρ (false :: m) i = refsOf ρ m (i + 1) := rfl
@[simp] theorem asg_n {ρ : Tr.Env} {i : Nat} {d : D} : asgT (.name i) d ρ = some (putO ρ i (.frz d)) := rfl
@[simp] theorem slR_n : slotsR [] = [] := rfl
@[simp] theorem slR_d {d : D} {r : List Ag} : slotsR (.d d :: r) = slotsR r := rfl
@[simp] theorem slR_r {i : Nat} {r : List Ag} : slotsR (.r i :: r) = i :: slotsR r := rfl
@[simp] theorem slR_b {i : Nat} {r : List Ag} : slotsR (.b i :: r) = slotsR r := rfl
@[simp] theorem slB_n : slotsB [] = [] := rfl
@[simp] theorem slB_d {d : D} {r : List Ag} : slotsB (.d d :: r) = slotsB r := rfl
@[simp] theorem slB_r {i : Nat} {r : List Ag} : slotsB (.r i :: r) = slotsB r := rfl
@[simp] theorem slB_b {i : Nat} {r : List Ag} : slotsB (.b i :: r) = i :: slotsB r := rfl
@[simp] theorem pb_n {refs ρ : Tr.Env} : putBack [] refs ρ = ρ := by cases refs <;> rfl
@[simp] theorem pb_c {i : Nat} {is : List Nat} {o : Option O} {os ρ : Tr.Env} : putBack (i :: is) (o :: os) ρ = putBack is os (ρ.set i o) := rfl
@[simp] theorem fzAll_n {ρ : Tr.Env} : fzAll [] ρ = ρ := rfl
@[simp] theorem pl_n : plainO (.frz .none) = true := rfl
@[simp] theorem pl_b {b : Bool} : plainO (.frz (.bool b)) = true := rfl
@[simp] theorem pl_i {i : Int} : plainO (.frz (.int i)) = true := rfl
@[simp] theorem pl_s {s : Str} : plainO (.frz (.str s)) = true := rfl
@[simp] theorem pl_t {l : List D} : plainO (.frz (.tuple l)) = false := rfl
@[simp] theorem pl_l {l : List D} : plainO (.frz (.list l)) = false := rfl
@[simp] theorem pl_x {l : List O} : plainO (.box l) = false := rfl
@[simp] theorem line_val : line = 16777216 := rfl
end Tr
set_option Elab.async false
set_option linter.all false
set_option maxRecDepth 100000
set_option maxHeartbeats 4000000
/-! TrQ: data of whole numbers. -/
namespace Tr
open PySem
/-- items of a list being all these -/
def boxI (l : List Int) : O := .box (l.map fun i => .frz (.int i))
def IsI (d : D) (l : List Int) : Prop := itemsD d = some (l.map .int)
@[simp] theorem isI_L {l : List Int} : IsI (.list (l.map .int)) l := rfl
@[simp] theorem isI_T {l : List Int} : IsI (.tuple (l.map .int)) l := rfl
theorem canAll_ints (l : List Int) : PyData.canLayAll0 (l.map PyData.int) = true := by
  induction l with
  | nil => rfl
  | cons x l ih => simp [PyData.canLayAll0, PyData.canLay0, ih]
theorem depthAll_ints (l : List Int) : PyData.depthAll (l.map PyData.int) = 0 := by
  induction l with
  | nil => rfl
  | cons x l ih => simp [PyData.depthAll, PyData.depth, ih]
theorem memOk_ints (i : Int) (l : List Int) : memOk (.int i) (l.map .int) = true := by
  unfold memOk SeqAt.shaped
  simp [PyData.canLay0, PyData.depth, canAll_ints, depthAll_ints]
theorem memD_ints (i : Int) (l : List Int) : memD (.int i) (l.map .int) = decide (i ∈ l) := by
  unfold memD
  rw [List.any_map]
  induction l with
  | nil => simp
  | cons x l ih =>
    rw [List.any_cons, ih]
    simp only [Function.comp, PyData.eqv, List.mem_cons]
    by_cases h : x = i
    · simp [h]
    · simp [h, Ne.symm h]
theorem cmp_mem_I {d : D} {l : List Int} {i : Int} (h : IsI d l) : cmpD .mem (.int i) d = some (.bool (decide (i ∈ l))) := by
  unfold IsI at h
  simp only [cmpD, h, memOk_ints, memD_ints, if_true]
theorem cmp_nmem_I {d : D} {l : List Int} {i : Int} (h : IsI d l) : cmpD .nmem (.int i) d = some (.bool (decide (i ∉ l))) := by
  unfold IsI at h
  simp only [cmpD, h, memOk_ints, memD_ints, if_true, decide_not]
theorem len_I {d : D} {l : List Int} (h : IsI d l) : b1D .len d = some (.int l.length) := by
  cases d <;> simp only [IsI, itemsD, reduceCtorEq, Option.some.injEq] at h
  · subst h; simp
  · subst h; simp
theorem items_I {d : D} {l : List Int} (h : IsI d l) : itemsD d = some (l.map .int) := h
end Tr
namespace Tr
abbrev PQ := O → Tr.Env → Prop
end Tr
namespace Tr
theorem filterMap_of {α : Type} {c : α → D} {p : α → Bool} {f : α → O} {g : D → Option O} : ∀ {xs : List α}, (∀ x ∈ xs, g (c x) = if p x then some (f x) else none) → (xs.map c).filterMap g = (xs.filter p).map f
  | [], _ => rfl
  | x :: xs, h => by
    rw [List.map_cons, List.filterMap_cons, h x List.mem_cons_self, List.filter_cons]
    have ih := filterMap_of (xs := xs) fun y hy => h y (List.mem_cons_of_mem _ hy)
    by_cases hp : p x = true
    · rw [if_pos hp, if_pos hp, List.map_cons, ih]
    · rw [if_neg hp, if_neg hp, ih]
/-- a comprehension over the items c x, x in xs, that pass p: f x -/
theorem comp_map {α : Type} {own : List Nat} {asg : D → Tr.Env → Option Tr.Env} {tst : Tr.Env → R Bool} {elt : Tr.Env → R O} {Q : List O → Tr.Env → Prop} {ρ : Tr.Env} {c : α → D} (p : α → Bool) (f : α → O) : ∀ {xs : List α},
    (∀ x ∈ xs, ∃ ρ1, asg (c x) ρ = some ρ1 ∧ (tst ρ1).wp fun b ρ2 => b = p x ∧ (p x = true → (elt ρ2).wp fun o ρ3 => o = f x ∧ wipeE own ρ3 = ρ) ∧ (p x = false → wipeE own ρ2 = ρ)) → Q ((xs.filter p).map f) ρ → (compL own asg tst elt (xs.map c) ρ).wp Q
  | [], _, q => by rw [List.map_nil, compL, R.wpO]; exact q
  | x :: xs, h, q => by
    obtain ⟨ρ1, e1, h1⟩ := h x List.mem_cons_self
    have h' := fun y (hy : y ∈ xs) => h y (List.mem_cons_of_mem _ hy)
    rw [List.map_cons]
    unfold compL
    rw [e1]
    dsimp only
    rw [wp_bind]
    cases et : tst ρ1 with
    | bad => rw [et] at h1; exact R.wpB_elim h1
    | exc x ρ2 => rw [et] at h1; exact R.wpE_elim h1
    | ok b ρ2 =>
      rw [et, R.wpO] at h1
      obtain ⟨rfl, h2, h3⟩ := h1
      rw [R.calm_ok, wp_ok]
      cases hp : p x with
      | false =>
        rw [if_neg Bool.false_ne_true, h3 hp]
        rw [List.filter_cons, hp, if_neg Bool.false_ne_true] at q
        exact comp_map p f h' q
      | true =>
        rw [if_pos rfl, wp_bind]
        have h2 := h2 hp
        cases ee : elt ρ2 with
        | bad => rw [ee] at h2; exact R.wpB_elim h2
        | exc x ρ3 => rw [ee] at h2; exact R.wpE_elim h2
        | ok o ρ3 =>
          rw [ee, R.wpO] at h2
          obtain ⟨rfl, e3⟩ := h2
          rw [R.calm_ok, wp_ok, wp_bind, e3]
          rw [List.filter_cons, hp, if_pos rfl, List.map_cons] at q
          exact comp_map p f h' (by rw [R.wpO]; exact q)
end Tr
namespace Tr
theorem log2_le {a n : Nat} (h : a < 2 ^ (n + 1)) : a.log2 ≤ n := by
  by_cases h0 : a = 0
  · subst h0; simp
  · have := (Nat.log2_lt h0).mpr h
    omega
theorem two_mono {k m : Nat} (h : k ≤ m) : (2 : Nat) ^ k ≤ 2 ^ m := Nat.pow_le_pow_right (by decide) h
/-- a number of at most n + 1 bits -/
def Bits (n : Nat) (i : Int) : Prop := i.natAbs < 2 ^ (n + 1)
instance {n : Nat} {i : Int} : Decidable (Bits n i) := inferInstanceAs (Decidable (_ < _))
theorem Bits.log {n : Nat} {i : Int} (h : Bits n i) : i.natAbs.log2 ≤ n := log2_le h
theorem Bits.mono {n m : Nat} {i : Int} (h : Bits n i) (hm : n ≤ m) : Bits m i := Nat.lt_of_lt_of_le h (two_mono (by omega))
theorem Bits.mul {n m : Nat} {i j : Int} (h : Bits n i) (h' : Bits m j) : Bits (n + m + 1) (i * j) := by
  unfold Bits at *
  rw [Int.natAbs_mul, show n + m + 1 + 1 = (n + 1) + (m + 1) by omega, Nat.pow_add]
  exact Nat.mul_lt_mul'' h h'
theorem Bits.add {n m k : Nat} {i j : Int} (h : Bits n i) (h' : Bits m j) (hn : n < k) (hm : m < k) : Bits k (i + j) := by
  unfold Bits at *
  have h1 := two_mono (show n + 1 ≤ k by omega)
  have h2 := two_mono (show m + 1 ≤ k by omega)
  have h3 := Int.natAbs_add_le i j
  have : 2 ^ (k + 1) = 2 ^ k + 2 ^ k := by rw [Nat.pow_succ]; omega
  omega
theorem Bits.sub {n m k : Nat} {i j : Int} (h : Bits n i) (h' : Bits m j) (hn : n < k) (hm : m < k) : Bits k (i - j) := by
  rw [Int.sub_eq_add_neg]
  exact h.add (by unfold Bits at *; rwa [Int.natAbs_neg]) hn hm
theorem Bits.of_lt {n : Nat} {i : Int} (h : -(2 ^ (n + 1)) < i) (h' : i < 2 ^ (n + 1)) : Bits n i := by
  unfold Bits
  have e : ((2 : Nat) ^ (n + 1) : Nat) = (2 : Int) ^ (n + 1) := by simp
  omega
theorem mod_rng {i m : Int} (h : 0 < m) : 0 ≤ i.fmod m ∧ i.fmod m < m := ⟨Int.fmod_nonneg_of_pos _ h, Int.fmod_lt_of_pos _ h⟩
theorem Bits.mod {n : Nat} {i m : Int} (h : 0 < m) (hb : m ≤ 2 ^ (n + 1)) : Bits n (i.fmod m) := by
  have q := mod_rng (i := i) h
  exact .of_lt (by have : (0 : Int) < 2 ^ (n + 1) := Int.pow_pos (by decide); omega) (by omega)
theorem mul_okn {n b : Nat} {i : Int} (h : Bits n i) (hn : n + b.log2 < 1000000) : i.natAbs.log2 + b.log2 < 1000000 := by
  have := h.log
  omega
theorem mul_okm {n b : Nat} {i : Int} (h : Bits n i) (hn : n + b.log2 < 1000000) : b.log2 + i.natAbs.log2 < 1000000 := by
  have := h.log
  omega
theorem mul_ok {n m : Nat} {i j : Int} (h : Bits n i) (h' : Bits m j) (hn : n + m < 1000000) : i.natAbs.log2 + j.natAbs.log2 < 1000000 := by
  have := h.log
  have := h'.log
  omega
end Tr
namespace Tr
open PySem
theorem eqvAll_ints : ∀ (l m : List Int), PyData.eqvAll (l.map .int) (m.map .int) = decide (l = m)
  | [], [] => by simp [PyData.eqvAll]
  | [], _ :: _ => by simp [PyData.eqvAll]
  | _ :: _, [] => by simp [PyData.eqvAll]
  | x :: l, y :: m => by
    rw [List.map_cons, List.map_cons, PyData.eqvAll, eqvAll_ints l m]
    by_cases h : x = y
    · by_cases h2 : l = m <;> simp [PyData.eqv, h, h2]
    · simp [PyData.eqv, h]
theorem eqOk_TT (l m : List Int) : eqOk (.tuple (l.map .int)) (.tuple (m.map .int)) = true := by
  simp [eqOk, PyData.canLay0, PyData.depth, canAll_ints, depthAll_ints]
theorem eqOk_LL (l m : List Int) : eqOk (.list (l.map .int)) (.list (m.map .int)) = true := by
  simp [eqOk, PyData.canLay0, PyData.depth, canAll_ints, depthAll_ints]
@[simp] theorem cmp_eq_TT (l m : List Int) : cmpD .eq (.tuple (l.map .int)) (.tuple (m.map .int)) = some (.bool (decide (l = m))) := by
  simp [cmpD, eqOk_TT, PyData.eqv, eqvAll_ints]
@[simp] theorem cmp_eq_LL (l m : List Int) : cmpD .eq (.list (l.map .int)) (.list (m.map .int)) = some (.bool (decide (l = m))) := by
  simp [cmpD, eqOk_LL, PyData.eqv, eqvAll_ints]
@[simp] theorem cmp_eq_T0 (l : List Int) : cmpD .eq (.tuple (l.map .int)) (.tuple []) = some (.bool (decide (l = []))) := cmp_eq_TT l []
@[simp] theorem cmp_eq_L0 (l : List Int) : cmpD .eq (.list (l.map .int)) (.list []) = some (.bool (decide (l = []))) := cmp_eq_LL l []
theorem rng_eq (a : Int) (n : Nat) : rng a n = ((List.range n).map fun (k : Nat) => a + (k : Int)).map .int := by
  unfold rng
  rw [List.map_map]
  rfl
/-- the whole numbers from a on, n of them -/
def upI (a : Int) (n : Nat) : List Int := (List.range n).map fun (k : Nat) => a + (k : Int)
theorem rng_up (a : Int) (n : Nat) : rng a n = (upI a n).map .int := rng_eq a n
theorem mem_up {a : Int} {n : Nat} {i : Int} : i ∈ upI a n ↔ a ≤ i ∧ i < a + n := by
  unfold upI
  simp only [List.mem_map, List.mem_range]
  constructor
  · rintro ⟨k, hk, rfl⟩; omega
  · rintro ⟨h1, h2⟩; exact ⟨(i - a).toNat, by omega, by omega⟩
theorem len_up {a : Int} {n : Nat} : (upI a n).length = n := by simp [upI]
theorem mod_ok {P : Int → Prop} {i m : Int} (h : 0 < m) (q : ∀ r, 0 ≤ r → r < m → P r) : P (i.fmod m) := q _ (mod_rng h).1 (mod_rng h).2
end Tr
namespace Tr
open PySem
theorem comp_each {α : Type} {own : List Nat} {asg : D → Tr.Env → Option Tr.Env} {tst : Tr.Env → R Bool} {elt : Tr.Env → R O} {Q : List O → Tr.Env → Prop} {ρ : Tr.Env} {c : α → D} (f : α → O) {xs : List α}
    (h : ∀ x ∈ xs, ∃ ρ1, asg (c x) ρ = some ρ1 ∧ (tst ρ1).wp fun b ρ2 => b = true ∧ (elt ρ2).wp fun o ρ3 => o = f x ∧ wipeE own ρ3 = ρ) (q : Q (xs.map f) ρ) : (compL own asg tst elt (xs.map c) ρ).wp Q := by
  refine comp_map (fun _ => true) f (fun x hx => ?_) ?_
  · obtain ⟨ρ1, e1, h1⟩ := h x hx
    exact ⟨ρ1, e1, R.wp_mono h1 fun b ρ2 h2 => ⟨h2.1, fun _ => h2.2, fun z => by cases z⟩⟩
  · rw [List.filter_eq_self.mpr fun _ _ => rfl]
    exact q
theorem loop0 {asg : D → Tr.Env → Option Tr.Env} {body : Tr.Env → R Fl} {Q : Fl → Tr.Env → Prop} {ds : List D} {ρ : Tr.Env} (Inv : Nat → Tr.Env → Prop) (h0 : Inv 0 ρ)
    (st : ∀ i d ρ, ds[i]? = some d → Inv i ρ → ∃ ρ1, asg d ρ = some ρ1 ∧ (body ρ1).wp fun fl ρ2 => match fl with
      | .nx => Inv (i + 1) ρ2 | .ct => Inv (i + 1) ρ2 | .brk => Q .nx ρ2 | .ret o => Q (.ret o) ρ2) (fin : ∀ ρ, Inv ds.length ρ → Q .nx ρ) : (loopL asg body ds ρ).wp Q :=
  loop_wp Inv 0 h0 (fun i d ρ e hi => by rw [Nat.zero_add] at hi ⊢; exact st i d ρ e hi) fun ρ h => fin ρ (by rw [Nat.zero_add] at h; exact h)
/-- a loop over the items c x, x in xs -/
theorem loopM {α : Type} {c : α → D} {xs : List α} {asg : D → Tr.Env → Option Tr.Env} {body : Tr.Env → R Fl} {Q : Fl → Tr.Env → Prop} {ρ : Tr.Env} (Inv : Nat → Tr.Env → Prop) (h0 : Inv 0 ρ)
    (st : ∀ i x ρ, xs[i]? = some x → Inv i ρ → ∃ ρ1, asg (c x) ρ = some ρ1 ∧ (body ρ1).wp fun fl ρ2 => match fl with
      | .nx => Inv (i + 1) ρ2 | .ct => Inv (i + 1) ρ2 | .brk => Q .nx ρ2 | .ret o => Q (.ret o) ρ2) (fin : ∀ ρ, Inv xs.length ρ → Q .nx ρ) : (loopL asg body (xs.map c) ρ).wp Q :=
  loop0 Inv h0 (fun i d ρ e hi => by
    rw [List.getElem?_map] at e
    cases ex : xs[i]? with
    | none => rw [ex] at e; cases e
    | some x => rw [ex] at e; cases e; exact st i x ρ ex hi) fun ρ h => fin ρ (by rw [List.length_map] at h; exact h)
theorem rng_at {a : Int} {n i : Nat} {d : D} (h : (rng a n)[i]? = some d) : d = .int (a + i) ∧ i < n := by
  unfold rng at h
  rw [List.getElem?_map] at h
  cases e : (List.range n)[i]? with
  | none => rw [e] at h; cases h
  | some k =>
    rw [e] at h
    cases h
    have hl := (List.getElem?_eq_some_iff.mp e).1
    rw [List.length_range] at hl
    rw [List.getElem?_range hl] at e
    cases e
    exact ⟨rfl, hl⟩
@[simp] theorem rng_length {a : Int} {n : Nat} : (rng a n).length = n := by simp [rng]
end Tr
namespace Tr
open PySem
theorem atD_map {α β : Type} {f : α → β} {l : List α} {i : Int} {n : Nat} (h0 : 0 ≤ i) (e : i.toNat = n) (h : n < l.length) : atD (l.map f) i = some (f l[n]) := by
  subst e
  exact atD_ok h0 (by rw [List.getElem?_map, List.getElem?_eq_getElem h]; rfl)
end Tr
namespace Tr
open PySem
/-- .. with what is known of those that pass -/
theorem comp_flt {α : Type} {own : List Nat} {asg : D → Tr.Env → Option Tr.Env} {tst : Tr.Env → R Bool} {elt : Tr.Env → R O} {Q : List O → Tr.Env → Prop} {ρ : Tr.Env} {c : α → D} (p : α → Bool) (f : α → O) {xs : List α}
    (h : ∀ x ∈ xs, ∃ ρ1, asg (c x) ρ = some ρ1 ∧ (tst ρ1).wp fun b ρ2 => b = p x ∧ (p x = true → (elt ρ2).wp fun o ρ3 => o = f x ∧ wipeE own ρ3 = ρ) ∧ (p x = false → wipeE own ρ2 = ρ))
    (q : ∀ ys : List α, (∀ y, y ∈ ys ↔ y ∈ xs ∧ p y = true) → ys.length ≤ xs.length → ys.Sublist xs → Q (ys.map f) ρ) : (compL own asg tst elt (xs.map c) ρ).wp Q :=
  comp_map p f h (q _ (fun y => List.mem_filter) (List.length_filter_le _ _) List.filter_sublist)
end Tr
set_option Elab.async false
set_option linter.all false
set_option maxRecDepth 100000
set_option maxHeartbeats 4000000
/-! TrR: fractions. -/
namespace Tr
open PySem
/-- a fraction as data -/
def frD (q : Rat) : D := .tuple [.int q.num, .int q.den]
theorem frac_pos {a : Int} {n : Nat} (h : n ≠ 0) : (Rat.divInt a n).num = a / (a.natAbs.gcd n : Nat) ∧ (Rat.divInt a n).den = n / a.natAbs.gcd n := by
  have e : Rat.divInt a n = Rat.normalize a n h := by
    rw [Rat.divInt_ofNat, Rat.normalize_eq_mkRat]
  rw [e, Rat.normalize_eq]
  exact ⟨rfl, rfl⟩
theorem fdiv_dvd {a g : Int} (hg : 0 < g) : a.fdiv g = a / g := Int.fdiv_eq_ediv_of_nonneg a (by omega)
theorem fdiv_neg_dvd {a g : Int} (h : g ∣ a) : a.fdiv (-g) = (-a) / g := by
  obtain ⟨c, rfl⟩ := h
  by_cases hg : g = 0
  · subst hg; rw [Int.zero_mul]; rfl
  · rw [show -(g * c) = g * (-c) by rw [Int.mul_neg], Int.mul_ediv_cancel_left _ hg, show g * c = (-g) * (-c) from (Int.neg_mul_neg g c).symm, Int.mul_fdiv_cancel_left _ (by omega)]
theorem frac_eq {a b : Int} (hb : b ≠ 0) : .tuple [.int (a.fdiv (if b < 0 then -(a.gcd b : Int) else (a.gcd b : Int))), .int (b.fdiv (if b < 0 then -(a.gcd b : Int) else (a.gcd b : Int)))] = frD (Rat.divInt a b) := by
  have hg : 0 < a.gcd b := Int.gcd_pos_of_ne_zero_right _ hb
  unfold frD
  by_cases h : b < 0
  · rw [if_pos h]
    obtain ⟨n, rfl⟩ : ∃ n : Nat, b = -(n : Int) := ⟨b.natAbs, by omega⟩
    have hn : n ≠ 0 := by omega
    have e : Rat.divInt a (-(n : Int)) = Rat.divInt (-a) n := by have := Rat.neg_divInt_neg (-a) n; rw [Int.neg_neg] at this; exact this
    obtain ⟨h1, h2⟩ := frac_pos (a := -a) hn
    have eg : (a.gcd (-(n : Int)) : Nat) = (-a).natAbs.gcd n := by simp [Int.gcd]
    rw [e, h1, h2, ← eg]
    rw [fdiv_neg_dvd (Int.gcd_dvd_left ..), fdiv_neg_dvd (Int.gcd_dvd_right ..)]
    simp
  · rw [if_neg h]
    obtain ⟨n, rfl⟩ : ∃ n : Nat, b = (n : Int) := ⟨b.natAbs, by omega⟩
    have hn : n ≠ 0 := by omega
    obtain ⟨h1, h2⟩ := frac_pos (a := a) hn
    have eg : (a.gcd (n : Int) : Nat) = a.natAbs.gcd n := by simp [Int.gcd]
    rw [h1, h2, ← eg, fdiv_dvd (by omega), fdiv_dvd (by omega)]
    simp
theorem gcd_fmod {a b : Nat} (hb : 0 < b) : ((a : Int).fmod b) = ((a % b : Nat) : Int) := by
  rw [Int.fmod_eq_emod_of_nonneg _ (by omega)]
  simp
/-- size: at most n bits above and below -/
structure Sz (n : Nat) (q : Rat) : Prop where
  num : q.num.natAbs < 2 ^ n
  den : q.den < 2 ^ n
theorem Sz.mono {n m : Nat} {q : Rat} (h : Sz n q) (hm : n ≤ m) : Sz m q := ⟨Nat.lt_of_lt_of_le h.num (two_mono hm), Nat.lt_of_lt_of_le h.den (two_mono hm)⟩
theorem sz_divInt {a b : Int} {n : Nat} (hb : b ≠ 0) (h1 : a.natAbs < 2 ^ n) (h2 : b.natAbs < 2 ^ n) : Sz n (Rat.divInt a b) := by
  by_cases h : b < 0
  · obtain ⟨m, rfl⟩ : ∃ n : Nat, b = -(n : Int) := ⟨b.natAbs, by omega⟩
    have e : Rat.divInt a (-(m : Int)) = Rat.divInt (-a) m := by have := Rat.neg_divInt_neg (-a) m; rw [Int.neg_neg] at this; exact this
    obtain ⟨k1, k2⟩ := frac_pos (a := -a) (n := m) (by omega)
    rw [e]
    refine ⟨?_, ?_⟩
    · rw [k1]
      have := Int.natAbs_ediv_le_natAbs (-a) (((-a).natAbs.gcd m : Nat) : Int)
      omega
    · rw [k2]
      have := Nat.div_le_self m ((-a).natAbs.gcd m)
      omega
  · obtain ⟨m, rfl⟩ : ∃ n : Nat, b = (n : Int) := ⟨b.natAbs, by omega⟩
    obtain ⟨k1, k2⟩ := frac_pos (a := a) (n := m) (by omega)
    refine ⟨?_, ?_⟩
    · rw [k1]
      have := Int.natAbs_ediv_le_natAbs a ((a.natAbs.gcd m : Nat) : Int)
      omega
    · rw [k2]
      have := Nat.div_le_self m (a.natAbs.gcd m)
      omega
theorem den0 (q : Rat) : (q.den : Int) ≠ 0 := by have := q.den_pos; omega
theorem add_divInt (p q : Rat) : p + q = Rat.divInt (p.num * q.den + q.num * p.den) (p.den * q.den) := by
  have h := Rat.divInt_add_divInt p.num q.num (den0 p) (den0 q)
  rw [Rat.num_divInt_den, Rat.num_divInt_den] at h
  exact h
theorem sub_divInt (p q : Rat) : p - q = Rat.divInt (p.num * q.den - q.num * p.den) (p.den * q.den) := by
  have h := Rat.divInt_sub_divInt p.num q.num (den0 p) (den0 q)
  rw [Rat.num_divInt_den, Rat.num_divInt_den] at h
  exact h
theorem mul_divInt (p q : Rat) : p * q = Rat.divInt (p.num * q.num) (p.den * q.den) := by
  have h := Rat.divInt_mul_divInt p.num q.num (d₁ := p.den) (d₂ := q.den)
  rw [Rat.num_divInt_den, Rat.num_divInt_den] at h
  exact h
theorem div_divInt (p q : Rat) : p / q = Rat.divInt (p.num * q.den) (p.den * q.num) := by
  rw [Rat.div_def]
  have e : q⁻¹ = Rat.divInt q.den q.num := by
    have := Rat.inv_divInt q.num q.den
    rw [Rat.num_divInt_den] at this
    exact this
  rw [e]
  have h := Rat.divInt_mul_divInt p.num (q.den : Int) (d₁ := p.den) (d₂ := q.num)
  rw [Rat.num_divInt_den] at h
  exact h
theorem Sz.bn {n : Nat} {q : Rat} (h : Sz (n + 1) q) : Bits n q.num := h.num
theorem Sz.bd {n : Nat} {q : Rat} (h : Sz (n + 1) q) : Bits n (q.den : Int) := by unfold Bits; simpa using h.den
/-- sizes of results -/
theorem Sz.mul {n m : Nat} {p q : Rat} (h : Sz n p) (h' : Sz m q) : Sz (n + m) (p * q) := by
  rw [mul_divInt]
  refine sz_divInt (Int.mul_ne_zero (den0 p) (den0 q)) ?_ ?_
  · rw [Int.natAbs_mul, Nat.pow_add]; exact Nat.mul_lt_mul'' h.num h'.num
  · rw [Int.natAbs_mul, Nat.pow_add]; exact Nat.mul_lt_mul'' (by simpa using h.den) (by simpa using h'.den)
theorem Sz.div {n m : Nat} {p q : Rat} (h : Sz n p) (h' : Sz m q) (h0 : q ≠ 0) : Sz (n + m) (p / q) := by
  rw [div_divInt]
  refine sz_divInt (Int.mul_ne_zero (den0 p) fun e => h0 (Rat.num_eq_zero.mp e)) ?_ ?_
  · rw [Int.natAbs_mul, Nat.pow_add]; exact Nat.mul_lt_mul'' h.num (by simpa using h'.den)
  · rw [Int.natAbs_mul, Nat.pow_add]; exact Nat.mul_lt_mul'' (by simpa using h.den) h'.num
theorem sum_lt {a b : Int} {n : Nat} (h : a.natAbs < 2 ^ n) (h' : b.natAbs < 2 ^ n) : (a + b).natAbs < 2 ^ (n + 1) := by
  have := Int.natAbs_add_le a b
  have e : 2 ^ (n + 1) = 2 ^ n + 2 ^ n := by rw [Nat.pow_succ]; omega
  omega
theorem Sz.add {n m : Nat} {p q : Rat} (h : Sz n p) (h' : Sz m q) : Sz (n + m + 1) (p + q) := by
  rw [add_divInt]
  refine sz_divInt (Int.mul_ne_zero (den0 p) (den0 q)) (sum_lt ?_ ?_) ?_
  · rw [Int.natAbs_mul, Nat.pow_add]; exact Nat.mul_lt_mul'' h.num (by simpa using h'.den)
  · rw [Int.natAbs_mul, Nat.add_comm, Nat.pow_add]; exact Nat.mul_lt_mul'' h'.num (by simpa using h.den)
  · rw [Int.natAbs_mul]
    refine Nat.lt_of_lt_of_le (Nat.mul_lt_mul'' (show (p.den : Int).natAbs < 2 ^ n by simpa using h.den) (show (q.den : Int).natAbs < 2 ^ m by simpa using h'.den)) ?_
    rw [← Nat.pow_add]
    exact two_mono (by omega)
theorem Sz.neg {n : Nat} {q : Rat} (h : Sz n q) : Sz n (-q) := ⟨by rw [Rat.neg_num, Int.natAbs_neg]; exact h.num, by rw [Rat.neg_den]; exact h.den⟩
theorem Sz.sub {n m : Nat} {p q : Rat} (h : Sz n p) (h' : Sz m q) : Sz (n + m + 1) (p - q) := by
  rw [Rat.sub_eq_add_neg]
  exact h.add h'.neg
end Tr
namespace Tr
open PySem
theorem frD_inj {p q : Rat} : frD p = frD q ↔ p = q := by
  constructor
  · intro h
    unfold frD at h
    injection h with h
    injection h with h1 h
    injection h with h2 _
    injection h1 with h1
    injection h2 with h2
    exact Rat.ext h1 (by omega)
  · rintro rfl; rfl
theorem eqv_fr {p q : Rat} : PyData.eqv (frD p) (frD q) = decide (p = q) := by
  have : PyData.eqv (frD p) (frD q) = decide ([p.num, (p.den : Int)] = [q.num, (q.den : Int)]) := eqvAll_ints [p.num, p.den] [q.num, q.den]
  rw [this]
  by_cases h : p = q
  · subst h; simp
  · rw [decide_eq_false h]
    rw [decide_eq_false]
    intro e
    injection e with e1 e
    injection e with e2 _
    exact h (Rat.ext e1 (by omega))
theorem eqOk_fr {p q : Rat} : eqOk (frD p) (frD q) = true := eqOk_TT [p.num, p.den] [q.num, q.den]
theorem cmp_eq_fr {p q : Rat} : cmpD .eq (frD p) (frD q) = some (.bool (decide (p = q))) := by simp [cmpD, eqOk_fr, eqv_fr]
theorem cmp_ne_fr {p q : Rat} : cmpD .ne (frD p) (frD q) = some (.bool (decide (p ≠ q))) := by simp [cmpD, eqOk_fr, eqv_fr]
theorem fr_lit {a : Int} {b : Nat} {q : Rat} (h1 : q.num = a) (h2 : q.den = b) : .tuple [.int a, .int b] = frD q := by unfold frD; rw [h1, h2]
theorem fr_01 : .tuple [.int 0, .int 1] = frD 0 := rfl
theorem fr_11 : .tuple [.int 1, .int 1] = frD 1 := rfl
theorem fr_21 : .tuple [.int 2, .int 1] = frD 2 := rfl
theorem fr_12 : .tuple [.int 1, .int 2] = frD (1/2) := by apply fr_lit <;> decide +kernel
end Tr
set_option Elab.async false
set_option linter.all false
set_option maxRecDepth 100000
set_option maxHeartbeats 4000000
/-! LibN: the program's numbers, once for all laws. -/
namespace Lib
open PySem Tr
def ir_common : Ss := (.cons (.set 2 (.ofE (.b1 .abs (.v 0)))) (.cons (.set 3 (.ofE (.b1 .abs (.v 1)))) (.cons (.whl (.cmp .gt (.v 3) (.int 0)) (.cons (.par 2 3 (.v 3) (.op .mod (.v 2) (.v 3))) .nil)) (.cons (.ret (.ofE (.v 2))) .nil))))
noncomputable def fn_common (Φ : Tab) : Fn := mkFn 4 [false, false] ((ir_common).sem Φ)
def ir_fraction (k0 : Nat) : Ss := (.cons (.ite (.cmp .eq (.v 1) (.int 0)) (.cons .never .nil) .nil) (.cons (.set 2 (.call k0 (.e (.v 0) (.e (.v 1) .nil)))) (.cons (.ite (.cmp .lt (.v 1) (.int 0)) (.cons (.set 2 (.ofE (.op .sub (.int 0) (.v 2)))) .nil) .nil) (.cons (.ret (.ofE (.tup (.cons (.op .fdiv (.v 0) (.v 2)) (.cons (.op .fdiv (.v 1) (.v 2)) .nil))))) .nil))))
noncomputable def fn_fraction (Φ : Tab) (k0 : Nat) : Fn := mkFn 3 [false, false] ((ir_fraction k0).sem Φ)
def ir_plus (k0 : Nat) : Ss := (.cons (.ret (.call k0 (.e (.ofF (.add (.ofF (.mul (.ix (.v 0) (.int 0)) (.ix (.v 1) (.int 1)))) (.ofF (.mul (.ix (.v 1) (.int 0)) (.ix (.v 0) (.int 1)))))) (.e (.ofF (.mul (.ix (.v 0) (.int 1)) (.ix (.v 1) (.int 1)))) .nil)))) .nil)
noncomputable def fn_plus (Φ : Tab) (k0 : Nat) : Fn := mkFn 2 [false, false] ((ir_plus k0).sem Φ)
def ir_less (k0 : Nat) : Ss := (.cons (.ret (.call k0 (.e (.op .sub (.ofF (.mul (.ix (.v 0) (.int 0)) (.ix (.v 1) (.int 1)))) (.ofF (.mul (.ix (.v 1) (.int 0)) (.ix (.v 0) (.int 1))))) (.e (.ofF (.mul (.ix (.v 0) (.int 1)) (.ix (.v 1) (.int 1)))) .nil)))) .nil)
noncomputable def fn_less (Φ : Tab) (k0 : Nat) : Fn := mkFn 2 [false, false] ((ir_less k0).sem Φ)
def ir_times (k0 : Nat) : Ss := (.cons (.ret (.call k0 (.e (.ofF (.mul (.ix (.v 0) (.int 0)) (.ix (.v 1) (.int 0)))) (.e (.ofF (.mul (.ix (.v 0) (.int 1)) (.ix (.v 1) (.int 1)))) .nil)))) .nil)
noncomputable def fn_times (Φ : Tab) (k0 : Nat) : Fn := mkFn 2 [false, false] ((ir_times k0).sem Φ)
def ir_over (k0 : Nat) : Ss := (.cons (.ret (.call k0 (.e (.ofF (.mul (.ix (.v 0) (.int 0)) (.ix (.v 1) (.int 1)))) (.e (.ofF (.mul (.ix (.v 0) (.int 1)) (.ix (.v 1) (.int 0)))) .nil)))) .nil)
noncomputable def fn_over (Φ : Tab) (k0 : Nat) : Fn := mkFn 2 [false, false] ((ir_over k0).sem Φ)
def ir_order : Ss := (.cons (.set 2 (.ofE (.op .sub (.ofF (.mul (.ix (.v 0) (.int 0)) (.ix (.v 1) (.int 1)))) (.ofF (.mul (.ix (.v 1) (.int 0)) (.ix (.v 0) (.int 1))))))) (.cons (.ret (.ofE (.op .sub (.b1 .int (.cmp .gt (.v 2) (.int 0))) (.b1 .int (.cmp .lt (.v 2) (.int 0)))))) .nil))
noncomputable def fn_order (Φ : Tab) : Fn := mkFn 3 [false, false] ((ir_order).sem Φ)
def ir_next : Ss := (.cons (.ite (.cmp .gt (.ix1 0 (.int 2)) (.int 0)) (.cons (.set 3 (.ofE (.op .mod (.ix1 0 (.int 2)) (.v 1)))) (.cons (.store 0 (.int 2) (.ofE (.op .fdiv (.ix1 0 (.int 2)) (.v 1)))) (.cons (.ret (.ofE (.v 3))) .nil))) .nil) (.cons (.set 2 (.ofE (.int 0))) (.cons (.ite (.cmp .lt (.ix1 0 (.int 1)) (.plen (.ix (.v 0) (.int 0)))) (.cons (.set 2 (.ofE (.pix (.ix (.ix (.v 0) (.int 0)) (.p (.ix (.v 0) (.int 1))))))) .nil) .nil) (.cons (.store 0 (.int 1) (.add (.ix1 0 (.int 1)) (.int 1))) (.cons (.ite (.cmp .ge (.v 2) (.op .pow (.int 10) (.int 18))) (.cons (.store 0 (.int 2) (.ofE (.op .fdiv (.v 2) (.v 1)))) (.cons (.ret (.ofE (.op .mod (.v 2) (.v 1)))) .nil)) .nil) (.cons (.store 0 (.int 3) (.ofE (.op .mod (.ofF (.add (.ofF (.add (.ofF (.mul (.ix1 0 (.int 3)) (.int 48271))) (.op .mod (.v 2) (.int 2147483629)))) (.ofF (.mul (.int 7) (.ix1 0 (.int 1)))))) (.int 2147483647)))) (.cons (.ret (.ofE (.op .mod (.op .fdiv (.op .mod (.ofF (.mul (.ix1 0 (.int 3)) (.int 69621))) (.int 2147483629)) (.int 64)) (.v 1)))) .nil)))))))
noncomputable def fn_next (Φ : Tab) : Fn := mkFn 4 [true, false] ((ir_next).sem Φ)
def ir_lcommon : Ss := (.cons (.whl (.cmp .ne (.v 1) (.int 0)) (.cons (.par 0 1 (.v 1) (.op .mod (.v 0) (.v 1))) .nil)) (.cons (.ret (.ofE (.b1 .abs (.v 0)))) .nil))
noncomputable def fn_lcommon (Φ : Tab) : Fn := mkFn 2 [false, false] ((ir_lcommon).sem Φ)
def ir_lowest (k0 : Nat) : Ss := (.cons (.set 2 (.call k0 (.e (.v 0) (.e (.v 1) .nil)))) (.cons (.ite (.cmp .lt (.v 1) (.int 0)) (.cons (.set 2 (.ofE (.op .sub (.int 0) (.v 2)))) .nil) .nil) (.cons (.ret (.ofE (.tup (.cons (.op .fdiv (.v 0) (.v 2)) (.cons (.op .fdiv (.v 1) (.v 2)) .nil))))) .nil)))
noncomputable def fn_lowest (Φ : Tab) (k0 : Nat) : Fn := mkFn 3 [false, false] ((ir_lowest k0).sem Φ)
theorem call_sp {Φ : Tab} {k : Nat} {as : List Ag} {ρ : Tr.Env} {fn : Fn} {os : List O} {Q : PQ} (hf : Φ.fn[k]? = some fn) (hm : fn.modes = modesOf as) (hc : (decide (slotsR as).Nodup && (slotsB as).all fun i => !(slotsR as).contains i) = true) (hg : gather ρ as = some os) (h : (fn.run os).wp (callK as ρ Q)) : (callF Φ k as ρ).wp Q :=
  call_wp hf (by unfold callOk; rw [hm, decide_eq_true rfl, Bool.true_and]; exact hc) hg h
/-- gcd -/
structure SpCommon (f : Fn) : Prop where
  modes : f.modes = [false, false]
  run : ∀ {a b : Int} {Q : PQ}, Q (.frz (.int (Int.gcd a b))) [] → (f.run [.frz (.int a), .frz (.int b)]).wp Q
theorem gcd_step {a b : Nat} (h : 0 < b) : (b.gcd (a % b)) = a.gcd b := by rw [Nat.gcd_comm a b, Nat.gcd_rec b a, Nat.gcd_comm]
theorem abs_nat (a : Int) : (if a < 0 then -a else a) = (a.natAbs : Int) := by split <;> omega
theorem sp_common {Φ : Tab} : SpCommon (fn_common Φ) := ⟨rfl, fun {a b Q} q => by
  unfold fn_common
  rw [fn_wp]
  refine ⟨rfl, ?_⟩
  simp [ir_common, abs_nat]
  refine whl_wp (fun n ρ => ∃ x : Nat, x.gcd n = Int.gcd a b ∧ ρ = [some (.frz (.int a)), some (.frz (.int b)), some (.frz (.int x)), some (.frz (.int n))]) (fun n ρ hi => ?_) b.natAbs ⟨a.natAbs, rfl, rfl⟩
  obtain ⟨x, hx, rfl⟩ := hi
  simp
  refine ⟨fun h0 => ⟨by omega, x % n, Nat.mod_lt _ h0, n, (gcd_step h0).trans hx, rfl, gcd_fmod h0⟩, fun h0 => ?_⟩
  subst h0
  rw [Nat.gcd_zero_right] at hx
  subst hx
  exact q⟩
theorem sp_lcommon {Φ : Tab} : SpCommon (fn_lcommon Φ) := ⟨rfl, fun {a b Q} q => by
  unfold fn_lcommon
  rw [fn_wp]
  refine ⟨rfl, ?_⟩
  simp [ir_lcommon]
  refine whl_wp (fun n ρ => ∃ x y : Int, y.natAbs = n ∧ Int.gcd x y = Int.gcd a b ∧ ρ = [some (.frz (.int x)), some (.frz (.int y))]) (fun n ρ hi => ?_) b.natAbs ⟨a, b, rfl, rfl, rfl⟩
  obtain ⟨x, y, hn, hx, rfl⟩ := hi
  simp [abs_nat]
  refine ⟨fun h0 => ⟨h0, (x.fmod y).natAbs, ?_, y, x.fmod y, rfl, ?_, rfl, rfl⟩, fun h0 => ?_⟩
  · subst hn
    by_cases hy : 0 < y
    · have := mod_rng (i := x) hy; omega
    · have h1 := mod_rng (i := -x) (m := -y) (by omega)
      rw [Int.neg_fmod_neg] at h1
      omega
  · rw [← hx]
    have e : x.fmod y = x - y * x.fdiv y := Int.fmod_def ..
    rw [e, Int.gcd_sub_mul_left_right, Int.gcd_comm]
  · subst h0
    rw [Int.gcd_zero_right] at hx
    rw [hx]
    exact q⟩
/-- a fraction of two whole numbers -/
structure SpFrac (f : Fn) : Prop where
  modes : f.modes = [false, false]
  run : ∀ {a b : Int} {Q : PQ}, b ≠ 0 → Bits 8000 b → Q (.frz (frD (Rat.divInt a b))) [] → (f.run [.frz (.int a), .frz (.int b)]).wp Q
theorem gcd_bits {a b : Int} (hb : b ≠ 0) (h : Bits 8000 b) : (a.gcd b : Int) ≠ 0 ∧ (a.gcd b).log2 < 9000 := by
  have hg : 0 < a.gcd b := Int.gcd_pos_of_ne_zero_right _ hb
  refine ⟨by omega, ?_⟩
  have h1 : a.gcd b ≤ b.natAbs := Nat.le_of_dvd (by omega) (Int.gcd_dvd_natAbs_right a b)
  have : (a.gcd b).log2 ≤ 8000 := log2_le (Nat.lt_of_le_of_lt h1 h)
  omega
theorem sp_fraction {Φ : Tab} {k : Nat} {f : Fn} (hf : Φ.fn[k]? = some f) (s : SpCommon f) : SpFrac (fn_fraction Φ k) := ⟨rfl, fun {a b Q} h0 hb q => by
  unfold fn_fraction
  rw [fn_wp]
  refine ⟨rfl, ?_⟩
  simp [ir_fraction, h0]
  refine call_sp hf s.modes rfl rfl (s.run ?_)
  simp [callK]
  obtain ⟨g1, g2⟩ := gcd_bits (a := a) h0 hb
  have g1' : a.gcd b ≠ 0 := by omega
  have fin := frac_eq (a := a) h0
  refine ⟨fun h1 => ?_, fun h1 => ?_⟩
  · rw [if_pos h1] at fin
    simp [g2, h0] at g1' ⊢
    rw [fin]
    exact q
  · rw [if_neg (by omega)] at fin
    simp [g2, h0]
    rw [fin]
    exact q⟩
/-- sums and their like -/
structure SpTwo (g : Rat → Rat → Rat) (ok : Rat → Rat → Prop) (f : Fn) : Prop where
  modes : f.modes = [false, false]
  run : ∀ {p q : Rat} {Q : PQ}, Sz 4000 p → Sz 4000 q → ok p q → Q (.frz (frD (g p q))) [] → (f.run [.frz (frD p), .frz (frD q)]).wp Q
abbrev SpPlus := SpTwo (fun p q => p + q) fun _ _ => True
abbrev SpLess := SpTwo (fun p q => p - q) fun _ _ => True
abbrev SpTimes := SpTwo (fun p q => p * q) fun _ _ => True
abbrev SpOver := SpTwo (fun p q => p / q) fun _ q => q ≠ 0
theorem num_ne {q : Rat} (h : q ≠ 0) : q.num ≠ 0 := fun e => h (Rat.num_eq_zero.mp e)
section
variable {Φ : Tab} {k : Nat} {f : Fn}
theorem m_ok {i j : Int} (h : Bits 3999 i) (h' : Bits 3999 j) : i.natAbs.log2 + j.natAbs.log2 < 1000000 := mul_ok h h' (by decide)
theorem b_ok {i j : Int} (h : Bits 3999 i) (h' : Bits 3999 j) : Bits 8000 (i * j) := (h.mul h').mono (by decide)
theorem sp_plus (hf : Φ.fn[k]? = some f) (s : SpFrac f) : SpPlus (fn_plus Φ k) := ⟨rfl, fun {p q Q} hp hq _ w => by
  unfold fn_plus
  rw [fn_wp]
  refine ⟨rfl, ?_⟩
  have h1 := m_ok hp.bn hq.bd
  have h2 := m_ok hq.bn hp.bd
  have h3 := m_ok hp.bd hq.bd
  simp at h1 h2 h3
  simp [ir_plus, frD, h1, h2, h3]
  refine call_sp hf s.modes rfl rfl (s.run (Int.mul_ne_zero (den0 p) (den0 q)) (b_ok hp.bd hq.bd) ?_)
  rw [← add_divInt]
  simpa [callK, frD] using w⟩
theorem sp_less (hf : Φ.fn[k]? = some f) (s : SpFrac f) : SpLess (fn_less Φ k) := ⟨rfl, fun {p q Q} hp hq _ w => by
  unfold fn_less
  rw [fn_wp]
  refine ⟨rfl, ?_⟩
  have h1 := m_ok hp.bn hq.bd
  have h2 := m_ok hq.bn hp.bd
  have h3 := m_ok hp.bd hq.bd
  simp at h1 h2 h3
  simp [ir_less, frD, h1, h2, h3]
  refine call_sp hf s.modes rfl rfl (s.run (Int.mul_ne_zero (den0 p) (den0 q)) (b_ok hp.bd hq.bd) ?_)
  rw [← sub_divInt]
  simpa [callK, frD] using w⟩
theorem sp_times (hf : Φ.fn[k]? = some f) (s : SpFrac f) : SpTimes (fn_times Φ k) := ⟨rfl, fun {p q Q} hp hq _ w => by
  unfold fn_times
  rw [fn_wp]
  refine ⟨rfl, ?_⟩
  have h1 := m_ok hp.bn hq.bn
  have h3 := m_ok hp.bd hq.bd
  simp at h1 h3
  simp [ir_times, frD, h1, h3]
  refine call_sp hf s.modes rfl rfl (s.run (Int.mul_ne_zero (den0 p) (den0 q)) (b_ok hp.bd hq.bd) ?_)
  rw [← mul_divInt]
  simpa [callK, frD] using w⟩
theorem sp_over (hf : Φ.fn[k]? = some f) (s : SpFrac f) : SpOver (fn_over Φ k) := ⟨rfl, fun {p q Q} hp hq h0 w => by
  unfold fn_over
  rw [fn_wp]
  refine ⟨rfl, ?_⟩
  have h1 := m_ok hp.bn hq.bd
  have h3 := m_ok hp.bd hq.bn
  simp at h1 h3
  simp [ir_over, frD, h1, h3]
  refine call_sp hf s.modes rfl rfl (s.run (Int.mul_ne_zero (den0 p) (num_ne h0)) (b_ok hp.bd hq.bn) ?_)
  rw [← div_divInt]
  simpa [callK, frD] using w⟩
/-- -1, 0, 1 -/
def ordI (p q : Rat) : Int := if p < q then -1 else if q < p then 1 else 0
structure SpOrder (f : Fn) : Prop where
  modes : f.modes = [false, false]
  run : ∀ {p q : Rat} {Q : PQ}, Sz 4000 p → Sz 4000 q → Q (.frz (.int (ordI p q))) [] → (f.run [.frz (frD p), .frz (frD q)]).wp Q
theorem sp_order : SpOrder (fn_order Φ) := ⟨rfl, fun {p q Q} hp hq w => by
  unfold fn_order
  rw [fn_wp]
  refine ⟨rfl, ?_⟩
  have h1 := m_ok hp.bn hq.bd
  have h2 := m_ok hq.bn hp.bd
  simp at h1 h2
  simp [ir_order, frD, h1, h2]
  have e1 := Rat.lt_iff p q
  have e2 := Rat.lt_iff q p
  unfold ordI at w
  by_cases c1 : p < q
  · have := e1.mp c1
    rw [if_pos c1] at w
    rw [if_neg (by omega), if_pos (by omega)]
    exact w
  · rw [if_neg c1] at w
    by_cases c2 : q < p
    · have := e2.mp c2
      rw [if_pos c2] at w
      rw [if_pos (by omega), if_neg (by omega)]
      exact w
    · have k1 := mt e1.mpr c1
      have k2 := mt e2.mpr c2
      rw [if_neg c2] at w
      rw [if_neg (by omega), if_neg (by omega)]
      exact w⟩
end
end Lib
namespace Lib
open PySem Tr
section
variable {Φ : Tab} {k : Nat} {f : Fn} {ρ : Tr.Env} {p q : Rat}
theorem run_eq {f : Fn} {os : List O} {o : O} {refs : Tr.Env} (h : (f.run os).wp fun o' refs' => o' = o ∧ refs' = refs) : f.run os = .ok o refs := by
  obtain ⟨o', refs', e, rfl, rfl⟩ := FR.wp_iff.mp h
  exact e
theorem call_eq {as : List Ag} {os : List O} {o : O} (hf : Φ.fn[k]? = some f) (hm : f.modes = modesOf as) (hn : slotsR as = []) (hb : slotsB as = []) (hg : gather ρ as = some os) (h : f.run os = .ok o []) : callF Φ k as ρ = .ok o ρ := by
  have hc : callOk as f = true := by
    unfold callOk
    rw [hm, hn, hb, decide_eq_true rfl]
    rfl
  unfold callF
  rw [hf]
  dsimp only
  rw [hc]
  dsimp only
  rw [hg]
  dsimp only
  rw [h]
  dsimp only
  rw [hn, hb]
  simp
theorem call2_eq {g : Rat → Rat → Rat} {ok : Rat → Rat → Prop} (hf : Φ.fn[k]? = some f) (s : SpTwo g ok f) (hp : Sz 4000 p) (hq : Sz 4000 q) (o : ok p q) : callF Φ k [.d (frD p), .d (frD q)] ρ = .ok (.frz (frD (g p q))) ρ :=
  call_eq hf s.modes rfl rfl rfl (run_eq (s.run hp hq o ⟨rfl, rfl⟩))
theorem callO_eq (hf : Φ.fn[k]? = some f) (s : SpOrder f) (hp : Sz 4000 p) (hq : Sz 4000 q) : callF Φ k [.d (frD p), .d (frD q)] ρ = .ok (.frz (.int (ordI p q))) ρ :=
  call_eq hf s.modes rfl rfl rfl (run_eq (s.run hp hq ⟨rfl, rfl⟩))
end
end Lib
namespace Lib
open PySem Tr
theorem ord_neg (p q : Rat) : ordI q p = 0 - ordI p q := by
  unfold ordI
  by_cases h1 : p < q
  · have : ¬ q < p := by grind
    simp [h1, this]
  · by_cases h2 : q < p
    · simp [h1, h2]
    · simp [h1, h2]
theorem ord_add (p q r : Rat) : ordI (p + r) (q + r) = ordI p q := by
  unfold ordI
  have e1 : p + r < q + r ↔ p < q := by grind
  have e2 : q + r < p + r ↔ q < p := by grind
  simp [e1, e2]
theorem ord_mid (p q : Rat) : ordI p ((p + q) / 2) = ordI p q ∧ ordI ((p + q) / 2) q = ordI p q := by
  unfold ordI
  have e1 : p < (p + q) / 2 ↔ p < q := by grind
  have e2 : (p + q) / 2 < p ↔ q < p := by grind
  have e3 : (p + q) / 2 < q ↔ p < q := by grind
  have e4 : q < (p + q) / 2 ↔ q < p := by grind
  simp [e1, e2, e3, e4]
theorem ord_mul (p q r : Rat) : ordI (p * r) (q * r) = ordI p q * (if 0 < r then 1 else if r < 0 then -1 else 0) := by
  unfold ordI
  by_cases h : 0 < r
  · have e1 : p * r < q * r ↔ p < q := Rat.mul_lt_mul_right h
    have e2 : q * r < p * r ↔ q < p := Rat.mul_lt_mul_right h
    simp [e1, e2, h]
  · by_cases h' : r < 0
    · have h2 : 0 < -r := by grind
      have e1 : q * -r < p * -r ↔ q < p := Rat.mul_lt_mul_right h2
      have e2 : p * -r < q * -r ↔ p < q := Rat.mul_lt_mul_right h2
      have e3 : p * r < q * r ↔ q * -r < p * -r := by grind
      have e4 : q * r < p * r ↔ p * -r < q * -r := by grind
      simp only [e3, e4, e1, e2, h, h', if_true, if_false]
      by_cases a : p < q
      · have : ¬ q < p := by grind
        simp [a, this]
      · by_cases b : q < p <;> simp [a, b]
    · have : r = 0 := by grind
      subst this
      simp
@[simp] theorem ix_fr0 {q : Rat} : ixD (frD q) (.int 0) = some (.int q.num) := rfl
@[simp] theorem ix_fr1 {q : Rat} : ixD (frD q) (.int 1) = some (.int q.den) := rfl
theorem num_zero {q : Rat} : q.num = 0 ↔ q = 0 := Rat.num_eq_zero
theorem num_pos' {q : Rat} : 0 < q.num ↔ 0 < q := by
  have := Rat.lt_iff 0 q
  simpa using this.symm
theorem num_neg' {q : Rat} : q.num < 0 ↔ q < 0 := by
  have := Rat.lt_iff q 0
  simpa using this.symm
end Lib
set_option Elab.async false
set_option linter.all false
set_option maxRecDepth 100000
set_option maxHeartbeats 4000000
/-! LibS: the laws' draws out of a state. -/
namespace Lib
open PySem Tr
/-- the drawing state -/
def stO (ns : List Int) (a r s : Int) : O := .box [.scr ns, .frz (.int a), .frz (.int r), .frz (.int s)]
structure OkSt (n : Nat) (o : O) : Prop where
  ex : ∃ ns a r s, o = stO ns a r s ∧ 0 ≤ a ∧ a ≤ n ∧ 0 ≤ s ∧ s < 2147483647
theorem OkSt.mono {n m : Nat} {o : O} (h : OkSt n o) (hm : n ≤ m) : OkSt m o := by
  obtain ⟨ns, a, r, s, e, h1, h2, h3⟩ := h.ex
  exact ⟨ns, a, r, s, e, h1, by omega, h3⟩
theorem okSt_start {ns : List Int} {s : Int} (h : 0 ≤ s ∧ s < 2147483647) : OkSt 0 (stO ns 0 0 s) := ⟨ns, 0, 0, s, rfl, by decide, by decide, h⟩
structure SpNext (f : Fn) : Prop where
  modes : f.modes = [true, false]
  run : ∀ {n : Nat} {st : O} {m : Int} {Q : PQ}, OkSt n st → n < 2 ^ 60 → 0 < m → m < 2 ^ 200 → (∀ v st', 0 ≤ v → v < m → OkSt (n + 1) st' → Q (.frz (.int v)) [some st']) → (f.run [st, .frz (.int m)]).wp Q
theorem log_lt {m : Int} (h0 : 0 < m) (h : m < 2 ^ 200) : m.natAbs.log2 < 9000 := by
  have : m.natAbs.log2 ≤ 199 := log2_le (by omega)
  omega
@[simp] theorem ixN_4_2 : ixN 4 2 = some 2 := rfl
@[simp] theorem ixN_4_1 : ixN 4 1 = some 1 := rfl
@[simp] theorem ixN_4_3 : ixN 4 3 = some 3 := rfl
@[simp] theorem ixN_4_0 : ixN 4 0 = some 0 := rfl
theorem sp_next {Φ : Tab} : SpNext (fn_next Φ) := ⟨rfl, fun {n st m Q} hst hn h0 h1 q => by
  obtain ⟨ns, a, r, s, rfl, a0, an, s0, s1⟩ := hst.ex
  unfold fn_next stO
  rw [fn_wp]
  refine ⟨rfl, ?_⟩
  have m0 : m ≠ 0 := by omega
  have lm := log_lt h0 h1
  simp [ir_next, P.sem, Qx.sem, lenP, lenO, storeF, m0, lm]
  have fin : ∀ x : Int, (x.fmod 2147483647).natAbs.log2 + Nat.log2 69621 < 1000000 ∧ Nat.log2 64 < 9000 ∧
      Q (.frz (.int ((((x.fmod 2147483647 * 69621).fmod 2147483629).fdiv 64).fmod m))) [some (.box [.scr ns, .frz (.int (a + 1)), .frz (.int r), .frz (.int (x.fmod 2147483647))])] := fun x => by
    have hx := mod_rng (i := x) (m := 2147483647) (by decide)
    have hm := mod_rng (i := ((x.fmod 2147483647 * 69621).fmod 2147483629).fdiv 64) h0
    exact ⟨mul_okn (n := 31) (.of_lt (by omega) (by omega)) (by decide +kernel), by decide +kernel, q _ (stO ns (a + 1) r _) hm.1 hm.2 ⟨ns, a + 1, r, _, rfl, by omega, by omega, hx.1, hx.2⟩⟩
  refine ⟨fun hr => ?_, fun hr => ⟨fun ha => ?_, fun ha => ?_⟩⟩
  · have := mod_rng (i := r) h0
    exact q _ (stO ns a (r.fdiv m) s) this.1 this.2 ⟨ns, a, _, s, rfl, a0, by omega, s0, s1⟩
  · have e : atD ns a = some (ns[a.toNat]'(by omega)) := atD_lt a0 ha
    simp [e, storeF, m0, lm]
    have sb : s.natAbs.log2 + Nat.log2 48271 < 1000000 := mul_okn (n := 31) (.of_lt (by omega) (by omega)) (by decide +kernel)
    have ab : Nat.log2 7 + (a + 1).natAbs.log2 < 1000000 := mul_okm (n := 61) (.of_lt (by omega) (by omega)) (by decide +kernel)
    refine ⟨fun h2 => ?_, fun h2 => ⟨sb, ab, ?_⟩⟩
    · have := mod_rng (i := ns[a.toNat]'(by omega)) h0
      exact q _ (stO ns (a + 1) _ s) this.1 this.2 ⟨ns, a + 1, _, s, rfl, by omega, by omega, s0, s1⟩
    · exact fin _
  · have sb : s.natAbs.log2 + Nat.log2 48271 < 1000000 := mul_okn (n := 31) (.of_lt (by omega) (by omega)) (by decide +kernel)
    have ab : Nat.log2 7 + (a + 1).natAbs.log2 < 1000000 := mul_okm (n := 61) (.of_lt (by omega) (by omega)) (by decide +kernel)
    exact ⟨sb, ab, fin _⟩⟩
end Lib
set_option Elab.async false
set_option linter.all false
set_option maxRecDepth 100000
set_option maxHeartbeats 4000000
/-! LibF: fractions as tuples or lists, rows and squares of them. -/
namespace Lib
open PySem Tr
/-- the number that a row of two whole numbers tells -/
def valR (d : D) : Rat := match itemsD d with
  | some [.int a, .int b] => Rat.divInt a b
  | _ => 0
/-- a fraction as a tuple or a list, of at most so many bits -/
structure Fr (n : Nat) (d : D) : Prop where
  is : d = frD (valR d) ∨ d = .list [.int (valR d).num, .int (valR d).den]
  sz : Sz n (valR d)
@[simp] theorem valR_fr {p : Rat} : valR (frD p) = p := by
  show Rat.divInt p.num p.den = p
  exact Rat.num_divInt_den p
@[simp] theorem valR_frL {p : Rat} : valR (.list [.int p.num, .int p.den]) = p := by
  show Rat.divInt p.num p.den = p
  exact Rat.num_divInt_den p
theorem fr_frD {n : Nat} {p : Rat} (h : Sz n p) : Fr n (frD p) := ⟨.inl (by rw [valR_fr]), by rw [valR_fr]; exact h⟩
theorem fr_frL {n : Nat} {p : Rat} (h : Sz n p) : Fr n (.list [.int p.num, .int p.den]) := ⟨.inr (by rw [valR_frL]), by rw [valR_frL]; exact h⟩
section
variable {n m : Nat} {d e : D}
theorem Fr.mono (h : Fr n d) (hm : n ≤ m) : Fr m d := ⟨h.is, h.sz.mono hm⟩
theorem Fr.items (h : Fr n d) : itemsD d = some [.int (valR d).num, .int (valR d).den] := by
  rcases h.is with e | e
  · conv => lhs; rw [e]
    rfl
  · conv => lhs; rw [e]
    rfl
theorem Fr.ix0 (h : Fr n d) : ixD d (.int 0) = some (.int (valR d).num) := by
  rcases h.is with e | e
  · conv => lhs; rw [e]
    simp [frD]
  · conv => lhs; rw [e]
    simp
theorem Fr.ix1 (h : Fr n d) : ixD d (.int 1) = some (.int (valR d).den) := by
  rcases h.is with e | e
  · conv => lhs; rw [e]
    simp [frD]
  · conv => lhs; rw [e]
    simp
end
theorem sz_zero : Sz 1 0 := ⟨by decide, by decide⟩
theorem sz_one : Sz 1 1 := ⟨by decide, by decide⟩
theorem sz_abs {n : Nat} {p : Rat} (h : Sz n p) : Sz n p.abs := by
  unfold Rat.abs
  split
  · exact h
  · exact h.neg

/-- a fraction of two whole numbers, the second above 0 -/
structure SpLow (f : Fn) : Prop where
  modes : f.modes = [false, false]
  eq : ∀ {a b : Int}, 0 < b → Bits 8000 b → f.run [.frz (.int a), .frz (.int b)] = .ok (.frz (frD (Rat.divInt a b))) []
theorem SpFrac.low {f : Fn} (s : SpFrac f) : SpLow f := ⟨s.modes, fun h hb => run_eq (s.run (by omega) hb ⟨rfl, rfl⟩)⟩
section
variable {Φ : Tab} {k k0 k1 k2 k3 g0 : Nat} {f : Fn} {ρ : Tr.Env} {d e : D}
theorem call_pure {as : List Ag} {os : List O} {Q : PQ} (hf : Φ.fn[k]? = some f) (hm : f.modes = modesOf as) (hn : slotsR as = []) (hb : slotsB as = []) (hg : gather ρ as = some os) (h : (f.run os).wp fun o refs => refs = [] ∧ Q o ρ) : (callF Φ k as ρ).wp Q := by
  refine call_sp hf hm (by rw [hn, hb]; rfl) hg (FR.wp_mono h fun o refs q => ?_)
  obtain ⟨rfl, q⟩ := q
  simpa [callK, hn, hb] using q
theorem call_st {as : List Ag} {os : List O} {s : Nat} {Q : PQ} (hf : Φ.fn[k]? = some f) (hm : f.modes = modesOf as) (hn : slotsR as = [s]) (hb : slotsB as = []) (hg : gather ρ as = some os) (h : (f.run os).wp fun o refs => ∃ st', refs = [some st'] ∧ Q o (ρ.set s (some st'))) : (callF Φ k as ρ).wp Q := by
  refine call_sp hf hm (by rw [hn, hb]; simp) hg (FR.wp_mono h fun o refs q => ?_)
  obtain ⟨st', rfl, q⟩ := q
  simpa [callK, hn, hb] using q
theorem pure1 {a : D} {Q : PQ} (hf : Φ.fn[k]? = some f) (hm : f.modes = [false]) (h : (f.run [.frz a]).wp fun o refs => refs = [] ∧ Q o ρ) : (callF Φ k [.d a] ρ).wp Q := call_pure hf hm rfl rfl rfl h
theorem pure2 {a b : D} {Q : PQ} (hf : Φ.fn[k]? = some f) (hm : f.modes = [false, false]) (h : (f.run [.frz a, .frz b]).wp fun o refs => refs = [] ∧ Q o ρ) : (callF Φ k [.d a, .d b] ρ).wp Q := call_pure hf hm rfl rfl rfl h
theorem pure3 {a b c : D} {Q : PQ} (hf : Φ.fn[k]? = some f) (hm : f.modes = [false, false, false]) (h : (f.run [.frz a, .frz b, .frz c]).wp fun o refs => refs = [] ∧ Q o ρ) : (callF Φ k [.d a, .d b, .d c] ρ).wp Q := call_pure hf hm rfl rfl rfl h
theorem pure4 {a b c g : D} {Q : PQ} (hf : Φ.fn[k]? = some f) (hm : f.modes = [false, false, false, false]) (h : (f.run [.frz a, .frz b, .frz c, .frz g]).wp fun o refs => refs = [] ∧ Q o ρ) : (callF Φ k [.d a, .d b, .d c, .d g] ρ).wp Q := call_pure hf hm rfl rfl rfl h
theorem state1 {s : Nat} {st : O} {Q : PQ} (hf : Φ.fn[k]? = some f) (hm : f.modes = [true]) (hs : ldV s ρ = some st) (h : (f.run [st]).wp fun o refs => ∃ st', refs = [some st'] ∧ Q o (ρ.set s (some st'))) : (callF Φ k [.r s] ρ).wp Q := call_st hf hm rfl rfl (by simp [gather, hs]) h
theorem state2 {s : Nat} {st : O} {a : D} {Q : PQ} (hf : Φ.fn[k]? = some f) (hm : f.modes = [true, false]) (hs : ldV s ρ = some st) (h : (f.run [st, .frz a]).wp fun o refs => ∃ st', refs = [some st'] ∧ Q o (ρ.set s (some st'))) : (callF Φ k [.r s, .d a] ρ).wp Q := call_st hf hm rfl rfl (by simp [gather, hs]) h
theorem state3 {s : Nat} {st : O} {a b : D} {Q : PQ} (hf : Φ.fn[k]? = some f) (hm : f.modes = [true, false, false]) (hs : ldV s ρ = some st) (h : (f.run [st, .frz a, .frz b]).wp fun o refs => ∃ st', refs = [some st'] ∧ Q o (ρ.set s (some st'))) : (callF Φ k [.r s, .d a, .d b] ρ).wp Q := call_st hf hm rfl rfl (by simp [gather, hs]) h
theorem SpLow.cl (s : SpLow f) (hf : Φ.fn[k]? = some f) {a b : Int} (h : 0 < b) (hb : Bits 8000 b) : callF Φ k [.d (.int a), .d (.int b)] ρ = .ok (.frz (frD (Rat.divInt a b))) ρ :=
  call_eq hf s.modes rfl rfl rfl (s.eq h hb)
/-- sums and their like, of two fractions -/
structure Sp2 (g : Rat → Rat → Rat) (ok : Rat → Rat → Prop) (f : Fn) : Prop where
  modes : f.modes = [false, false]
  eq : ∀ {d e : D}, Fr 4000 d → Fr 4000 e → ok (valR d) (valR e) → f.run [.frz d, .frz e] = .ok (.frz (frD (g (valR d) (valR e)))) []
theorem Sp2.cl {g : Rat → Rat → Rat} {ok : Rat → Rat → Prop} (s : Sp2 g ok f) (hf : Φ.fn[k]? = some f) (hd : Fr 4000 d) (he : Fr 4000 e) (o : ok (valR d) (valR e)) : callF Φ k [.d d, .d e] ρ = .ok (.frz (frD (g (valR d) (valR e)))) ρ :=
  call_eq hf s.modes rfl rfl rfl (s.eq hd he o)
abbrev any2 (_ _ : Rat) : Prop := True
theorem sp2_plus (hf : Φ.fn[k]? = some f) (s : SpLow f) : Sp2 (fun p q => p + q) any2 (fn_plus Φ k) := ⟨rfl, fun {d e} hd he _ => run_eq (by
  unfold fn_plus
  rw [fn_wp]
  refine ⟨rfl, ?_⟩
  have h1 := m_ok hd.sz.bn he.sz.bd
  have h2 := m_ok he.sz.bn hd.sz.bd
  have h3 := m_ok hd.sz.bd he.sz.bd
  simp at h1 h2 h3
  have p1 := Int.mul_pos (show (0 : Int) < (valR d).den by have := (valR d).den_pos; omega) (show (0 : Int) < (valR e).den by have := (valR e).den_pos; omega)
  simp [ir_plus, hd.ix0, hd.ix1, he.ix0, he.ix1, h1, h2, h3, s.cl hf p1 (b_ok hd.sz.bd he.sz.bd), ← add_divInt])⟩
theorem sp2_less (hf : Φ.fn[k]? = some f) (s : SpLow f) : Sp2 (fun p q => p - q) any2 (fn_less Φ k) := ⟨rfl, fun {d e} hd he _ => run_eq (by
  unfold fn_less
  rw [fn_wp]
  refine ⟨rfl, ?_⟩
  have h1 := m_ok hd.sz.bn he.sz.bd
  have h2 := m_ok he.sz.bn hd.sz.bd
  have h3 := m_ok hd.sz.bd he.sz.bd
  simp at h1 h2 h3
  have p1 := Int.mul_pos (show (0 : Int) < (valR d).den by have := (valR d).den_pos; omega) (show (0 : Int) < (valR e).den by have := (valR e).den_pos; omega)
  simp [ir_less, hd.ix0, hd.ix1, he.ix0, he.ix1, h1, h2, h3, s.cl hf p1 (b_ok hd.sz.bd he.sz.bd), ← sub_divInt])⟩
theorem sp2_times (hf : Φ.fn[k]? = some f) (s : SpLow f) : Sp2 (fun p q => p * q) any2 (fn_times Φ k) := ⟨rfl, fun {d e} hd he _ => run_eq (by
  unfold fn_times
  rw [fn_wp]
  refine ⟨rfl, ?_⟩
  have h1 := m_ok hd.sz.bn he.sz.bn
  have h3 := m_ok hd.sz.bd he.sz.bd
  simp at h1 h3
  have p1 := Int.mul_pos (show (0 : Int) < (valR d).den by have := (valR d).den_pos; omega) (show (0 : Int) < (valR e).den by have := (valR e).den_pos; omega)
  simp [ir_times, hd.ix0, hd.ix1, he.ix0, he.ix1, h1, h3, s.cl hf p1 (b_ok hd.sz.bd he.sz.bd), ← mul_divInt])⟩
theorem sp2_over (hf : Φ.fn[k]? = some f) (s : SpFrac f) : Sp2 (fun p q => p / q) (fun _ q => q ≠ 0) (fn_over Φ k) := ⟨rfl, fun {d e} hd he h0 => run_eq (by
  unfold fn_over
  rw [fn_wp]
  refine ⟨rfl, ?_⟩
  have h1 := m_ok hd.sz.bn he.sz.bd
  have h3 := m_ok hd.sz.bd he.sz.bn
  simp at h1 h3
  simp [ir_over, hd.ix0, hd.ix1, he.ix0, he.ix1, h1, h3]
  refine call_sp hf s.modes rfl rfl (s.run (Int.mul_ne_zero (den0 _) (num_ne h0)) (b_ok hd.sz.bd he.sz.bn) ?_)
  rw [← div_divInt]
  simp [callK])⟩
/-- -1, 0 or 1 -/
structure SpOrd (f : Fn) : Prop where
  modes : f.modes = [false, false]
  eq : ∀ {d e : D}, Fr 4000 d → Fr 4000 e → f.run [.frz d, .frz e] = .ok (.frz (.int (ordI (valR d) (valR e)))) []
theorem SpOrd.cl (s : SpOrd f) (hf : Φ.fn[k]? = some f) (hd : Fr 4000 d) (he : Fr 4000 e) : callF Φ k [.d d, .d e] ρ = .ok (.frz (.int (ordI (valR d) (valR e)))) ρ :=
  call_eq hf s.modes rfl rfl rfl (s.eq hd he)
theorem sp2_order : SpOrd (fn_order Φ) := ⟨rfl, fun {d e} hd he => run_eq (by
  unfold fn_order
  rw [fn_wp]
  refine ⟨rfl, ?_⟩
  have h1 := m_ok hd.sz.bn he.sz.bd
  have h2 := m_ok he.sz.bn hd.sz.bd
  simp at h1 h2
  simp [ir_order, hd.ix0, hd.ix1, he.ix0, he.ix1, h1, h2]
  have e1 := Rat.lt_iff (valR d) (valR e)
  have e2 := Rat.lt_iff (valR e) (valR d)
  unfold ordI
  by_cases c1 : valR d < valR e
  · have := e1.mp c1
    rw [if_pos c1, if_neg (by omega), if_pos (by omega)]
    rfl
  · rw [if_neg c1]
    by_cases c2 : valR e < valR d
    · have := e2.mp c2
      rw [if_pos c2, if_pos (by omega), if_neg (by omega)]
      rfl
    · have k1 := mt e1.mpr c1
      have k2 := mt e2.mpr c2
      rw [if_neg c2, if_neg (by omega), if_neg (by omega)]
      rfl)⟩
theorem ord_pos {p q : Rat} : 0 < ordI p q ↔ q < p := by
  unfold ordI
  by_cases h : p < q
  · have : ¬ q < p := by grind
    simp [h, this]
  · by_cases h' : q < p <;> simp [h, h']
theorem ord_neg' {p q : Rat} : ordI p q < 0 ↔ p < q := by
  unfold ordI
  by_cases h : p < q
  · simp [h]
  · by_cases h' : q < p <;> simp [h, h']
theorem ord_zero {p q : Rat} : ordI p q = 0 ↔ p = q := by
  unfold ordI
  by_cases h : p < q
  · have : p ≠ q := by grind
    simp [h, this]
  · by_cases h' : q < p
    · have : p ≠ q := by grind
      simp [h, h', this]
    · have : p = q := by grind
      simp [h, h', this]
end
end Lib
set_option Elab.async false
set_option linter.all false
set_option maxRecDepth 100000
set_option maxHeartbeats 4000000
/-! LibT: plain data and ==; rows and squares of fractions; pairs; greatest. -/
namespace Lib
open PySem Tr
/-- a whole number that range may be given -/
structure InR (i : Int) : Prop where
  lo : -(2 ^ 62) ≤ i
  hi : i < 2 ^ 62
theorem inR {i : Int} (h : -1000000 ≤ i ∧ i ≤ 1000000) : InR i := ⟨by omega, by omega⟩
instance {i : Int} : Decidable (InR i) := decidable_of_iff (-(2 ^ 62) ≤ i ∧ i < 2 ^ 62) ⟨fun h => ⟨h.1, h.2⟩, fun h => ⟨h.1, h.2⟩⟩
@[simp high] theorem range1_r {i : Int} : range1D (.int i) = if InR i then some (rng 0 i.toNat) else none := by
  rw [range1_i]
  by_cases h : InR i
  · rw [if_pos h, if_pos ⟨h.lo, h.hi⟩]
  · rw [if_neg h, if_neg fun q => h ⟨q.1, q.2⟩]
@[simp high] theorem range2_r {i j : Int} : range2D (.int i) (.int j) = if InR i ∧ InR j then some (rng i (j - i).toNat) else none := by
  rw [range2_i]
  by_cases h : InR i ∧ InR j
  · rw [if_pos h, if_pos ⟨h.1.lo, h.1.hi, h.2.lo, h.2.hi⟩]
  · rw [if_neg h, if_neg fun q => h ⟨⟨q.1, q.2.1⟩, ⟨q.2.2.1, q.2.2.2⟩⟩]
theorem lrg1_r {i : Int} : lrg1D (.int i) = if InR i ∧ i ≤ 1000000 then some (.box ((rng 0 i.toNat).map .frz)) else lrg1D (.int i) := by
  by_cases h : InR i ∧ i ≤ 1000000
  · rw [if_pos h, lrg1_i, if_pos ⟨h.1.lo, by omega⟩]
  · rw [if_neg h]
@[simp] theorem toNat_sub_s {n a : Nat} : ((n : Int) - ((a : Int) + 1)).toNat = n - (a + 1) := by omega
@[simp] theorem toNat_sub_1 {n : Nat} : ((n : Int) - 1).toNat = n - 1 := by omega
/-! ### data without truths and dicts: == is = -/
mutual
def plD : D → Bool
  | .none => true
  | .int _ => true
  | .str s => PyData.canLay0 (.str s)
  | .tuple l => plAll l
  | .list l => plAll l
  | .bool _ => false
  | .dict _ => false
def plAll : List D → Bool
  | [] => true
  | d :: l => plD d && plAll l
end
theorem plAll_iff {l : List D} : plAll l = true ↔ ∀ x ∈ l, plD x = true := by
  induction l with
  | nil => simp [plAll]
  | cons d l ih => simp [plAll, ih]
mutual
theorem pl_can : ∀ {d : D}, plD d = true → PyData.canLay0 d = true
  | .none, _ => rfl
  | .int _, _ => rfl
  | .str s, h => by simpa [plD] using h
  | .tuple l, h => by simp only [plD] at h; simp [PyData.canLay0, pl_canAll h]
  | .list l, h => by simp only [plD] at h; simp [PyData.canLay0, pl_canAll h]
  | .bool _, h => by simp [plD] at h
  | .dict _, h => by simp [plD] at h
theorem pl_canAll : ∀ {l : List D}, plAll l = true → PyData.canLayAll0 l = true
  | [], _ => rfl
  | d :: l, h => by
    simp only [plAll, Bool.and_eq_true] at h
    simp [PyData.canLayAll0, pl_can h.1, pl_canAll h.2]
end
mutual
theorem eqv_pl : ∀ {d e : D}, plD d = true → plD e = true → (PyData.eqv d e = true ↔ d = e)
  | .none, e, _, h => by cases e <;> simp [PyData.eqv, plD] at h ⊢
  | .int i, e, _, h => by cases e <;> simp [PyData.eqv, plD] at h ⊢
  | .str s, e, _, h => by cases e <;> simp [PyData.eqv, plD] at h ⊢
  | .tuple l, e, h1, h => by
    cases e <;> simp [PyData.eqv, plD] at h h1 ⊢
    exact eqvAll_pl h1 h
  | .list l, e, h1, h => by
    cases e <;> simp [PyData.eqv, plD] at h h1 ⊢
    exact eqvAll_pl h1 h
  | .bool _, e, h, _ => by simp [plD] at h
  | .dict _, e, h, _ => by simp [plD] at h
theorem eqvAll_pl : ∀ {l m : List D}, plAll l = true → plAll m = true → (PyData.eqvAll l m = true ↔ l = m)
  | [], [], _, _ => by simp [PyData.eqvAll]
  | [], _ :: _, _, _ => by simp [PyData.eqvAll]
  | _ :: _, [], _, _ => by simp [PyData.eqvAll]
  | d :: l, e :: m, h1, h2 => by
    simp only [plAll, Bool.and_eq_true] at h1 h2
    simp only [PyData.eqvAll, Bool.and_eq_true, eqv_pl h1.1 h2.1, eqvAll_pl h1.2 h2.2, List.cons.injEq]
end
theorem depthAll_le {n : Nat} : ∀ {l : List D}, (∀ x ∈ l, PyData.depth x ≤ n) → PyData.depthAll l ≤ n
  | [], _ => by simp [PyData.depthAll]
  | d :: l, h => by
    have h1 := h d (by simp)
    have h2 := depthAll_le (l := l) fun x hx => h x (by simp [hx])
    simp only [PyData.depthAll]
    omega
theorem depth_tup {n : Nat} {l : List D} (h : ∀ x ∈ l, PyData.depth x ≤ n) : PyData.depth (.tuple l) ≤ n + 1 := by
  have := depthAll_le h
  simp only [PyData.depth]
  omega
theorem depth_lst {n : Nat} {l : List D} (h : ∀ x ∈ l, PyData.depth x ≤ n) : PyData.depth (.list l) ≤ n + 1 := by
  have := depthAll_le h
  simp only [PyData.depth]
  omega
/-- plain, and not deep -/
structure Pl (n : Nat) (d : D) : Prop where
  pl : plD d = true
  dp : PyData.depth d ≤ n
theorem Pl.mono {n m : Nat} {d : D} (h : Pl n d) (hm : n ≤ m) : Pl m d := ⟨h.pl, Nat.le_trans h.dp hm⟩
theorem pl_int {i : Int} : Pl 0 (.int i) := ⟨rfl, by simp [PyData.depth]⟩
theorem pl_non : Pl 0 .none := ⟨rfl, by simp [PyData.depth]⟩
theorem pl_tup {n : Nat} {l : List D} (h : ∀ x ∈ l, Pl n x) : Pl (n + 1) (.tuple l) := ⟨by simp only [plD]; exact plAll_iff.mpr fun x hx => (h x hx).pl, depth_tup fun x hx => (h x hx).dp⟩
theorem pl_lst {n : Nat} {l : List D} (h : ∀ x ∈ l, Pl n x) : Pl (n + 1) (.list l) := ⟨by simp only [plD]; exact plAll_iff.mpr fun x hx => (h x hx).pl, depth_lst fun x hx => (h x hx).dp⟩
theorem eqOk_pl {n : Nat} {d e : D} (h : Pl n d) (h' : plD e = true) (hn : n ≤ 64) : eqOk d e = true := by
  have := h.dp
  simp [eqOk, pl_can h.pl, pl_can h', show PyData.depth d ≤ 64 by omega]
theorem cmp_eq_pl {n : Nat} {d e : D} (h : Pl n d) (h' : plD e = true) (hn : n ≤ 64) {P : Prop} [Decidable P] (p : d = e ↔ P) : cmpD .eq d e = some (.bool (decide P)) := by
  simp only [cmpD, eqOk_pl h h' hn, Bool.or_true, if_true, Option.some.injEq, PyData.bool.injEq]
  rw [Bool.eq_iff_iff, eqv_pl h.pl h', p, decide_eq_true_iff]
theorem cmp_ne_pl {n : Nat} {d e : D} (h : Pl n d) (h' : plD e = true) (hn : n ≤ 64) {P : Prop} [Decidable P] (p : d = e ↔ P) : cmpD .ne d e = some (.bool (!decide P)) := by
  simp only [cmpD, eqOk_pl h h' hn, Bool.or_true, if_true, Option.some.injEq, PyData.bool.injEq]
  congr 1
  rw [Bool.eq_iff_iff, eqv_pl h.pl h', p, decide_eq_true_iff]
theorem memD_pl {d : D} {l : List D} (h : plD d = true) (hl : ∀ x ∈ l, plD x = true) : memD d l = true ↔ d ∈ l := by
  unfold memD
  rw [List.any_eq_true]
  constructor
  · rintro ⟨x, hx, e⟩
    rw [eqv_pl (hl x hx) h] at e
    exact e ▸ hx
  · intro hd
    exact ⟨d, hd, (eqv_pl h h).mpr rfl⟩
theorem memOk_pl {n : Nat} {d : D} {l : List D} (h : Pl n d) (hl : ∀ x ∈ l, Pl n x) (hn : n ≤ 60) : memOk d l = true := by
  have h1 := h.dp
  have h2 := depth_lst fun x hx => (hl x hx).dp
  have h3 := (pl_lst hl).pl
  unfold memOk SeqAt.shaped
  simp [pl_can h.pl, pl_can h3]
  omega
theorem pl_fr {p : Rat} : Pl 1 (frD p) := pl_tup fun x hx => by
  simp only [List.mem_cons, List.not_mem_nil, or_false] at hx
  rcases hx with rfl | rfl <;> exact pl_int
theorem memO_frs {n : Bool} {p : Rat} {l : List Rat} : memO n (frD p) (.box (l.map fun q => .frz (frD q))) = some (if n then !decide (p ∈ l) else decide (p ∈ l)) := by
  have e : memD (frD p) (l.map frD) = decide (p ∈ l) := by
    rw [Bool.eq_iff_iff, memD_pl pl_fr.pl (fun x hx => by obtain ⟨q, _, rfl⟩ := List.mem_map.mp hx; exact pl_fr.pl), decide_eq_true_iff, List.mem_map]
    constructor
    · rintro ⟨q, hq, e⟩; rw [← frD_inj.mp e]; exact hq
    · intro h; exact ⟨p, h, rfl⟩
  have m : memOk (frD p) (l.map frD) = true := memOk_pl pl_fr (fun x hx => by obtain ⟨q, _, rfl⟩ := List.mem_map.mp hx; exact pl_fr) (by decide)
  simp [memO, m, e]

theorem cmp_ne_ones {α : Type} {ys : List α} : cmpD .ne (.list (ys.map fun _ => .int 1)) (.list []) = some (.bool (!ys.isEmpty)) := by
  have e : (ys.map fun _ => PyData.int 1) = (ys.map fun _ => (1 : Int)).map .int := by simp
  have h : Pl 1 (.list (ys.map fun _ => .int 1)) := pl_lst fun x hx => by
    obtain ⟨_, _, rfl⟩ := List.mem_map.mp hx
    exact pl_int
  rw [cmp_ne_pl h (pl_lst (n := 0) fun _ q => by cases q).pl (by decide) (P := ys.isEmpty = true) (by cases ys <;> simp)]
  cases ys <;> rfl
theorem cmp_eq_ones {α : Type} {ys : List α} : cmpD .eq (.list (ys.map fun _ => .int 1)) (.list []) = some (.bool ys.isEmpty) := by
  have h : Pl 1 (.list (ys.map fun _ => .int 1)) := pl_lst fun x hx => by
    obtain ⟨_, _, rfl⟩ := List.mem_map.mp hx
    exact pl_int
  rw [cmp_eq_pl h (pl_lst (n := 0) fun _ q => by cases q).pl (by decide) (P := ys.isEmpty = true) (by cases ys <;> simp)]
  cases ys <;> rfl
theorem cmp_ne_LN : cmpD .ne (.list []) (.list []) = some (.bool false) := by
  rw [cmp_ne_pl (pl_lst (n := 0) fun _ q => by cases q) (pl_lst (n := 0) fun _ q => by cases q).pl (by decide) (P := True) (by simp)]
  simp

/-! ### rows and squares -/
def subD (d : D) (i : Nat) : D := (ixD d (.int i)).getD .none
structure Seq (n : Nat) (d : D) : Prop where
  len : b1D .len d = some (.int n)
  items : itemsD d = some ((List.range n).map (subD d))
structure Row (B n : Nat) (d : D) : Prop extends Seq n d where
  fr : ∀ i < n, Fr B (subD d i)
structure Sqr (B n : Nat) (d : D) : Prop extends Seq n d where
  row : ∀ i < n, Row B n (subD d i)
def cel (d : D) (i j : Nat) : Rat := valR (subD (subD d i) j)
theorem atD_nat {α : Type} {l : List α} {i : Nat} : atD l (i : Int) = l[i]? := by
  unfold atD ixN
  rw [if_pos (by omega)]
  by_cases h : (i : Int) < l.length
  · rw [if_pos h]; rfl
  · rw [if_neg h, List.getElem?_eq_none (by omega)]; rfl
theorem ixD_items {d : D} {l : List D} (h : itemsD d = some l) (i : Nat) : ixD d (.int i) = l[i]? := by
  cases d <;> simp only [itemsD, reduceCtorEq, Option.some.injEq] at h
  · subst h; simp [atD_nat]
  · subst h; simp [atD_nat]
theorem len_items {d : D} {l : List D} (h : itemsD d = some l) : b1D .len d = some (.int l.length) := by
  cases d <;> simp only [itemsD, reduceCtorEq, Option.some.injEq] at h
  · subst h; simp
  · subst h; simp
theorem subD_items {d : D} {l : List D} (h : itemsD d = some l) {i : Nat} (hi : i < l.length) : subD d i = l[i] := by
  unfold subD
  rw [ixD_items h, List.getElem?_eq_getElem hi]
  rfl
theorem seq_of {n : Nat} {d : D} {l : List D} (h : itemsD d = some l) (hn : l.length = n) : Seq n d := by
  refine ⟨by rw [len_items h, hn], ?_⟩
  rw [h]
  congr 1
  refine List.ext_getElem (by simp [hn]) fun i h1 h2 => ?_
  rw [List.getElem_map, List.getElem_range, subD_items h h1]
theorem Seq.ix {n : Nat} {d : D} (h : Seq n d) {i : Nat} (hi : i < n) : ixD d (.int i) = some (subD d i) := by
  rw [ixD_items h.items, List.getElem?_map, List.getElem?_range hi]
  rfl
theorem Seq.ixI {n : Nat} {d : D} (h : Seq n d) {i : Int} (h0 : 0 ≤ i) (hi : i < n) : ixD d (.int i) = some (subD d i.toNat) := by
  obtain ⟨k, rfl⟩ := Int.eq_ofNat_of_zero_le h0
  exact h.ix (by omega)
theorem row_of {B n : Nat} {d : D} {l : List D} (h : itemsD d = some l) (hn : l.length = n) (hf : ∀ x ∈ l, Fr B x) : Row B n d := ⟨seq_of h hn, fun i hi => by
  rw [subD_items h (by omega)]
  exact hf _ (List.getElem_mem _)⟩
theorem tab_of {B n : Nat} {d : D} {l : List D} (h : itemsD d = some l) (hn : l.length = n) (hf : ∀ x ∈ l, Row B n x) : Sqr B n d := ⟨seq_of h hn, fun i hi => by
  rw [subD_items h (by omega)]
  exact hf _ (List.getElem_mem _)⟩
theorem Row.mono {B C n : Nat} {d : D} (h : Row B n d) (hc : B ≤ C) : Row C n d := ⟨h.toSeq, fun i hi => (h.fr i hi).mono hc⟩
theorem Sqr.mono {B C n : Nat} {d : D} (h : Sqr B n d) (hc : B ≤ C) : Sqr C n d := ⟨h.toSeq, fun i hi => (h.row i hi).mono hc⟩
theorem Sqr.fr {B n : Nat} {d : D} (h : Sqr B n d) {i j : Nat} (hi : i < n) (hj : j < n) : Fr B (subD (subD d i) j) := (h.row i hi).fr j hj
theorem Sqr.ix2 {B n : Nat} {d : D} (h : Sqr B n d) {i j : Nat} (hi : i < n) (hj : j < n) : ixD (subD d i) (.int j) = some (subD (subD d i) j) := (h.row i hi).ix hj
/-- a square told as tuples -/
def rowD (n : Nat) (f : Nat → Rat) : D := .tuple ((List.range n).map fun j => frD (f j))
def tabD (n : Nat) (f : Nat → Nat → Rat) : D := .tuple ((List.range n).map fun i => rowD n (f i))
section
variable {B n : Nat} {f g : Nat → Nat → Rat} {u v : Nat → Rat}
theorem row_rowD (h : ∀ j < n, Sz B (u j)) : Row B n (rowD n u) := row_of (l := (List.range n).map fun j => frD (u j)) rfl (by simp) fun x hx => by
  obtain ⟨j, hj, rfl⟩ := List.mem_map.mp hx
  exact fr_frD (h j (List.mem_range.mp hj))
theorem tab_tabD (h : ∀ i < n, ∀ j < n, Sz B (f i j)) : Sqr B n (tabD n f) := tab_of (l := (List.range n).map fun i => rowD n (f i)) rfl (by simp) fun x hx => by
  obtain ⟨i, hi, rfl⟩ := List.mem_map.mp hx
  exact row_rowD (h i (List.mem_range.mp hi))
theorem sub_rowD {j : Nat} (hj : j < n) : subD (rowD n u) j = frD (u j) := by
  rw [subD_items (l := (List.range n).map fun j => frD (u j)) rfl (by simpa using hj), List.getElem_map, List.getElem_range]
theorem sub_tabD {i : Nat} (hi : i < n) : subD (tabD n f) i = rowD n (f i) := by
  rw [subD_items (l := (List.range n).map fun i => rowD n (f i)) rfl (by simpa using hi), List.getElem_map, List.getElem_range]
theorem cel_tabD {i j : Nat} (hi : i < n) (hj : j < n) : cel (tabD n f) i j = f i j := by
  unfold cel
  rw [sub_tabD hi, sub_rowD hj, valR_fr]
theorem map_range_inj {α : Type} {a b : Nat → α} : (List.range n).map a = (List.range n).map b ↔ ∀ i < n, a i = b i := by
  rw [List.map_inj_left]
  simp
theorem rowD_inj : rowD n u = rowD n v ↔ ∀ j < n, u j = v j := by
  unfold rowD
  rw [PyData.tuple.injEq, map_range_inj]
  simp only [frD_inj]
theorem tabD_inj : tabD n f = tabD n g ↔ ∀ i < n, ∀ j < n, f i j = g i j := by
  unfold tabD
  rw [PyData.tuple.injEq, map_range_inj]
  simp only [rowD_inj]
theorem pl_rowD : Pl 2 (rowD n u) := pl_tup fun x hx => by
  obtain ⟨j, hj, rfl⟩ := List.mem_map.mp hx
  exact pl_fr
theorem pl_tabD : Pl 3 (tabD n f) := pl_tup fun x hx => by
  obtain ⟨j, hj, rfl⟩ := List.mem_map.mp hx
  exact pl_rowD
theorem cmp_eq_tab : cmpD .eq (tabD n f) (tabD n g) = some (.bool (decide (∀ i < n, ∀ j < n, f i j = g i j))) := cmp_eq_pl pl_tabD pl_tabD.pl (by decide) tabD_inj
theorem cmp_ne_tab : cmpD .ne (tabD n f) (tabD n g) = some (.bool (!decide (∀ i < n, ∀ j < n, f i j = g i j))) := cmp_ne_pl pl_tabD pl_tabD.pl (by decide) tabD_inj
end

/-! ### pairs -/
def pairsL (n : Nat) : List (Nat × Nat) := (List.range n).flatMap fun i => (List.range (n - (i + 1))).map fun k => (i, i + 1 + k)
def prD (p : Nat × Nat) : D := .tuple [.int p.1, .int p.2]
theorem mem_pairs {n : Nat} {p : Nat × Nat} : p ∈ pairsL n ↔ p.1 < p.2 ∧ p.2 < n := by
  unfold pairsL
  simp only [List.mem_flatMap, List.mem_range, List.mem_map]
  constructor
  · rintro ⟨i, hi, k, hk, rfl⟩
    simp only
    omega
  · rintro ⟨h1, h2⟩
    exact ⟨p.1, by omega, p.2 - (p.1 + 1), by omega, by ext <;> simp only <;> omega⟩
theorem flat_len {α : Type} {f : Nat → List α} {m : Nat} : ∀ {l : List Nat}, (∀ i ∈ l, (f i).length ≤ m) → (l.flatMap f).length ≤ l.length * m
  | [], _ => by simp
  | x :: l, h => by
    have h1 := h x (by simp)
    have h2 := flat_len (l := l) fun i hi => h i (by simp [hi])
    rw [List.flatMap_cons, List.length_append, List.length_cons, Nat.succ_mul]
    omega
theorem pairs_len {n : Nat} : (pairsL n).length ≤ n * n := by
  have := flat_len (f := fun i => (List.range (n - (i + 1))).map fun k => (i, i + 1 + k)) (m := n) (l := List.range n) fun i _ => by simp
  simpa [pairsL] using this
end Lib
set_option Elab.async false
set_option linter.all false
set_option maxRecDepth 100000
set_option maxHeartbeats 4000000
/-! LibI: cuts between statements, items by drawn places. -/
namespace Lib
open PySem Tr
theorem comp_eachG {own : List Nat} {asg : D → Tr.Env → Option Tr.Env} {tst : Tr.Env → R Bool} {elt : Tr.Env → R O} {Q : List O → Tr.Env → Prop} {ρ : Tr.Env} (f : D → O) {xs : List D}
    (h : ∀ x ∈ xs, ∃ ρ1, asg x ρ = some ρ1 ∧ (tst ρ1).wp fun b ρ2 => b = true ∧ (elt ρ2).wp fun o ρ3 => o = f x ∧ wipeE own ρ3 = ρ) (q : Q (xs.map f) ρ) : (compL own asg tst elt xs ρ).wp Q := by
  have := comp_each (c := id) f (xs := xs) (Q := Q) h q
  rwa [List.map_id] at this
/-- a comprehension that keeps none -/
theorem comp_noneI {own : List Nat} {asg : D → Tr.Env → Option Tr.Env} {tst : Tr.Env → R Bool} {elt : Tr.Env → R O} {Q : List O → Tr.Env → Prop} {ρ : Tr.Env} {xs : List D}
    (h : ∀ x ∈ xs, ∃ ρ1, asg x ρ = some ρ1 ∧ (tst ρ1).wp fun b ρ2 => b = false ∧ wipeE own ρ2 = ρ) (q : Q [] ρ) : (compL own asg tst elt xs ρ).wp Q := by
  have := comp_map (c := id) (fun _ => false) (fun _ => .frz .none) (xs := xs) (own := own) (elt := elt) (Q := Q) (ρ := ρ) (asg := asg) (tst := tst) (fun x hx => by
    obtain ⟨ρ1, e, h1⟩ := h x hx
    exact ⟨ρ1, e, R.wp_mono h1 fun b ρ2 h2 => ⟨h2.1, fun z => (Bool.false_ne_true z).elim, fun _ => h2.2⟩⟩) (by rw [List.filter_eq_nil_iff.mpr (by simp)]; exact q)
  rwa [List.map_id] at this
theorem comp_filtG {own : List Nat} {asg : D → Tr.Env → Option Tr.Env} {tst : Tr.Env → R Bool} {elt : Tr.Env → R O} {Q : List O → Tr.Env → Prop} {ρ : Tr.Env} (p : D → Bool) (f : D → O) {xs : List D}
    (h : ∀ x ∈ xs, ∃ ρ1, asg x ρ = some ρ1 ∧ (tst ρ1).wp fun b ρ2 => b = p x ∧ (p x = true → (elt ρ2).wp fun o ρ3 => o = f x ∧ wipeE own ρ3 = ρ) ∧ (p x = false → wipeE own ρ2 = ρ)) (q : Q ((xs.filter p).map f) ρ) : (compL own asg tst elt xs ρ).wp Q := by
  have := comp_map (c := id) p f (xs := xs) (Q := Q) h q
  rwa [List.map_id] at this
theorem cmp_ne_emp {l : List D} : cmpD .ne (.list l) (.list []) = some (.bool (!l.isEmpty)) := by
  cases l with
  | nil => exact cmp_ne_LN
  | cons a l => simp [cmpD, strs2, PyData.eqv, PyData.eqvAll]
theorem cmp_eq_emp {l : List D} : cmpD .eq (.list l) (.list []) = some (.bool l.isEmpty) := by
  cases l with
  | nil => simp [cmpD, strs2, eqOk, PyData.canLay0, PyData.canLayAll0, PyData.depth, PyData.depthAll, PyData.eqv, PyData.eqvAll]
  | cons a l => simp [cmpD, strs2, PyData.eqv, PyData.eqvAll]
theorem cleans_all : ∀ {l : List O}, (∀ o ∈ l, o.clean = true) → cleans l = true
  | [], _ => rfl
  | o :: l, h => by simp only [cleans, h o List.mem_cons_self, cleans_all fun x hx => h x (List.mem_cons_of_mem _ hx), Bool.and_self]
/-- a statement, then the rest: what is known between -/
theorem cut {Φ : Tab} {s : S} {ss : Ss} {ρ : Tr.Env} {K : Fl → Tr.Env → Prop} (M : Tr.Env → Prop) (h : (S.sem Φ s ρ).wp fun fl ρ => fl = .nx ∧ M ρ) (q : ∀ ρ, M ρ → (Ss.sem Φ ss ρ).wp K) : (S.sem Φ s ρ).wp (seqK Φ ss K) :=
  R.wp_mono h fun fl ρ h => by
    obtain ⟨rfl, hm⟩ := h
    rw [seqK_nx]
    exact q ρ hm
theorem cutR {Φ : Tab} {s : S} {ss : Ss} {ρ : Tr.Env} {K : Fl → Tr.Env → Prop} (M : Tr.Env → Prop) (h : (S.sem Φ s ρ).wp fun fl ρ => match fl with | .nx => M ρ | .ret o => K (.ret o) ρ | .brk => K .brk ρ | .ct => K .ct ρ) (q : ∀ ρ, M ρ → (Ss.sem Φ ss ρ).wp K) : (S.sem Φ s ρ).wp (seqK Φ ss K) :=
  R.wp_mono h fun fl ρ h => by
    cases fl with
    | nx => rw [seqK_nx]; exact q ρ h
    | ret o => rw [seqK_ret]; exact h
    | brk => rw [seqK_brk]; exact h
    | ct => rw [seqK_ct]; exact h
theorem ix_in {l : List D} {v : Int} (h0 : 0 ≤ v) (h1 : v < l.length) : ∃ x ∈ l, ixD (.list l) (.int v) = some x := by
  have hl : v.toNat < l.length := by omega
  exact ⟨l[v.toNat], List.getElem_mem _, atD_ok h0 (List.getElem?_eq_getElem hl)⟩
theorem ix_inT {l : List D} {v : Int} (h0 : 0 ≤ v) (h1 : v < l.length) : ∃ x ∈ l, ixD (.tuple l) (.int v) = some x := by
  have hl : v.toNat < l.length := by omega
  exact ⟨l[v.toNat], List.getElem_mem _, atD_ok h0 (List.getElem?_eq_getElem hl)⟩
theorem at_in {α : Type} {l : List α} {v : Int} (h0 : 0 ≤ v) (h1 : v < l.length) : ∃ x ∈ l, atD l v = some x := by
  have hl : v.toNat < l.length := by omega
  exact ⟨l[v.toNat], List.getElem_mem _, atD_ok h0 (List.getElem?_eq_getElem hl)⟩
end Lib
set_option Elab.async false
set_option linter.all false
set_option maxRecDepth 100000
set_option maxHeartbeats 4000000
/-! LibM: pairs, the greatest, measures. -/
namespace Lib
open PySem Tr
def ir_pairs_of : Ss := (.cons (.set 1 (.lst .nil)) (.cons (.loop (.name 2) (.range1 (.v 0)) (.cons (.extend 1 (.ofF (.comp (.name 3) (.range2 (.ofF (.add (.v 2) (.int 1))) (.v 0)) .nil (.ofE (.tup (.cons (.v 2) (.cons (.v 3) .nil)))) [3]))) .nil)) (.cons (.ret (.mv 1)) .nil)))
noncomputable def fn_pairs_of (Φ : Tab) : Fn := mkFn 4 [false] ((ir_pairs_of).sem Φ)
def ir_greatest (k0 : Nat) : Ss := (.cons (.set 1 (.ofE (.ix (.v 0) (.int 0)))) (.cons (.loop (.name 2) (.seq (.v 0)) (.cons (.ite (.cmp .gt (.ofF (.call k0 (.e (.v 2) (.e (.v 1) .nil)))) (.int 0)) (.cons (.set 1 (.ofE (.v 2))) .nil) .nil) .nil)) (.cons (.ret (.ofE (.tup (.cons (.ix (.v 1) (.int 0)) (.cons (.ix (.v 1) (.int 1)) .nil))))) .nil)))
noncomputable def fn_greatest (Φ : Tab) (k0 : Nat) : Fn := mkFn 3 [false] ((ir_greatest k0).sem Φ)
def ir_apart (k0 : Nat) (k1 : Nat) : Ss := (.cons (.ite (.cmp .lt (.ofF (.call k0 (.e (.v 0) (.e (.v 1) .nil)))) (.int 0)) (.cons (.ret (.call k1 (.e (.v 1) (.e (.v 0) .nil)))) .nil) .nil) (.cons (.ret (.call k1 (.e (.v 0) (.e (.v 1) .nil)))) .nil))
noncomputable def fn_apart (Φ : Tab) (k0 : Nat) (k1 : Nat) : Fn := mkFn 2 [false, false] ((ir_apart k0 k1).sem Φ)
def ir_drawn (k0 : Nat) (k1 : Nat) (k2 : Nat) (g0 : Nat) : Ss := (.cons (.ite (.cmp .lt (.b1 .len (.v 0)) (.int 2)) (.cons (.ret (.ofE (.glob g0))) .nil) .nil) (.cons (.ret (.call k0 (.e (.ofF (.comp (.tup [2, 3]) (.seq (.ofF (.call k1 (.e (.b1 .len (.v 0)) .nil)))) .nil (.call k2 (.e (.ix (.ix (.v 1) (.v 2)) (.v 3)) (.e (.ix (.ix (.v 0) (.v 2)) (.v 3)) .nil))) [2, 3])) .nil))) .nil))
noncomputable def fn_drawn (Φ : Tab) (k0 : Nat) (k1 : Nat) (k2 : Nat) (g0 : Nat) : Fn := mkFn 4 [false, false] ((ir_drawn k0 k1 k2 g0).sem Φ)
def ir_pressed (k0 : Nat) (k1 : Nat) (k2 : Nat) (g0 : Nat) : Ss := (.cons (.set 2 (.call k0 (.e (.b1 .len (.v 0)) .nil))) (.cons (.ite (.cmp .lt (.b1 .len (.v 0)) (.int 2)) (.cons (.ret (.ofE (.glob g0))) .nil) .nil) (.cons (.ite (.cmp .ne (.ofF (.comp (.tup [3, 4]) (.seq (.v 2)) (.one (.cmp .eq (.ix (.ix (.ix (.v 1) (.v 3)) (.v 4)) (.int 0)) (.int 0))) (.ofE (.int 1)) [3, 4])) (.ofF (.lst .nil))) (.cons (.ret (.ofE .non)) .nil) .nil) (.cons (.ret (.call k1 (.e (.ofF (.comp (.tup [3, 4]) (.seq (.v 2)) .nil (.call k2 (.e (.ix (.ix (.v 0) (.v 3)) (.v 4)) (.e (.ix (.ix (.v 1) (.v 3)) (.v 4)) .nil))) [3, 4])) .nil))) .nil))))
noncomputable def fn_pressed (Φ : Tab) (k0 : Nat) (k1 : Nat) (k2 : Nat) (g0 : Nat) : Fn := mkFn 5 [false, false] ((ir_pressed k0 k1 k2 g0).sem Φ)
def ir_stretch (k0 : Nat) (k1 : Nat) (k2 : Nat) : Ss := (.cons (.set 2 (.call k0 (.e (.v 0) (.e (.v 1) .nil)))) (.cons (.ite (.isN false (.v 2)) (.cons (.ret (.ofE .non)) .nil) .nil) (.cons (.ret (.call k1 (.e (.ofF (.call k2 (.e (.v 0) (.e (.v 1) .nil)))) (.e (.v 2) .nil)))) .nil)))
noncomputable def fn_stretch (Φ : Tab) (k0 : Nat) (k1 : Nat) (k2 : Nat) : Fn := mkFn 3 [false, false] ((ir_stretch k0 k1 k2).sem Φ)
def ir_off (k0 : Nat) (k1 : Nat) (k2 : Nat) (g0 : Nat) : Ss := (.cons (.ite (.cmp .lt (.b1 .len (.v 0)) (.int 2)) (.cons (.ret (.ofE (.glob g0))) .nil) .nil) (.cons (.ret (.call k0 (.e (.ofF (.comp (.tup [2, 3]) (.seq (.ofF (.call k1 (.e (.b1 .len (.v 0)) .nil)))) .nil (.call k2 (.e (.ix (.ix (.v 0) (.v 2)) (.v 3)) (.e (.ix (.ix (.v 1) (.v 2)) (.v 3)) .nil))) [2, 3])) .nil))) .nil))
noncomputable def fn_off (Φ : Tab) (k0 : Nat) (k1 : Nat) (k2 : Nat) (g0 : Nat) : Fn := mkFn 4 [false, false] ((ir_off k0 k1 k2 g0).sem Φ)
def ir_measured (k0 : Nat) (k1 : Nat) : Ss := (.cons (.ite (.cmp .eq (.v 2) (.str "stretch")) (.cons (.ret (.call k0 (.e (.v 0) (.e (.v 1) .nil)))) .nil) .nil) (.cons (.ret (.call k1 (.e (.v 0) (.e (.v 1) .nil)))) .nil))
noncomputable def fn_measured (Φ : Tab) (k0 : Nat) (k1 : Nat) : Fn := mkFn 3 [false, false, false] ((ir_measured k0 k1).sem Φ)
structure SpPairs (f : Fn) : Prop where
  modes : f.modes = [false]
  eq : ∀ {n : Nat} {i : Int}, i = n → n ≤ 1000 → f.run [.frz (.int i)] = .ok (.box ((pairsL n).map fun p => .frz (prD p))) []
section
variable {Φ : Tab} {k k0 k1 k2 k3 g0 : Nat} {f f0 f1 f2 f3 : Fn} {ρ : Tr.Env} {d e t o : D} {n B : Nat}
theorem sp_pairs : SpPairs (fn_pairs_of Φ) := ⟨rfl, fun {n i} hi hn => run_eq (by
  unfold fn_pairs_of
  rw [fn_wp]
  refine ⟨rfl, ?_⟩
  have hi2 : i.toNat = n := by omega
  simp [ir_pairs_of, hi2]
  refine ⟨inR (by omega), ?_⟩
  refine loop0 (fun a ρ => ∃ x2, ρ = [some (.frz (.int i)), some (.box (((List.range a).flatMap fun i => (List.range (n - (i + 1))).map fun k => (i, i + 1 + k)).map fun p => .frz (prD p))), x2, none]) ?_ ?_ ?_
  · exact ⟨none, rfl⟩
  · rintro a d ρ he ⟨x2, rfl⟩
    obtain ⟨rfl, ha⟩ := rng_at he
    refine ⟨_, rfl, ?_⟩
    have hi3 : (i - ((a : Int) + 1)).toNat = n - (a + 1) := by omega
    simp [hi3]
    refine ⟨⟨inR (by omega), inR (by omega)⟩, ?_⟩
    unfold rng
    refine comp_each (c := fun k : Nat => .int ((a : Int) + 1 + (k : Int))) (fun k => .frz (prD (a, a + 1 + k))) (fun x hx => ⟨_, rfl, ?_⟩) ?_
    · simp [prD]
    · simp
      have hl := flat_len (f := fun i => (List.range (n - (i + 1))).map fun k => (i, i + 1 + k)) (m := n) (l := List.range a) fun j _ => by simp
      rw [List.length_range] at hl
      have h2 : a * n ≤ 1000000 := Nat.le_trans (Nat.mul_le_mul (show a ≤ 1000 by omega) hn) (by decide)
      have e : (List.map (fun i => n - (i + 1)) (List.range a)).sum = ((List.range a).flatMap fun i => (List.range (n - (i + 1))).map fun k => (i, i + 1 + k)).length := by
        simp [List.length_flatMap]
      refine ⟨by omega, by omega, ?_⟩
      rw [List.range_succ, List.flatMap_append, List.flatMap_singleton, List.map_append, List.map_map]
      simp [Function.comp_def]
  · rintro ρ ⟨x2, rfl⟩
    simp [pairsL])⟩
theorem SpPairs.cl (s : SpPairs f) (hf : Φ.fn[k]? = some f) (hn : n ≤ 1000) : callF Φ k [.d (.int n)] ρ = .ok (.box ((pairsL n).map fun p => .frz (prD p))) ρ :=
  call_eq hf s.modes rfl rfl rfl (s.eq rfl hn)

/-! ### the greatest -/
def maxR (x : Rat) (l : List Rat) : Rat := l.foldl (fun m y => if m < y then y else m) x
def maxL : List Rat → Rat
  | [] => 0
  | x :: l => maxR x l
theorem maxR_spec : ∀ (l : List Rat) (x : Rat), maxR x l ∈ x :: l ∧ ∀ y ∈ x :: l, y ≤ maxR x l
  | [], x => by simp [maxR, Rat.le_refl]
  | y :: l, x => by
    have ih := maxR_spec l (if x < y then y else x)
    have e : maxR x (y :: l) = maxR (if x < y then y else x) l := rfl
    rw [e]
    refine ⟨?_, fun z hz => ?_⟩
    · rcases List.mem_cons.mp ih.1 with h | h
      · rw [h]
        split <;> simp
      · simp [h]
    · rcases List.mem_cons.mp hz with rfl | hz
      · have h1 := ih.2 (if z < y then y else z) (by simp)
        have : z ≤ if z < y then y else z := by split <;> grind
        grind
      · rcases List.mem_cons.mp hz with rfl | hz
        · have h1 := ih.2 (if x < z then z else x) (by simp)
          have : z ≤ if x < z then z else x := by split <;> grind
          grind
        · exact ih.2 z (by simp [hz])
theorem maxL_mem {l : List Rat} (h : l ≠ []) : maxL l ∈ l := by
  cases l with
  | nil => exact absurd rfl h
  | cons x l => exact (maxR_spec l x).1
theorem maxL_ge {l : List Rat} {y : Rat} (h : y ∈ l) : y ≤ maxL l := by
  cases l with
  | nil => cases h
  | cons x l => exact (maxR_spec l x).2 y h
theorem maxL_eq {l : List Rat} {m : Rat} (h : m ∈ l) (g : ∀ y ∈ l, y ≤ m) : maxL l = m := by
  have h1 := g _ (maxL_mem (l := l) fun e => by rw [e] at h; cases h)
  have h2 := maxL_ge h
  grind
theorem maxL_congr {l m : List Rat} (h : ∀ y, y ∈ l ↔ y ∈ m) (hl : l ≠ []) : maxL l = maxL m :=
  (maxL_eq ((h _).mp (maxL_mem hl)) fun y hy => maxL_ge ((h y).mpr hy)).symm
structure SpGr (f : Fn) : Prop where
  modes : f.modes = [false]
  eq : ∀ {d : D} {l : List D}, itemsD d = some l → l ≠ [] → (∀ x ∈ l, Fr 4000 x) → f.run [.frz d] = .ok (.frz (frD (maxL (l.map valR)))) []
theorem sp_greatest (hf : Φ.fn[k0]? = some f) (s : SpOrd f) : SpGr (fn_greatest Φ k0) := ⟨rfl, fun {d l} hd h0 hl => run_eq (by
  obtain ⟨x, l, rfl⟩ := List.exists_cons_of_ne_nil h0
  unfold fn_greatest
  rw [fn_wp]
  refine ⟨rfl, ?_⟩
  have e0 : ixD d (.int 0) = some x := by have := ixD_items hd 0; simpa using this
  simp [ir_greatest, e0, hd]
  refine loop0 (fun i ρ => ∃ (m : D) (x2 : Option O), Fr 4000 m ∧ valR m = maxR (valR x) (((x :: l).take i).map valR) ∧ ρ = [some (.frz d), some (.frz m), x2]) ?_ ?_ ?_
  · exact ⟨x, none, hl x (by simp), rfl, rfl⟩
  · rintro i y ρ he ⟨m, x2, hm, hv, rfl⟩
    have hy := hl y (List.mem_of_getElem? he)
    refine ⟨_, rfl, ?_⟩
    simp [s.cl hf hy hm, ord_pos]
    have et : (x :: l).take (i + 1) = (x :: l).take i ++ [y] := by rw [List.take_succ, he]; rfl
    have ev : maxR (valR x) (((x :: l).take (i + 1)).map valR) = if valR m < valR y then valR y else valR m := by
      rw [et, List.map_append, maxR, List.foldl_append, hv]
      rfl
    refine ⟨fun h => ⟨hy, ?_⟩, fun h => ⟨hm, ?_⟩⟩
    · rw [← List.map_take, ← List.map_cons, ← List.take_succ_cons, ev, if_pos h]
    · rw [← List.map_take, ← List.map_cons, ← List.take_succ_cons, ev, if_neg h]
  · rintro ρ ⟨m, x2, hm, hv, rfl⟩
    rw [List.take_length] at hv
    have e : maxL ((x :: l).map valR) = valR m := by
      rw [hv, List.map_cons]
      show maxR (valR x) (l.map valR) = maxR (if valR x < valR x then valR x else valR x) (l.map valR)
      simp
    simp only [List.map_cons] at e
    simp [hm.ix0, hm.ix1, e, frD])⟩
theorem SpGr.cl (s : SpGr f) (hf : Φ.fn[k]? = some f) {d : D} {l : List D} (hd : itemsD d = some l) (h0 : l ≠ []) (hl : ∀ x ∈ l, Fr 4000 x) : callF Φ k [.d d] ρ = .ok (.frz (frD (maxL (l.map valR)))) ρ :=
  call_eq hf s.modes rfl rfl rfl (s.eq hd h0 hl)
theorem sp2_apart (hf : Φ.fn[k0]? = some f0) (s0 : SpOrd f0) (hg : Φ.fn[k1]? = some f1) (s1 : Sp2 (fun p q => p - q) any2 f1) : Sp2 (fun p q => (p - q).abs) any2 (fn_apart Φ k0 k1) := ⟨rfl, fun {d e} hd he _ => run_eq (by
  unfold fn_apart
  rw [fn_wp]
  refine ⟨rfl, ?_⟩
  simp [ir_apart, s0.cl hf hd he, s1.cl hg hd he trivial, s1.cl hg he hd trivial, ord_neg']
  refine ⟨fun h => ?_, fun h => ?_⟩
  · congr 1
    unfold Rat.abs
    rw [if_neg (by grind)]
    grind
  · congr 1
    unfold Rat.abs
    rw [if_pos (by grind)])⟩
/-- the greatest over all pairs -/
def mxP (n : Nat) (g : Nat → Nat → Rat) : Rat := maxL ((pairsL n).map fun p => g p.1 p.2)
theorem pairs_ne (h : 2 ≤ n) : pairsL n ≠ [] := fun e => by
  have : (0, 1) ∈ pairsL n := mem_pairs.mpr ⟨by decide, by show 1 < n; omega⟩
  rw [e] at this
  cases this
theorem gr_pairs (s : SpGr f) (hf : Φ.fn[k]? = some f) (g : Nat → Nat → Rat) (h : 2 ≤ n) (hg : ∀ i j, i < j → j < n → Sz 4000 (g i j)) : callF Φ k [.d (.list ((pairsL n).map fun p => frD (g p.1 p.2)))] ρ = .ok (.frz (frD (mxP n g))) ρ := by
  rw [s.cl hf (l := (pairsL n).map fun p => frD (g p.1 p.2)) rfl (by simpa using pairs_ne h) fun x hx => by
    obtain ⟨p, hp, rfl⟩ := List.mem_map.mp hx
    have := mem_pairs.mp hp
    exact fr_frD (hg _ _ this.1 this.2)]
  rw [List.map_map]
  have e : (pairsL n).map (valR ∘ fun p => frD (g p.1 p.2)) = (pairsL n).map fun p => g p.1 p.2 := List.map_congr_left fun p _ => by simp
  rw [e]
  rfl
/-- a measure of two squares -/
structure SpM (one : Rat) (g : Rat → Rat → Rat) (ok : Rat → Rat → Prop) (f : Fn) : Prop where
  modes : f.modes = [false, false]
  eq1 : ∀ {n : Nat} {t o : D}, Sqr 1900 n t → n < 2 → f.run [.frz t, .frz o] = .ok (.frz (frD one)) []
  eq : ∀ {n : Nat} {t o : D}, Sqr 1900 n t → Sqr 1900 n o → 2 ≤ n → n ≤ 20 → (∀ i j, i < j → j < n → ok (cel t i j) (cel o i j)) → f.run [.frz t, .frz o] = .ok (.frz (frD (mxP n fun i j => g (cel t i j) (cel o i j)))) []
theorem SpM.cl {one : Rat} {g : Rat → Rat → Rat} {ok : Rat → Rat → Prop} (s : SpM one g ok f) (hf : Φ.fn[k]? = some f) (ht : Sqr 1900 n t) (ho : Sqr 1900 n o) (h2 : 2 ≤ n) (hn : n ≤ 20) (h : ∀ i j, i < j → j < n → ok (cel t i j) (cel o i j)) : callF Φ k [.d t, .d o] ρ = .ok (.frz (frD (mxP n fun i j => g (cel t i j) (cel o i j)))) ρ :=
  call_eq hf s.modes rfl rfl rfl (s.eq ht ho h2 hn h)
theorem SpM.cl1 {one : Rat} {g : Rat → Rat → Rat} {ok : Rat → Rat → Prop} (s : SpM one g ok f) (hf : Φ.fn[k]? = some f) (ht : Sqr 1900 n t) (h2 : n < 2) : callF Φ k [.d t, .d o] ρ = .ok (.frz (frD one)) ρ :=
  call_eq hf s.modes rfl rfl rfl (s.eq1 ht h2)
theorem sp_drawn (hf : Φ.fn[k0]? = some f0) (s0 : SpGr f0) (hg : Φ.fn[k1]? = some f1) (s1 : SpPairs f1) (hh : Φ.fn[k2]? = some f2) (s2 : Sp2 (fun p q => p / q) (fun _ q => q ≠ 0) f2) (hgl : Φ.gl[g0]? = some (frD 1)) : SpM 1 (fun t o => o / t) (fun t _ => t ≠ 0) (fn_drawn Φ k0 k1 k2 g0) where
  modes := rfl
  eq1 := fun {n t o} ht h2 => run_eq (by
    unfold fn_drawn
    rw [fn_wp]
    refine ⟨rfl, ?_⟩
    simp [ir_drawn, ht.len, hgl]
    omega)
  eq := fun {n t o} ht ho h2 hn h => run_eq (by
    unfold fn_drawn
    rw [fn_wp]
    refine ⟨rfl, ?_⟩
    have hp := pairs_len (n := n)
    have hnn : n * n ≤ 20 * 20 := Nat.mul_le_mul hn hn
    simp [ir_drawn, ht.len, hgl, s1.cl hg (show n ≤ 1000 by omega)]
    refine ⟨by omega, fun _ => ?_⟩
    refine comp_each (fun p => .frz (frD (cel o p.1 p.2 / cel t p.1 p.2))) (fun p hp => ⟨_, rfl, ?_⟩) ?_
    · obtain ⟨h1, h3⟩ := mem_pairs.mp hp
      have a1 := ho.ix (show p.1 < n by omega)
      have a2 := ht.ix (show p.1 < n by omega)
      have a3 := ho.ix2 (show p.1 < n by omega) h3
      have a4 := ht.ix2 (show p.1 < n by omega) h3
      simp [a1, a2, a3, a4, s2.cl hh ((ho.fr (show p.1 < n by omega) h3).mono (by decide)) ((ht.fr (show p.1 < n by omega) h3).mono (by decide)) (h _ _ h1 h3), cel]
    · have sz := fun i j (hi : i < j) (hj : j < n) => ((ho.fr (show i < n by omega) hj).sz.div (ht.fr (show i < n by omega) hj).sz (h i j hi hj)).mono (show 1900 + 1900 ≤ 4000 by decide)
      simp [gr_pairs s0 hf (fun i j => cel o i j / cel t i j) h2 sz]
      omega)
theorem sp_off (hf : Φ.fn[k0]? = some f0) (s0 : SpGr f0) (hg : Φ.fn[k1]? = some f1) (s1 : SpPairs f1) (hh : Φ.fn[k2]? = some f2) (s2 : Sp2 (fun p q => (p - q).abs) any2 f2) (hgl : Φ.gl[g0]? = some (frD 0)) : SpM 0 (fun t o => (t - o).abs) any2 (fn_off Φ k0 k1 k2 g0) where
  modes := rfl
  eq1 := fun {n t o} ht h2 => run_eq (by
    unfold fn_off
    rw [fn_wp]
    refine ⟨rfl, ?_⟩
    simp [ir_off, ht.len, hgl]
    omega)
  eq := fun {n t o} ht ho h2 hn h => run_eq (by
    unfold fn_off
    rw [fn_wp]
    refine ⟨rfl, ?_⟩
    have hp := pairs_len (n := n)
    have hnn : n * n ≤ 20 * 20 := Nat.mul_le_mul hn hn
    simp [ir_off, ht.len, hgl, s1.cl hg (show n ≤ 1000 by omega)]
    refine ⟨by omega, fun _ => ?_⟩
    refine comp_each (fun p => .frz (frD (cel t p.1 p.2 - cel o p.1 p.2).abs)) (fun p hp => ⟨_, rfl, ?_⟩) ?_
    · obtain ⟨h1, h3⟩ := mem_pairs.mp hp
      have a1 := ho.ix (show p.1 < n by omega)
      have a2 := ht.ix (show p.1 < n by omega)
      have a3 := ho.ix2 (show p.1 < n by omega) h3
      have a4 := ht.ix2 (show p.1 < n by omega) h3
      simp [a1, a2, a3, a4, s2.cl hh ((ht.fr (show p.1 < n by omega) h3).mono (by decide)) ((ho.fr (show p.1 < n by omega) h3).mono (by decide)) trivial, cel]
    · have sz := fun i j (hi : i < j) (hj : j < n) => (sz_abs ((ht.fr (show i < n by omega) hj).sz.sub (ho.fr (show i < n by omega) hj).sz)).mono (show 1900 + 1900 + 1 ≤ 4000 by decide)
      simp [gr_pairs s0 hf (fun i j => (cel t i j - cel o i j).abs) h2 sz]
      omega)
/-- pressed: None where two things are at one place -/
structure SpPr (f : Fn) : Prop where
  modes : f.modes = [false, false]
  eq1 : ∀ {n : Nat} {t o : D}, Sqr 1900 n t → n < 2 → f.run [.frz t, .frz o] = .ok (.frz (frD 1)) []
  eq0 : ∀ {n : Nat} {t o : D}, Sqr 1900 n t → Sqr 1900 n o → 2 ≤ n → n ≤ 20 → (∃ i j, i < j ∧ j < n ∧ cel o i j = 0) → f.run [.frz t, .frz o] = .ok (.frz .none) []
  eq : ∀ {n : Nat} {t o : D}, Sqr 1900 n t → Sqr 1900 n o → 2 ≤ n → n ≤ 20 → (∀ i j, i < j → j < n → cel o i j ≠ 0) → f.run [.frz t, .frz o] = .ok (.frz (frD (mxP n fun i j => cel t i j / cel o i j))) []
theorem sp_pressed (hg : Φ.fn[k0]? = some f0) (s1 : SpPairs f0) (hf : Φ.fn[k1]? = some f1) (s0 : SpGr f1) (hh : Φ.fn[k2]? = some f2) (s2 : Sp2 (fun p q => p / q) (fun _ q => q ≠ 0) f2) (hgl : Φ.gl[g0]? = some (frD 1)) : SpPr (fn_pressed Φ k0 k1 k2 g0) where
  modes := rfl
  eq1 := fun {n t o} ht h2 => run_eq (by
    unfold fn_pressed
    rw [fn_wp]
    refine ⟨rfl, ?_⟩
    simp [ir_pressed, ht.len, hgl, s1.cl hg (show n ≤ 1000 by omega)]
    omega)
  eq0 := fun {n t o} ht ho h2 hn h => run_eq (by
    unfold fn_pressed
    rw [fn_wp]
    refine ⟨rfl, ?_⟩
    have hp := pairs_len (n := n)
    have hnn : n * n ≤ 20 * 20 := Nat.mul_le_mul hn hn
    simp [ir_pressed, ht.len, hgl, s1.cl hg (show n ≤ 1000 by omega)]
    refine ⟨by omega, fun _ => ?_⟩
    refine comp_map (fun p => decide ((cel o p.1 p.2).num = 0)) (fun _ => .frz (.int 1)) (fun p hp => ⟨_, rfl, ?_⟩) ?_
    · obtain ⟨h1, h3⟩ := mem_pairs.mp hp
      have a1 := ho.ix (show p.1 < n by omega)
      have a3 := ho.ix2 (show p.1 < n by omega) h3
      simp [a1, a3, (ho.fr (show p.1 < n by omega) h3).ix0, cel]
    · have hne : (pairsL n).filter (fun p => decide ((cel o p.1 p.2).num = 0)) ≠ [] := by
        obtain ⟨i, j, h1, h3, h4⟩ := h
        exact List.ne_nil_of_mem (a := (i, j)) (List.mem_filter.mpr ⟨mem_pairs.mpr ⟨h1, h3⟩, by simpa [num_zero] using h4⟩)
      have hle := List.length_filter_le (fun p : Nat × Nat => decide ((cel o p.1 p.2).num = 0)) (pairsL n)
      generalize (pairsL n).filter (fun p => decide ((cel o p.1 p.2).num = 0)) = ys at hne hle
      simp [cmp_ne_ones, hne]
      omega)
  eq := fun {n t o} ht ho h2 hn h => run_eq (by
    unfold fn_pressed
    rw [fn_wp]
    refine ⟨rfl, ?_⟩
    have hp := pairs_len (n := n)
    have hnn : n * n ≤ 20 * 20 := Nat.mul_le_mul hn hn
    simp [ir_pressed, ht.len, hgl, s1.cl hg (show n ≤ 1000 by omega)]
    refine ⟨by omega, fun _ => ?_⟩
    refine comp_map (fun p => decide ((cel o p.1 p.2).num = 0)) (fun _ => .frz (.int 1)) (fun p hp => ⟨_, rfl, ?_⟩) ?_
    · obtain ⟨h1, h3⟩ := mem_pairs.mp hp
      have a1 := ho.ix (show p.1 < n by omega)
      have a3 := ho.ix2 (show p.1 < n by omega) h3
      simp [a1, a3, (ho.fr (show p.1 < n by omega) h3).ix0, cel]
    · have hne : (pairsL n).filter (fun p => decide ((cel o p.1 p.2).num = 0)) = [] := by
        rw [List.filter_eq_nil_iff]
        intro p hp
        obtain ⟨h1, h3⟩ := mem_pairs.mp hp
        simpa [num_zero] using h _ _ h1 h3
      rw [hne]
      simp [cmp_ne_LN]
      refine comp_each (fun p => .frz (frD (cel t p.1 p.2 / cel o p.1 p.2))) (fun p hp => ⟨_, rfl, ?_⟩) ?_
      · obtain ⟨h1, h3⟩ := mem_pairs.mp hp
        have a1 := ho.ix (show p.1 < n by omega)
        have a2 := ht.ix (show p.1 < n by omega)
        have a3 := ho.ix2 (show p.1 < n by omega) h3
        have a4 := ht.ix2 (show p.1 < n by omega) h3
        simp [a1, a2, a3, a4, s2.cl hh ((ht.fr (show p.1 < n by omega) h3).mono (by decide)) ((ho.fr (show p.1 < n by omega) h3).mono (by decide)) (h _ _ h1 h3), cel]
      · have sz := fun i j (hi : i < j) (hj : j < n) => ((ht.fr (show i < n by omega) hj).sz.div (ho.fr (show i < n by omega) hj).sz (h i j hi hj)).mono (show 1900 + 1900 ≤ 4000 by decide)
        simp [gr_pairs s0 hf (fun i j => cel t i j / cel o i j) h2 sz]
        omega)
theorem SpPr.cl (s : SpPr f) (hf : Φ.fn[k]? = some f) (ht : Sqr 1900 n t) (ho : Sqr 1900 n o) (h2 : 2 ≤ n) (hn : n ≤ 20) (h : ∀ i j, i < j → j < n → cel o i j ≠ 0) : callF Φ k [.d t, .d o] ρ = .ok (.frz (frD (mxP n fun i j => cel t i j / cel o i j))) ρ :=
  call_eq hf s.modes rfl rfl rfl (s.eq ht ho h2 hn h)
theorem SpPr.cl1 (s : SpPr f) (hf : Φ.fn[k]? = some f) (ht : Sqr 1900 n t) (h2 : n < 2) : callF Φ k [.d t, .d o] ρ = .ok (.frz (frD 1)) ρ :=
  call_eq hf s.modes rfl rfl rfl (s.eq1 ht h2)
theorem SpPr.cl0 (s : SpPr f) (hf : Φ.fn[k]? = some f) (ht : Sqr 1900 n t) (ho : Sqr 1900 n o) (h2 : 2 ≤ n) (hn : n ≤ 20) (h : ∃ i j, i < j ∧ j < n ∧ cel o i j = 0) : callF Φ k [.d t, .d o] ρ = .ok (.frz .none) ρ :=
  call_eq hf s.modes rfl rfl rfl (s.eq0 ht ho h2 hn h)
end
end Lib
set_option Elab.async false
set_option linter.all false
set_option maxRecDepth 100000
set_option maxHeartbeats 4000000
/-! LibH: texts of rows: when str, repr may be asked for. -/
namespace Lib
open PySem Tr
structure Shw (k m : Nat) (d : D) : Prop where
  sh : d.showable = true
  dp : d.depth ≤ k
  len : d.shown.length ≤ m
section
variable {k m n : Nat} {d : D} {l : List D}
theorem Shw.ok (h : Shw k m d) (hk : k ≤ 60) (hm : m ≤ 16777216) : shownOk d = true := by
  unfold shownOk
  simp only [Bool.and_eq_true, decide_eq_true_eq]
  exact ⟨⟨h.sh, Nat.le_trans h.dp hk⟩, Nat.le_trans h.len hm⟩
theorem Shw.mono {k' m' : Nat} (h : Shw k m d) (hk : k ≤ k') (hm : m ≤ m') : Shw k' m' d := ⟨h.sh, Nat.le_trans h.dp hk, Nat.le_trans h.len hm⟩
theorem shw_int {b : Nat} {i : Int} (h : Bits b i) (hb : b ≤ 1900) : Shw 0 (b + 2) (.int i) := by
  have hl := h.log
  refine ⟨by simp only [PyData.showable, decide_eq_true_eq]; omega, by simp [PyData.depth], ?_⟩
  simp only [PyData.shown]
  rw [ofString_length]
  exact int_text_length_le (k := b + 1) (by omega) (by omega)
theorem shw_non : Shw 0 4 .none := ⟨rfl, by simp [PyData.depth], by simp only [PyData.shown]; decide⟩
theorem shw_bool {b : Bool} : Shw 0 5 (.bool b) := ⟨rfl, by simp [PyData.depth], by simp only [PyData.shown]; cases b <;> decide⟩
theorem shownAll_map : ∀ l : List D, PyData.shownAll l = l.map PyData.shown
  | [] => rfl
  | d :: l => by rw [PyData.shownAll, shownAll_map l]; rfl
theorem canAll_of : ∀ {l : List D}, (∀ x ∈ l, x.canLay0 = true) → PyData.canLayAll0 l = true
  | [], _ => rfl
  | d :: l, h => by simp only [PyData.canLayAll0, h d List.mem_cons_self, canAll_of fun x hx => h x (List.mem_cons_of_mem _ hx), Bool.and_self]
theorem showAll_of : ∀ {l : List D}, (∀ x ∈ l, x.showable = true) → PyData.showableAll l = true
  | [], _ => rfl
  | d :: l, h => by simp only [PyData.showableAll, h d List.mem_cons_self, showAll_of fun x hx => h x (List.mem_cons_of_mem _ hx), Bool.and_self]
theorem sum_le : ∀ {l : List D}, (∀ x ∈ l, x.shown.length ≤ m) → ((PyData.shownAll l).map (·.length)).sum ≤ l.length * m
  | [], _ => by simp [PyData.shownAll]
  | d :: l, h => by
    have h1 := h d List.mem_cons_self
    have h2 := sum_le (l := l) fun x hx => h x (List.mem_cons_of_mem _ hx)
    simp only [PyData.shownAll, List.map_cons, List.sum_cons, List.length_cons, Nat.succ_mul]
    omega
theorem shownAll_len : (PyData.shownAll l).length = l.length := by rw [shownAll_map, List.length_map]
theorem row_le (hl : l.length ≤ n) (h : ∀ x ∈ l, x.shown.length ≤ m) : ((PyData.shownAll l).map (·.length)).sum + 2 * (PyData.shownAll l).length + 3 ≤ n * (m + 2) + 3 := by
  have h1 := sum_le h
  have h2 : l.length * m ≤ n * m := Nat.mul_le_mul_right _ hl
  rw [shownAll_len, Nat.mul_add]
  omega
theorem shw_lst (hl : l.length ≤ n) (h : ∀ x ∈ l, Shw k m x) : Shw (k + 1) (n * (m + 2) + 3) (.list l) :=
  ⟨by simp only [PyData.showable]; exact showAll_of fun x hx => (h x hx).sh, depth_lst fun x hx => (h x hx).dp,
    by simp only [PyData.shown]; exact Nat.le_trans (listText_len_le _) (row_le hl fun x hx => (h x hx).len)⟩
theorem shw_tup (hl : l.length ≤ n) (h : ∀ x ∈ l, Shw k m x) : Shw (k + 1) (n * (m + 2) + 3) (.tuple l) :=
  ⟨by simp only [PyData.showable]; exact showAll_of fun x hx => (h x hx).sh, depth_tup fun x hx => (h x hx).dp,
    by simp only [PyData.shown]; exact Nat.le_trans (tupleText_len_le _) (row_le hl fun x hx => (h x hx).len)⟩
theorem Fr.shw {b : Nat} (h : Fr (b + 1) d) (hb : b ≤ 1900) : Shw 1 (2 * b + 11) d := by
  have i1 := shw_int h.sz.bn hb
  have i2 := shw_int h.sz.bd hb
  have hx : ∀ x ∈ [PyData.int (valR d).num, .int ((valR d).den : Int)], Shw 0 (b + 2) x := fun x hx => by
    simp only [List.mem_cons, List.not_mem_nil, or_false] at hx
    rcases hx with rfl | rfl
    · exact i1
    · exact i2
  rcases h.is with e | e
  · rw [e]; exact (shw_tup (n := 2) (by simp) hx).mono (by omega) (by omega)
  · rw [e]; exact (shw_lst (n := 2) (by simp) hx).mono (by omega) (by omega)
end
end Lib
set_option Elab.async false
set_option linter.all false
set_option maxRecDepth 100000
set_option maxHeartbeats 4000000
/-! LibL: the line laws' own numbers, squares, tables. -/
namespace Lib
open PySem Tr
def ir_low : Ss := (.cons (.set 2 (.ofE (.b1 .abs (.v 0)))) (.cons (.set 3 (.ofE (.v 1))) (.cons (.whl (.cmp .gt (.v 3) (.int 0)) (.cons (.par 2 3 (.v 3) (.op .mod (.v 2) (.v 3))) .nil)) (.cons (.ret (.ofE (.tup (.cons (.op .fdiv (.v 0) (.v 2)) (.cons (.op .fdiv (.v 1) (.v 2)) .nil))))) .nil))))
noncomputable def fn_low (Φ : Tab) : Fn := mkFn 4 [false, false] ((ir_low).sem Φ)
def ir_number22 (k0 : Nat) (k1 : Nat) : Ss := (.cons (.set 1 (.call k0 (.r 0 (.e (.int 8) .nil)))) (.cons (.set 2 (.ofE (.op .sub (.ofF (.call k0 (.r 0 (.e (.int 19) .nil)))) (.int 9)))) (.cons (.set 3 (.add (.int 1) (.ofF (.call k0 (.r 0 (.e (.int 6) .nil)))))) (.cons (.ite (.cmp .eq (.v 1) (.int 7)) (.cons (.set 2 (.add (.ofF (.mul (.v 2) (.op .pow (.int 10) (.int 22)))) (.ofF (.call k0 (.r 0 (.e (.int 1000) .nil)))))) .nil) .nil) (.cons (.ret (.call k1 (.e (.v 2) (.e (.v 3) .nil)))) .nil)))))
noncomputable def fn_number22 (Φ : Tab) (k0 : Nat) (k1 : Nat) : Fn := mkFn 4 [true] ((ir_number22 k0 k1).sem Φ)
def ir_gap (k0 : Nat) : Ss := (.cons (.ret (.call k0 (.e (.b1 .abs (.op .sub (.ofF (.mul (.ix (.v 0) (.int 0)) (.ix (.v 1) (.int 1)))) (.ofF (.mul (.ix (.v 1) (.int 0)) (.ix (.v 0) (.int 1)))))) (.e (.ofF (.mul (.ix (.v 0) (.int 1)) (.ix (.v 1) (.int 1)))) .nil)))) .nil)
noncomputable def fn_gap (Φ : Tab) (k0 : Nat) : Fn := mkFn 2 [false, false] ((ir_gap k0).sem Φ)
def ir_square (k0 : Nat) : Ss := (.cons (.set 1 (.lst .nil)) (.cons (.loop (.name 2) (.seq (.v 0)) (.cons (.append 1 (.ofE (.b1 .tuple (.ofF (.comp (.name 3) (.seq (.v 0)) .nil (.call k0 (.e (.v 2) (.e (.v 3) .nil))) [3]))))) .nil)) (.cons (.ret (.ofE (.b1 .tuple (.v 1)))) .nil)))
noncomputable def fn_square (Φ : Tab) (k0 : Nat) : Fn := mkFn 4 [false] ((ir_square k0).sem Φ)
def ir_great : Ss := (.cons (.ite (.cmp .lt (.ofF (.mul (.ix (.v 0) (.int 0)) (.ix (.v 1) (.int 1)))) (.ofF (.mul (.ix (.v 1) (.int 0)) (.ix (.v 0) (.int 1))))) (.cons (.ret (.ofE (.v 1))) .nil) .nil) (.cons (.ret (.ofE (.v 0))) .nil))
noncomputable def fn_great (Φ : Tab) : Fn := mkFn 2 [false, false] ((ir_great).sem Φ)
section
variable {Φ : Tab} {k k0 k1 k2 k3 k4 k5 k6 k7 g0 : Nat} {f f0 f1 f2 f3 f4 f5 f6 f7 : Fn} {ρ : Tr.Env} {d e t o : D} {n B : Nat}
theorem sp_low : SpLow (fn_low Φ) := ⟨rfl, fun {a b} hb h8 => run_eq (by
  unfold fn_low
  rw [fn_wp]
  refine ⟨rfl, ?_⟩
  simp [ir_low, abs_nat]
  refine whl_wp (fun n ρ => ∃ x : Nat, x.gcd n = Int.gcd a b ∧ ρ = [some (.frz (.int a)), some (.frz (.int b)), some (.frz (.int x)), some (.frz (.int n))]) (fun n ρ hi => ?_) b.natAbs ⟨a.natAbs, rfl, by rw [show (b.natAbs : Int) = b by omega]⟩
  obtain ⟨x, hx, rfl⟩ := hi
  simp
  refine ⟨fun h0 => ⟨by omega, x % n, Nat.mod_lt _ h0, n, (gcd_step h0).trans hx, rfl, gcd_fmod h0⟩, fun h0 => ?_⟩
  subst h0
  rw [Nat.gcd_zero_right] at hx
  subst hx
  obtain ⟨g1, g2⟩ := gcd_bits (a := a) (show b ≠ 0 by omega) h8
  have g1' : a.gcd b ≠ 0 := by omega
  have fin := frac_eq (a := a) (show b ≠ 0 by omega)
  rw [if_neg (by omega)] at fin
  simp [g2, g1']
  exact fin)⟩
theorem Sp2.cf {g : Rat → Rat → Rat} {ok : Rat → Rat → Prop} (s : Sp2 g ok f) (hf : Φ.fn[k]? = some f) {p q : Rat} (hp : Sz 4000 p) (hq : Sz 4000 q) (o : ok p q) : callF Φ k [.d (frD p), .d (frD q)] ρ = .ok (.frz (frD (g p q))) ρ := by
  have := s.cl (ρ := ρ) hf (fr_frD hp) (fr_frD hq) (by simpa using o)
  simpa using this
theorem sp2_gap (hf : Φ.fn[k]? = some f) (s : SpLow f) : Sp2 (fun p q => (p - q).abs) any2 (fn_gap Φ k) := ⟨rfl, fun {d e} hd he _ => run_eq (by
  unfold fn_gap
  rw [fn_wp]
  refine ⟨rfl, ?_⟩
  have h1 := m_ok hd.sz.bn he.sz.bd
  have h2 := m_ok he.sz.bn hd.sz.bd
  have h3 := m_ok hd.sz.bd he.sz.bd
  simp at h1 h2 h3
  have p1 := Int.mul_pos (show (0 : Int) < (valR d).den by have := (valR d).den_pos; omega) (show (0 : Int) < (valR e).den by have := (valR e).den_pos; omega)
  simp [ir_gap, hd.ix0, hd.ix1, he.ix0, he.ix1, h1, h2, h3, s.cl hf p1 (b_ok hd.sz.bd he.sz.bd)]
  congr 1
  have e1 := sub_divInt (valR d) (valR e)
  by_cases h : (valR d).num * (valR e).den - (valR e).num * (valR d).den < 0
  · have hs : valR d - valR e < 0 := by
      have := Rat.lt_iff (valR d) (valR e)
      grind
    rw [if_pos h]
    unfold Rat.abs
    rw [if_neg (by grind), e1, Rat.neg_divInt]
  · have hs : 0 ≤ valR d - valR e := by
      have := Rat.lt_iff (valR d) (valR e)
      grind
    rw [if_neg h]
    unfold Rat.abs
    rw [if_pos hs, e1])⟩
/-- of two tuples -/
structure SpF2 (g : Rat → Rat → Rat) (f : Fn) : Prop where
  modes : f.modes = [false, false]
  eq : ∀ {p q : Rat}, Sz 4000 p → Sz 4000 q → f.run [.frz (frD p), .frz (frD q)] = .ok (.frz (frD (g p q))) []
theorem SpF2.cl {g : Rat → Rat → Rat} (s : SpF2 g f) (hf : Φ.fn[k]? = some f) {p q : Rat} (hp : Sz 4000 p) (hq : Sz 4000 q) : callF Φ k [.d (frD p), .d (frD q)] ρ = .ok (.frz (frD (g p q))) ρ :=
  call_eq hf s.modes rfl rfl rfl (s.eq hp hq)
theorem sp_great : SpF2 (fun p q => if p < q then q else p) (fn_great Φ) := ⟨rfl, fun {p q} hp hq => run_eq (by
  unfold fn_great
  rw [fn_wp]
  refine ⟨rfl, ?_⟩
  have h1 := m_ok hp.bn hq.bd
  have h2 := m_ok hq.bn hp.bd
  simp at h1 h2
  simp [ir_great, h1, h2]
  have e1 := Rat.lt_iff p q
  refine ⟨fun h => ?_, fun h => ?_⟩
  · rw [if_pos (e1.mpr h)]
  · rw [if_neg fun q => by have := e1.mp q; omega])⟩
theorem ix_tab {f : Nat → Nat → Rat} {i : Nat} (hi : i < n) : ixD (tabD n f) (.int i) = some (rowD n (f i)) := by
  have s : Seq n (tabD n f) := seq_of (l := (List.range n).map fun i => rowD n (f i)) rfl (by simp)
  rw [s.ix hi, sub_tabD hi]
theorem ix_row {u : Nat → Rat} {i : Nat} (hi : i < n) : ixD (rowD n u) (.int i) = some (frD (u i)) := by
  have s : Seq n (rowD n u) := seq_of (l := (List.range n).map fun i => frD (u i)) rfl (by simp)
  rw [s.ix hi, sub_rowD hi]
/-- a list of fractions -/
def rowL (n : Nat) (u : Nat → Rat) : D := .list ((List.range n).map fun j => frD (u j))
theorem sub_rowL {u : Nat → Rat} {j : Nat} (hj : j < n) : subD (rowL n u) j = frD (u j) := by
  rw [subD_items (l := (List.range n).map fun j => frD (u j)) rfl (by simpa using hj), List.getElem_map, List.getElem_range]
theorem row_rowL {u : Nat → Rat} (h : ∀ j < n, Sz B (u j)) : Row B n (rowL n u) := row_of (l := (List.range n).map fun j => frD (u j)) rfl (by simp) fun x hx => by
  obtain ⟨j, hj, rfl⟩ := List.mem_map.mp hx
  exact fr_frD (h j (List.mem_range.mp hj))
theorem list_fun (l : List Rat) : l = (List.range l.length).map fun j => l.getD j 0 := by
  refine List.ext_getElem (by simp) fun i h1 h2 => ?_
  simp [h1]
theorem rowL_of (l : List Rat) : .list (l.map frD) = rowL l.length fun j => l.getD j 0 := by
  unfold rowL
  conv => lhs; rw [list_fun l]
  rw [List.map_map]
  rfl
/-- a square of a row -/
structure SpSq (f : Fn) : Prop where
  modes : f.modes = [false]
  eq : ∀ {n : Nat} {d : D}, Row 1900 n d → n ≤ 1000 → f.run [.frz d] = .ok (.frz (tabD n fun i j => (valR (subD d i) - valR (subD d j)).abs)) []
theorem sp_square (hf : Φ.fn[k0]? = some f0) (s : Sp2 (fun p q => (p - q).abs) any2 f0) : SpSq (fn_square Φ k0) := ⟨rfl, fun {n d} hd hn => run_eq (by
  unfold fn_square
  rw [fn_wp]
  refine ⟨rfl, ?_⟩
  simp [ir_square, hd.items]
  refine loopM (c := subD d) (xs := List.range n) (fun i ρ => ∃ x2, ρ = [some (.frz d), some (.box ((List.range i).map fun i => .frz (rowD n fun j => (valR (subD d i) - valR (subD d j)).abs))), x2, none]) ⟨none, rfl⟩ ?_ ?_
  · rintro i x ρ hx ⟨x2, rfl⟩
    obtain ⟨hi, rfl⟩ : i < n ∧ i = x := by
      have h1 := (List.getElem?_eq_some_iff.mp hx).1
      rw [List.length_range] at h1
      rw [List.getElem?_range h1] at hx
      exact ⟨h1, by simpa using hx⟩
    refine ⟨_, rfl, ?_⟩
    simp [hd.items]
    refine comp_each (c := subD d) (fun j => .frz (frD (valR (subD d i) - valR (subD d j)).abs)) (fun j hj => ⟨_, rfl, ?_⟩) ?_
    · have hj := List.mem_range.mp hj
      simp [s.cl hf ((hd.fr i hi).mono (by decide)) ((hd.fr j hj).mono (by decide)) trivial]
    · simp [rowD]
      refine ⟨by omega, by omega, ?_⟩
      rw [List.range_succ, List.map_append]
      rfl
  · rintro ρ ⟨x2, rfl⟩
    simp [tabD])⟩
theorem SpSq.cl (s : SpSq f) (hf : Φ.fn[k]? = some f) (hd : Row 1900 n d) (hn : n ≤ 1000) : callF Φ k [.d d] ρ = .ok (.frz (tabD n fun i j => (valR (subD d i) - valR (subD d j)).abs)) ρ :=
  call_eq hf s.modes rfl rfl rfl (s.eq hd hn)
theorem SpSq.cu (s : SpSq f) (hf : Φ.fn[k]? = some f) {u : Nat → Rat} (hu : ∀ j < n, Sz 1900 (u j)) (hn : n ≤ 1000) : callF Φ k [.d (rowL n u)] ρ = .ok (.frz (tabD n fun i j => (u i - u j).abs)) ρ := by
  rw [s.cl hf (row_rowL hu) hn]
  congr 2
  refine tabD_inj.mpr fun i hi j hj => ?_
  rw [sub_rowL hi, sub_rowL hj, valR_fr, valR_fr]
theorem SpNext.cl {Q : PQ} (s : SpNext f) (hf : Φ.fn[k]? = some f) {i : Nat} {st : O} {c : Nat} (hs : ldV i ρ = some st) (ho : OkSt c st) (hc : c < 2 ^ 60) {m : Int} (h0 : 0 < m) (h1 : m < 2 ^ 200)
    (q : ∀ v st', 0 ≤ v → v < m → OkSt (c + 1) st' → Q (.frz (.int v)) (ρ.set i (some st'))) : (callF Φ k [.r i, .d (.int m)] ρ).wp Q := by
  refine call_sp hf s.modes rfl (os := [st, .frz (.int m)]) (by simp [gather, hs]) (s.run ho hc h0 h1 fun v st' a b c => ?_)
  simpa [callK] using q v st' a b c
/-- a drawn number -/
structure SpNum (B c : Nat) (f : Fn) : Prop where
  modes : f.modes = [true]
  run : ∀ {n : Nat} {st : O} {Q : PQ}, OkSt n st → n < 2 ^ 59 → (∀ p st', Sz B p → OkSt (n + c) st' → Q (.frz (frD p)) [some st']) → (f.run [st]).wp Q
theorem sp_number22 (hf : Φ.fn[k0]? = some f0) (s0 : SpNext f0) (hg : Φ.fn[k1]? = some f1) (s1 : SpLow f1) : SpNum 80 4 (fn_number22 Φ k0 k1) := ⟨rfl, fun {n st Q} hs hn q => by
  unfold fn_number22
  rw [fn_wp]
  refine ⟨rfl, ?_⟩
  simp [ir_number22]
  refine s0.cl hf rfl hs (by omega) (by decide) (by decide) fun a st1 a0 a1 h1 => ?_
  simp
  refine s0.cl hf rfl h1 (by omega) (by decide) (by decide) fun b st2 b0 b1 h2 => ?_
  simp
  refine s0.cl hf rfl h2 (by omega) (by decide) (by decide) fun c st3 c0 c1 h3 => ?_
  simp
  refine ⟨fun ha => ⟨mul_okn (n := 10) (.of_lt (by omega) (by omega)) (by decide +kernel), ?_⟩, fun ha => ?_⟩
  · refine s0.cl hf rfl h3 (by omega) (by decide) (by decide) fun e st4 e0 e1 h4 => ?_
    have hb : Bits 8000 (1 + c) := Bits.mono (n := 3) (.of_lt (by omega) (by omega)) (by decide)
    simp [s1.cl hg (show 0 < 1 + c by omega) hb]
    exact q _ _ (sz_divInt (by omega) (by omega) (by omega)) (h4.mono (by omega))
  · have hb : Bits 8000 (1 + c) := Bits.mono (n := 3) (.of_lt (by omega) (by omega)) (by decide)
    simp [s1.cl hg (show 0 < 1 + c by omega) hb]
    exact q _ _ (sz_divInt (by omega) (by omega) (by omega)) (h3.mono (by omega))⟩
theorem SpNum.cl {Q : PQ} {c : Nat} (s : SpNum B c f) (hf : Φ.fn[k]? = some f) {i a : Nat} {st : O} (hs : ldV i ρ = some st) (ho : OkSt a st) (ha : a < 2 ^ 59)
    (q : ∀ p st', Sz B p → OkSt (a + c) st' → Q (.frz (frD p)) (ρ.set i (some st'))) : (callF Φ k [.r i] ρ).wp Q := by
  refine call_sp hf s.modes rfl (os := [st]) (by simp [gather, hs]) (s.run ho ha fun p st' b c => ?_)
  simpa [callK] using q p st' b c
end
end Lib
set_option Elab.async false
set_option linter.all false
set_option maxRecDepth 100000
set_option maxHeartbeats 4000000
/-! LibG: what the first ten laws draw: numbers, fractions; the least of a row. -/
namespace Lib
open PySem Tr
def ir_numA (k0 : Nat) : Ss := (.cons (.set 1 (.call k0 (.r 0 (.e (.int 6) .nil)))) (.cons (.ite (.cmp .lt (.v 1) (.int 3)) (.cons (.ret (.ofE (.op .sub (.ofF (.call k0 (.r 0 (.e (.int 41) .nil)))) (.int 20)))) .nil) .nil) (.cons (.ite (.cmp .eq (.v 1) (.int 3)) (.cons (.ret (.ofE (.ix (.ofF (.lst (.cons (.ofE (.int 0)) (.cons (.ofE (.int 1)) (.cons (.ofE (.neg (.int 1))) .nil))))) (.ofF (.call k0 (.r 0 (.e (.int 3) .nil))))))) .nil) .nil) (.cons (.set 2 (.add (.ofF (.mul (.ofF (.call k0 (.r 0 (.e (.op .pow (.int 10) (.int 15)) .nil)))) (.op .pow (.int 10) (.int 15)))) (.ofF (.call k0 (.r 0 (.e (.op .pow (.int 10) (.int 15)) .nil)))))) (.cons (.ret (.ofE (.ix (.ofF (.lst (.cons (.ofE (.v 2)) (.cons (.ofE (.op .sub (.int 0) (.v 2))) .nil)))) (.op .sub (.v 1) (.int 4))))) .nil)))))
noncomputable def fn_numA (Φ : Tab) (k0 : Nat) : Fn := mkFn 3 [true] ((ir_numA k0).sem Φ)
def ir_fracA (k0 : Nat) (k1 : Nat) : Ss := (.cons (.set 1 (.call k0 (.r 0 .nil))) (.cons (.ret (.call k1 (.e (.v 1) (.e (.b2 .max (.int 1) (.b1 .abs (.ofF (.call k0 (.r 0 .nil))))) .nil)))) .nil))
noncomputable def fn_fracA (Φ : Tab) (k0 : Nat) (k1 : Nat) : Fn := mkFn 2 [true] ((ir_fracA k0 k1).sem Φ)
def ir_least (k0 : Nat) : Ss := (.cons (.set 1 (.ofE (.ix (.v 0) (.int 0)))) (.cons (.loop (.name 2) (.seq (.v 0)) (.cons (.ite (.cmp .lt (.ofF (.call k0 (.e (.v 2) (.e (.v 1) .nil)))) (.int 0)) (.cons (.set 1 (.ofE (.v 2))) .nil) .nil) .nil)) (.cons (.ret (.ofE (.tup (.cons (.ix (.v 1) (.int 0)) (.cons (.ix (.v 1) (.int 1)) .nil))))) .nil)))
noncomputable def fn_least (Φ : Tab) (k0 : Nat) : Fn := mkFn 3 [false] ((ir_least k0).sem Φ)
theorem Fr.listO {n : Nat} {d : D} (h : Fr n d) : Tr.listO d = some (.box [.frz (.int (valR d).num), .frz (.int ((valR d).den : Int))]) := by
  unfold Tr.listO
  rw [h.items]
  rfl
theorem Fr.list {n : Nat} {d : D} (h : Fr n d) : Fr n (.list [.int (valR d).num, .int ((valR d).den : Int)]) := fr_frL h.sz
theorem Fr.can {n : Nat} {d : D} (h : Fr n d) : d.canLay0 = true := by
  rcases h.is with e | e
  · rw [e]; rfl
  · rw [e]; rfl
theorem eqv_nil {l : List D} : PyData.eqvAll l [] = l.isEmpty := by cases l <;> simp [PyData.eqvAll]
theorem cmp_ne_nil {l : List D} (h : ∀ x ∈ l, x.canLay0 = true) : cmpD .ne (.list l) (.list []) = some (.bool (!l.isEmpty)) := by
  simp [cmpD, eqOk, PyData.canLay0, PyData.depth, canAll_of h, PyData.eqv, eqv_nil, PyData.depthAll, PyData.canLayAll0]
theorem cmp_eq_nil {l : List D} (h : ∀ x ∈ l, x.canLay0 = true) : cmpD .eq (.list l) (.list []) = some (.bool l.isEmpty) := by
  simp [cmpD, eqOk, PyData.canLay0, PyData.depth, canAll_of h, PyData.eqv, eqv_nil, PyData.depthAll, PyData.canLayAll0]
theorem eqO_nil {n : Bool} {l : List D} (h : ∀ x ∈ l, x.canLay0 = true) : eqO n (.box (l.map .frz)) (.list []) = some (.bool (if n then !l.isEmpty else l.isEmpty)) := by
  cases n <;> simp [eqO, O.clean, O.fz, cmp_ne_nil h, cmp_eq_nil h]
theorem isK_fr {p : Rat} {k : Kd} : isK (frD p) k = decide (k = .tuple) := by cases k <;> rfl
section
variable {Φ : Tab} {k k0 k1 : Nat} {f f0 f1 : Fn} {ρ : Tr.Env} {n : Nat}
theorem sp_lowest (hf : Φ.fn[k0]? = some f0) (s0 : SpCommon f0) : SpFrac (fn_lowest Φ k0) := ⟨rfl, fun {a b Q} h0 hb q => by
  unfold fn_lowest
  rw [fn_wp]
  refine ⟨rfl, ?_⟩
  simp [ir_lowest]
  refine call_sp hf s0.modes rfl rfl (s0.run ?_)
  simp [callK]
  obtain ⟨g1, g2⟩ := gcd_bits (a := a) h0 hb
  have g1' : a.gcd b ≠ 0 := by omega
  have fin := frac_eq (a := a) h0
  refine ⟨fun h1 => ?_, fun h1 => ?_⟩
  · rw [if_pos h1] at fin
    simp [g2, h0] at g1' ⊢
    rw [fin]
    exact q
  · rw [if_neg (by omega)] at fin
    simp [g2, h0]
    rw [fin]
    exact q⟩
/-- a drawn whole number -/
structure SpInt (B c : Nat) (f : Fn) : Prop where
  modes : f.modes = [true]
  run : ∀ {n : Nat} {st : O} {Q : PQ}, OkSt n st → n < 2 ^ 59 + 100 → (∀ v st', Bits B v → OkSt (n + c) st' → Q (.frz (.int v)) [some st']) → (f.run [st]).wp Q
theorem SpInt.cl {Q : PQ} {B c : Nat} (s : SpInt B c f) (hf : Φ.fn[k]? = some f) {i a : Nat} {st : O} (hs : ldV i ρ = some st) (ho : OkSt a st) (ha : a < 2 ^ 59 + 100)
    (q : ∀ v st', Bits B v → OkSt (a + c) st' → Q (.frz (.int v)) (ρ.set i (some st'))) : (callF Φ k [.r i] ρ).wp Q := by
  refine call_sp hf s.modes rfl (os := [st]) (by simp [gather, hs]) (s.run ho ha fun p st' b c => ?_)
  simpa [callK] using q p st' b c
theorem sp_numA (hf : Φ.fn[k0]? = some f0) (s0 : SpNext f0) : SpInt 101 3 (fn_numA Φ k0) := ⟨rfl, fun {n st Q} hs hn q => by
  unfold fn_numA
  rw [fn_wp]
  refine ⟨rfl, ?_⟩
  simp [ir_numA]
  refine s0.cl hf rfl hs (by omega) (by decide) (by decide) fun w s1 w0 w1 h1 => ?_
  simp
  refine ⟨fun hw => ?_, fun hw => ⟨fun h3 => ?_, fun h3 => ?_⟩⟩
  · refine s0.cl hf rfl h1 (by omega) (by decide) (by decide) fun v s2 v0 v1 h2 => ?_
    simp
    exact q _ _ (.of_lt (by omega) (by omega)) (h2.mono (by omega))
  · refine s0.cl hf rfl h1 (by omega) (by decide) (by decide) fun v s2 v0 v1 h2 => ?_
    simp
    have : v = 0 ∨ v = 1 ∨ v = 2 := by omega
    rcases this with rfl | rfl | rfl
    · simp; exact q _ _ (by decide) (h2.mono (by omega))
    · simp; exact q _ _ (by decide) (h2.mono (by omega))
    · simp; exact q _ _ (by decide) (h2.mono (by omega))
  · refine s0.cl hf rfl h1 (by omega) (by decide) (by decide) fun v s2 v0 v1 h2 => ?_
    simp
    refine ⟨mul_okn (n := 60) (.of_lt (by omega) (by omega)) (by decide +kernel), ?_⟩
    refine s0.cl hf rfl h2 (by omega) (by decide) (by decide) fun u s3 u0 u1 k3 => ?_
    simp
    have : w = 4 ∨ w = 5 := by omega
    rcases this with rfl | rfl
    · simp; exact q _ _ (.of_lt (by omega) (by omega)) (k3.mono (by omega))
    · simp; exact q _ _ (.of_lt (by omega) (by omega)) (k3.mono (by omega))⟩
/-- the greater of 1 and a number without its sign -/
theorem max1_abs {B : Nat} {u : Int} (hB : 1 ≤ B) (h : Bits B u) : ∃ w : Nat, w ≠ 0 ∧ w < 2 ^ (B + 1) ∧ (if (1 : Int) < (u.natAbs : Int) then (u.natAbs : Int) else 1) = (w : Int) := by
  unfold Bits at h
  by_cases h1 : 1 < u.natAbs
  · exact ⟨u.natAbs, by omega, h, by rw [if_pos (by omega)]⟩
  · exact ⟨1, by omega, Nat.one_lt_two_pow (by omega), by rw [if_neg (by omega)]; rfl⟩
theorem sp_fracA (hf : Φ.fn[k0]? = some f0) (s0 : SpInt 101 3 f0) (hg : Φ.fn[k1]? = some f1) (s1 : SpLow f1) : SpNum 102 6 (fn_fracA Φ k0 k1) := ⟨rfl, fun {n st Q} hs hn q => by
  unfold fn_fracA
  rw [fn_wp]
  refine ⟨rfl, ?_⟩
  simp [ir_fracA]
  refine s0.cl hf rfl hs (by omega) fun v s2 b1 h1 => ?_
  simp
  refine s0.cl hf rfl h1 (by omega) fun u s3 b2 h2 => ?_
  simp [abs_nat]
  obtain ⟨w, w0, wb, e⟩ := max1_abs (by decide) b2
  rw [e, s1.cl hg (a := v) (b := w) (by omega) (Nat.lt_of_lt_of_le (show (w : Int).natAbs < 2 ^ 102 by rw [Int.natAbs_natCast]; exact wb) (two_mono (by decide)))]
  simp
  exact q (Rat.divInt v w) s3 (sz_divInt (by omega) b1 (by rw [Int.natAbs_natCast]; exact wb)) (h2.mono (by omega))⟩
/-! ### the least -/
def minL (l : List Rat) : Rat := -maxL (l.map fun x => -x)
theorem minL_mem {l : List Rat} (h : l ≠ []) : minL l ∈ l := by
  have := maxL_mem (l := l.map fun x => -x) (by simpa using h)
  obtain ⟨x, hx, e⟩ := List.mem_map.mp this
  unfold minL
  rw [← e, Rat.neg_neg]
  exact hx
theorem minL_le {l : List Rat} {y : Rat} (h : y ∈ l) : minL l ≤ y := by
  have := maxL_ge (l := l.map fun x => -x) (y := -y) (List.mem_map.mpr ⟨y, h, rfl⟩)
  unfold minL
  grind
theorem minL_eq {l : List Rat} {m : Rat} (h : m ∈ l) (g : ∀ y ∈ l, m ≤ y) : minL l = m := by
  have h1 := minL_le h
  have h2 := g _ (minL_mem (l := l) fun e => by rw [e] at h; simp at h)
  grind
/-- no greater than what these tell, one of those -/
structure LeAll (r : Rat) (l m : List D) : Prop where
  le : ∀ y ∈ l, r ≤ valR y
  mem : r ∈ m.map valR
structure SpLe (f : Fn) : Prop where
  modes : f.modes = [false]
  eq : ∀ {d : D} {l : List D}, itemsD d = some l → l ≠ [] → (∀ x ∈ l, Fr 4000 x) → f.run [.frz d] = .ok (.frz (frD (minL (l.map valR)))) []
theorem sp_least (hf : Φ.fn[k0]? = some f) (s : SpOrd f) : SpLe (fn_least Φ k0) := ⟨rfl, fun {d l} hd h0 hl => run_eq (by
  obtain ⟨x, l, rfl⟩ := List.exists_cons_of_ne_nil h0
  unfold fn_least
  rw [fn_wp]
  refine ⟨rfl, ?_⟩
  have e0 : ixD d (.int 0) = some x := by have := ixD_items hd 0; simpa using this
  simp [ir_least, e0, hd]
  refine loop0 (fun i ρ => ∃ (m : D) (x2 : Option O), Fr 4000 m ∧ LeAll (valR m) ((x :: l).take i) (x :: l) ∧ ρ = [some (.frz d), some (.frz m), x2]) ?_ ?_ ?_
  · exact ⟨x, none, hl x (by simp), ⟨by simp, by simp⟩, rfl⟩
  · rintro i y ρ he ⟨m, x2, hm, ⟨hw, hv⟩, rfl⟩
    have hy := hl y (List.mem_of_getElem? he)
    refine ⟨_, rfl, ?_⟩
    simp [s.cl hf hy hm, ord_neg', -List.take_succ_cons]
    have et : (x :: l).take (i + 1) = (x :: l).take i ++ [y] := by rw [List.take_succ, he]; rfl
    have ym : valR y ∈ (x :: l).map valR := List.mem_map.mpr ⟨y, List.mem_of_getElem? he, rfl⟩
    rw [et]
    refine ⟨fun h => ⟨hy, ⟨fun z hz => ?_, ym⟩⟩, fun h => ⟨hm, ⟨fun z hz => ?_, hv⟩⟩⟩
    · rcases List.mem_append.mp hz with hz | hz
      · have := hw z hz; grind
      · rw [List.mem_singleton.mp hz]; grind
    · rcases List.mem_append.mp hz with hz | hz
      · exact hw z hz
      · rw [List.mem_singleton.mp hz]; grind
  · rintro ρ ⟨m, x2, hm, ⟨hw, hv⟩, rfl⟩
    rw [List.take_length] at hw
    have e : minL ((x :: l).map valR) = valR m := minL_eq hv fun y hy => by
      obtain ⟨z, hz, rfl⟩ := List.mem_map.mp hy
      exact hw z hz
    simp only [List.map_cons] at e
    simp [hm.ix0, hm.ix1, e, frD])⟩
theorem SpLe.cl (s : SpLe f) (hf : Φ.fn[k]? = some f) {d : D} {l : List D} (hd : itemsD d = some l) (h0 : l ≠ []) (hl : ∀ x ∈ l, Fr 4000 x) : callF Φ k [.d d] ρ = .ok (.frz (frD (minL (l.map valR)))) ρ :=
  call_eq hf s.modes rfl rfl rfl (s.eq hd h0 hl)
end
end Lib
set_option Elab.async false
set_option linter.all false
set_option maxRecDepth 100000
set_option maxHeartbeats 4000000
/-! LibU: unlike places, tables by kinds. -/
namespace Lib
open PySem Tr
def ir_unlike (k0 : Nat) (k1 : Nat) : Ss := (.cons (.set 2 (.lst .nil)) (.cons (.loop (.name 3) (.range1 (.v 1)) (.cons (.set 4 (.call k0 (.r 0 .nil))) (.cons (.whl (.memS false (.v 4) 2) (.cons (.set 4 (.call k1 (.e (.v 4) (.e (.tup (.cons (.int 1) (.cons (.ofF (.add (.int 1) (.op .mod (.v 3) (.int 3)))) .nil))) .nil)))) .nil)) (.cons (.append 2 (.ofE (.v 4))) .nil)))) (.cons (.ret (.mv 2)) .nil)))
noncomputable def fn_unlike (Φ : Tab) (k0 : Nat) (k1 : Nat) : Fn := mkFn 5 [true, false] ((ir_unlike k0 k1).sem Φ)
def ir_table (k0 : Nat) (k1 : Nat) (k2 : Nat) (k3 : Nat) (k4 : Nat) (k5 : Nat) (k6 : Nat) (k7 : Nat) : Ss := (.cons (.set 2 (.call k0 (.e (.ofF (.call k1 (.r 0 (.e (.v 1) .nil)))) .nil))) (.cons (.set 3 (.call k0 (.e (.ofF (.comp (.name 12) (.range1 (.v 1)) .nil (.call k2 (.r 0 .nil)) [12])) .nil))) (.cons (.set 4 (.call k3 (.r 0 (.e (.int 6) .nil)))) (.cons (.set 5 (.call k4 (.e (.ofF (.add (.int 1) (.ofF (.call k3 (.r 0 (.e (.int 9) .nil)))))) (.e (.ofF (.add (.int 1) (.ofF (.call k3 (.r 0 (.e (.int 4) .nil)))))) .nil)))) (.cons (.set 6 (.call k3 (.r 0 (.e (.b2 .max (.int 1) (.v 1)) .nil)))) (.cons (.set 7 (.lst .nil)) (.cons (.loop (.name 8) (.range1 (.v 1)) (.cons (.set 9 (.lst .nil)) (.cons (.loop (.name 10) (.range1 (.v 1)) (.cons (.set 11 (.ofE (.ix (.ix (.v 2) (.v 8)) (.v 10)))) (.cons (.ite (.and (.cmp .ne (.v 8) (.v 10)) (.or (.cmp .eq (.v 4) (.int 2)) (.and (.cmp .eq (.v 4) (.int 1)) (.cmp .mem (.v 6) (.tup (.cons (.v 8) (.cons (.v 10) .nil))))))) (.cons (.set 11 (.call k5 (.e (.v 11) (.e (.v 5) .nil)))) .nil) .nil) (.cons (.ite (.and (.cmp .ne (.v 8) (.v 10)) (.or (.cmp .eq (.v 4) (.int 3)) (.cmp .eq (.v 4) (.int 4)))) (.cons (.set 11 (.ofE (.ix (.ofF (.lst (.cons (.call k5 (.e (.v 11) (.e (.ix (.ix (.v 3) (.v 8)) (.v 10)) .nil))) (.cons (.call k6 (.e (.v 11) (.e (.ix (.ix (.v 3) (.v 8)) (.v 10)) .nil))) .nil)))) (.op .sub (.v 4) (.int 3))))) .nil) .nil) (.cons (.ite (.cmp .eq (.v 4) (.int 5)) (.cons (.set 11 (.call k7 (.e (.v 2) (.e (.v 5) (.e (.v 8) (.e (.v 10) .nil)))))) .nil) .nil) (.cons (.append 9 (.ofE (.v 11))) .nil)))))) (.cons (.append 7 (.ofE (.b1 .tuple (.v 9)))) .nil)))) (.cons (.ret (.ofE (.b1 .tuple (.v 7)))) .nil))))))))
noncomputable def fn_table (Φ : Tab) (k0 : Nat) (k1 : Nat) (k2 : Nat) (k3 : Nat) (k4 : Nat) (k5 : Nat) (k6 : Nat) (k7 : Nat) : Fn := mkFn 13 [true, false] ((ir_table k0 k1 k2 k3 k4 k5 k6 k7).sem Φ)
def ir_corner (k0 : Nat) : Ss := (.cons (.ite (.cmp .eq (.v 2) (.v 3)) (.cons (.ret (.ofE (.tup (.cons (.int 0) (.cons (.int 1) .nil))))) .nil) .nil) (.cons (.set 4 (.ofE (.v 1))) (.cons (.ite (.cmp .gt (.b1 .len (.v 0)) (.int 1)) (.cons (.set 4 (.ofE (.ix (.ix (.v 0) (.int 0)) (.int 1)))) .nil) .nil) (.cons (.ite (.or (.cmp .gt (.b2 .max (.v 2) (.v 3)) (.int 3)) (.cmp .eq (.ofF (.add (.v 2) (.v 3))) (.int 3))) (.cons (.ret (.call k0 (.e (.v 4) (.e (.v 1) .nil)))) .nil) .nil) (.cons (.ret (.ofE (.ix (.ofF (.lst (.cons (.ofE (.v 4)) (.cons (.ofE (.v 1)) .nil)))) (.b1 .int (.cmp .eq (.op .mod (.v 2) (.int 2)) (.op .mod (.v 3) (.int 2))))))) .nil)))))
noncomputable def fn_corner (Φ : Tab) (k0 : Nat) : Fn := mkFn 5 [false, false, false, false] ((ir_corner k0).sem Φ)
def ir_isnumber (k0 : Nat) : Ss := (.cons (.ite (.or (.not (.tru (.isi (.v 0) [.tuple]))) (.or (.cmp .ne (.b1 .len (.v 0)) (.int 2)) (.cmp .ne (.ofF (.comp (.name 1) (.seq (.v 0)) (.one (.not (.tru (.isi (.v 1) [.int])))) (.ofE (.int 1)) [1])) (.ofF (.lst .nil))))) (.cons (.ret (.ofE (.bl false))) .nil) .nil) (.cons (.ret (.ofE (.cmp .eq (.ofF (.call k0 (.e (.ix (.v 0) (.int 0)) (.e (.ix (.v 0) (.int 1)) .nil)))) (.v 0)))) .nil))
noncomputable def fn_isnumber (Φ : Tab) (k0 : Nat) : Fn := mkFn 2 [false] ((ir_isnumber k0).sem Φ)
section
variable {Φ : Tab} {k k0 k1 k2 k3 k4 k5 k6 k7 g0 : Nat} {f f0 f1 f2 f3 f4 f5 f6 f7 : Fn} {ρ : Tr.Env} {d e t o : D} {n B : Nat}
/-- places, no two the same -/
structure SpUnl (f : Fn) : Prop where
  modes : f.modes = [true, false]
  run : ∀ {n c : Nat} {m : Int} {st : O} {Q : PQ}, OkSt c st → c < 2 ^ 58 → m = n → n ≤ 20 → (∀ (l : List Rat) st', l.length = n → l.Nodup → (∀ p ∈ l, Sz 100 p) → OkSt (c + 4 * n) st' → Q (.box (l.map fun p => .frz (frD p))) [some st']) → (f.run [st, .frz (.int m)]).wp Q
theorem third {r : Int} (h0 : 0 ≤ r) (h3 : r < 3) : ∃ s : Rat, 0 < s ∧ Sz 3 s ∧ .tuple [.int 1, .int (1 + r)] = frD s := by
  have : r = 0 ∨ r = 1 ∨ r = 2 := by omega
  rcases this with rfl | rfl | rfl
  · exact ⟨1, by decide +kernel, ⟨by decide, by decide⟩, rfl⟩
  · exact ⟨1/2, by decide +kernel, ⟨by decide +kernel, by decide +kernel⟩, by refine fr_lit ?_ ?_ <;> decide +kernel⟩
  · exact ⟨1/3, by decide +kernel, ⟨by decide +kernel, by decide +kernel⟩, by refine fr_lit ?_ ?_ <;> decide +kernel⟩
theorem sz_nat {n T : Nat} (h : T < 2 ^ (n + 1)) : Sz (n + 1) (T : Rat) := ⟨by simpa using h, by simp⟩
theorem filter_drop {l : List Rat} {p s : Rat} (hp : p ∈ l) (hs : 0 < s) : (l.filter fun x => decide (p + s ≤ x)).length < (l.filter fun x => decide (p ≤ x)).length := by
  induction l with
  | nil => cases hp
  | cons y l ih =>
    have le : (l.filter fun x => decide (p + s ≤ x)).length ≤ (l.filter fun x => decide (p ≤ x)).length := by
      refine List.Sublist.length_le ?_
      have e : (l.filter fun x => decide (p + s ≤ x)) = (l.filter fun x => decide (p ≤ x)).filter fun x => decide (p + s ≤ x) := by
        rw [List.filter_filter]
        refine List.filter_congr fun x _ => ?_
        by_cases h1 : p + s ≤ x
        · have h2 : p ≤ x := by grind
          simp [h1, h2]
        · simp [h1]
      rw [e]
      exact List.filter_sublist
    rw [List.filter_cons, List.filter_cons]
    rcases List.mem_cons.mp hp with rfl | hp
    · rw [if_neg (by simp; grind), if_pos (by simp [Rat.le_refl])]
      rw [List.length_cons]
      omega
    · have ih := ih hp
      by_cases h1 : p + s ≤ y
      · have h2 : p ≤ y := by grind
        simp only [h1, h2, decide_true, if_true, List.length_cons]
        omega
      · by_cases h2 : p ≤ y
        · simp only [h1, h2, decide_true, decide_false, if_true, List.length_cons]
          simp
          omega
        · simp only [h1, h2, decide_false]
          simpa using ih
theorem sp_unlike (hf : Φ.fn[k0]? = some f0) (s0 : SpNum 80 4 f0) (hg : Φ.fn[k1]? = some f1) (s1 : Sp2 (fun p q => p + q) any2 f1) : SpUnl (fn_unlike Φ k0 k1) := ⟨rfl, fun {n c m st Q} hs hc hm hn q => by
  unfold fn_unlike
  rw [fn_wp]
  refine ⟨rfl, ?_⟩
  have hm2 : m.toNat = n := by omega
  simp [ir_unlike, hm2]
  refine ⟨inR (by omega), ?_⟩
  refine loop0 (fun i ρ => ∃ (st' : O) (l : List Rat) (x3 x4 : Option O), OkSt (c + 4 * i) st' ∧ l.length = i ∧ l.Nodup ∧ (∀ p ∈ l, Sz 100 p) ∧ ρ = [some st', some (.frz (.int m)), some (.box (l.map fun p => .frz (frD p))), x3, x4]) ?_ ?_ ?_
  · exact ⟨st, [], none, none, hs, rfl, List.nodup_nil, by simp, rfl⟩
  · rintro i d ρ he ⟨st', l, x3, x4, h1, hl, hd, hz, rfl⟩
    obtain ⟨rfl, hi⟩ := rng_at he
    refine ⟨_, rfl, ?_⟩
    simp
    refine s0.cl hf rfl h1 (by omega) fun p st2 hp h2 => ?_
    simp
    obtain ⟨r0, r3⟩ := mod_rng (i := (i : Int)) (m := 3) (by decide)
    obtain ⟨s, sp, ss, se⟩ := third r0 r3
    refine whl_wp (fun N ρ => ∃ (T : Nat) (x : Rat), x = p + (T : Rat) * s ∧ (l.filter fun y => decide (x ≤ y)).length = N ∧ T + N ≤ l.length ∧ ρ = [some st2, some (.frz (.int m)), some (.box (l.map fun p => .frz (frD p))), some (.frz (.int i)), some (.frz (frD x))]) (fun N ρ hN => ?_) (l.filter fun y => decide (p ≤ y)).length ⟨0, p, by grind, rfl, by have := List.length_filter_le (fun y => decide (p ≤ y)) l; omega, rfl⟩
    obtain ⟨T, x, hx, hN, hT, rfl⟩ := hN
    have sx : Sz 100 x := by
      rw [hx]
      exact (hp.add ((sz_nat (n := 5) (T := T) (by omega)).mul ss)).mono (by decide)
    simp [memO_frs, se, s1.cf hg (sx.mono (by decide)) (ss.mono (by decide)) trivial]
    refine ⟨fun hmem => ?_, fun hmem => ?_⟩
    · have dr := filter_drop hmem sp
      have e : p + ((T + 1 : Nat) : Rat) * s = x + s := by rw [hx]; grind
      exact ⟨(l.filter fun y => decide (x + s ≤ y)).length, by omega, T + 1, by rw [e], by omega, by rw [e]⟩
    · refine ⟨by rw [hl]; omega, st2, h2.mono (by omega), l ++ [x], by simp [hl], ?_, ?_, rfl, by simp⟩
      · rw [List.nodup_append]
        refine ⟨hd, by simp, ?_⟩
        rintro a ha b hb rfl
        rw [List.mem_singleton.mp hb] at ha
        exact hmem ha
      · intro y hy
        rcases List.mem_append.mp hy with hy | hy
        · exact hz y hy
        · rw [List.mem_singleton.mp hy]; exact sx
  · rintro ρ ⟨st', l, x3, x4, h1, hl, hd, hz, rfl⟩
    simp at hl h1 ⊢
    exact q l st' hl hd hz h1⟩
theorem SpUnl.cl {Q : PQ} (s : SpUnl f) (hf : Φ.fn[k]? = some f) {i c : Nat} {st : O} {m : Int} (hs : ldV i ρ = some st) (ho : OkSt c st) (hc : c < 2 ^ 58) (hm : m = n) (hn : n ≤ 20)
    (q : ∀ (l : List Rat) st', l.length = n → l.Nodup → (∀ p ∈ l, Sz 100 p) → OkSt (c + 4 * n) st' → Q (.box (l.map fun p => .frz (frD p))) (ρ.set i (some st'))) : (callF Φ k [.r i, .d (.int m)] ρ).wp Q := by
  refine call_sp hf s.modes rfl (os := [st, .frz (.int m)]) (by simp [gather, hs]) (s.run ho hc hm hn fun l st' a b c e => ?_)
  simpa [callK] using q l st' a b c e
end
end Lib
set_option Elab.async false
set_option linter.all false
set_option maxRecDepth 100000
set_option maxHeartbeats 4000000
/-! LibV: tables by kinds. -/
namespace Lib
open PySem Tr
def cornR (n : Nat) (sq : Nat → Nat → Rat) (more : Rat) (i j : Nat) : Rat :=
  if i = j then 0 else if 3 < max i j ∨ i + j = 3 then (if 1 < n then sq 0 1 else more) + more else if i % 2 = j % 2 then more else (if 1 < n then sq 0 1 else more)
def tabA (kind thing : Int) (more : Rat) (u : Nat → Rat) (i j : Nat) : Rat :=
  if i ≠ j ∧ (kind = 2 ∨ kind = 1 ∧ (thing = i ∨ thing = j)) then (u i - u j).abs + more else (u i - u j).abs
def tabB (kind thing : Int) (more : Rat) (u v : Nat → Rat) (i j : Nat) : Rat :=
  if i ≠ j ∧ kind = 3 then tabA kind thing more u i j + (v i - v j).abs else if i ≠ j ∧ kind = 4 then (if tabA kind thing more u i j < (v i - v j).abs then (v i - v j).abs else tabA kind thing more u i j) else tabA kind thing more u i j
def tabF (n : Nat) (kind thing : Int) (more : Rat) (u v : Nat → Rat) (i j : Nat) : Rat :=
  if kind = 5 then cornR n (fun i j => (u i - u j).abs) more i j else tabB kind thing more u v i j
structure TabOk (n : Nat) (f : Nat → Nat → Rat) : Prop where
  diag : ∀ i, f i i = 0
  pos : ∀ i j, i < n → j < n → i ≠ j → 0 < f i j
  sym : ∀ i j, f i j = f j i
  sz : ∀ i j, i < n → j < n → Sz 500 (f i j)
theorem abs_sym (p q : Rat) : (p - q).abs = (q - p).abs := by unfold Rat.abs; grind
theorem abs_nn (p : Rat) : 0 ≤ p.abs := by unfold Rat.abs; grind
theorem abs_pos' {p q : Rat} (h : p ≠ q) : 0 < (p - q).abs := by unfold Rat.abs; grind
theorem abs_self (p : Rat) : (p - p).abs = 0 := by unfold Rat.abs; grind
section
variable {n : Nat} {kind thing : Int} {more : Rat} {u v : Nat → Rat}
theorem sz_gap {n m : Nat} {p q : Rat} (h : Sz n p) (h' : Sz m q) : Sz (n + m + 1) (p - q).abs := sz_abs (h.sub h')
theorem tabA_sz {i j : Nat} (hi : i < n) (hj : j < n) (hm : Sz 10 more) (su : ∀ i < n, Sz 100 (u i)) : Sz 212 (tabA kind thing more u i j) := by
  unfold tabA
  have h := sz_gap (su i hi) (su j hj)
  split
  · exact (h.add hm).mono (by decide)
  · exact h.mono (by decide)
theorem corn_sz {sq : Nat → Nat → Rat} {B : Nat} (hB : 10 ≤ B) (hm : Sz 10 more) (hs : 1 < n → Sz B (sq 0 1)) {i j : Nat} : Sz (B + 11) (cornR n sq more i j) := by
  have h2 : Sz B (if 1 < n then sq 0 1 else more) := by
    split
    · exact hs (by assumption)
    · exact hm.mono hB
  unfold cornR
  split
  · exact sz_zero.mono (by omega)
  · split
    · exact (h2.add hm).mono (by omega)
    · split
      · exact hm.mono (by omega)
      · exact h2.mono (by omega)
theorem tabF_ok (hm : 0 < more) (hm2 : Sz 10 more) (hu : ∀ i j, i < n → j < n → i ≠ j → u i ≠ u j) (su : ∀ i < n, Sz 100 (u i)) (sv : ∀ i < n, Sz 100 (v i)) : TabOk n (tabF n kind thing more u v) where
  diag := fun i => by
    have e : (u i - u i).abs = 0 := abs_self _
    unfold tabF cornR tabB tabA
    simp [e]
  pos := fun i j hi hj hne => by
    have h1 := abs_pos' (hu i j hi hj hne)
    have h2 := abs_nn (v i - v j)
    have h3 : 0 < tabA kind thing more u i j := by
      unfold tabA
      split <;> grind
    have h4 : 0 < if 1 < n then (u 0 - u 1).abs else more := by
      split
      · exact abs_pos' (hu 0 1 (by omega) (by omega) (by decide))
      · exact hm
    unfold tabF
    split
    · unfold cornR
      rw [if_neg hne]
      split
      · grind
      · split
        · exact hm
        · exact h4
    · unfold tabB
      split
      · grind
      · split
        · split <;> grind
        · exact h3
  sym := fun i j => by
    have e1 := abs_sym (u i) (u j)
    have e2 := abs_sym (v i) (v j)
    have e3 : tabA kind thing more u i j = tabA kind thing more u j i := by
      unfold tabA
      rw [e1]
      have : (i ≠ j ∧ (kind = 2 ∨ kind = 1 ∧ (thing = i ∨ thing = j))) ↔ (j ≠ i ∧ (kind = 2 ∨ kind = 1 ∧ (thing = j ∨ thing = i))) := by
        constructor <;> rintro ⟨a, b⟩ <;> exact ⟨fun e => a e.symm, by omega⟩
      simp only [this]
    unfold tabF tabB cornR
    rw [e2, e3]
    simp only [ne_comm (a := i) (b := j), eq_comm (a := i) (b := j), Nat.max_comm i j, Nat.add_comm i j, eq_comm (a := i % 2) (b := j % 2)]
  sz := fun i j hi hj => by
    have h1 := tabA_sz (kind := kind) (thing := thing) hi hj hm2 su
    have h2 := sz_gap (sv i hi) (sv j hj)
    unfold tabF
    split
    · exact (corn_sz (sq := fun i j => (u i - u j).abs) (n := n) (B := 201) (by decide) hm2 fun h => sz_gap (su 0 (by omega)) (su 1 h)).mono (by decide)
    · unfold tabB
      split
      · exact (h1.add h2).mono (by decide)
      · split
        · split
          · exact h2.mono (by decide)
          · exact h1.mono (by decide)
        · exact h1.mono (by decide)
end
section
variable {Φ : Tab} {k k0 k1 k2 k3 k4 k5 k6 k7 g0 : Nat} {f f0 f1 f2 f3 f4 f5 f6 f7 : Fn} {ρ : Tr.Env} {d e t o : D} {n B : Nat}
structure SpCor (f : Fn) : Prop where
  modes : f.modes = [false, false, false, false]
  eq : ∀ {n : Nat} {sq : Nat → Nat → Rat} {more : Rat} {x y : Int} {i j : Nat}, x = i → y = j → i < n → j < n → n ≤ 20 → Sz 10 more → (1 < n → Sz 400 (sq 0 1)) → f.run [.frz (tabD n sq), .frz (frD more), .frz (.int x), .frz (.int y)] = .ok (.frz (frD (cornR n sq more i j))) []
theorem len_tab {f : Nat → Nat → Rat} : b1D .len (tabD n f) = some (.int n) := by simp [tabD]
theorem len_row {u : Nat → Rat} : b1D .len (rowD n u) = some (.int n) := by simp [rowD]
theorem sp_corner (hf : Φ.fn[k0]? = some f0) (s : Sp2 (fun p q => p + q) any2 f0) : SpCor (fn_corner Φ k0) := ⟨rfl, fun {n sq more x y i j} hx hy hi hj hn hm hs => run_eq (by
  unfold fn_corner
  rw [fn_wp]
  refine ⟨rfl, ?_⟩
  simp [ir_corner, len_tab]
  have e0 : (∀ (h : 1 < n), ixD (tabD n sq) (.int 0) = some (rowD n (sq 0))) := fun h => ix_tab (i := 0) (by omega)
  have e1 : (∀ (h : 1 < n), ixD (rowD n (sq 0)) (.int 1) = some (frD (sq 0 1))) := fun h => ix_row (i := 1) h
  unfold cornR
  refine ⟨fun h => ?_, fun h => ?_⟩
  · rw [if_pos (by omega)]
    rfl
  · rw [if_neg (by omega)]
    have mxy : (if x < y then y else x) = ((max i j : Nat) : Int) := by
      subst hx; subst hy
      split <;> omega
    have m1 : x.fmod 2 = ((i % 2 : Nat) : Int) := by subst hx; exact gcd_fmod (by decide)
    have m2 : y.fmod 2 = ((j % 2 : Nat) : Int) := by subst hy; exact gcd_fmod (by decide)
    refine ⟨fun h1 => ?_, fun h1 => ?_⟩
    · have h1' : 1 < n := by omega
      simp [e0 h1', e1 h1', if_pos h1', mxy, m1, m2, s.cf hf ((hs h1').mono (show 400 ≤ 4000 by decide)) (hm.mono (show 10 ≤ 4000 by decide)) trivial]
      refine ⟨fun h3 => ?_, fun h3 => ⟨fun h4 => ?_, fun h4 => ?_⟩⟩
      · rw [if_pos (by omega)]
      · rw [if_pos (by omega)]
      · have c : ¬ (3 < max i j ∨ i + j = 3) := by omega
        rw [if_neg c]
        by_cases h5 : i % 2 = j % 2
        · have : ((i : Int) % 2) = ((j : Int) % 2) := by omega
          simp [h5, this]
        · have : ¬ ((i : Int) % 2) = ((j : Int) % 2) := by omega
          simp [h5, this]
    · have h1' : ¬ 1 < n := by omega
      omega)⟩
theorem SpCor.cl (s : SpCor f) (hf : Φ.fn[k]? = some f) {sq : Nat → Nat → Rat} {more : Rat} {i j : Nat} (hi : i < n) (hj : j < n) (hn : n ≤ 20) (hm : Sz 10 more) (hs : 1 < n → Sz 400 (sq 0 1)) : callF Φ k [.d (tabD n sq), .d (frD more), .d (.int i), .d (.int j)] ρ = .ok (.frz (frD (cornR n sq more i j))) ρ :=
  call_eq hf s.modes rfl rfl rfl (s.eq rfl rfl hi hj hn hm hs)
end
end Lib
set_option Elab.async false
set_option linter.all false
set_option maxRecDepth 100000
set_option maxHeartbeats 4000000
/-! LibW: a drawn table. -/
namespace Lib
open PySem Tr
section
variable {Φ : Tab} {k k0 k1 k2 k3 k4 k5 k6 k7 g0 : Nat} {f f0 f1 f2 f3 f4 f5 f6 f7 : Fn} {ρ : Tr.Env} {d e t o : D} {n B : Nat}
theorem SpSq.cw (s : SpSq f) (hf : Φ.fn[k]? = some f) {l : List Rat} (hu : ∀ p ∈ l, Sz 1900 p) (hl : l.length = n) (hn : n ≤ 1000) : callF Φ k [.d (.list (l.map frD))] ρ = .ok (.frz (tabD n fun i j => (l.getD i 0 - l.getD j 0).abs)) ρ := by
  rw [rowL_of, hl]
  exact s.cu hf (fun j hj => hu _ (by rw [List.getD_eq_getElem?_getD, List.getElem?_eq_getElem (by omega)]; exact List.getElem_mem _)) hn
structure SpTabl (f : Fn) : Prop where
  modes : f.modes = [true, false]
  run : ∀ {n c : Nat} {m : Int} {st : O} {Q : PQ}, OkSt c st → c < 2 ^ 57 → m = n → n ≤ 20 → (∀ (g : Nat → Nat → Rat) st', TabOk n g → OkSt (c + 200) st' → Q (.frz (tabD n g)) [some st']) → (f.run [st, .frz (.int m)]).wp Q
theorem getD_sz {l : List Rat} {B : Nat} (h : ∀ p ∈ l, Sz B p) {i : Nat} (hi : i < l.length) : Sz B (l.getD i 0) := by
  rw [List.getD_eq_getElem?_getD, List.getElem?_eq_getElem hi]
  exact h _ (List.getElem_mem _)
theorem getD_ne {l : List Rat} (h : l.Nodup) {i j : Nat} (hi : i < l.length) (hj : j < l.length) (hne : i ≠ j) : l.getD i 0 ≠ l.getD j 0 := by
  rw [List.getD_eq_getElem?_getD, List.getElem?_eq_getElem hi, List.getD_eq_getElem?_getD, List.getElem?_eq_getElem hj]
  intro e
  have e : l[i] = l[j] := by simpa using e
  rcases Nat.lt_or_gt_of_ne hne with h1 | h1
  · exact List.pairwise_iff_getElem.mp h i j hi hj h1 e
  · exact List.pairwise_iff_getElem.mp h j i hj hi h1 e.symm
theorem cmp_mem_two {a b c : Int} : cmpD .mem (.int a) (.tuple [.int b, .int c]) = some (.bool (decide (a = b ∨ a = c))) := by
  have h : IsI (.tuple [.int b, .int c]) [b, c] := isI_T (l := [b, c])
  rw [cmp_mem_I h]
  simp
/-- the slots while a table is made -/
def tabE (st : O) (m : Int) (n : Nat) (l ps : List Rat) (kd th : Int) (more : Rat) (x7 x8 x9 x10 x11 : Option O) : Tr.Env :=
  [some st, some (.frz (.int m)), some (.frz (tabD n fun i j => (l.getD i 0 - l.getD j 0).abs)), some (.frz (tabD n fun i j => (ps.getD i 0 - ps.getD j 0).abs)), some (.frz (.int kd)), some (.frz (frD more)), some (.frz (.int th)), x7, x8, x9, x10, x11, none]
theorem sp_table (h0 : Φ.fn[k0]? = some f0) (s0 : SpSq f0) (h1 : Φ.fn[k1]? = some f1) (s1 : SpUnl f1) (h2 : Φ.fn[k2]? = some f2) (s2 : SpNum 80 4 f2) (h3 : Φ.fn[k3]? = some f3) (s3 : SpNext f3) (h4 : Φ.fn[k4]? = some f4) (s4 : SpLow f4)
    (h5 : Φ.fn[k5]? = some f5) (s5 : Sp2 (fun p q => p + q) any2 f5) (h6 : Φ.fn[k6]? = some f6) (s6 : SpF2 (fun p q => if p < q then q else p) f6) (h7 : Φ.fn[k7]? = some f7) (s7 : SpCor f7) : SpTabl (fn_table Φ k0 k1 k2 k3 k4 k5 k6 k7) := ⟨rfl, fun {n c m st Q} hs hc hm hn q => by
  unfold fn_table
  rw [fn_wp]
  refine ⟨rfl, ?_⟩
  have hm2 : m.toNat = n := by omega
  simp [ir_table, hm2]
  refine s1.cl h1 rfl hs (by omega) hm hn fun l st1 ll ln lz q1 => ?_
  simp [s0.cw h0 (fun p hp => (lz p hp).mono (show 100 ≤ 1900 by decide)) ll (show n ≤ 1000 by omega), hm2]
  refine ⟨inR (by omega), ?_⟩
  refine comp_wp (fun j acc ρ' => ∃ (st' : O) (ps : List Rat), OkSt (c + 4 * n + 4 * j) st' ∧ (∀ p ∈ ps, Sz 80 p) ∧ acc = ps.map (fun p => .frz (frD p)) ∧ ps.length = j ∧
      ρ' = [some st', some (.frz (.int m)), some (.frz (tabD n fun i j => (l.getD i 0 - l.getD j 0).abs)), none, none, none, none, none, none, none, none, none, none]) 0 [] ⟨st1, [], q1, (fun _ h => nomatch h), rfl, rfl, by simp⟩ ?_ ?_
  · rintro j d acc ρ hd ⟨st', ps, a1, a2, rfl, a4, rfl⟩
    obtain ⟨rfl, hj⟩ := rng_at hd
    refine ⟨_, rfl, ?_⟩
    simp
    refine s2.cl h2 rfl a1 (by omega) fun p st2 sp a5 => ?_
    simp
    exact ⟨st2, a5.mono (by omega), ps ++ [p], (fun x hx => (List.mem_append.mp hx).elim (a2 x) fun e => by rw [List.mem_singleton.mp e]; exact sp.mono (by decide)), by simp, by simp [a4], rfl⟩
  · rintro ws ρ ⟨st2, ps, a1, a2, e, a4, rfl⟩
    rw [List.nil_append] at e
    subst e
    simp at a4 a1
    simp [s0.cw h0 (fun p hp => (a2 p hp).mono (show 80 ≤ 1900 by decide)) a4 (show n ≤ 1000 by omega)]
    refine ⟨by omega, ?_⟩
    refine s3.cl h3 rfl a1 (by omega) (by decide) (by decide) fun kd st3 kd0 kd6 b1 => ?_
    simp
    refine s3.cl h3 rfl b1 (by omega) (by decide) (by decide) fun v st4 v0 v9 b2 => ?_
    simp
    refine s3.cl h3 rfl b2 (by omega) (by decide) (by decide) fun w st5 w0 w4 b3 => ?_
    have hb : Bits 8000 (1 + w) := Bits.mono (n := 3) (.of_lt (by omega) (by omega)) (by decide)
    simp [s4.cl h4 (show 0 < 1 + w by omega) hb]
    obtain ⟨more, em, mp, ms⟩ : ∃ more, Rat.divInt (1 + v) (1 + w) = more ∧ 0 < more ∧ Sz 10 more := ⟨_, rfl, by
      rw [Rat.divInt_eq_div]
      have x1 : (0 : Rat) < ((1 + v : Int) : Rat) := by exact_mod_cast (show (0 : Int) < 1 + v by omega)
      have x2 : (0 : Rat) < ((1 + w : Int) : Rat) := by exact_mod_cast (show (0 : Int) < 1 + w by omega)
      rw [Rat.div_def]
      exact Rat.mul_pos x1 (Rat.inv_pos.mpr x2), sz_divInt (by omega) (by omega) (by omega)⟩
    rw [em]
    refine s3.cl h3 rfl b3 (by omega) (by split <;> omega) (by split <;> omega) fun th st6 th0 th1 b4 => ?_
    simp [hm2]
    refine ⟨inR (by omega), ?_⟩
    have tok : TabOk n (tabF n kd th more (l.getD · 0) (ps.getD · 0)) := tabF_ok mp ms (fun i j hi hj hne => getD_ne ln (by omega) (by omega) hne) (fun i hi => getD_sz lz (by omega)) fun i hi => (getD_sz a2 (by omega)).mono (by decide)
    refine loop0 (fun i ρ => ∃ x8 x9 x10 x11, ρ = tabE st6 m n l ps kd th more (some (.box ((List.range i).map fun i => .frz (rowD n (tabF n kd th more (l.getD · 0) (ps.getD · 0) i))))) x8 x9 x10 x11) ⟨_, _, _, _, rfl⟩ ?_ ?_
    · rintro i d ρ he ⟨x8, x9, x10, x11, rfl⟩
      obtain ⟨rfl, hi⟩ := rng_at he
      refine ⟨_, rfl, ?_⟩
      simp [tabE, hm2]
      refine ⟨inR (by omega), ?_⟩
      refine loop0 (fun j ρ => ∃ x10 x11, ρ = tabE st6 m n l ps kd th more (some (.box ((List.range i).map fun i => .frz (rowD n (tabF n kd th more (l.getD · 0) (ps.getD · 0) i))))) (some (.frz (.int i))) (some (.box ((List.range j).map fun j => .frz (frD (tabF n kd th more (l.getD · 0) (ps.getD · 0) i j))))) x10 x11) ⟨_, _, rfl⟩ ?_ ?_
      · rintro j d ρ he2 ⟨x10, x11, rfl⟩
        obtain ⟨rfl, hj⟩ := rng_at he2
        refine ⟨_, rfl, ?_⟩
        have z1 := (sz_gap (getD_sz lz (i := i) (by omega)) (getD_sz lz (i := j) (by omega))).mono (show 201 ≤ 4000 by decide)
        have z2 := (sz_gap (getD_sz a2 (i := i) (by omega)) (getD_sz a2 (i := j) (by omega))).mono (show 161 ≤ 4000 by decide)
        have z3 := ms.mono (show 10 ≤ 4000 by decide)
        have z4 : 1 < n → Sz 400 (l.getD 0 0 - l.getD 1 0).abs := fun h => (sz_gap (getD_sz lz (i := 0) (by omega)) (getD_sz lz (i := 1) (by omega))).mono (by decide)
        have r1 := ix_tab (f := fun i j => (l.getD i 0 - l.getD j 0).abs) hi
        have r2 := ix_tab (f := fun i j => (ps.getD i 0 - ps.getD j 0).abs) hi
        have r3 := ix_row (u := fun j => (l.getD i 0 - l.getD j 0).abs) hj
        have r4 := ix_row (u := fun j => (ps.getD i 0 - ps.getD j 0).abs) hj
        have r5 := fun ρ => s7.cl (ρ := ρ) h7 (sq := fun i j => (l.getD i 0 - l.getD j 0).abs) hi hj hn ms z4
        generalize hg : tabF n kd th more (fun x => l.getD x 0) (fun x => ps.getD x 0) = G at *
        simp only [List.getD_eq_getElem?_getD] at *
        have z5 : Sz 4000 ((l[i]?.getD 0 - l[j]?.getD 0).abs + more) := by
          have h1 := getD_sz lz (i := i) (by omega)
          have h2 := getD_sz lz (i := j) (by omega)
          simp only [List.getD_eq_getElem?_getD] at h1 h2
          exact ((sz_gap h1 h2).add ms).mono (by decide)
        have p1 := fun ρ => s5.cf (ρ := ρ) h5 z1 z3 trivial
        have p2 := fun ρ => s5.cf (ρ := ρ) h5 z1 z2 trivial
        have p3 := fun ρ => s6.cl (ρ := ρ) h6 z1 z2
        have rs : List.map (fun j => O.frz (frD (G i j))) (List.range (j + 1)) = List.map (fun j => O.frz (frD (G i j))) (List.range j) ++ [.frz (frD (G i j))] := by
          rw [List.range_succ, List.map_append]; rfl
        have hG : G i j = tabF n kd th more (fun x => l[x]?.getD 0) (fun x => ps[x]?.getD 0) i j := by rw [hg]
        clear hg q q1 a1 b1 b2 b3 b4
        have ks : kd = 0 ∨ kd = 1 ∨ kd = 2 ∨ kd = 3 ∨ kd = 4 ∨ kd = 5 := by omega
        have ic : ((i : Int) = j) ↔ i = j := by omega
        have lj : j < 16777216 := by omega
        by_cases hij : i = j
        · rcases ks with rfl | rfl | rfl | rfl | rfl | rfl <;> (subst hij; simp [tabE, r1, r2, r3, r4, r5, rs, hG, tabF, tabB, tabA]; try omega)
        · rcases ks with rfl | rfl | rfl | rfl | rfl | rfl
          · simp [tabE, r1, r2, r3, r4, r5, rs, hG, tabF, tabB, tabA, ic, hij, lj]
          · by_cases ht : th = i ∨ th = j
            · simp [tabE, r1, r2, r3, r4, r5, rs, hG, tabF, tabB, tabA, ic, hij, lj, cmp_mem_two, ht, p1]
            · simp [tabE, r1, r2, r3, r4, r5, rs, hG, tabF, tabB, tabA, ic, hij, lj, cmp_mem_two, ht, p1]
          · simp [tabE, r1, r2, r3, r4, r5, rs, hG, tabF, tabB, tabA, ic, hij, lj, p1]
          · simp [tabE, r1, r2, r3, r4, r5, rs, hG, tabF, tabB, tabA, ic, hij, lj, p2, p3]
          · simp [tabE, r1, r2, r3, r4, r5, rs, hG, tabF, tabB, tabA, ic, hij, lj, p2, p3]
          · simp [tabE, r1, r2, r3, r4, r5, rs, hG, tabF, tabB, tabA, ic, hij, lj]
      · rintro ρ ⟨x10, x11, rfl⟩
        simp [tabE]
        have rs : List.map (fun i => O.frz (rowD n (tabF n kd th more (fun x => l[x]?.getD 0) (fun x => ps[x]?.getD 0) i))) (List.range (i + 1)) = List.map (fun i => O.frz (rowD n (tabF n kd th more (fun x => l[x]?.getD 0) (fun x => ps[x]?.getD 0) i))) (List.range i) ++ [.frz (rowD n (tabF n kd th more (fun x => l[x]?.getD 0) (fun x => ps[x]?.getD 0) i))] := by
          rw [List.range_succ, List.map_append]; rfl
        simp [rs]
        exact ⟨by omega, rfl⟩
    · rintro ρ ⟨x8, x9, x10, x11, rfl⟩
      simp [tabE]
      exact q _ _ tok (b4.mono (by omega))⟩
theorem SpTabl.cl {Q : PQ} (s : SpTabl f) (hf : Φ.fn[k]? = some f) {i c : Nat} {st : O} {m : Int} (hs : ldV i ρ = some st) (ho : OkSt c st) (hc : c < 2 ^ 57) (hm : m = n) (hn : n ≤ 20)
    (q : ∀ (g : Nat → Nat → Rat) st', TabOk n g → OkSt (c + 200) st' → Q (.frz (tabD n g)) (ρ.set i (some st'))) : (callF Φ k [.r i, .d (.int m)] ρ).wp Q := by
  refine call_sp hf s.modes rfl (os := [st, .frz (.int m)]) (by simp [gather, hs]) (s.run ho hc hm hn fun g st' a b => ?_)
  simpa [callK] using q g st' a b
end
end Lib
set_option Elab.async false
set_option linter.all false
set_option maxRecDepth 100000
set_option maxHeartbeats 4000000
/-! LibX: stretch, measured; k23's own. -/
namespace Lib
open PySem Tr
def ir_named23 (k0 : Nat) : Ss := (.cons (.set 2 (.lrg1 (.b1 .len (.v 1)))) (.cons (.set 3 (.lst .nil)) (.cons (.loop (.name 4) (.range1 (.b1 .len (.v 1))) (.cons (.append 3 (.popAt 2 (.ofF (.call k0 (.r 0 (.e (.plen (.v 2)) .nil)))))) .nil)) (.cons (.set 5 (.lst .nil)) (.cons (.loop (.name 6) (.seq (.v 3)) (.cons (.append 5 (.ofE (.b1 .tuple (.ofF (.comp (.name 7) (.seq (.v 3)) .nil (.ofE (.ix (.ix (.v 1) (.v 6)) (.v 7))) [7]))))) .nil)) (.cons (.ret (.ofE (.b1 .tuple (.v 5)))) .nil))))))
noncomputable def fn_named23 (Φ : Tab) (k0 : Nat) : Fn := mkFn 8 [true, false] ((ir_named23 k0).sem Φ)
def ir_places23 (k0 : Nat) (k1 : Nat) : Ss := (.cons (.set 3 (.call k0 (.r 0 (.e (.v 1) .nil)))) (.cons (.set 4 (.call k1 (.r 0 (.e (.op .sub (.v 1) (.int 1)) .nil)))) (.cons (.ite (.cmp .eq (.v 2) (.int 0)) (.cons (.store 3 (.ofF (.add (.v 4) (.int 1))) (.ofE (.ix1 3 (.v 4)))) .nil) .nil) (.cons (.loop (.name 5) (.range2 (.int 1) (.v 1)) (.cons (.ite (.or (.cmp .eq (.v 2) (.int 2)) (.and (.cmp .eq (.v 2) (.int 1)) (.or (.cmp .eq (.v 5) (.ofF (.add (.v 4) (.int 1)))) (.cmp .eq (.ofF (.call k1 (.r 0 (.e (.int 2) .nil)))) (.int 0))))) (.cons (.store 3 (.v 5) (.ofE (.ix1 3 (.op .sub (.v 5) (.int 1))))) .nil) .nil) .nil)) (.cons (.ret (.mv 3)) .nil)))))
noncomputable def fn_places23 (Φ : Tab) (k0 : Nat) (k1 : Nat) : Fn := mkFn 6 [true, false, false] ((ir_places23 k0 k1).sem Φ)
def ir_allapart : Ss := (.cons (.loop (.name 1) (.range1 (.b1 .len (.v 0))) (.cons (.ite (.cmp .ne (.ofF (.comp (.name 2) (.range1 (.v 1)) (.one (.cmp .eq (.ix (.ix (.ix (.v 0) (.v 1)) (.v 2)) (.int 0)) (.int 0))) (.ofE (.int 1)) [2])) (.ofF (.lst .nil))) (.cons (.ret (.ofE (.bl false))) .nil) .nil) .nil)) (.cons (.ret (.ofE (.bl true))) .nil))
noncomputable def fn_allapart (Φ : Tab) : Fn := mkFn 3 [false] ((ir_allapart).sem Φ)
def ir_apart23 (k0 : Nat) (k1 : Nat) (k2 : Nat) : Ss := (.cons (.set 1 (.lst .nil)) (.cons (.loop (.name 2) (.range1 (.b1 .len (.v 0))) (.cons (.append 1 (.call k0 (.e (.tup (.cons (.ix (.ix (.v 0) (.v 2)) (.int 0)) (.cons (.ix (.ix (.v 0) (.v 2)) (.int 1)) .nil))) (.e (.ofF (.call k1 (.e (.ofF (.add (.v 2) (.int 1))) (.e (.op .pow (.int 10) (.int 5)) .nil)))) .nil)))) .nil)) (.cons (.ret (.call k2 (.b 1 .nil))) .nil)))
noncomputable def fn_apart23 (Φ : Tab) (k0 : Nat) (k1 : Nat) (k2 : Nat) : Fn := mkFn 3 [false] ((ir_apart23 k0 k1 k2).sem Φ)
section
variable {Φ : Tab} {k k0 k1 k2 k3 k4 k5 k6 k7 g0 : Nat} {f f0 f1 f2 f3 f4 f5 f6 f7 : Fn} {ρ : Tr.Env} {d e t o : D} {n B : Nat}
structure SpStr (f : Fn) : Prop where
  modes : f.modes = [false, false]
  eq1 : ∀ {n : Nat} {t o : D}, Sqr 1900 n t → n < 2 → f.run [.frz t, .frz o] = .ok (.frz (frD 1)) []
  eq0 : ∀ {n : Nat} {t o : D}, Sqr 1900 n t → Sqr 1900 n o → 2 ≤ n → n ≤ 20 → (∃ i j, i < j ∧ j < n ∧ cel o i j = 0) → f.run [.frz t, .frz o] = .ok (.frz .none) []
  eq : ∀ {n : Nat} {t o : D}, Sqr 1900 n t → Sqr 1900 n o → 2 ≤ n → n ≤ 20 → (∀ i j, i < j → j < n → cel t i j ≠ 0) → (∀ i j, i < j → j < n → cel o i j ≠ 0) →
    f.run [.frz t, .frz o] = .ok (.frz (frD ((mxP n fun i j => cel o i j / cel t i j) * mxP n fun i j => cel t i j / cel o i j))) []
theorem mxP_sz {g : Nat → Nat → Rat} (h : 2 ≤ n) (hg : ∀ i j, i < j → j < n → Sz B (g i j)) : Sz B (mxP n g) := by
  have hm := maxL_mem (l := (pairsL n).map fun p => g p.1 p.2) (by simpa using pairs_ne h)
  obtain ⟨p, hp, e⟩ := List.mem_map.mp hm
  unfold mxP
  rw [← e]
  obtain ⟨h1, h2⟩ := mem_pairs.mp hp
  exact hg _ _ h1 h2
theorem isN_fr {p : Rat} : isNoneD (frD p) = false := rfl
theorem sp_stretch (h0 : Φ.fn[k0]? = some f0) (s0 : SpPr f0) (h1 : Φ.fn[k1]? = some f1) (s1 : Sp2 (fun p q => p * q) any2 f1) (h2 : Φ.fn[k2]? = some f2) (s2 : SpM 1 (fun t o => o / t) (fun t _ => t ≠ 0) f2) : SpStr (fn_stretch Φ k0 k1 k2) where
  modes := rfl
  eq1 := fun {n t o} ht hn => run_eq (by
    unfold fn_stretch
    rw [fn_wp]
    refine ⟨rfl, ?_⟩
    simp [ir_stretch, s0.cl1 h0 ht hn, s2.cl1 h2 ht hn, isN_fr, s1.cf h1 (sz_one.mono (by decide)) (sz_one.mono (by decide)) trivial])
  eq0 := fun {n t o} ht ho h2 hn hz => run_eq (by
    unfold fn_stretch
    rw [fn_wp]
    refine ⟨rfl, ?_⟩
    simp [ir_stretch, s0.cl0 h0 ht ho h2 hn hz, isNoneD])
  eq := fun {n t o} ht ho h2' hn hz hz' => run_eq (by
    unfold fn_stretch
    rw [fn_wp]
    refine ⟨rfl, ?_⟩
    have sz1 := mxP_sz h2' fun i j (hi : i < j) (hj : j < n) => ((ho.fr (show i < n by omega) hj).sz.div (ht.fr (show i < n by omega) hj).sz (hz i j hi hj)).mono (show 1900 + 1900 ≤ 4000 by decide)
    have sz2 := mxP_sz h2' fun i j (hi : i < j) (hj : j < n) => ((ht.fr (show i < n by omega) hj).sz.div (ho.fr (show i < n by omega) hj).sz (hz' i j hi hj)).mono (show 1900 + 1900 ≤ 4000 by decide)
    simp [ir_stretch, s0.cl h0 ht ho h2' hn hz', s2.cl h2 ht ho h2' hn hz, isN_fr, s1.cf h1 sz1 sz2 trivial]
    simp [cel, s1.cf h1 sz1 sz2 trivial])
theorem SpStr.cl (s : SpStr f) (hf : Φ.fn[k]? = some f) (ht : Sqr 1900 n t) (ho : Sqr 1900 n o) (h2 : 2 ≤ n) (hn : n ≤ 20) (hz : ∀ i j, i < j → j < n → cel t i j ≠ 0) (h : ∀ i j, i < j → j < n → cel o i j ≠ 0) : callF Φ k [.d t, .d o] ρ = .ok (.frz (frD ((mxP n fun i j => cel o i j / cel t i j) * mxP n fun i j => cel t i j / cel o i j))) ρ :=
  call_eq hf s.modes rfl rfl rfl (s.eq ht ho h2 hn hz h)
theorem SpStr.cl1 (s : SpStr f) (hf : Φ.fn[k]? = some f) (ht : Sqr 1900 n t) (h2 : n < 2) : callF Φ k [.d t, .d o] ρ = .ok (.frz (frD 1)) ρ :=
  call_eq hf s.modes rfl rfl rfl (s.eq1 ht h2)
theorem SpStr.cl0 (s : SpStr f) (hf : Φ.fn[k]? = some f) (ht : Sqr 1900 n t) (ho : Sqr 1900 n o) (h2 : 2 ≤ n) (hn : n ≤ 20) (h : ∃ i j, i < j ∧ j < n ∧ cel o i j = 0) : callF Φ k [.d t, .d o] ρ = .ok (.frz .none) ρ :=
  call_eq hf s.modes rfl rfl rfl (s.eq0 ht ho h2 hn h)
/-- by its word -/
structure SpMea (fs fo f : Fn) : Prop where
  modes : f.modes = [false, false, false]
  eqS : ∀ {t o : D} {x : O}, fs.run [.frz t, .frz o] = .ok x [] → f.run [.frz t, .frz o, .frz (.str "stretch")] = .ok x []
  eqO : ∀ {t o : D} {x : O}, fo.run [.frz t, .frz o] = .ok x [] → f.run [.frz t, .frz o, .frz (.str "off")] = .ok x []
theorem cmp_eq_str {a b : Str} (ha : PyData.canLay0 (.str a) = true) (hb : PyData.canLay0 (.str b) = true) : cmpD .eq (.str a) (.str b) = some (.bool (decide (a = b))) :=
  cmp_eq_pl (n := 0) ⟨by simpa [plD] using ha, by simp [PyData.depth]⟩ (by simpa [plD] using hb) (by decide) (by simp)
theorem cmp_str_s : cmpD .eq (.str "stretch") (.str "stretch") = some (.bool true) := by
  rw [cmp_eq_str (by decide +kernel) (by decide +kernel)]
  simp
theorem cmp_str_o : cmpD .eq (.str "off") (.str "stretch") = some (.bool false) := by
  rw [cmp_eq_str (by decide +kernel) (by decide +kernel)]
  rw [decide_eq_false (by decide +kernel)]
theorem sp_measured (h0 : Φ.fn[k0]? = some f0) (m0 : f0.modes = [false, false]) (h1 : Φ.fn[k1]? = some f1) (m1 : f1.modes = [false, false]) : SpMea f0 f1 (fn_measured Φ k0 k1) where
  modes := rfl
  eqS := fun {t o x} h => run_eq (by
    unfold fn_measured
    rw [fn_wp]
    refine ⟨rfl, ?_⟩
    have e : ∀ ρ, callF Φ k0 [.d t, .d o] ρ = .ok x ρ := fun ρ => call_eq h0 m0 rfl rfl rfl h
    simp [ir_measured, cmp_str_s, e])
  eqO := fun {t o x} h => run_eq (by
    unfold fn_measured
    rw [fn_wp]
    refine ⟨rfl, ?_⟩
    have e : ∀ ρ, callF Φ k1 [.d t, .d o] ρ = .ok x ρ := fun ρ => call_eq h1 m1 rfl rfl rfl h
    have ne : ¬ (Str.ofString "off" = Str.ofString "stretch") := by decide +kernel
    simp [ir_measured, ne, e])
theorem SpMea.clS {fs fo : Fn} {x : O} (s : SpMea fs fo f) (hf : Φ.fn[k]? = some f) (h : fs.run [.frz t, .frz o] = .ok x []) : callF Φ k [.d t, .d o, .d (.str "stretch")] ρ = .ok x ρ :=
  call_eq hf s.modes rfl rfl rfl (s.eqS h)
theorem SpMea.clO {fs fo : Fn} {x : O} (s : SpMea fs fo f) (hf : Φ.fn[k]? = some f) (h : fo.run [.frz t, .frz o] = .ok x []) : callF Φ k [.d t, .d o, .d (.str "off")] ρ = .ok x ρ :=
  call_eq hf s.modes rfl rfl rfl (s.eqO h)
structure SpIsNum (f : Fn) : Prop where
  modes : f.modes = [false]
  eq : ∀ {p : Rat}, Sz 8001 p → f.run [.frz (frD p)] = .ok (.frz (.bool true)) []
theorem sp_isnumber (h0 : Φ.fn[k0]? = some f0) (s0 : SpLow f0) : SpIsNum (fn_isnumber Φ k0) := ⟨rfl, fun {p} hp => run_eq (by
  unfold fn_isnumber
  rw [fn_wp]
  refine ⟨rfl, ?_⟩
  have hd := p.den_pos
  have e := s0.cl (ρ := [some (.frz (frD p)), none]) h0 (a := p.num) (b := p.den) (by omega) hp.bd
  rw [Rat.num_divInt_den] at e
  have c : cmpD .eq (frD p) (frD p) = some (.bool true) := by rw [cmp_eq_fr]; simp
  simp [ir_isnumber, isK, frD] at e c ⊢
  refine comp_map (c := fun i : Int => .int i) (xs := [p.num, (p.den : Int)]) (fun _ => false) (fun _ => .frz (.int 1)) (fun x hx => ⟨_, rfl, ?_⟩) ?_
  · simp [isK]
  · simp [cmp_ne_LN, e, c])⟩
theorem SpIsNum.cl (s : SpIsNum f) (hf : Φ.fn[k]? = some f) {p : Rat} (hp : Sz 8001 p) : callF Φ k [.d (frD p)] ρ = .ok (.frz (.bool true)) ρ :=
  call_eq hf s.modes rfl rfl rfl (s.eq hp)
end
end Lib
set_option Elab.async false
set_option linter.all false
set_option maxRecDepth 100000
set_option maxHeartbeats 4000000
/-! LibY: named anew. -/
namespace Lib
open PySem Tr
section
variable {Φ : Tab} {k k0 k1 k2 k3 k4 k5 k6 k7 g0 : Nat} {f f0 f1 f2 f3 f4 f5 f6 f7 : Fn} {ρ : Tr.Env} {d e t o : D} {n B : Nat}
/-- an arrangement of n things -/
structure Perm (n : Nat) (s : Nat → Nat) : Prop where
  lt : ∀ i, i < n → s i < n
  inj : ∀ i j, i < n → j < n → s i = s j → i = j
def natsO (l : List Nat) : List O := l.map fun (x : Nat) => O.frz (.int (x : Int))
/-- what is left and what is taken -/
structure Draw (n : Nat) (rest ord : List Nat) : Prop where
  nd : (ord ++ rest).Nodup
  lt : ∀ x ∈ ord ++ rest, x < n
  len : ord.length + rest.length = n
theorem Draw.start : Draw n (List.range n) [] := ⟨by simpa using List.nodup_range, fun x hx => by simpa using hx, by simp⟩
theorem Draw.take {rest ord : List Nat} (h : Draw n rest ord) {j : Nat} (hj : j < rest.length) : Draw n (rest.eraseIdx j) (ord ++ [rest[j]]) := by
  have p : (ord ++ [rest[j]] ++ rest.eraseIdx j).Perm (ord ++ rest) := by
    rw [List.append_assoc]
    refine List.Perm.append_left ord ?_
    show (rest[j] :: rest.eraseIdx j).Perm rest
    rw [List.eraseIdx_eq_take_drop_succ]
    conv => rhs; rw [← List.take_append_drop j rest, List.drop_eq_getElem_cons hj]
    exact List.perm_middle.symm
  refine ⟨p.nodup_iff.mpr h.nd, fun x hx => h.lt x (p.mem_iff.mp hx), ?_⟩
  have := p.length_eq
  simp at this ⊢
  have := h.len
  omega
theorem Draw.perm {ord : List Nat} (h : Draw n [] ord) : Perm n fun i => ord.getD i 0 := by
  have hl : ord.length = n := by simpa using h.len
  have hn : ord.Nodup := by simpa using h.nd
  refine ⟨fun i hi => ?_, fun i j hi hj e => ?_⟩
  · have : ord.getD i 0 = ord[i] := by simp [List.getD_eq_getElem?_getD, show i < ord.length by omega]
    show ord.getD i 0 < n
    rw [this]
    exact h.lt _ (by simp)
  · have e1 : ord.getD i 0 = ord[i] := by simp [List.getD_eq_getElem?_getD, show i < ord.length by omega]
    have e2 : ord.getD j 0 = ord[j] := by simp [List.getD_eq_getElem?_getD, show j < ord.length by omega]
    simp only [e1, e2] at e
    by_cases h1 : i = j
    · exact h1
    · rcases Nat.lt_or_gt_of_ne h1 with h1 | h1
      · exact absurd e (List.pairwise_iff_getElem.mp hn i j (by omega) (by omega) h1)
      · exact absurd e.symm (List.pairwise_iff_getElem.mp hn j i (by omega) (by omega) h1)
theorem popAt_nats {rest : List Nat} {v : Int} {K : O → O → Prop} (h0 : 0 ≤ v) (hv : v < rest.length) (hl : rest.length ≤ 1000) (q : ∀ (hj : v.toNat < rest.length), K (.frz (.int (rest[v.toNat] : Int))) (.box (natsO (rest.eraseIdx v.toNat)))) : optK (popAtF (.int v) (.box (natsO rest))) K := by
  have hj : v.toNat < rest.length := by omega
  have e1 : ixN (natsO rest).length v = some v.toNat := by rw [ixN_ok h0 (by simpa [natsO] using hv)]
  have e2 : (natsO rest)[v.toNat]? = some (.frz (.int (rest[v.toNat] : Int))) := by simp [natsO, hj]
  have e3 : (natsO rest).eraseIdx v.toNat = natsO (rest.eraseIdx v.toNat) := by simp [natsO, List.eraseIdx_eq_take_drop_succ, List.map_append, List.map_take, List.map_drop]
  simp only [popAtF]
  rw [if_pos ⟨by omega, by omega⟩]
  simp only [e1, e2, e3, optK_some]
  exact q hj
structure SpNamed (f : Fn) : Prop where
  modes : f.modes = [true, false]
  run : ∀ {n c : Nat} {g : Nat → Nat → Rat} {st : O} {Q : PQ}, OkSt c st → c < 2 ^ 57 → n ≤ 20 → (∀ (s : Nat → Nat) st', Perm n s → OkSt (c + n) st' → Q (.frz (tabD n fun i j => g (s i) (s j))) [some st']) → (f.run [st, .frz (tabD n g)]).wp Q
theorem sp_named23 (h0 : Φ.fn[k0]? = some f0) (s0 : SpNext f0) : SpNamed (fn_named23 Φ k0) := ⟨rfl, fun {n c g st Q} hs hc hn q => by
  unfold fn_named23
  rw [fn_wp]
  refine ⟨rfl, ?_⟩
  simp [ir_named23, len_tab]
  refine ⟨by omega, inR (by omega), ?_⟩
  have er : (rng 0 n).map O.frz = natsO (List.range n) := by simp [rng, natsO, Function.comp_def]
  rw [er]
  refine loop0 (fun i ρ => ∃ (st' : O) (rest ord : List Nat) (x4 : Option O), OkSt (c + i) st' ∧ Draw n rest ord ∧ ord.length = i ∧ ρ = [some st', some (.frz (tabD n g)), some (.box (natsO rest)), some (.box (natsO ord)), x4, none, none, none]) ?_ ?_ ?_
  · exact ⟨st, _, [], none, hs, Draw.start, rfl, by simp [natsO]⟩
  · rintro i d ρ he ⟨st', rest, ord, x4, q1, q2, q3, rfl⟩
    obtain ⟨rfl, hi⟩ := rng_at he
    have hlen := q2.len
    refine ⟨_, rfl, ?_⟩
    simp [P.sem, lenP, lenO]
    have hr : (natsO rest).length = rest.length := by simp [natsO]
    rw [hr]
    refine s0.cl h0 rfl q1 (by omega) (by omega) (by omega) fun v st2 v0 v1 q4 => ?_
    simp
    refine popAt_nats v0 v1 (by omega) fun hj => ?_
    have q5 := q2.take hj
    simp
    refine ⟨by simp [natsO]; omega, st2, q4.mono (by omega), _, _, q5, by simp [q3], rfl, rfl, ?_⟩
    simp [natsO]
  · rintro ρ ⟨st', rest, ord, x4, q1, q2, q3, rfl⟩
    have hlen := q2.len
    simp at q3
    have hr : rest = [] := List.length_eq_zero_iff.mp (by omega)
    subst hr
    have hp := q2.perm
    have hl : ord = (List.range n).map fun i => ord.getD i 0 := by
      refine List.ext_getElem (by simp [q3]) fun i h1 h2 => ?_
      simp [h1]
    have hfz : fzs (natsO ord) = (List.range n).map fun i => PyData.int ((ord.getD i 0 : Nat) : Int) := by
      unfold natsO
      rw [fzs_comp]
      conv => lhs; rw [hl]
      rw [List.map_map]
      rfl
    have hcl : cleans (natsO ord) = true := by unfold natsO; exact cleans_comp
    simp [hfz, hcl]
    refine loopM (c := fun i => PyData.int ((ord.getD i 0 : Nat) : Int)) (xs := List.range n) (fun i ρ => ∃ x6, ρ = [some st', some (.frz (tabD n g)), some (.box (natsO [])), some (.frz (.list ((List.range n).map fun i => PyData.int ((ord.getD i 0 : Nat) : Int)))), x4, some (.box ((List.range i).map fun i => .frz (rowD n fun j => g (ord.getD i 0) (ord.getD j 0)))), x6, none]) ⟨none, by simp⟩ ?_ ?_
    · rintro i x ρ hx ⟨x6, rfl⟩
      obtain ⟨hi, rfl⟩ : i < n ∧ i = x := by
        have h1 := (List.getElem?_eq_some_iff.mp hx).1
        rw [List.length_range] at h1
        rw [List.getElem?_range h1] at hx
        exact ⟨h1, by simpa using hx⟩
      refine ⟨_, rfl, ?_⟩
      simp only [List.getD_eq_getElem?_getD] at *
      simp
      refine comp_each (c := fun i => PyData.int (((ord[i]?.getD 0 : Nat)) : Int)) (fun j => .frz (frD (g (ord[i]?.getD 0) (ord[j]?.getD 0)))) (fun j hj => ⟨_, rfl, ?_⟩) ?_
      · have hj := List.mem_range.mp hj
        simp [ix_tab (f := g) (hp.lt i hi), ix_row (u := g (ord[i]?.getD 0)) (hp.lt j hj)]
      · simp [List.range_succ, rowD]
        omega
    · rintro ρ ⟨x6, rfl⟩
      simp
      simp at q1
      exact q _ _ hp q1⟩
theorem SpNamed.cl {Q : PQ} (s : SpNamed f) (hf : Φ.fn[k]? = some f) {i c : Nat} {g : Nat → Nat → Rat} {st : O} (hs : ldV i ρ = some st) (ho : OkSt c st) (hc : c < 2 ^ 57) (hn : n ≤ 20)
    (q : ∀ (s : Nat → Nat) st', Perm n s → OkSt (c + n) st' → Q (.frz (tabD n fun i j => g (s i) (s j))) (ρ.set i (some st'))) : (callF Φ k [.r i, .d (tabD n g)] ρ).wp Q := by
  refine call_sp hf s.modes rfl (os := [st, .frz (tabD n g)]) (by simp [gather, hs]) (s.run ho hc hn fun s st' a b => ?_)
  simpa [callK] using q s st' a b
theorem TabOk.perm {g : Nat → Nat → Rat} {s : Nat → Nat} (h : TabOk n g) (p : Perm n s) : TabOk n fun i j => g (s i) (s j) where
  diag := fun i => h.diag _
  pos := fun i j hi hj hne => h.pos _ _ (p.lt i hi) (p.lt j hj) fun e => hne (p.inj i j hi hj e)
  sym := fun i j => h.sym _ _
  sz := fun i j hi hj => h.sz _ _ (p.lt i hi) (p.lt j hj)
end
end Lib
set_option Elab.async false
set_option linter.all false
set_option maxRecDepth 100000
set_option maxHeartbeats 4000000
/-! LibZ: looks at things of any kind: rows, whole numbers, fractions, places; the same. -/
namespace Lib
open PySem Tr
def ir_isrow : Ss := (.cons (.ret (.ofE (.isi (.v 0) [.list, .tuple]))) .nil)
noncomputable def fn_isrow (Φ : Tab) : Fn := mkFn 1 [false] ((ir_isrow).sem Φ)
def ir_iswhole : Ss := (.cons (.ret (.ofE (.and (.isi (.v 0) [.int]) (.not (.isi (.v 0) [.bool]))))) .nil)
noncomputable def fn_iswhole (Φ : Tab) : Fn := mkFn 1 [false] ((ir_iswhole).sem Φ)
def ir_isfraction (k0 : Nat) (k1 : Nat) (k2 : Nat) : Ss := (.cons (.ite (.or (.not (.tru (.ofF (.call k0 (.e (.v 0) .nil))))) (.cmp .ne (.b1 .len (.v 0)) (.int 2))) (.cons (.ret (.ofE (.bl false))) .nil) .nil) (.cons (.unpack [1, 2] (.v 0)) (.cons (.ite (.or (.not (.tru (.ofF (.call k1 (.e (.v 1) .nil))))) (.or (.not (.tru (.ofF (.call k1 (.e (.v 2) .nil))))) (.cmp .lt (.v 2) (.int 1)))) (.cons (.ret (.ofE (.bl false))) .nil) .nil) (.cons (.ret (.ofE (.cmp .eq (.ofF (.call k2 (.e (.v 1) (.e (.v 2) .nil)))) (.int 1)))) .nil))))
noncomputable def fn_isfraction (Φ : Tab) (k0 : Nat) (k1 : Nat) (k2 : Nat) : Fn := mkFn 3 [false] ((ir_isfraction k0 k1 k2).sem Φ)
def ir_isplaces (k0 : Nat) (k1 : Nat) : Ss := (.cons (.ite (.or (.not (.tru (.ofF (.call k0 (.e (.v 0) .nil))))) (.cmp .ne (.b1 .len (.v 0)) (.v 1))) (.cons (.ret (.ofE (.bl false))) .nil) .nil) (.cons (.loop (.name 2) (.seq (.v 0)) (.cons (.ite (.not (.tru (.ofF (.call k1 (.e (.v 2) .nil))))) (.cons (.ret (.ofE (.bl false))) .nil) .nil) .nil)) (.cons (.ret (.ofE (.bl true))) .nil)))
noncomputable def fn_isplaces (Φ : Tab) (k0 : Nat) (k1 : Nat) : Fn := mkFn 3 [false, false] ((ir_isplaces k0 k1).sem Φ)
def ir_same (k0 : Nat) : Ss := (.cons (.ite (.tru (.isi (.v 1) [.tuple])) (.cons (.ite (.or (.not (.tru (.isi (.v 0) [.tuple]))) (.cmp .ne (.b1 .len (.v 0)) (.b1 .len (.v 1)))) (.cons (.ret (.ofE (.bl false))) .nil) .nil) (.cons (.ret (.ofE (.cmp .eq (.ofF (.comp (.tup [2, 3]) (.zip (.v 0) (.v 1)) (.one (.not (.tru (.ofF (.call k0 (.e (.v 2) (.e (.v 3) .nil))))))) (.ofE (.int 1)) [2, 3])) (.ofF (.lst .nil))))) .nil)) .nil) (.cons (.ite (.or (.tru (.isi (.v 0) [.bool])) (.tru (.isi (.v 0) [.tuple, .list]))) (.cons (.ret (.ofE (.bl false))) .nil) .nil) (.cons (.ret (.ofE (.cmp .eq (.v 0) (.v 1)))) .nil)))
noncomputable def fn_same (Φ : Tab) (k0 : Nat) : Fn := mkFn 4 [false, false] ((ir_same k0).sem Φ)
def ir_number16 (k0 : Nat) (k1 : Nat) : Ss := (.cons (.set 1 (.call k0 (.r 0 (.e (.int 8) .nil)))) (.cons (.set 2 (.ofE (.op .sub (.ofF (.call k0 (.r 0 (.e (.int 19) .nil)))) (.int 9)))) (.cons (.set 3 (.add (.int 1) (.ofF (.call k0 (.r 0 (.e (.int 6) .nil)))))) (.cons (.ite (.cmp .eq (.v 1) (.int 7)) (.cons (.set 2 (.add (.ofF (.mul (.v 2) (.op .pow (.int 10) (.int 27)))) (.ofF (.call k0 (.r 0 (.e (.int 1000) .nil)))))) (.cons (.set 3 (.add (.ofF (.mul (.v 3) (.op .pow (.int 10) (.int 27)))) (.ofF (.call k0 (.r 0 (.e (.int 1000) .nil)))))) .nil)) .nil) (.cons (.ret (.call k1 (.e (.v 2) (.e (.v 3) .nil)))) .nil)))))
noncomputable def fn_number16 (Φ : Tab) (k0 : Nat) (k1 : Nat) : Fn := mkFn 4 [true] ((ir_number16 k0 k1).sem Φ)
def ir_places16 (k0 : Nat) (k1 : Nat) : Ss := (.cons (.set 2 (.comp (.name 3) (.range1 (.v 1)) .nil (.call k0 (.r 0 .nil)) [3])) (.cons (.loop (.name 3) (.range1 (.v 1)) (.cons (.ite (.cmp .eq (.ofF (.call k1 (.r 0 (.e (.int 4) .nil)))) (.int 0)) (.cons (.store 2 (.v 3) (.ofE (.ix1 2 (.ofF (.call k1 (.r 0 (.e (.v 1) .nil))))))) .nil) .nil) .nil)) (.cons (.ret (.mv 2)) .nil)))
noncomputable def fn_places16 (Φ : Tab) (k0 : Nat) (k1 : Nat) : Fn := mkFn 4 [true, false] ((ir_places16 k0 k1).sem Φ)
def ir_bent16 (k0 : Nat) : Ss := (.cons (.set 2 (.lst (.cons (.ofE (.tup (.cons (.int 2) (.cons (.int 4) .nil)))) (.cons (.ofE (.tup (.cons (.int 1) (.cons (.int 0) .nil)))) (.cons (.ofE (.tup (.cons (.int 0) (.cons (.int 2) .nil)))) (.cons (.ofE (.tup (.cons (.int 3) (.cons (.neg (.int 1)) .nil)))) (.cons (.ofE (.tup (.cons (.int 1) .nil))) (.cons (.ofE (.tup (.cons (.int 1) (.cons (.int 2) (.cons (.int 3) .nil))))) (.cons (.ofE (.bl true)) (.cons (.ofE (.int 1)) (.cons (.ofE .non) (.cons (.ofE (.str "1")) (.cons (.ofE (.tup (.cons (.bl true) (.cons (.int 2) .nil)))) (.cons (.ofE (.tup (.cons (.int 1) (.cons (.bl true) .nil)))) (.cons (.lst (.cons (.lst (.cons (.ofE (.int 1)) .nil)) (.cons (.ofE (.int 1)) .nil))) .nil))))))))))))))) (.cons (.set 3 (.slice (.ofF (.lst (.cons (.add (.v 1) (.ofF (.lst (.cons (.ofE (.tup (.cons (.int 0) (.cons (.int 1) .nil)))) .nil)))) (.cons (.slice (.v 1) (.some (.int 1)) .none) .nil)))) .none (.some (.ofF (.add (.int 1) (.b1 .int (.cmp .gt (.b1 .len (.v 1)) (.int 0)))))))) (.cons (.ite (.cmp .eq (.v 1) (.ofF (.lst .nil))) (.cons (.ret (.mv 3)) .nil) .nil) (.cons (.loop (.name 4) (.seq (.v 2)) (.cons (.set 5 (.call k0 (.r 0 (.e (.b1 .len (.v 1)) .nil)))) (.cons (.append 3 (.add (.ofF (.add (.ofF (.slice (.v 1) .none (.some (.v 5)))) (.ofF (.lst (.cons (.ofE (.v 4)) .nil))))) (.ofF (.slice (.v 1) (.some (.ofF (.add (.v 5) (.int 1)))) .none)))) .nil))) (.cons (.ret (.mv 3)) .nil)))))
noncomputable def fn_bent16 (Φ : Tab) (k0 : Nat) : Fn := mkFn 6 [true, false] ((ir_bent16 k0).sem Φ)
def ir_odd16 : Ss := (.cons (.set 0 (.ofE (.int 0))) (.cons (.loop (.name 1) (.range1 (.int 39)) (.cons (.set 0 (.lst (.cons (.ofE (.v 0)) .nil))) .nil)) (.cons (.set 2 (.lst (.cons (.ofE .non) (.cons (.ofE (.bl true)) (.cons (.ofE (.bl false)) (.cons (.ofE (.int 0)) (.cons (.ofE (.neg (.int 1))) (.cons (.ofE (.op .pow (.int 10) (.int 40))) (.cons (.ofE (.str "")) (.cons (.ofE (.str "a")) (.cons (.ofE (.str "0 1")) (.cons (.ofE (.dct [] .nil)) (.cons (.ofE (.dct [.inl 0] (.cons (.tup (.cons (.int 0) (.cons (.int 1) .nil))) .nil))) (.cons (.lst (.cons (.ofE .non) .nil)) (.cons (.lst (.cons (.lst .nil) .nil)) (.cons (.ofE (.tup (.cons (.tup (.cons (.int 0) (.cons (.int 1) .nil))) (.cons .non .nil)))) .nil)))))))))))))))) (.cons (.set 2 (.add (.v 2) (.ofF (.lst (.cons (.ofE (.v 0)) (.cons (.ofE (.tup (.cons (.bl true) (.cons (.int 1) .nil)))) (.cons (.lst (.cons (.ofE (.tup (.cons (.str "0") (.cons (.int 1) .nil)))) .nil)) (.cons (.ofE (.tup (.cons (.ofF (.lst (.cons (.ofE (.bl false)) (.cons (.ofE (.int 1)) .nil)))) .nil))) (.cons (.lst (.cons (.ofE (.dct [] .nil)) .nil)) (.cons (.ofE (.str "((0, 1),)")) (.cons (.lst (.cons (.lst (.cons (.lst (.cons (.ofE (.int 0)) (.cons (.ofE (.int 1)) .nil))) .nil)) .nil)) (.cons (.ofE (.tup (.cons (.tup (.cons (.int 2) (.cons (.int 4) .nil))) .nil))) (.cons (.ofE (.tup (.cons (.tup (.cons (.int 1) (.cons (.int 0) .nil))) .nil))) .nil))))))))))))) (.cons (.ret (.add (.v 2) (.ofF (.lst (.cons (.ofE (.tup (.cons (.tup (.cons (.int 1) (.cons (.neg (.int 1)) .nil))) .nil))) (.cons (.lst (.cons (.ofE (.tup (.cons (.int 0) (.cons (.int 1) (.cons (.int 2) .nil))))) .nil)) .nil)))))) .nil)))))
noncomputable def fn_odd16 (Φ : Tab) : Fn := mkFn 3 [] ((ir_odd16).sem Φ)
def isRowB (d : D) : Bool := (itemsD d).isSome
def isWhB : D → Bool
  | .int _ => true
  | _ => false
def isFrB (d : D) : Bool := match itemsD d with
  | some [.int a, .int b] => decide (1 ≤ b) && decide (Int.gcd a b = 1)
  | _ => false
def isPlB (d : D) (m : Int) : Bool := match itemsD d with
  | some l => decide ((l.length : Int) = m) && l.all isFrB
  | none => false
section
variable {Φ : Tab} {k k0 k1 k2 k3 k4 k5 k6 k7 g0 : Nat} {f f0 f1 f2 f3 f4 f5 f6 f7 : Fn} {ρ : Tr.Env} {d e t o : D} {n B : Nat}
/-- a truth of one thing -/
structure SpB1 (p : D → Bool) (f : Fn) : Prop where
  modes : f.modes = [false]
  eq : ∀ {d : D}, f.run [.frz d] = .ok (.frz (.bool (p d))) []
theorem SpB1.cl {p : D → Bool} (s : SpB1 p f) (hf : Φ.fn[k]? = some f) : callF Φ k [.d d] ρ = .ok (.frz (.bool (p d))) ρ := call_eq hf s.modes rfl rfl rfl s.eq
theorem isRow_any : ([Kd.list, Kd.tuple].any (isK d)) = isRowB d := by cases d <;> rfl
theorem sp_isrow : SpB1 isRowB (fn_isrow Φ) := ⟨rfl, fun {d} => run_eq (by
  unfold fn_isrow
  rw [fn_wp]
  refine ⟨rfl, ?_⟩
  have e : (isK d Kd.list || isK d Kd.tuple) = isRowB d := by cases d <;> rfl
  simp [ir_isrow, e])⟩
theorem sp_iswhole : SpB1 isWhB (fn_iswhole Φ) := ⟨rfl, fun {d} => run_eq (by
  unfold fn_iswhole
  rw [fn_wp]
  refine ⟨rfl, ?_⟩
  cases d <;> simp [ir_iswhole, isK, isWhB])⟩
theorem row_cases (h : isRowB d = true) : ∃ l, itemsD d = some l ∧ b1D .len d = some (.int l.length) := by
  unfold isRowB at h
  cases e : itemsD d with
  | none => rw [e] at h; cases h
  | some l => exact ⟨l, rfl, len_items e⟩
theorem SpCommon.cl (s : SpCommon f) (hf : Φ.fn[k]? = some f) {a b : Int} : callF Φ k [.d (.int a), .d (.int b)] ρ = .ok (.frz (.int (Int.gcd a b))) ρ := call_eq hf s.modes rfl rfl rfl (run_eq (s.run ⟨rfl, rfl⟩))
theorem unpK_items {is : List Nat} {l : List D} {Q : Fl → Tr.Env → Prop} (h : itemsD d = some l) : unpK is d ρ Q = (l.length = is.length ∧ Q .nx ((is.zip l).foldl (fun r p => putO r p.1 (.frz p.2)) ρ)) := by unfold unpK; rw [h]
theorem wh_cases (h : isWhB d = true) : ∃ i, d = .int i := by cases d <;> first | exact ⟨_, rfl⟩ | cases h
theorem sp_isfraction (h0 : Φ.fn[k0]? = some f0) (s0 : SpB1 isRowB f0) (h1 : Φ.fn[k1]? = some f1) (s1 : SpB1 isWhB f1) (h2 : Φ.fn[k2]? = some f2) (s2 : SpCommon f2) : SpB1 isFrB (fn_isfraction Φ k0 k1 k2) := ⟨rfl, fun {d} => run_eq (by
  unfold fn_isfraction
  rw [fn_wp]
  refine ⟨rfl, ?_⟩
  simp [ir_isfraction, s0.cl h0]
  refine ⟨fun hr => ?_, fun hr => ?_⟩
  · unfold isRowB at hr
    simp at hr
    unfold isFrB
    rw [hr]
  · obtain ⟨l, hi, hl⟩ := row_cases hr
    simp [hl]
    refine ⟨fun h => ?_, fun h => ?_⟩
    · unfold isFrB
      rw [hi]
      split
      · rename_i e; cases e; simp at h
      · rfl
    · obtain ⟨a, b, rfl⟩ : ∃ a b, l = [a, b] := by
        match l, h with
        | [a, b], _ => exact ⟨a, b, rfl⟩
        | [], h => simp at h
        | [_], h => simp at h
        | _ :: _ :: _ :: _, h => simp at h; omega
      rw [unpK_items hi]
      simp [s1.cl h1]
      refine ⟨fun ha => ?_, fun ha => ?_⟩
      · unfold isFrB
        rw [hi]
        split
        · rename_i e; cases e; cases ha
        · rfl
      · obtain ⟨i, rfl⟩ := wh_cases ha
        refine ⟨fun hb => ?_, fun hb => ?_⟩
        · unfold isFrB
          rw [hi]
          split
          · rename_i e; cases e; cases hb
          · rfl
        · obtain ⟨j, rfl⟩ := wh_cases hb
          simp [s2.cl h2]
          unfold isFrB
          rw [hi]
          refine ⟨fun h => ?_, fun h => ?_⟩
          · have : ¬ 1 ≤ j := by omega
            simp [this]
          · have : 1 ≤ j := by omega
            simp [this]
            omega)⟩
theorem sp_isplaces (h0 : Φ.fn[k0]? = some f0) (s0 : SpB1 isRowB f0) (h1 : Φ.fn[k1]? = some f1) (s1 : SpB1 isFrB f1) {m : Int} : (fn_isplaces Φ k0 k1).run [.frz d, .frz (.int m)] = .ok (.frz (.bool (isPlB d m))) [] := run_eq (by
  unfold fn_isplaces
  rw [fn_wp]
  refine ⟨rfl, ?_⟩
  simp [ir_isplaces, s0.cl h0]
  refine ⟨fun hr => ?_, fun hr => ?_⟩
  · unfold isRowB at hr
    simp at hr
    unfold isPlB
    rw [hr]
  · obtain ⟨l, hi, hl⟩ := row_cases hr
    simp [hl, hi]
    refine ⟨fun h => ?_, fun h => ?_⟩
    · unfold isPlB
      rw [hi]
      simp [h]
    · refine loop0 (fun i ρ => (∀ x ∈ l.take i, isFrB x = true) ∧ ∃ x2, ρ = [some (.frz d), some (.frz (.int m)), x2]) ⟨by simp, none, rfl⟩ ?_ ?_
      · rintro i x ρ he ⟨ha, x2, rfl⟩
        refine ⟨_, rfl, ?_⟩
        simp [s1.cl h1]
        refine ⟨fun hx => ?_, fun hx => ?_⟩
        · unfold isPlB
          rw [hi]
          have : l.all isFrB = false := by
            rw [List.all_eq_false]
            exact ⟨x, List.mem_of_getElem? he, by simp [hx]⟩
          simp [this]
        · intro y hy
          have et : l.take (i + 1) = l.take i ++ [x] := by rw [List.take_succ, he]; rfl
          rw [et] at hy
          rcases List.mem_append.mp hy with hy | hy
          · exact ha y hy
          · rw [List.mem_singleton.mp hy]; exact hx
      · rintro ρ ⟨ha, x2, rfl⟩
        simp
        rw [List.take_length] at ha
        unfold isPlB
        rw [hi]
        have : l.all isFrB = true := List.all_eq_true.mpr ha
        simp [this, h])
/-- trees of tuples of whole numbers -/
def ttD : Nat → D → Prop
  | _, .int _ => True
  | k + 1, .tuple l => ∀ x ∈ l, ttD k x
  | _, _ => False
theorem zip_self {α : Type} : ∀ l : List α, l.zip l = l.map fun x => (x, x)
  | [] => rfl
  | x :: l => by rw [List.zip_cons_cons, zip_self l]; rfl
theorem same_eq {gl : List D} {acc : List Fn} (hk : acc.length = k0) : ∀ (K : Nat) (d : D), ttD K d → ∀ K', K < K' → (recFn gl acc 4 [false, false] (ir_same k0) K').run [.frz d, .frz d] = .ok (.frz (.bool true)) [] := by
  intro K
  induction K with
  | zero =>
    intro d hd K' hK
    obtain ⟨K', rfl⟩ : ∃ j, K' = j + 1 := ⟨K' - 1, by omega⟩
    cases d <;> simp only [ttD] at hd
    rename_i i
    refine run_eq ?_
    show ((mkFn 4 [false, false] ((ir_same k0).sem _)).run _).wp _
    rw [fn_wp]
    refine ⟨rfl, ?_⟩
    simp [ir_same, isK]
  | succ K ih =>
    intro d hd K' hK
    obtain ⟨K', rfl⟩ : ∃ j, K' = j + 1 := ⟨K' - 1, by omega⟩
    refine run_eq ?_
    show ((mkFn 4 [false, false] ((ir_same k0).sem _)).run _).wp _
    rw [fn_wp]
    refine ⟨rfl, ?_⟩
    cases d <;> simp only [ttD] at hd
    · simp [ir_same, isK]
    · rename_i l
      have hf : (acc ++ [recFn gl acc 4 [false, false] (ir_same k0) K'])[k0]? = some (recFn gl acc 4 [false, false] (ir_same k0) K') := by
        rw [List.getElem?_append_right (by omega), hk, Nat.sub_self]; rfl
      have hm : (recFn gl acc 4 [false, false] (ir_same k0) K').modes = [false, false] := by cases K' <;> rfl
      have ihc : ∀ x ∈ l, (recFn gl acc 4 [false, false] (ir_same k0) K').run [.frz x, .frz x] = .ok (.frz (.bool true)) [] := fun x hx => ih x (hd x hx) K' (by omega)
      generalize recFn gl acc 4 [false, false] (ir_same k0) K' = fr at hf hm ihc
      simp [ir_same, isK, pairsD]
      have ez : (l.zip l).map (fun p => PyData.tuple [p.1, p.2]) = l.map fun x => .tuple [x, x] := by
        rw [zip_self, List.map_map]
        rfl
      rw [ez]
      refine comp_map (fun _ => false) (fun _ => .frz (.int 1)) (fun x hx => ⟨_, rfl, ?_⟩) ?_
      · have c : ∀ ρ, callF ⟨acc ++ [fr], gl⟩ k0 [.d x, .d x] ρ = .ok (.frz (.bool true)) ρ := fun ρ => call_eq hf hm rfl rfl rfl (ihc x hx)
        simp [c]
      · have c : cmpD .eq (.list []) (.list []) = some (.bool true) := by
          rw [cmp_eq_pl (pl_lst (n := 0) fun _ q => by cases q) (pl_lst (n := 0) fun _ q => by cases q).pl (by decide) (P := True) (by simp)]
          simp
        have fe : l.filter (fun _ => false) = [] := by simp
        rw [fe]
        simp [c]
theorem tt_fr {p : Rat} : ttD 1 (frD p) := by simp [frD, ttD]
theorem tt_row {u : Nat → Rat} : ttD 2 (rowD n u) := by
  intro x hx
  obtain ⟨j, hj, rfl⟩ := List.mem_map.mp hx
  exact tt_fr
theorem tt_tab {g : Nat → Nat → Rat} : ttD 3 (tabD n g) := by
  intro x hx
  obtain ⟨j, hj, rfl⟩ := List.mem_map.mp hx
  exact tt_row
end
end Lib
set_option Elab.async false
set_option linter.all false
set_option maxRecDepth 100000
set_option maxHeartbeats 4000000
/-! LibZ2: cuts, looks at places, rows of fractions in a name. -/
namespace Lib
open PySem Tr
theorem cutL_hi {α : Type} {l : List α} {i : Nat} : cutL l none (some (i : Int)) = l.take i := by
  unfold cutL
  rw [HT.sIx_none, HT.sIx_nat, List.drop_zero, Nat.sub_zero]
  by_cases h : i ≤ l.length
  · rw [Nat.min_eq_left h]
  · rw [Nat.min_eq_right (by omega), List.take_length, List.take_of_length_le (by omega)]
theorem cutL_lo {α : Type} {l : List α} {i : Nat} : cutL l (some (i : Int)) none = l.drop i := by
  unfold cutL
  rw [HT.sIx_none, HT.sIx_nat]
  by_cases h : i ≤ l.length
  · rw [Nat.min_eq_left h, List.take_of_length_le (by rw [List.length_drop]; omega)]
  · rw [Nat.min_eq_right (by omega), List.drop_eq_nil_of_le (show l.length ≤ i by omega), List.drop_length, List.take_nil]
def plAny (d : D) : Bool := match itemsD d with
  | some l => l.all isFrB
  | none => false
theorem isPlB_any {d : D} {m : Int} (h : plAny d = false) : isPlB d m = false := by
  unfold plAny at h
  unfold isPlB
  split
  · rename_i l e
    rw [e] at h
    dsimp only at h
    rw [h, Bool.and_false]
  · rfl
theorem isPlB_len {l : List D} {m : Int} (h : (l.length : Int) ≠ m) : isPlB (.list l) m = false := by simp [isPlB, h]
theorem isPlB_mem {l : List D} {m : Int} {x : D} (hx : x ∈ l) (h : isFrB x = false) : isPlB (.list l) m = false := isPlB_any (by
  show l.all isFrB = false
  rw [List.all_eq_false]
  exact ⟨x, hx, by simp [h]⟩)
theorem isFrB_fr {n : Nat} {d : D} (h : Fr n d) : isFrB d = true := by
  unfold isFrB
  rw [h.items]
  have h1 := (valR d).den_pos
  have h2 := (valR d).reduced
  simp only [Bool.and_eq_true, decide_eq_true_eq]
  exact ⟨by omega, by simpa [Int.gcd] using h2⟩
theorem isPlB_row {B n : Nat} {d : D} (h : Row B n d) : isPlB d n = true := by
  unfold isPlB
  rw [h.items]
  simp only [List.length_map, List.length_range, decide_true, Bool.true_and, List.all_eq_true]
  intro x hx
  obtain ⟨i, hi, rfl⟩ := List.mem_map.mp hx
  exact isFrB_fr (h.fr i (List.mem_range.mp hi))
theorem cmp_ne_refl {n : Nat} {d : D} (h : Pl n d) (hn : n ≤ 64) : cmpD .ne d d = some (.bool false) := by
  rw [cmp_ne_pl h h.pl hn (P := True) (by simp)]
  rfl
def frs (l : List Rat) : List O := l.map fun p => .frz (frD p)
theorem frs_len {l : List Rat} : (frs l).length = l.length := by simp [frs]
theorem cleans_frs {l : List Rat} : cleans (frs l) = true := by unfold frs; exact cleans_comp
theorem fzs_frs {l : List Rat} : fzs (frs l) = l.map frD := by unfold frs; exact fzs_comp
theorem atD_frs {l : List Rat} {i : Nat} (h : i < l.length) : atD (frs l) (i : Int) = some (.frz (frD (l.getD i 0))) := by
  rw [atD_nat]
  simp [frs, h]
theorem frs_set {l : List Rat} {i : Nat} {x : Rat} : (frs l).set i (.frz (frD x)) = frs (l.set i x) := by simp [frs, List.map_set]
theorem store_frs {l : List Rat} {i : Int} {j : Nat} {x : Rat} {K : Unit → O → Prop} (hi : i = j) (h : j < l.length) : optK (storeF (.int i) (.frz (frD x)) (.box (frs l))) K = K () (.box (frs (l.set j x))) := by
  rw [sto_b (j := j) (by rw [ixN_ok (by omega) (by rw [frs_len]; omega)]; congr 1; omega), frs_set]
theorem look_frs {l : List Rat} {v : Int} (h0 : 0 ≤ v) (h : v < l.length) : atD (frs l) v = some (.frz (frD (l.getD v.toNat 0))) := by
  obtain ⟨k, rfl⟩ := Int.eq_ofNat_of_zero_le h0
  exact atD_frs (by omega)
end Lib
namespace Lib
open PySem Tr
theorem comp_none {own : List Nat} {asg : D → Tr.Env → Option Tr.Env} {tst : Tr.Env → R Bool} {elt : Tr.Env → R O} {Q : List O → Tr.Env → Prop} {ρ : Tr.Env} {ds : List D}
    (h : ∀ d ∈ ds, ∃ ρ1, asg d ρ = some ρ1 ∧ (tst ρ1).wp fun b ρ2 => b = false ∧ wipeE own ρ2 = ρ) (q : Q [] ρ) : (compL own asg tst elt ds ρ).wp Q := by
  refine comp_wp (fun i acc ρ' => acc = [] ∧ ρ' = ρ) 0 [] ⟨rfl, rfl⟩ ?_ ?_
  · rintro i d acc ρ' e ⟨rfl, rfl⟩
    obtain ⟨ρ1, e1, h1⟩ := h d (List.mem_of_getElem? e)
    exact ⟨ρ1, e1, R.wp_mono h1 fun b ρ2 h2 => ⟨fun hb => absurd (h2.1.symm.trans hb) (by decide), fun _ => ⟨rfl, h2.2⟩⟩⟩
  · rintro l ρ' ⟨e, rfl⟩
    rw [List.nil_append] at e
    subst e
    exact q
end Lib
set_option Elab.async false
set_option linter.all false
set_option maxRecDepth 100000
set_option maxHeartbeats 4000000
/-! LibK: decks of drawn numbers; a law's own looks at rows and fractions; all in lists. -/
namespace Lib
open PySem Tr
def ir_deckA : Ss := (.cons (.set 2 (.listv 0)) (.cons (.ite (.eqS false 2 (.ofF (.lst .nil))) (.cons (.set 2 (.lst (.cons (.ofE (.int 4)) .nil))) .nil) .nil) (.cons (.set 3 (.ofE (.op .mod (.ix1 2 (.int 0)) (.int 2)))) (.cons (.store 2 (.int 0) (.ofE (.op .fdiv (.ix1 2 (.int 0)) (.int 2)))) (.cons (.set 4 (.lst .nil)) (.cons (.loop (.name 5) (.range1 (.v 1)) (.cons (.set 6 (.ofE (.op .mod (.v 5) (.plen (.v 2))))) (.cons (.set 7 (.ofE (.op .mod (.ix1 2 (.v 6)) (.int 1000000)))) (.cons (.ite (.cmp .eq (.v 3) (.int 0)) (.cons (.set 7 (.ofE (.op .mod (.ofF (.add (.ofF (.add (.ix1 2 (.v 6)) (.ofF (.mul (.ofF (.mul (.v 5) (.v 5))) (.int 16807))))) (.ofF (.mul (.int 3) (.v 5))))) (.int 2147483629)))) (.cons (.set 7 (.ofE (.op .mod (.ofF (.add (.ofF (.mul (.v 7) (.ix (.ofF (.lst (.cons (.ofE (.int 48271)) (.cons (.ofE (.int 69621)) (.cons (.ofE (.int 39373)) (.cons (.ofE (.int 40692)) .nil)))))) (.op .mod (.v 5) (.int 4))))) (.int 7))) (.int 2147483647)))) (.cons (.set 7 (.ofE (.op .mod (.ofF (.mul (.v 7) (.v 7))) (.int 2147483629)))) .nil))) (.cons (.store 2 (.v 6) (.ofE (.op .fdiv (.ix1 2 (.v 6)) (.int 1000000)))) .nil)) (.cons (.append 4 (.ofE (.v 7))) .nil))))) (.cons (.reverse 4) (.cons (.ret (.mv 4)) .nil))))))))
noncomputable def fn_deckA (Φ : Tab) : Fn := mkFn 8 [true, false] ((ir_deckA).sem Φ)
def ir_lisrow : Ss := (.cons (.ret (.ofE (.and (.isi (.v 0) [.list, .tuple]) (.cmp .eq (.b1 .len (.v 0)) (.v 1))))) .nil)
noncomputable def fn_lisrow (Φ : Tab) : Fn := mkFn 2 [false, false] ((ir_lisrow).sem Φ)
def ir_lisfr (k0 : Nat) (k1 : Nat) (k2 : Nat) : Ss := (.cons (.ite (.or (.not (.tru (.ofF (.call k0 (.e (.v 0) (.e (.int 2) .nil)))))) (.or (.not (.tru (.ofF (.call k1 (.e (.ix (.v 0) (.int 0)) .nil))))) (.or (.not (.tru (.ofF (.call k1 (.e (.ix (.v 0) (.int 1)) .nil))))) (.cmp .lt (.ix (.v 0) (.int 1)) (.int 1))))) (.cons (.ret (.ofE (.bl false))) .nil) .nil) (.cons (.ret (.ofE (.cmp .eq (.ofF (.call k2 (.e (.ix (.v 0) (.int 0)) (.e (.ix (.v 0) (.int 1)) .nil)))) (.tup (.cons (.ix (.v 0) (.int 0)) (.cons (.ix (.v 0) (.int 1)) .nil)))))) .nil))
noncomputable def fn_lisfr (Φ : Tab) (k0 : Nat) (k1 : Nat) (k2 : Nat) : Fn := mkFn 1 [false] ((ir_lisfr k0 k1 k2).sem Φ)
def ir_lsays : Ss := (.cons (.ite (.tru (.v 1)) (.cons (.ret (.ofE (.isB false (.v 0) true))) .nil) .nil) (.cons (.ret (.ofE (.isB false (.v 0) false))) .nil))
noncomputable def fn_lsays (Φ : Tab) : Fn := mkFn 2 [false, false] ((ir_lsays).sem Φ)
def ir_lists (k0 : Nat) : Ss := (.cons (.ite (.tru (.isi (.v 0) [.list, .tuple])) (.cons (.ret (.comp (.name 1) (.seq (.v 0)) .nil (.call k0 (.e (.v 1) .nil)) [1])) .nil) .nil) (.cons (.ret (.ofE (.v 0))) .nil))
noncomputable def fn_lists (Φ : Tab) (k0 : Nat) : Fn := mkFn 2 [false] ((ir_lists k0).sem Φ)
def ir_arefr (k0 : Nat) (k1 : Nat) : Ss := (.cons (.ite (.or (.not (.tru (.ofF (.call k0 (.e (.v 0) .nil))))) (.cmp .ne (.b1 .len (.v 0)) (.v 1))) (.cons (.ret (.ofE (.bl false))) .nil) .nil) (.cons (.ret (.ofE (.b1 .all (.ofF (.comp (.name 2) (.seq (.v 0)) .nil (.call k1 (.e (.v 2) .nil)) [2]))))) .nil))
noncomputable def fn_arefr (Φ : Tab) (k0 : Nat) (k1 : Nat) : Fn := mkFn 3 [false, false] ((ir_arefr k0 k1).sem Φ)
def deckRest : Ss := (.cons (.set 3 (.ofE (.op .mod (.ix1 2 (.int 0)) (.int 2)))) (.cons (.store 2 (.int 0) (.ofE (.op .fdiv (.ix1 2 (.int 0)) (.int 2)))) (.cons (.set 4 (.lst .nil)) (.cons (.loop (.name 5) (.range1 (.v 1)) (.cons (.set 6 (.ofE (.op .mod (.v 5) (.plen (.v 2))))) (.cons (.set 7 (.ofE (.op .mod (.ix1 2 (.v 6)) (.int 1000000)))) (.cons (.ite (.cmp .eq (.v 3) (.int 0)) (.cons (.set 7 (.ofE (.op .mod (.ofF (.add (.ofF (.add (.ix1 2 (.v 6)) (.ofF (.mul (.ofF (.mul (.v 5) (.v 5))) (.int 16807))))) (.ofF (.mul (.int 3) (.v 5))))) (.int 2147483629)))) (.cons (.set 7 (.ofE (.op .mod (.ofF (.add (.ofF (.mul (.v 7) (.ix (.ofF (.lst (.cons (.ofE (.int 48271)) (.cons (.ofE (.int 69621)) (.cons (.ofE (.int 39373)) (.cons (.ofE (.int 40692)) .nil)))))) (.op .mod (.v 5) (.int 4))))) (.int 7))) (.int 2147483647)))) (.cons (.set 7 (.ofE (.op .mod (.ofF (.mul (.v 7) (.v 7))) (.int 2147483629)))) .nil))) (.cons (.store 2 (.v 6) (.ofE (.op .fdiv (.ix1 2 (.v 6)) (.int 1000000)))) .nil)) (.cons (.append 4 (.ofE (.v 7))) .nil))))) (.cons (.reverse 4) (.cons (.ret (.mv 4)) .nil))))))
theorem deckA_split : ir_deckA = (.cons (.set 2 (.listv 0)) (.cons (.ite (.eqS false 2 (.ofF (.lst .nil))) (.cons (.set 2 (.lst (.cons (.ofE (.int 4)) .nil))) .nil) .nil) deckRest)) := rfl
/-! ### small data: whole numbers of at most 8001 bits -/
mutual
def smD : D → Prop
  | .int i => Bits 8000 i
  | .list l => smAll l
  | .tuple l => smAll l
  | .none => True
  | .bool _ => True
  | .str _ => True
  | .dict _ => True
def smAll : List D → Prop
  | [] => True
  | d :: l => smD d ∧ smAll l
end
theorem smAll_iff {l : List D} : smAll l ↔ ∀ x ∈ l, smD x := by
  induction l with
  | nil => simp [smAll]
  | cons d l ih => simp [smAll, ih]
theorem sm_items {d : D} {l : List D} (h : itemsD d = some l) (hs : smD d) : ∀ x ∈ l, smD x := by
  cases d <;> simp only [itemsD, reduceCtorEq, Option.some.injEq] at h
  · subst h; simp only [smD] at hs; exact smAll_iff.mp hs
  · subst h; simp only [smD] at hs; exact smAll_iff.mp hs
theorem sm_list {l : List D} : smD (.list l) ↔ ∀ x ∈ l, smD x := by simp only [smD]; exact smAll_iff
theorem sm_tuple {l : List D} : smD (.tuple l) ↔ ∀ x ∈ l, smD x := by simp only [smD]; exact smAll_iff
theorem sm_int {i : Int} : smD (.int i) ↔ Bits 8000 i := by simp only [smD]
section
variable {Φ : Tab} {k k0 k1 k2 k3 k4 k5 k6 k7 g0 : Nat} {f f0 f1 f2 f3 f4 f5 f6 f7 : Fn} {ρ : Tr.Env} {d e t o : D} {n B : Nat}
theorem boxI_at {l : List Int} {i : Nat} (h : i < l.length) : atD (l.map fun i => O.frz (.int i)) (i : Int) = some (.frz (.int (l[i]'h))) := by
  rw [atD_nat]
  simp [h]
theorem boxI_store {l : List Int} {i x : Int} {j : Nat} {K : Unit → O → Prop} (hi : i = j) (h : j < l.length) : optK (storeF (.int i) (.frz (.int x)) (.box (l.map fun i => O.frz (.int i)))) K = K () (.box ((l.set j x).map fun i => O.frz (.int i))) := by
  rw [sto_b (j := j) (by rw [ixN_ok (by omega) (by simpa using (by omega : i < l.length))]; congr 1; omega), List.map_set]
theorem eqO_box {l : List Int} {n : Bool} : (eqO n (.box (l.map fun i => O.frz (.int i))) (.list [])).bind boolD = some (if n then !decide (l = []) else decide (l = [])) := by
  have e1 : fzs (l.map fun i => O.frz (.int i)) = l.map .int := fzs_comp
  have e2 : cleans (l.map fun i => O.frz (.int i)) = true := cleans_comp
  have h : Pl 1 (.list (l.map PyData.int)) := pl_lst fun x hx => by
    obtain ⟨_, _, rfl⟩ := List.mem_map.mp hx
    exact pl_int
  have h0 : plD (.list []) = true := (pl_lst (n := 0) fun _ q => by cases q).pl
  unfold eqO
  simp only [clean_b, e2, if_true, fz_b, e1]
  cases n
  · simp [cmp_eq_pl h h0 (by decide) (P := l = []) (by simp)]
  · simp [cmp_ne_pl h h0 (by decide) (P := l = []) (by simp)]
/-- a deck of drawn numbers, the first one drawn last -/
structure SpDeck (f : Fn) : Prop where
  modes : f.modes = [true, false]
  run : ∀ {n : Nat} {m : Int} {ns : List Int} {Q : PQ}, ns.length ≤ 63 → m = n → n ≤ 4000 → (∀ l : List Int, l.length = n → (∀ v ∈ l, 0 ≤ v ∧ v < 2147483629) → Q (boxI l) [some (.scr ns)]) → (f.run [.scr ns, .frz (.int m)]).wp Q
theorem sp_deckA : SpDeck (fn_deckA Φ) := ⟨rfl, fun {n m ns Q} hns hm hn q => by
  unfold fn_deckA
  rw [fn_wp]
  refine ⟨rfl, ?_⟩
  simp [deckA_split]
  have start : ∀ row : List Int, row ≠ [] → row.length ≤ 63 → ((Ss.sem Φ deckRest [some (.scr ns), some (.frz (.int m)), some (.box (row.map fun i => O.frz (.int i))), none, none, none, none, none])).wp (retK [true, false] Q) := by
    intro row h0 h63
    have hp := List.length_pos_iff.mpr h0
    have hm2 : m.toNat = n := by omega
    have e0 : atD (row.map fun i => O.frz (.int i)) 0 = some (.frz (.int row[0])) := boxI_at (i := 0) hp
    have s0 : ∀ {x : Int} {K : Unit → O → Prop}, optK (storeF (.int 0) (.frz (.int x)) (.box (row.map fun i => O.frz (.int i)))) K = K () (.box ((row.set 0 x).map fun i => O.frz (.int i))) := fun {x K} => boxI_store (j := 0) rfl hp
    have l2 : Nat.log2 2 < 9000 := by decide +kernel
    have l6 : Nat.log2 1000000 < 9000 := by decide +kernel
    have eset : ∀ x : Int, (List.map (fun i => O.frz (PyData.int i)) row).set 0 (O.frz (PyData.int x)) = (row.set 0 x).map fun i => O.frz (.int i) := fun x => by simp [List.map_set]
    simp [deckRest, e0, s0, l2, hm2]
    refine ⟨inR (by omega), ?_⟩
    rw [eset]
    generalize row[0].fmod 2 = odd
    have hr : (row.set 0 (row[0].fdiv 2)).length = row.length := by simp
    generalize row.set 0 (row[0].fdiv 2) = row at hr
    refine loop0 (fun i ρ => ∃ (r l : List Int) (x5 x6 x7 : Option O), r.length = row.length ∧ l.length = i ∧ (∀ v ∈ l, 0 ≤ v ∧ v < 2147483629) ∧ ρ = [some (.scr ns), some (.frz (.int m)), some (.box (r.map fun i => O.frz (.int i))), some (.frz (.int odd)), some (.box (l.map fun i => O.frz (.int i))), x5, x6, x7]) ⟨row, [], none, none, none, rfl, rfl, by simp, rfl⟩ ?_ ?_
    · rintro i d ρ he ⟨r, l, x5, x6, x7, hrl, hl, hv, rfl⟩
      obtain ⟨rfl, hi⟩ := rng_at he
      have hrp : (0 : Int) < r.length := by omega
      obtain ⟨a0, a1⟩ := mod_rng (i := (i : Int)) hrp
      have ha : ∃ j : Nat, (i : Int).fmod r.length = j ∧ j < r.length := ⟨((i : Int).fmod r.length).toNat, by omega, by omega⟩
      obtain ⟨j, ej, hj⟩ := ha
      have e1 : atD (r.map fun i => O.frz (.int i)) (j : Int) = some (.frz (.int r[j])) := boxI_at hj
      have s1 : ∀ {x : Int} {K : Unit → O → Prop}, optK (storeF (.int (j : Int)) (.frz (.int x)) (.box (r.map fun i => O.frz (.int i)))) K = K () (.box ((r.set j x).map fun i => O.frz (.int i))) := fun {x K} => boxI_store rfl hj
      refine ⟨_, rfl, ?_⟩
      simp [P.sem, lenP, lenO, ej, e1, show r ≠ [] by intro e; rw [e] at hj; simp at hj]
      obtain ⟨b0, b3⟩ := mod_rng (i := (i : Int)) (m := 4) (by decide)
      have hc : ∃ c : Int, atD [PyData.int 48271, .int 69621, .int 39373, .int 40692] ((i : Int).fmod 4) = some (.int c) ∧ 0 ≤ c ∧ c < 70000 := by
        have : (i : Int).fmod 4 = 0 ∨ (i : Int).fmod 4 = 1 ∨ (i : Int).fmod 4 = 2 ∨ (i : Int).fmod 4 = 3 := by omega
        rcases this with e | e | e | e <;> rw [e]
        · exact ⟨_, atD_0, by decide, by decide⟩
        · exact ⟨_, atD_1, by decide, by decide⟩
        · exact ⟨_, atD_2, by decide, by decide⟩
        · exact ⟨_, atD_3, by decide, by decide⟩
      obtain ⟨c, ec, c0, c1⟩ := hc
      have bi : Bits 20 (i : Int) := .of_lt (by omega) (by omega)
      have m1 : (i : Nat).log2 + (i : Nat).log2 < 1000000 := by simpa using mul_ok bi bi (by decide)
      have m2 : (i * i : Int).natAbs.log2 + Nat.log2 16807 < 1000000 := mul_okn (bi.mul bi) (by decide +kernel)
      have m3 : Nat.log2 3 + (i : Nat).log2 < 1000000 := by simpa using mul_okm (b := 3) bi (by decide +kernel)
      have key : ∀ z : Int, z.fmod 2147483629 = z.fmod 2147483629 := fun _ => rfl
      refine ⟨fun _ => ⟨m1, by simpa using m2, m3, ?_⟩, fun _ => ?_⟩
      · simp [ec]
        obtain ⟨z, hz⟩ : ∃ z : Int, (r[j] + (i : Int) * i * 16807 + 3 * (i : Int)) = z := ⟨_, rfl⟩
        rw [hz]
        obtain ⟨z0, z1⟩ := mod_rng (i := z) (m := 2147483629) (by decide)
        generalize z.fmod 2147483629 = y at z0 z1
        refine ⟨mul_ok (n := 40) (m := 40) (.of_lt (by omega) (by omega)) (.of_lt (by omega) (by omega)) (by decide), ?_⟩
        obtain ⟨w0, w1⟩ := mod_rng (i := y * c + 7) (m := 2147483647) (by decide)
        generalize (y * c + 7).fmod 2147483647 = u at w0 w1
        refine ⟨mul_ok (n := 40) (m := 40) (.of_lt (by omega) (by omega)) (.of_lt (by omega) (by omega)) (by decide), ?_⟩
        obtain ⟨v0, v1⟩ := mod_rng (i := u * u) (m := 2147483629) (by decide)
        refine ⟨by omega, r, hrl, l ++ [(u * u).fmod 2147483629], by simp [hl], fun v hv' => ?_, rfl, by simp⟩
        rcases List.mem_append.mp hv' with h | h
        · exact hv v h
        · rw [List.mem_singleton.mp h]; exact ⟨v0, v1⟩
      · simp [s1, l6]
        obtain ⟨v0, v1⟩ := mod_rng (i := r[j]) (m := 1000000) (by decide)
        refine ⟨by omega, r.set j (r[j].fdiv 1000000), by simpa using hrl, l ++ [r[j].fmod 1000000], by simp [hl], fun v hv' => ?_, by simp [List.map_set], by simp⟩
        rcases List.mem_append.mp hv' with h | h
        · exact hv v h
        · rw [List.mem_singleton.mp h]; exact ⟨v0, by omega⟩
    · rintro ρ ⟨r, l, x5, x6, x7, hrl, hl, hv, rfl⟩
      simp at hl
      simp [boxI]
      have := q l.reverse (by simpa using hl) (fun v h => hv v (by simpa using h))
      simpa [boxI] using this
  simp only [eqO_box]
  simp
  refine ⟨fun h => ?_, fun h => ?_⟩
  · exact start [4] (by simp) (by decide)
  · exact start ns h hns⟩

/-- a deck with so many left at least -/
structure OkDk (n : Nat) (o : O) : Prop where
  ex : ∃ l : List Int, o = boxI l ∧ n ≤ l.length ∧ ∀ v ∈ l, 0 ≤ v ∧ v < 2147483629
theorem OkDk.mono {n m : Nat} {o : O} (h : OkDk n o) (hm : m ≤ n) : OkDk m o := by
  obtain ⟨l, e, h1, h2⟩ := h.ex
  exact ⟨l, e, by omega, h2⟩
theorem pop_dk {n m : Nat} {o : O} {K : O → O → Prop} (h : OkDk n o) (hm : m + 1 = n) (q : ∀ (v : Int) o', 0 ≤ v → v < 2147483629 → OkDk m o' → K (.frz (.int v)) o') : optK (popF o) K := by
  obtain ⟨l, rfl, h1, h2⟩ := h.ex
  unfold boxI
  rw [pop_b]
  have h0 : l ≠ [] := fun e => by rw [e] at h1; simp at h1; omega
  have hl := List.getLast?_eq_some_getLast h0
  refine ⟨.frz (.int (l.getLast h0)), by rw [List.getLast?_map, hl]; rfl, ?_⟩
  have hv := h2 _ (List.getLast_mem h0)
  rw [← List.map_dropLast]
  exact q _ (boxI l.dropLast) hv.1 hv.2 ⟨_, rfl, by rw [List.length_dropLast]; omega, fun v hv => h2 v ((List.dropLast_sublist l).subset hv)⟩
theorem SpDeck.cl {s : Nat} {ns : List Int} {m : Int} {Q : PQ} (sp : SpDeck f) (hf : Φ.fn[k]? = some f) (hs : ldV s ρ = some (.scr ns)) (hns : ns.length ≤ 63) (hm : m = n) (hn : n ≤ 4000)
    (q : ∀ o, OkDk n o → Q o (ρ.set s (some (.scr ns)))) : (callF Φ k [.r s, .d (.int m)] ρ).wp Q := by
  refine call_sp hf sp.modes rfl (os := [.scr ns, .frz (.int m)]) (by simp [gather, hs]) (sp.run hns hm hn fun l hl hv => ?_)
  simpa [callK] using q (boxI l) ⟨l, rfl, by omega, hv⟩

theorem comp_eachD {own : List Nat} {asg : D → Tr.Env → Option Tr.Env} {tst : Tr.Env → R Bool} {elt : Tr.Env → R O} {Q : List O → Tr.Env → Prop} {ρ : Tr.Env} (f : D → O) {ds : List D}
    (h : ∀ x ∈ ds, ∃ ρ1, asg x ρ = some ρ1 ∧ (tst ρ1).wp fun b ρ2 => b = true ∧ (elt ρ2).wp fun o ρ3 => o = f x ∧ wipeE own ρ3 = ρ) (q : Q (ds.map f) ρ) : (compL own asg tst elt ds ρ).wp Q := by
  have := comp_each (c := fun x : D => x) f (xs := ds) h q
  simpa using this
/-! ### a law's own looks -/
structure SpSays (f : Fn) : Prop where
  modes : f.modes = [false, false]
  eq : ∀ {a b : Bool}, f.run [.frz (.bool a), .frz (.bool b)] = .ok (.frz (.bool (a == b))) []
theorem sp_lsays : SpSays (fn_lsays Φ) := ⟨rfl, fun {a b} => run_eq (by
  unfold fn_lsays
  rw [fn_wp]
  refine ⟨rfl, ?_⟩
  cases a <;> cases b <;> simp [ir_lsays])⟩
theorem SpSays.cl (s : SpSays f) (hf : Φ.fn[k]? = some f) {a b : Bool} : callF Φ k [.d (.bool a), .d (.bool b)] ρ = .ok (.frz (.bool (a == b))) ρ := call_eq hf s.modes rfl rfl rfl s.eq
def isRowM (d : D) (m : Int) : Bool := match itemsD d with
  | some l => decide ((l.length : Int) = m)
  | none => false
structure SpRowM (f : Fn) : Prop where
  modes : f.modes = [false, false]
  eq : ∀ {d : D} {m : Int}, f.run [.frz d, .frz (.int m)] = .ok (.frz (.bool (isRowM d m))) []
theorem sp_lisrow : SpRowM (fn_lisrow Φ) := ⟨rfl, fun {d m} => run_eq (by
  unfold fn_lisrow
  rw [fn_wp]
  refine ⟨rfl, ?_⟩
  have e : (isK d Kd.list || isK d Kd.tuple) = isRowB d := by cases d <;> rfl
  simp [ir_lisrow, e]
  refine ⟨fun hr => ?_, fun hr => ?_⟩
  · obtain ⟨l, hi, hl⟩ := row_cases hr
    simp [hl, isRowM, hi]
  · unfold isRowB at hr
    simp at hr
    simp [isRowM, hr])⟩
theorem SpRowM.cl (s : SpRowM f) (hf : Φ.fn[k]? = some f) {m : Int} : callF Φ k [.d d, .d (.int m)] ρ = .ok (.frz (.bool (isRowM d m))) ρ := call_eq hf s.modes rfl rfl rfl s.eq
theorem rowM2 (h : isRowM d 2 = true) : ∃ a b, itemsD d = some [a, b] ∧ ixD d (.int 0) = some a ∧ ixD d (.int 1) = some b := by
  unfold isRowM at h
  split at h
  · rename_i l e
    have h := of_decide_eq_true h
    obtain ⟨a, b, rfl⟩ : ∃ a b, l = [a, b] := by
      match l, h with
      | [a, b], _ => exact ⟨a, b, rfl⟩
      | [], h => simp at h
      | [_], h => simp at h
      | _ :: _ :: _ :: _, h => simp at h; omega
    exact ⟨a, b, e, by have := ixD_items e 0; simpa using this, by have := ixD_items e 1; simpa using this⟩
  · cases h
theorem rowM2_no (h : isRowM d 2 = false) : isFrB d = false := by
  unfold isRowM at h
  unfold isFrB
  split
  · rename_i e
    rw [e] at h
    simp at h
  · rfl
structure SpFrB (f : Fn) : Prop where
  modes : f.modes = [false]
  eq : ∀ {d : D}, smD d → f.run [.frz d] = .ok (.frz (.bool (isFrB d))) []
theorem SpFrB.cl (s : SpFrB f) (hf : Φ.fn[k]? = some f) (h : smD d) : callF Φ k [.d d] ρ = .ok (.frz (.bool (isFrB d))) ρ := call_eq hf s.modes rfl rfl rfl (s.eq h)
theorem low_eq_iff {a b : Int} (hb : 1 ≤ b) : frD (Rat.divInt a b) = .tuple [.int a, .int b] ↔ Int.gcd a b = 1 := by
  have e := frac_eq (a := a) (show b ≠ 0 by omega)
  rw [if_neg (by omega)] at e
  rw [← e]
  have hg : 0 < a.gcd b := Int.gcd_pos_of_ne_zero_right _ (by omega)
  simp only [PyData.tuple.injEq, List.cons.injEq, PyData.int.injEq, and_true]
  constructor
  · rintro ⟨_, h⟩
    have h2 : ((a.gcd b : Nat) : Int) ∣ b := Int.gcd_dvd_right ..
    generalize a.gcd b = g at *
    obtain ⟨c, rfl⟩ := h2
    rw [Int.fdiv_eq_ediv_of_nonneg _ (by omega), Int.mul_ediv_cancel_left _ (by omega)] at h
    have hc : 1 ≤ c := by
      by_cases h0 : c ≤ 0
      · have := Int.mul_nonneg (show (0 : Int) ≤ g by omega) (show (0 : Int) ≤ -c by omega)
        rw [Int.mul_neg] at this
        omega
      · omega
    by_cases h1 : g = 1
    · exact h1
    · have h5 : 2 * c ≤ (g : Int) * c := Int.mul_le_mul_of_nonneg_right (by omega) (by omega)
      omega
  · intro h
    rw [h]
    simp
theorem sp_lisfr (h0 : Φ.fn[k0]? = some f0) (s0 : SpRowM f0) (h1 : Φ.fn[k1]? = some f1) (s1 : SpB1 isWhB f1) (h2 : Φ.fn[k2]? = some f2) (s2 : SpLow f2) : SpFrB (fn_lisfr Φ k0 k1 k2) := ⟨rfl, fun {d} hs => run_eq (by
  unfold fn_lisfr
  rw [fn_wp]
  refine ⟨rfl, ?_⟩
  simp [ir_lisfr, s0.cl h0]
  refine ⟨fun hr => ?_, fun hr => ?_⟩
  · rw [rowM2_no hr]
  · obtain ⟨x, y, hi, i0, i1⟩ := rowM2 hr
    have hx := sm_items hi hs x (by simp)
    have hy := sm_items hi hs y (by simp)
    simp [i0, i1, s1.cl h1]
    refine ⟨fun ha => ?_, fun ha => ?_⟩
    · unfold isFrB
      rw [hi]
      split
      · rename_i e; cases e; cases ha
      · rfl
    · obtain ⟨a, rfl⟩ := wh_cases ha
      refine ⟨fun hb => ?_, fun hb => ?_⟩
      · unfold isFrB
        rw [hi]
        split
        · rename_i e; cases e; cases hb
        · rfl
      · obtain ⟨b, rfl⟩ := wh_cases hb
        simp
        refine ⟨fun h => ?_, fun h => ?_⟩
        · unfold isFrB
          rw [hi]
          have : ¬ 1 ≤ b := by omega
          simp [this]
        · have hb1 : 1 ≤ b := by omega
          have c2 := fun ρ => s2.cl (ρ := ρ) h2 (a := a) (show 0 < b by omega) (sm_int.mp hy)
          simp [i0, i1, c2]
          rw [cmp_eq_pl pl_fr (pl_tup (n := 0) fun x hx => by
            simp only [List.mem_cons, List.not_mem_nil, or_false] at hx
            rcases hx with rfl | rfl <;> exact pl_int).pl (by decide) (low_eq_iff hb1)]
          unfold isFrB
          rw [hi]
          simp [hb1])⟩
/-! ### all in lists -/
mutual
def lsO : D → O
  | .list l => .box (lsOs l)
  | .tuple l => .box (lsOs l)
  | .int i => .frz (.int i)
  | .none => .frz .none
  | .bool b => .frz (.bool b)
  | .str s => .frz (.str s)
  | .dict l => .frz (.dict l)
def lsOs : List D → List O
  | [] => []
  | d :: l => lsO d :: lsOs l
end
mutual
def lsD : D → D
  | .list l => .list (lsAll l)
  | .tuple l => .list (lsAll l)
  | .int i => .int i
  | .none => .none
  | .bool b => .bool b
  | .str s => .str s
  | .dict l => .dict l
def lsAll : List D → List D
  | [] => []
  | d :: l => lsD d :: lsAll l
end
theorem lsAll_map : ∀ l : List D, lsAll l = l.map lsD
  | [] => rfl
  | d :: l => by simp [lsAll, lsAll_map l]
theorem lsOs_map : ∀ l : List D, lsOs l = l.map lsO
  | [] => rfl
  | d :: l => by simp [lsOs, lsOs_map l]
mutual
theorem lsO_ok : ∀ d : D, (lsO d).clean = true ∧ (lsO d).fz = lsD d
  | .list l => by simp [lsO, lsD, (lsOs_ok l).1, (lsOs_ok l).2]
  | .tuple l => by simp [lsO, lsD, (lsOs_ok l).1, (lsOs_ok l).2]
  | .int i => by simp [lsO, lsD]
  | .none => by simp [lsO, lsD]
  | .bool b => by simp [lsO, lsD]
  | .str s => by simp [lsO, lsD]
  | .dict l => by simp [lsO, lsD]
theorem lsOs_ok : ∀ l : List D, cleans (lsOs l) = true ∧ fzs (lsOs l) = lsAll l
  | [] => by simp [lsOs, lsAll]
  | d :: l => by simp [lsOs, lsAll, (lsO_ok d).1, (lsO_ok d).2, (lsOs_ok l).1, (lsOs_ok l).2]
end
theorem ls_items (h : itemsD d = none) : lsO d = .frz d ∧ lsD d = d := by cases d <;> simp [itemsD, lsO, lsD] at h ⊢
theorem depth_items {l : List D} (h : itemsD d = some l) : ∀ x ∈ l, x.depth < d.depth := by
  have key : ∀ (l : List D) (x : D), x ∈ l → x.depth ≤ PyData.depthAll l := by
    intro l
    induction l with
    | nil => intro x hx; cases hx
    | cons y l ih =>
      intro x hx
      simp only [PyData.depthAll]
      rcases List.mem_cons.mp hx with rfl | hx
      · omega
      · have := ih x hx; omega
  intro x hx
  cases d <;> simp only [itemsD, reduceCtorEq, Option.some.injEq] at h
  · subst h; have := key _ x hx; simp only [PyData.depth]; omega
  · subst h; have := key _ x hx; simp only [PyData.depth]; omega
theorem lsO_items {l : List D} (h : itemsD d = some l) : lsO d = .box (l.map lsO) := by
  cases d <;> simp only [itemsD, reduceCtorEq, Option.some.injEq] at h
  · subst h; simp [lsO, lsOs_map]
  · subst h; simp [lsO, lsOs_map]
theorem lsD_items {l : List D} (h : itemsD d = some l) : lsD d = .list (l.map lsD) := by
  cases d <;> simp only [itemsD, reduceCtorEq, Option.some.injEq] at h
  · subst h; simp [lsD, lsAll_map]
  · subst h; simp [lsD, lsAll_map]
/-- no row too long for a list -/
def shortD : Nat → D → Prop
  | 0, d => itemsD d = none
  | k + 1, d => ∀ l, itemsD d = some l → l.length ≤ line ∧ ∀ x ∈ l, shortD k x
theorem lists_run {gl : List D} {acc : List Fn} (hk : acc.length = k0) : ∀ (K : Nat) (d : D), shortD K d → ∀ K', K < K' → (recFn gl acc 2 [false] (ir_lists k0) K').run [.frz d] = .ok (lsO d) [] := by
  intro K
  induction K with
  | zero =>
    intro d hd K' hK
    obtain ⟨K', rfl⟩ : ∃ j, K' = j + 1 := ⟨K' - 1, by omega⟩
    refine run_eq ?_
    show ((mkFn 2 [false] ((ir_lists k0).sem _)).run _).wp _
    rw [fn_wp]
    refine ⟨rfl, ?_⟩
    have e : (isK d Kd.list || isK d Kd.tuple) = isRowB d := by cases d <;> rfl
    have e2 : isRowB d = false := by unfold isRowB; simp only [shortD] at hd; rw [hd]; rfl
    simp [ir_lists, e, e2, (ls_items hd).1]
  | succ K ih =>
    intro d hd K' hK
    obtain ⟨K', rfl⟩ : ∃ j, K' = j + 1 := ⟨K' - 1, by omega⟩
    refine run_eq ?_
    show ((mkFn 2 [false] ((ir_lists k0).sem _)).run _).wp _
    rw [fn_wp]
    refine ⟨rfl, ?_⟩
    have e : (isK d Kd.list || isK d Kd.tuple) = isRowB d := by cases d <;> rfl
    have hf : (acc ++ [recFn gl acc 2 [false] (ir_lists k0) K'])[k0]? = some (recFn gl acc 2 [false] (ir_lists k0) K') := by
      rw [List.getElem?_append_right (by omega), hk, Nat.sub_self]; rfl
    have hm : (recFn gl acc 2 [false] (ir_lists k0) K').modes = [false] := by cases K' <;> rfl
    have ihc : ∀ x, shortD K x → (recFn gl acc 2 [false] (ir_lists k0) K').run [.frz x] = .ok (lsO x) [] := fun x hx => ih x hx K' (by omega)
    generalize recFn gl acc 2 [false] (ir_lists k0) K' = fr at hf hm ihc
    cases hi : itemsD d with
    | none =>
      have e2 : isRowB d = false := by unfold isRowB; rw [hi]; rfl
      simp [ir_lists, e, e2, (ls_items hi).1]
    | some l =>
      have e2 : isRowB d = true := by unfold isRowB; rw [hi]; rfl
      simp only [shortD] at hd
      obtain ⟨h1, h2⟩ := hd l hi
      simp [ir_lists, e, e2, hi]
      refine comp_eachD lsO (fun x hx => ⟨_, rfl, ?_⟩) ?_
      · have c : ∀ ρ, callF ⟨acc ++ [fr], gl⟩ k0 [.d x] ρ = .ok (lsO x) ρ := fun ρ => call_eq hf hm rfl rfl rfl (ihc x (h2 x hx))
        simp [c]
      · simp [lsO_items hi]
        simpa [line] using h1
end
end Lib
set_option Elab.async false
set_option linter.all false
set_option maxRecDepth 100000
set_option maxHeartbeats 4000000
/-! LibB: is_below; loops that answer at the first thing that fails; things of a row all apart. -/
namespace Lib
open PySem Tr
def ir_isbelow (k0 : Nat) : Ss := (.cons (.ret (.ofE (.and (.ofF (.call k0 (.e (.v 0) .nil))) (.chain .le .lt (.int 0) (.v 0) (.v 1))))) .nil)
noncomputable def fn_isbelow (Φ : Tab) (k0 : Nat) : Fn := mkFn 2 [false, false] ((ir_isbelow k0).sem Φ)
def belowB (m : Int) : D → Bool
  | .int i => decide (0 ≤ i) && decide (i < m)
  | _ => false
def numD : D → Int
  | .int i => i
  | _ => 0
section
variable {Φ : Tab} {k k0 k1 k2 : Nat} {f f0 f1 f2 : Fn} {ρ : Tr.Env} {d : D} {m : Int}
theorem below_int {i : Int} : belowB m (.int i) = true ↔ 0 ≤ i ∧ i < m := by simp [belowB]
theorem below_num {d : D} (h : belowB m d = true) : d = .int (numD d) := by cases d <;> first | rfl | cases h
theorem below_all {l : List D} (h : ∀ x ∈ l, belowB m x = true) : l = (l.map numD).map .int := by
  rw [List.map_map]
  conv => lhs; rw [← List.map_id l]
  exact List.map_congr_left fun x hx => below_num (h x hx)
structure SpBelow (f : Fn) : Prop where
  modes : f.modes = [false, false]
  eq : ∀ {d : D} {m : Int}, f.run [.frz d, .frz (.int m)] = .ok (.frz (.bool (belowB m d))) []
theorem SpBelow.cl (s : SpBelow f) (hf : Φ.fn[k]? = some f) : callF Φ k [.d d, .d (.int m)] ρ = .ok (.frz (.bool (belowB m d))) ρ := call_eq hf s.modes rfl rfl rfl s.eq
theorem sp_isbelow (h0 : Φ.fn[k0]? = some f0) (s0 : SpB1 isWhB f0) : SpBelow (fn_isbelow Φ k0) := ⟨rfl, fun {d m} => run_eq (by
  unfold fn_isbelow
  rw [fn_wp]
  refine ⟨rfl, ?_⟩
  simp [ir_isbelow, s0.cl h0]
  refine ⟨fun h => ?_, fun h => ?_⟩
  · obtain ⟨i, rfl⟩ := wh_cases h
    simp [belowB]
    omega
  · cases d <;> first | (simp [isWhB] at h; done) | rfl)⟩
structure NotAll (p : D → Bool) (l : List D) : Prop where
  no : l.all p = false
/-- a loop that answers at the first thing that fails -/
theorem loop_all {asg : D → Tr.Env → Option Tr.Env} {body : Tr.Env → R Fl} {Q : Fl → Tr.Env → Prop} {ρ : Tr.Env} {l : List D} (p : D → Bool) (I : Tr.Env → Prop) (h0 : I ρ)
    (st : ∀ x ∈ l, ∀ ρ, I ρ → ∃ ρ1, asg x ρ = some ρ1 ∧ (body ρ1).wp fun fl ρ2 => match fl with
      | .nx => p x = true ∧ I ρ2 | .ct => p x = true ∧ I ρ2 | .brk => False | .ret o => p x = false ∧ (NotAll p l → Q (.ret o) ρ2))
    (fin : ∀ ρ, l.all p = true → I ρ → Q .nx ρ) : (loopL asg body l ρ).wp Q := by
  refine loop0 (fun i ρ => (∀ x ∈ l.take i, p x = true) ∧ I ρ) ⟨by simp, h0⟩ ?_ ?_
  · rintro i x ρ he ⟨ha, hI⟩
    obtain ⟨ρ1, e1, h1⟩ := st x (List.mem_of_getElem? he) ρ hI
    have key : p x = true → ∀ y ∈ l.take (i + 1), p y = true := fun hx y hy => by
      rw [show l.take (i + 1) = l.take i ++ [x] by rw [List.take_succ, he]; rfl] at hy
      rcases List.mem_append.mp hy with hy | hy
      · exact ha y hy
      · rw [List.mem_singleton.mp hy]; exact hx
    refine ⟨ρ1, e1, R.wp_mono h1 fun fl ρ2 h2 => ?_⟩
    cases fl with
    | nx => exact ⟨key h2.1, h2.2⟩
    | ct => exact ⟨key h2.1, h2.2⟩
    | brk => exact h2.elim
    | ret o => exact h2.2 ⟨List.all_eq_false.mpr ⟨x, List.mem_of_getElem? he, by simp [h2.1]⟩⟩
  · rintro ρ ⟨ha, hI⟩
    rw [List.take_length] at ha
    exact fin ρ (List.all_eq_true.mpr ha) hI
theorem dups_nd : ∀ (n : Nat) (l : List Int), l.length ≤ n → l.eraseDups.length = l.length → l.Nodup
  | _, [], _, _ => by simp
  | 0, _ :: _, h, _ => by simp at h
  | n + 1, a :: l, h, e => by
    rw [List.eraseDups_cons] at e
    have h1 := dups_le (l.filter fun b => !b == a)
    have h2 := List.length_filter_le (fun b => !b == a) l
    simp only [List.length_cons] at e h
    have h3 : (l.filter fun b => !b == a) = l := List.filter_eq_self.mpr (by
      have := (List.length_filter_eq_length_iff (p := fun b => !b == a) (l := l)).mp (by omega)
      exact this)
    rw [h3] at e
    refine List.nodup_cons.mpr ⟨fun q => ?_, dups_nd n l (by omega) (by omega)⟩
    rw [← h3, List.mem_filter] at q
    simp at q
theorem dups_iff (l : List Int) : l.eraseDups.length = l.length ↔ l.Nodup :=
  ⟨dups_nd _ l (Nat.le_refl _), fun h => (dups_perm h fun _ => Iff.rfl).length_eq.symm⟩
theorem ints_map : ∀ l : List Int, intsD (l.map .int) = some l
  | [] => rfl
  | i :: l => by simp [intsD, ints_map l]
theorem lset_items {ns : List Int} (hi : itemsD d = some (ns.map .int)) (h4 : ns.length < 4000) : lsetD d = some (.int (ns.eraseDups.length : Nat)) := by
  cases d <;> simp only [itemsD, reduceCtorEq, Option.some.injEq] at hi
  · subst hi; simp [lsetD, ints_map, h4]
  · subst hi; simp [lsetD, ints_map, h4]
end
end Lib
set_option Elab.async false
set_option linter.all false
set_option maxRecDepth 100000
set_option maxHeartbeats 4000000
/-! LibQ: squares and their faults, by the program's look and by a law's. -/
namespace Lib
open PySem Tr
def ir_issquare (k0 : Nat) (k1 : Nat) (g0 : Nat) : Ss := (.cons (.ite (.or (.not (.tru (.ofF (.call k0 (.e (.v 0) .nil))))) (.cmp .gt (.b1 .len (.v 0)) (.glob g0))) (.cons (.ret (.ofE (.bl false))) .nil) .nil) (.cons (.loop (.name 1) (.seq (.v 0)) (.cons (.ite (.not (.tru (.ofF (.call k1 (.e (.v 1) (.e (.b1 .len (.v 0)) .nil)))))) (.cons (.ret (.ofE (.bl false))) .nil) .nil) .nil)) (.cons (.ret (.ofE (.bl true))) .nil)))
noncomputable def fn_issquare (Φ : Tab) (k0 : Nat) (k1 : Nat) (g0 : Nat) : Fn := mkFn 2 [false] ((ir_issquare k0 k1 g0).sem Φ)
def ir_pairfault : Ss := (.cons (.ite (.cmp .ne (.b1 .tuple (.ix (.ix (.v 0) (.v 1)) (.v 2))) (.b1 .tuple (.ix (.ix (.v 0) (.v 2)) (.v 1)))) (.cons (.ret (.ofE (.tup (.cons (.str "unlike") (.cons (.v 1) (.cons (.v 2) .nil)))))) .nil) .nil) (.cons (.ite (.cmp .le (.ix (.ix (.ix (.v 0) (.v 1)) (.v 2)) (.int 0)) (.int 0)) (.cons (.ret (.ofE (.tup (.cons (.str "small") (.cons (.v 1) (.cons (.v 2) .nil)))))) .nil) .nil) (.cons (.ret (.ofE .non)) .nil)))
noncomputable def fn_pairfault (Φ : Tab) : Fn := mkFn 3 [false, false, false] ((ir_pairfault).sem Φ)
def ir_wayfault (k0 : Nat) (k1 : Nat) : Ss := (.cons (.loop (.name 3) (.range1 (.b1 .len (.v 0))) (.cons (.ite (.and (.cmp .nmem (.v 3) (.tup (.cons (.v 1) (.cons (.v 2) .nil)))) (.cmp .gt (.ofF (.call k0 (.e (.ix (.ix (.v 0) (.v 1)) (.v 2)) (.e (.ofF (.call k1 (.e (.ix (.ix (.v 0) (.v 1)) (.v 3)) (.e (.ix (.ix (.v 0) (.v 3)) (.v 2)) .nil)))) .nil)))) (.int 0))) (.cons (.ret (.ofE (.tup (.cons (.str "nearer") (.cons (.v 1) (.cons (.v 2) (.cons (.v 3) .nil))))))) .nil) .nil) .nil)) (.cons (.ret (.ofE .non)) .nil))
noncomputable def fn_wayfault (Φ : Tab) (k0 : Nat) (k1 : Nat) : Fn := mkFn 4 [false, false, false] ((ir_wayfault k0 k1).sem Φ)
def ir_fault (k0 : Nat) (k1 : Nat) (k2 : Nat) (k3 : Nat) : Ss := (.cons (.ite (.not (.tru (.ofF (.call k0 (.e (.v 0) .nil))))) (.cons (.ret (.ofE (.tup (.cons (.str "form") .nil)))) .nil) .nil) (.cons (.loop (.name 1) (.range1 (.b1 .len (.v 0))) (.cons (.ite (.cmp .ne (.ix (.ix (.ix (.v 0) (.v 1)) (.v 1)) (.int 0)) (.int 0)) (.cons (.ret (.ofE (.tup (.cons (.str "self") (.cons (.v 1) .nil))))) .nil) .nil) .nil)) (.cons (.set 2 (.call k1 (.e (.b1 .len (.v 0)) .nil))) (.cons (.loop (.tup [1, 3]) (.seq (.v 2)) (.cons (.set 4 (.call k2 (.e (.v 0) (.e (.v 1) (.e (.v 3) .nil))))) (.cons (.ite (.isN true (.v 4)) (.cons (.ret (.ofE (.v 4))) .nil) .nil) .nil))) (.cons (.loop (.tup [1, 3]) (.seq (.v 2)) (.cons (.set 4 (.call k3 (.e (.v 0) (.e (.v 1) (.e (.v 3) .nil))))) (.cons (.ite (.isN true (.v 4)) (.cons (.ret (.ofE (.v 4))) .nil) .nil) .nil))) (.cons (.ret (.ofE .non)) .nil))))))
noncomputable def fn_fault (Φ : Tab) (k0 : Nat) (k1 : Nat) (k2 : Nat) (k3 : Nat) : Fn := mkFn 5 [false] ((ir_fault k0 k1 k2 k3).sem Φ)
def ir_lorder5 : Ss := (.cons (.set 2 (.mul (.ix (.v 0) (.int 0)) (.ix (.v 1) (.int 1)))) (.cons (.set 3 (.mul (.ix (.v 1) (.int 0)) (.ix (.v 0) (.int 1)))) (.cons (.ret (.ofE (.op .sub (.b1 .int (.cmp .gt (.v 2) (.v 3))) (.b1 .int (.cmp .lt (.v 2) (.v 3)))))) .nil)))
noncomputable def fn_lorder5 (Φ : Tab) : Fn := mkFn 4 [false, false] ((ir_lorder5).sem Φ)
def ir_lisfr5 (k0 : Nat) : Ss := (.cons (.ite (.or (.not (.tru (.isi (.v 0) [.list, .tuple]))) (.cmp .ne (.b1 .len (.v 0)) (.int 2))) (.cons (.ret (.ofE (.bl false))) .nil) .nil) (.cons (.loop (.name 1) (.seq (.v 0)) (.cons (.ite (.or (.tru (.isi (.v 1) [.bool])) (.not (.tru (.isi (.v 1) [.int])))) (.cons (.ret (.ofE (.bl false))) .nil) .nil) .nil)) (.cons (.ret (.ofE (.and (.cmp .gt (.ix (.v 0) (.int 1)) (.int 0)) (.cmp .eq (.ofF (.call k0 (.e (.ix (.v 0) (.int 0)) (.e (.ix (.v 0) (.int 1)) .nil)))) (.int 1))))) .nil)))
noncomputable def fn_lisfr5 (Φ : Tab) (k0 : Nat) : Fn := mkFn 2 [false] ((ir_lisfr5 k0).sem Φ)
def ir_lissq5 (k0 : Nat) : Ss := (.cons (.ite (.or (.not (.tru (.isi (.v 0) [.list, .tuple]))) (.cmp .gt (.b1 .len (.v 0)) (.int 20))) (.cons (.ret (.ofE (.bl false))) .nil) .nil) (.cons (.loop (.name 1) (.seq (.v 0)) (.cons (.ite (.or (.not (.tru (.isi (.v 1) [.list, .tuple]))) (.cmp .ne (.b1 .len (.v 1)) (.b1 .len (.v 0)))) (.cons (.ret (.ofE (.bl false))) .nil) .nil) (.cons (.ite (.cmp .ne (.ofF (.comp (.name 2) (.seq (.v 1)) (.one (.not (.tru (.ofF (.call k0 (.e (.v 2) .nil)))))) (.ofE (.v 2)) [2])) (.ofF (.lst .nil))) (.cons (.ret (.ofE (.bl false))) .nil) .nil) .nil))) (.cons (.ret (.ofE (.bl true))) .nil)))
noncomputable def fn_lissq5 (Φ : Tab) (k0 : Nat) : Fn := mkFn 3 [false] ((ir_lissq5 k0).sem Φ)
def ir_lpairfault : Ss := (.cons (.ite (.cmp .ne (.b1 .tuple (.ix (.ix (.v 0) (.v 1)) (.v 2))) (.b1 .tuple (.ix (.ix (.v 0) (.v 2)) (.v 1)))) (.cons (.ret (.ofE (.tup (.cons (.str "unlike") (.cons (.v 1) (.cons (.v 2) .nil)))))) .nil) .nil) (.cons (.ite (.cmp .lt (.ix (.ix (.ix (.v 0) (.v 1)) (.v 2)) (.int 0)) (.int 1)) (.cons (.ret (.ofE (.tup (.cons (.str "small") (.cons (.v 1) (.cons (.v 2) .nil)))))) .nil) .nil) (.cons (.ret (.ofE .non)) .nil)))
noncomputable def fn_lpairfault (Φ : Tab) : Fn := mkFn 3 [false, false, false] ((ir_lpairfault).sem Φ)
def ir_lfault (k0 : Nat) (k1 : Nat) (k2 : Nat) (k3 : Nat) : Ss := (.cons (.ite (.not (.tru (.ofF (.call k0 (.e (.v 0) .nil))))) (.cons (.ret (.ofE (.tup (.cons (.str "form") .nil)))) .nil) .nil) (.cons (.set 1 (.ofE (.b1 .len (.v 0)))) (.cons (.loop (.name 2) (.range1 (.v 1)) (.cons (.ite (.cmp .ne (.ix (.ix (.ix (.v 0) (.v 2)) (.v 2)) (.int 0)) (.int 0)) (.cons (.ret (.ofE (.tup (.cons (.str "self") (.cons (.v 2) .nil))))) .nil) .nil) .nil)) (.cons (.set 3 (.lst .nil)) (.cons (.loop (.name 2) (.range1 (.v 1)) (.cons (.set 3 (.add (.v 3) (.ofF (.comp (.name 4) (.range2 (.ofF (.add (.v 2) (.int 1))) (.v 1)) .nil (.call k1 (.e (.v 0) (.e (.v 2) (.e (.v 4) .nil)))) [4])))) .nil)) (.cons (.set 3 (.comp (.name 5) (.seq (.v 3)) (.one (.isN true (.v 5))) (.ofE (.v 5)) [5])) (.cons (.ite (.cmp .ne (.v 3) (.ofF (.lst .nil))) (.cons (.ret (.ofE (.ix (.v 3) (.int 0)))) .nil) .nil) (.cons (.loop (.name 2) (.range1 (.v 1)) (.cons (.loop (.name 4) (.range2 (.ofF (.add (.v 2) (.int 1))) (.v 1)) (.cons (.loop (.name 6) (.seq (.ofF (.comp (.name 6) (.range1 (.v 1)) (.one (.cmp .nmem (.v 6) (.tup (.cons (.v 2) (.cons (.v 4) .nil))))) (.ofE (.v 6)) [6]))) (.cons (.set 7 (.call k2 (.e (.ix (.ix (.v 0) (.v 2)) (.v 6)) (.e (.ix (.ix (.v 0) (.v 6)) (.v 4)) .nil)))) (.cons (.ite (.cmp .gt (.ofF (.call k3 (.e (.ix (.ix (.v 0) (.v 2)) (.v 4)) (.e (.v 7) .nil)))) (.int 0)) (.cons (.ret (.ofE (.tup (.cons (.str "nearer") (.cons (.v 2) (.cons (.v 4) (.cons (.v 6) .nil))))))) .nil) .nil) .nil))) .nil)) .nil)) (.cons (.ret (.ofE .non)) .nil)))))))))
noncomputable def fn_lfault (Φ : Tab) (k0 : Nat) (k1 : Nat) (k2 : Nat) (k3 : Nat) : Fn := mkFn 8 [false] ((ir_lfault k0 k1 k2 k3).sem Φ)
def ir_square5 (k0 : Nat) (k1 : Nat) : Ss := (.cons (.set 2 (.add (.int 1) (.ofF (.call k0 (.r 0 (.e (.int 20) .nil)))))) (.cons (.set 3 (.add (.int 1) (.ofF (.call k0 (.r 0 (.e (.int 9) .nil)))))) (.cons (.set 4 (.comp (.name 7) (.range1 (.v 1)) .nil (.mul (.ofF (.lst (.cons (.ofE (.tup (.cons (.int 0) (.cons (.int 1) .nil)))) .nil))) (.v 1)) [7])) (.cons (.loop (.name 5) (.range1 (.v 1)) (.cons (.loop (.name 6) (.range1 (.v 5)) (.cons (.set 8 (.call k1 (.e (.ofF (.add (.v 2) (.ofF (.call k0 (.r 0 (.e (.ofF (.add (.v 2) (.int 1))) .nil)))))) (.e (.v 3) .nil)))) (.cons (.storeP (.ix (.v 4) (.v 5)) (.v 6) (.ofE (.v 8))) (.cons (.storeP (.ix (.v 4) (.v 6)) (.v 5) (.ofE (.v 8))) .nil)))) .nil)) (.cons (.ret (.mv 4)) .nil)))))
noncomputable def fn_square5 (Φ : Tab) (k0 : Nat) (k1 : Nat) : Fn := mkFn 9 [true, false] ((ir_square5 k0 k1).sem Φ)
def ir_put5 : Ss := (.cons (.set 4 (.comp (.name 5) (.seq (.v 0)) .nil (.list (.v 5)) [5])) (.cons (.storeP (.ix (.v 4) (.v 1)) (.v 2) (.ofE (.v 3))) (.cons (.ret (.mv 4)) .nil)))
noncomputable def fn_put5 (Φ : Tab) : Fn := mkFn 6 [false, false, false, false] ((ir_put5).sem Φ)
def ir_deep5 : Ss := (.cons (.loop (.name 1) (.range1 (.int 38)) (.cons (.set 0 (.ofE (.ix (.ofF (.lst (.cons (.lst (.cons (.ofE (.v 0)) .nil)) (.cons (.ofE (.tup (.cons (.v 0) .nil))) .nil)))) (.op .mod (.v 1) (.int 2))))) .nil)) (.cons (.ret (.ofE (.v 0))) .nil))
noncomputable def fn_deep5 (Φ : Tab) : Fn := mkFn 2 [false] ((ir_deep5).sem Φ)
section
variable {Φ : Tab} {k k0 k1 k2 k3 g0 : Nat} {f f0 f1 f2 f3 : Fn} {ρ : Tr.Env} {d e : D} {n : Nat}
/-- a loop that answers the first thing found -/
theorem loop_find {α : Type} {xs : List α} {c : α → D} {asg : D → Tr.Env → Option Tr.Env} {body : Tr.Env → R Fl} {Q : Fl → Tr.Env → Prop} {ρ : Tr.Env} (F : α → Option D) (I : Tr.Env → Prop) (h0 : I ρ)
    (st : ∀ x ∈ xs, ∀ ρ, I ρ → ∃ ρ1, asg (c x) ρ = some ρ1 ∧ (body ρ1).wp fun fl ρ2 => match fl with
      | .nx => F x = none ∧ I ρ2 | .ct => F x = none ∧ I ρ2 | .brk => False | .ret o => ∃ d, F x = some d ∧ (xs.findSome? F = some d → Q (.ret o) ρ2))
    (fin : ∀ ρ, xs.findSome? F = none → I ρ → Q .nx ρ) : (loopL asg body (xs.map c) ρ).wp Q := by
  refine loopM (c := c) (xs := xs) (fun i ρ => (∀ x ∈ xs.take i, F x = none) ∧ I ρ) ⟨by simp, h0⟩ ?_ ?_
  · rintro i x ρ he ⟨ha, hI⟩
    obtain ⟨ρ1, e1, h1⟩ := st x (List.mem_of_getElem? he) ρ hI
    have key : F x = none → ∀ y ∈ xs.take (i + 1), F y = none := fun hx y hy => by
      rw [show xs.take (i + 1) = xs.take i ++ [x] by rw [List.take_succ, he]; rfl] at hy
      rcases List.mem_append.mp hy with hy | hy
      · exact ha y hy
      · rw [List.mem_singleton.mp hy]; exact hx
    refine ⟨ρ1, e1, R.wp_mono h1 fun fl ρ2 h2 => ?_⟩
    cases fl with
    | nx => exact ⟨key h2.1, h2.2⟩
    | ct => exact ⟨key h2.1, h2.2⟩
    | brk => exact h2.elim
    | ret o =>
      obtain ⟨d, hd, q⟩ := h2
      refine q ?_
      have hx : xs = xs.take i ++ x :: xs.drop (i + 1) := by
        conv => lhs; rw [← List.take_append_drop i xs]
        rw [List.drop_eq_getElem_cons (List.getElem?_eq_some_iff.mp he).1, (List.getElem?_eq_some_iff.mp he).2]
      rw [hx, List.findSome?_append, List.findSome?_eq_none_iff.mpr ha]
      simp [hd]
  · rintro ρ ⟨ha, hI⟩
    rw [List.take_length] at ha
    exact fin ρ (List.findSome?_eq_none_iff.mpr ha) hI
def sqB (d : D) : Bool := match itemsD d with
  | some l => decide (l.length ≤ 20) && l.all fun r => isPlB r l.length
  | none => false
theorem fr_of_B {d : D} (h : isFrB d = true) (hs : d.showable = true) : Fr 1921 d := by
  unfold isFrB at h
  split at h
  · rename_i a b hi
    simp only [Bool.and_eq_true, decide_eq_true_eq] at h
    obtain ⟨hb, hg⟩ := h
    obtain ⟨m, rfl⟩ : ∃ m : Nat, b = m := ⟨b.toNat, by omega⟩
    have e : Rat.divInt a m = ⟨a, m, by omega, by simpa [Int.gcd] using hg⟩ := by
      rw [Rat.divInt_ofNat]
      exact (Rat.mkRat_eq_iff (by omega) (by omega)).mpr rfl |>.trans (Rat.mkRat_self ⟨a, m, by omega, by simpa [Int.gcd] using hg⟩) |> fun h => h
    have ev : valR d = ⟨a, m, by omega, by simpa [Int.gcd] using hg⟩ := by
      unfold valR
      rw [hi]
      exact e
    have hsh : PyData.showable (.int a) = true ∧ PyData.showable (.int (m : Int)) = true := by
      cases d <;> simp only [itemsD, reduceCtorEq, Option.some.injEq] at hi
      all_goals
        subst hi
        simpa [PyData.showable, PyData.showableAll] using hs
    refine ⟨?_, ?_⟩
    · rw [ev]
      cases d <;> simp only [itemsD, reduceCtorEq, Option.some.injEq] at hi
      · subst hi; exact .inr rfl
      · subst hi; exact .inl rfl
    · rw [ev]
      have h1 : a.natAbs.log2 < 1920 := by simpa [PyData.showable] using hsh.1
      have h2 : m.log2 < 1920 := by simpa [PyData.showable] using hsh.2
      refine ⟨?_, ?_⟩
      · show a.natAbs < 2 ^ 1921
        by_cases h0 : a.natAbs = 0
        · rw [h0]; exact Nat.two_pow_pos _
        · exact (Nat.log2_lt h0).mp (by omega)
      · show m < 2 ^ 1921
        exact (Nat.log2_lt (by omega)).mp (by omega)
  · cases h
theorem show_items {d : D} {l : List D} (hi : itemsD d = some l) (hs : d.showable = true) : ∀ x ∈ l, x.showable = true := by
  have all : ∀ {l : List D}, PyData.showableAll l = true → ∀ x ∈ l, x.showable = true := by
    intro l
    induction l with
    | nil => simp
    | cons a l ih =>
      intro h x hx
      simp only [PyData.showableAll, Bool.and_eq_true] at h
      rcases List.mem_cons.mp hx with rfl | hx
      · exact h.1
      · exact ih h.2 x hx
  cases d <;> simp only [itemsD, reduceCtorEq, Option.some.injEq] at hi
  · subst hi; exact all (by simpa [PyData.showable] using hs)
  · subst hi; exact all (by simpa [PyData.showable] using hs)
theorem sq_cases (h : sqB d = true) (hs : d.showable = true) : ∃ n, n ≤ 20 ∧ Sqr 1921 n d := by
  unfold sqB at h
  split at h
  · rename_i l hi
    simp only [Bool.and_eq_true, decide_eq_true_eq, List.all_eq_true] at h
    refine ⟨l.length, h.1, tab_of hi rfl fun r hr => ?_⟩
    have h2 := h.2 r hr
    have sr := show_items hi hs r hr
    unfold isPlB at h2
    split at h2
    · rename_i m hm
      simp only [Bool.and_eq_true, decide_eq_true_eq, List.all_eq_true] at h2
      exact row_of hm (by omega) fun x hx => fr_of_B (h2.2 x hx) (show_items hm sr x hx)
    · cases h2
  · cases h
def fT (s : Str) (l : List Nat) : D := .tuple (.str s :: l.map fun (i : Nat) => .int (i : Int))
def self1 (g : Nat → Nat → Rat) (i : Nat) : Option D := if g i i ≠ 0 then some (fT "self" [i]) else none
def selfF (n : Nat) (g : Nat → Nat → Rat) : Option D := (List.range n).findSome? (self1 g)
def pairF (g : Nat → Nat → Rat) (p : Nat × Nat) : Option D := if g p.1 p.2 ≠ g p.2 p.1 then some (fT "unlike" [p.1, p.2]) else if g p.1 p.2 ≤ 0 then some (fT "small" [p.1, p.2]) else none
def wayF (n : Nat) (g : Nat → Nat → Rat) (p : Nat × Nat) : Option D := (List.range n).findSome? fun k => if (k ≠ p.1 ∧ k ≠ p.2) ∧ g p.1 k + g k p.2 < g p.1 p.2 then some (fT "nearer" [p.1, p.2, k]) else none
def faultO (n : Nat) (g : Nat → Nat → Rat) : Option D := (selfF n g).or (((pairsL n).findSome? (pairF g)).or ((pairsL n).findSome? (wayF n g)))
def lenD (d : D) : Nat := match itemsD d with
  | some l => l.length
  | none => 0
/-- the first fault -/
def faultD (d : D) : D := if sqB d then (faultO (lenD d) (cel d)).getD .none else fT "form" []
end
end Lib
namespace Lib
open PySem Tr
section
variable {Φ : Tab} {k k0 k1 k2 k3 g0 : Nat} {f f0 f1 f2 f3 : Fn} {ρ : Tr.Env} {d e : D} {n : Nat}
structure SpPl (f : Fn) : Prop where
  modes : f.modes = [false, false]
  eq : ∀ {d : D} {m : Int}, f.run [.frz d, .frz (.int m)] = .ok (.frz (.bool (isPlB d m))) []
theorem SpPl.cl (s : SpPl f) (hf : Φ.fn[k]? = some f) {m : Int} : callF Φ k [.d d, .d (.int m)] ρ = .ok (.frz (.bool (isPlB d m))) ρ := call_eq hf s.modes rfl rfl rfl s.eq
theorem sp_pl (h0 : Φ.fn[k0]? = some f0) (s0 : SpB1 isRowB f0) (h1 : Φ.fn[k1]? = some f1) (s1 : SpB1 isFrB f1) : SpPl (fn_isplaces Φ k0 k1) := ⟨rfl, sp_isplaces h0 s0 h1 s1⟩
theorem sp_issquare (h0 : Φ.fn[k0]? = some f0) (s0 : SpB1 isRowB f0) (h1 : Φ.fn[k1]? = some f1) (s1 : SpPl f1) (hg : Φ.gl[g0]? = some (.int 20)) : SpB1 sqB (fn_issquare Φ k0 k1 g0) := ⟨rfl, fun {d} => run_eq (by
  unfold fn_issquare
  rw [fn_wp]
  refine ⟨rfl, ?_⟩
  simp [ir_issquare, s0.cl h0, hg]
  by_cases hr : isRowB d = true
  · obtain ⟨l, hi, hle⟩ := row_cases hr
    simp [hr, hle, hi]
    refine ⟨fun h20 => ?_, fun h20 => ?_⟩
    · unfold sqB
      rw [hi]
      simp
      exact fun h => absurd h (by omega)
    · refine loop_all (fun r => isPlB r l.length) (fun ρ => ∃ x1, ρ = [some (.frz d), x1]) ⟨none, rfl⟩ ?_ ?_
      · rintro x hx ρ ⟨x1, rfl⟩
        refine ⟨_, rfl, ?_⟩
        simp [hle, s1.cl h1]
        refine fun hb => ⟨hb, fun ha => ?_⟩
        unfold sqB
        rw [hi]
        simp only [ha.no, Bool.and_false]
      · rintro ρ hall ⟨x1, rfl⟩
        simp
        unfold sqB
        rw [hi]
        simp only [hall, Bool.and_true]
        exact decide_eq_true (by omega)
  · have hi : itemsD d = none := by simpa [isRowB] using hr
    simp [hr]
    unfold sqB
    rw [hi])⟩
theorem sp_lisfr5 (h0 : Φ.fn[k0]? = some f0) (s0 : SpCommon f0) : SpB1 isFrB (fn_lisfr5 Φ k0) := ⟨rfl, fun {d} => run_eq (by
  unfold fn_lisfr5
  rw [fn_wp]
  refine ⟨rfl, ?_⟩
  simp [ir_lisfr5, isRow_any]
  by_cases hr : isRowB d = true
  · obtain ⟨l, hi, hle⟩ := row_cases hr
    have hx := fun i => ixD_items hi i
    have hk : isK d .list = true ∨ isK d .tuple = true := by cases d <;> first | (simp [itemsD] at hi; done) | (exact .inl rfl) | exact .inr rfl
    have hnk : isK d .list = false → isK d .tuple = true := fun h => hk.resolve_left (by simp [h])
    simp [hle, hi]
    refine ⟨fun h1 h2 => absurd (hnk h1) (by simp [h2]), fun _ => ⟨fun h2 => ?_, fun h2 => ?_⟩⟩
    · unfold isFrB
      rw [hi]
      split
      · rename_i a b e
        cases e
        simp at h2
      · rfl
    · obtain ⟨x, y, rfl⟩ : ∃ x y, l = [x, y] := by
        match l, h2 with
        | [x, y], _ => exact ⟨x, y, rfl⟩
      have e0 := hx 0
      have e1 := hx 1
      simp at e0 e1
      refine loop_all isWhB (fun ρ => ∃ x1, ρ = [some (.frz d), x1]) ⟨none, rfl⟩ ?_ ?_
      · rintro z hz ρ ⟨x1, rfl⟩
        refine ⟨_, rfl, ?_⟩
        have no : isWhB z = false → NotAll isWhB [x, y] → isFrB d = false := fun _ ha => by
          have := ha.no
          unfold isFrB
          rw [hi]
          split
          · rename_i a b e
            cases e
            simp [isWhB] at this
          · rfl
        cases z <;> simp [isK, isWhB] at no ⊢ <;> exact no
      · rintro ρ hall ⟨x1, rfl⟩
        simp only [List.all_cons, List.all_nil, Bool.and_true, Bool.and_eq_true] at hall
        obtain ⟨a, rfl⟩ := wh_cases hall.1
        obtain ⟨b, rfl⟩ := wh_cases hall.2
        simp [e0, e1, s0.cl h0]
        unfold isFrB
        rw [hi]
        refine ⟨fun hb => ?_, fun hb => ?_⟩
        · simp only [decide_eq_true (show 1 ≤ b by omega), Bool.true_and]
          congr 1
          simp
          omega
        · simp only [decide_eq_false (show ¬ 1 ≤ b by omega), Bool.false_and]
  · have hi : itemsD d = none := by simpa [isRowB] using hr
    have hk1 : isK d .list = false := by cases d <;> first | rfl | simp [itemsD] at hi
    have hk2 : isK d .tuple = false := by cases d <;> first | rfl | simp [itemsD] at hi
    simp [hk1, hk2]
    unfold isFrB
    rw [hi])⟩
theorem isRow_or {d : D} : (isK d .list || isK d .tuple) = isRowB d := by cases d <;> rfl
theorem sp_lissq5 (h0 : Φ.fn[k0]? = some f0) (s0 : SpB1 isFrB f0) : SpB1 sqB (fn_lissq5 Φ k0) := ⟨rfl, fun {d} => run_eq (by
  unfold fn_lissq5
  rw [fn_wp]
  refine ⟨rfl, ?_⟩
  simp [ir_lissq5]
  by_cases hr : isRowB d = true
  · obtain ⟨l, hi, hle⟩ := row_cases hr
    have hk : isK d .list = true ∨ isK d .tuple = true := by cases d <;> first | (simp [itemsD] at hi; done) | (exact .inl rfl) | exact .inr rfl
    have hnk : isK d .list = false → isK d .tuple = true := fun h => hk.resolve_left (by simp [h])
    simp [hle, hi]
    refine ⟨fun h1 h2 => absurd (hnk h1) (by simp [h2]), fun _ => ⟨fun h20 => ?_, fun h20 => ?_⟩⟩
    · unfold sqB
      rw [hi]
      simp
      exact fun h => absurd h (by omega)
    · refine loop_all (fun r => isPlB r l.length) (fun ρ => ∃ x1 x2, ρ = [some (.frz d), x1, x2]) ⟨none, none, rfl⟩ ?_ ?_
      · rintro x hx ρ ⟨x1, x2, rfl⟩
        refine ⟨_, rfl, ?_⟩
        have no : NotAll (fun r => isPlB r l.length) l → sqB d = false := fun ha => by
          unfold sqB
          rw [hi]
          simp only [ha.no, Bool.and_false]
        cases hxi : itemsD x with
        | none =>
          have k1 : isK x .list = false := by cases x <;> first | rfl | simp [itemsD] at hxi
          have k2 : isK x .tuple = false := by cases x <;> first | rfl | simp [itemsD] at hxi
          simp [k1, k2]
          exact ⟨by unfold isPlB; rw [hxi], no⟩
        | some m =>
          have hml := len_items hxi
          have k1 : isK x .list = true ∨ isK x .tuple = true := by cases x <;> first | (simp [itemsD] at hxi; done) | (exact .inl rfl) | exact .inr rfl
          have k2 : isK x .list = false → isK x .tuple = true := fun h => k1.resolve_left (by simp [h])
          simp [hml, hle, hxi]
          refine ⟨fun h1 h2 => absurd (k2 h1) (by simp [h2]), fun _ => ⟨fun hne => ?_, fun heq => ?_⟩⟩
          · refine ⟨?_, no⟩
            unfold isPlB
            rw [hxi]
            simp only [decide_eq_false hne, Bool.false_and]
          · refine comp_filtG (fun y => !isFrB y) (fun y => .frz y) (fun y hy => ⟨_, rfl, ?_⟩) ?_
            · simp [s0.cl h0]
            · have hml2 : (m.filter fun y => !isFrB y).length ≤ 16777216 := by
                have := List.length_filter_le (fun y => !isFrB y) m
                omega
              have ep : isPlB x l.length = m.all isFrB := by
                unfold isPlB
                rw [hxi]
                simp only [decide_eq_true heq, Bool.true_and]
              have ee : (m.filter fun y => !isFrB y).isEmpty = m.all isFrB := by
                rw [Bool.eq_iff_iff, List.isEmpty_iff, List.filter_eq_nil_iff, List.all_eq_true]
                simp
              have z1 : fzs ((m.filter fun y => !isFrB y).map fun y => O.frz y) = m.filter fun y => !isFrB y := fzs_comp.trans (List.map_id _)
              refine ⟨by rw [List.length_map]; exact hml2, cleans_comp, ?_⟩
              rw [z1, cmp_ne_emp, ee, ep]
              cases m.all isFrB with
              | true => simp
              | false => simp; exact no
      · rintro ρ hall ⟨x1, x2, rfl⟩
        simp
        unfold sqB
        rw [hi]
        simp only [hall, Bool.and_true]
        exact decide_eq_true (by omega)
  · have hi : itemsD d = none := by simpa [isRowB] using hr
    have hk1 : isK d .list = false := by cases d <;> first | rfl | simp [itemsD] at hi
    have hk2 : isK d .tuple = false := by cases d <;> first | rfl | simp [itemsD] at hi
    simp [hk1, hk2]
    unfold sqB
    rw [hi])⟩
structure SpPf (f : Fn) : Prop where
  modes : f.modes = [false, false, false]
  eq : ∀ {n : Nat} {d : D} {i j : Nat}, Sqr 1921 n d → i < n → j < n → f.run [.frz d, .frz (.int i), .frz (.int j)] = .ok (.frz ((pairF (cel d) (i, j)).getD .none)) []
theorem SpPf.cl (s : SpPf f) (hf : Φ.fn[k]? = some f) (hd : Sqr 1921 n d) {i j : Nat} (hi : i < n) (hj : j < n) : callF Φ k [.d d, .d (.int i), .d (.int j)] ρ = .ok (.frz ((pairF (cel d) (i, j)).getD .none)) ρ := call_eq hf s.modes rfl rfl rfl (s.eq hd hi hj)
theorem tuple_fr {n : Nat} {d : D} (h : Fr n d) : b1D .tuple d = some (frD (valR d)) := by
  rcases h.is with e | e
  · conv => lhs; rw [e]
    rfl
  · conv => lhs; rw [e]
    rfl
theorem num_le0 {q : Rat} : q.num ≤ 0 ↔ q ≤ 0 := by
  have := @num_pos' q
  constructor
  · intro h; have : ¬ 0 < q := fun x => by have := this.mpr x; omega
    grind
  · intro h
    have h2 : ¬ 0 < q.num := fun x => by have := this.mp x; grind
    omega
theorem pair_calc {i j : Nat} :
    (¬valR (subD (subD d i) j) = valR (subD (subD d j) i) → PyData.tuple [.str (Str.ofString "unlike"), .int i, .int j] = (pairF (cel d) (i, j)).getD .none) ∧
    (valR (subD (subD d i) j) = valR (subD (subD d j) i) → ((valR (subD (subD d i) j)).num ≤ 0 → PyData.tuple [.str (Str.ofString "small"), .int i, .int j] = (pairF (cel d) (i, j)).getD .none) ∧
        (0 < (valR (subD (subD d i) j)).num → PyData.none = (pairF (cel d) (i, j)).getD .none)) := by
  unfold pairF
  refine ⟨fun h => ?_, fun h => ⟨fun h2 => ?_, fun h2 => ?_⟩⟩
  · rw [if_pos (show cel d i j ≠ cel d j i from h)]; rfl
  · rw [if_neg (show ¬ cel d i j ≠ cel d j i from fun x => x h), if_pos (show cel d i j ≤ 0 from num_le0.mp h2)]; rfl
  · rw [if_neg (show ¬ cel d i j ≠ cel d j i from fun x => x h), if_neg (show ¬ cel d i j ≤ 0 from fun x => by have := num_le0.mpr x; unfold cel at *; omega)]; rfl
theorem sp_pairfault : SpPf (fn_pairfault Φ) := ⟨rfl, fun {n d i j} hd hi hj => run_eq (by
  unfold fn_pairfault
  rw [fn_wp]
  refine ⟨rfl, ?_⟩
  have f1 := hd.fr hi hj
  have f2 := hd.fr hj hi
  simp [ir_pairfault, hd.ix hi, hd.ix hj, hd.ix2 hi hj, hd.ix2 hj hi, tuple_fr f1, tuple_fr f2, cmp_ne_fr, f1.ix0]
  exact pair_calc)⟩
theorem sp_lpairfault : SpPf (fn_lpairfault Φ) := ⟨rfl, fun {n d i j} hd hi hj => run_eq (by
  unfold fn_lpairfault
  rw [fn_wp]
  refine ⟨rfl, ?_⟩
  have f1 := hd.fr hi hj
  have f2 := hd.fr hj hi
  simp [ir_lpairfault, hd.ix hi, hd.ix hj, hd.ix2 hi hj, hd.ix2 hj hi, tuple_fr f1, tuple_fr f2, cmp_ne_fr, f1.ix0]
  have h1 : ∀ z : Int, (z < 1 ↔ z ≤ 0) ∧ (1 ≤ z ↔ 0 < z) := fun z => ⟨by omega, by omega⟩
  simp only [h1]
  exact pair_calc)⟩

theorem cmp_nmem_two {a b c : Int} : cmpD .nmem (.int a) (.tuple [.int b, .int c]) = some (.bool (decide (a ≠ b ∧ a ≠ c))) := by
  have h : IsI (.tuple [.int b, .int c]) [b, c] := isI_T (l := [b, c])
  rw [cmp_nmem_I h]
  congr 2
  simp
theorem rng_map {n : Nat} : rng 0 n = (List.range n).map fun k : Nat => PyData.int (0 + (k : Int)) := rfl
structure SpWf (f : Fn) : Prop where
  modes : f.modes = [false, false, false]
  eq : ∀ {n : Nat} {d : D} {i j : Nat}, Sqr 1921 n d → n ≤ 20 → i < n → j < n → f.run [.frz d, .frz (.int i), .frz (.int j)] = .ok (.frz ((wayF n (cel d) (i, j)).getD .none)) []
theorem SpWf.cl (s : SpWf f) (hf : Φ.fn[k]? = some f) (hd : Sqr 1921 n d) (hn : n ≤ 20) {i j : Nat} (hi : i < n) (hj : j < n) : callF Φ k [.d d, .d (.int i), .d (.int j)] ρ = .ok (.frz ((wayF n (cel d) (i, j)).getD .none)) ρ := call_eq hf s.modes rfl rfl rfl (s.eq hd hn hi hj)
theorem sp_wayfault (h0 : Φ.fn[k0]? = some f0) (s0 : SpOrd f0) (h1 : Φ.fn[k1]? = some f1) (s1 : Sp2 (fun p q => p + q) any2 f1) : SpWf (fn_wayfault Φ k0 k1) := ⟨rfl, fun {n d i j} hd hn hi hj => run_eq (by
  unfold fn_wayfault
  rw [fn_wp]
  refine ⟨rfl, ?_⟩
  simp [ir_wayfault, hd.len]
  refine ⟨inR (by omega), ?_⟩
  rw [rng_map]
  refine loop_find (fun k => if (k ≠ i ∧ k ≠ j) ∧ cel d i k + cel d k j < cel d i j then some (fT "nearer" [i, j, k]) else none) (fun ρ => ∃ x3, ρ = [some (.frz d), some (.frz (.int i)), some (.frz (.int j)), x3]) ⟨none, rfl⟩ ?_ ?_
  · rintro x hx ρ ⟨x3, rfl⟩
    have hx := List.mem_range.mp hx
    have w : ∀ {e : D}, Fr 1921 e → Fr 4000 e := fun h => h.mono (by decide)
    have c1 := fun ρ => s1.cl (ρ := ρ) h1 (w (hd.fr hi hx)) (w (hd.fr hx hj)) trivial
    have fs : Fr 4000 (frD (valR (subD (subD d i) x) + valR (subD (subD d x) j))) := fr_frD (((hd.fr hi hx).sz.add (hd.fr hx hj).sz).mono (by decide))
    have c2 := fun ρ => s0.cl (ρ := ρ) h0 (w (hd.fr hi hj)) fs
    refine ⟨_, rfl, ?_⟩
    simp [cmp_nmem_two, hd.ix hi, hd.ix hx, hd.ix2 hi hj, hd.ix2 hi hx, hd.ix2 hx hj, c1, c2, valR_fr, ord_pos]
    refine ⟨fun h1 h2 => ⟨fun h3 => ⟨_, ⟨⟨⟨by omega, by omega⟩, h3⟩, rfl⟩, fun hs => ?_⟩, fun h3 _ _ => h3⟩, fun h1 h2 h3 => absurd (h1 (by omega)) (by omega)⟩
    rw [show wayF n (cel d) (i, j) = some _ from hs]
    rfl
  · rintro ρ hf ⟨x3, rfl⟩
    simp
    unfold wayF
    rw [hf]
    rfl)⟩
/-- what a look for faults tells -/
structure SpFault (f : Fn) : Prop where
  modes : f.modes = [false]
  eq : ∀ {d : D}, d.showable = true → f.run [.frz d] = .ok (.frz (faultD d)) []
theorem SpFault.cl (s : SpFault f) (hf : Φ.fn[k]? = some f) (h : d.showable = true) : callF Φ k [.d d] ρ = .ok (.frz (faultD d)) ρ := call_eq hf s.modes rfl rfl rfl (s.eq h)
theorem Sqr.lenD {B n : Nat} {d : D} (h : Sqr B n d) : lenD d = n := by
  unfold Lib.lenD
  rw [h.items]
  simp
theorem fault_sq {n : Nat} {d : D} (h : sqB d = true) (hd : Sqr 1921 n d) : faultD d = (faultO n (cel d)).getD .none := by
  unfold faultD
  rw [h, if_pos rfl, hd.lenD]
theorem or_getD {α : Type} {a b : Option α} {x : α} (h : a = none) : (a.or b).getD x = b.getD x := by rw [h]; rfl
theorem isN_fT {s : Str} {l : List Nat} : isNoneD (fT s l) = false := rfl
theorem pairF_ne {g : Nat → Nat → Rat} {p : Nat × Nat} {x : D} (h : pairF g p = some x) : isNoneD x = false := by
  unfold pairF at h
  split at h
  · cases h; rfl
  · split at h
    · cases h; rfl
    · cases h
theorem wayF_ne {n : Nat} {g : Nat → Nat → Rat} {p : Nat × Nat} {x : D} (h : wayF n g p = some x) : isNoneD x = false := by
  unfold wayF at h
  obtain ⟨k, _, h⟩ := List.exists_of_findSome?_eq_some h
  split at h
  · cases h; rfl
  · cases h
structure NoF (o : Option D) : Prop where
  no : o = none
theorem self_calc {n x : Nat} : (¬valR (subD (subD d x) x) = 0 → ∃ e, self1 (cel d) x = some e ∧ ((List.range n).findSome? (self1 (cel d)) = some e → PyData.tuple [.str (Str.ofString "self"), .int x] = (faultO n (cel d)).getD .none)) ∧
    (valR (subD (subD d x) x) = 0 → self1 (cel d) x = none) := by
  refine ⟨fun h => ⟨_, if_pos h, fun hs => ?_⟩, fun h => if_neg fun x => x h⟩
  unfold faultO selfF
  rw [hs]
  rfl
theorem sp_fault (h0 : Φ.fn[k0]? = some f0) (s0 : SpB1 sqB f0) (h1 : Φ.fn[k1]? = some f1) (s1 : SpPairs f1) (h2 : Φ.fn[k2]? = some f2) (s2 : SpPf f2) (h3 : Φ.fn[k3]? = some f3) (s3 : SpWf f3) : SpFault (fn_fault Φ k0 k1 k2 k3) := ⟨rfl, fun {d} hs => run_eq (by
  unfold fn_fault
  rw [fn_wp]
  refine ⟨rfl, ?_⟩
  simp [ir_fault, s0.cl h0, -wst_loop]
  refine ⟨fun h => ?_, fun h => ?_⟩
  · unfold faultD
    rw [h]
    rfl
  · obtain ⟨n, hn, hd⟩ := sq_cases h hs
    rw [fault_sq h hd]
    simp [hd.len]
    refine ⟨inR (by omega), ?_⟩
    rw [rng_map]
    refine loop_find (self1 (cel d)) (fun ρ => ∃ x1 x2 x3 x4, ρ = [some (.frz d), x1, x2, x3, x4]) ⟨none, none, none, none, rfl⟩ ?_ ?_
    · rintro x hx ρ ⟨x1, x2, x3, x4, rfl⟩
      have hx := List.mem_range.mp hx
      refine ⟨_, rfl, ?_⟩
      simp [hd.ix hx, hd.ix2 hx hx, (hd.fr hx hx).ix0]
      exact self_calc
    · rintro ρ hf ⟨x1, x2, x3, x4, rfl⟩
      have e1 : faultO n (cel d) = ((pairsL n).findSome? (pairF (cel d))).or ((pairsL n).findSome? (wayF n (cel d))) := by
        unfold faultO selfF
        rw [hf]
        rfl
      simp [hd.len, s1.cl h1 (show n ≤ 1000 by omega), -wst_loop]
      refine cutR (fun ρ => ∃ x1 x3 x4, NoF ((pairsL n).findSome? (pairF (cel d))) ∧ ρ = [some (.frz d), x1, some (.frz (.list ((pairsL n).map prD))), x3, x4]) ?_ ?_
      · simp
        refine loop_find (pairF (cel d)) (fun ρ => ∃ x1 x3 x4, ρ = [some (.frz d), x1, some (.frz (.list ((pairsL n).map prD))), x3, x4]) ⟨_, _, _, rfl⟩ ?_ ?_
        · rintro p hp ρ ⟨x1, x3, x4, rfl⟩
          have hp := mem_pairs.mp hp
          refine ⟨_, rfl, ?_⟩
          have c2 := fun ρ => s2.cl (ρ := ρ) h2 hd (show p.1 < n by omega) (show p.2 < n by omega)
          simp [c2]
          cases e : pairF (cel d) p with
          | none => simp [isNoneD]
          | some x =>
            have hx := pairF_ne e
            simp [hx]
            intro hs
            rw [e1, hs]
            rfl
        · rintro ρ hf2 ⟨x1, x3, x4, rfl⟩
          exact ⟨⟨hf2⟩, _, _, _, rfl⟩
      · rintro ρ ⟨x1, x3, x4, ⟨hf2⟩, rfl⟩
        rw [hf2] at e1
        simp [-wst_loop]
        refine cutR (fun ρ => NoF ((pairsL n).findSome? (wayF n (cel d)))) ?_ ?_
        · simp
          refine loop_find (wayF n (cel d)) (fun ρ => ∃ x1 x3 x4, ρ = [some (.frz d), x1, some (.frz (.list ((pairsL n).map prD))), x3, x4]) ⟨_, _, _, rfl⟩ ?_ ?_
          · rintro p hp ρ ⟨x1, x3, x4, rfl⟩
            have hp := mem_pairs.mp hp
            refine ⟨_, rfl, ?_⟩
            have c2 := fun ρ => s3.cl (ρ := ρ) h3 hd hn (show p.1 < n by omega) (show p.2 < n by omega)
            simp [c2]
            cases e : wayF n (cel d) p with
            | none => simp [isNoneD]
            | some x =>
              have hx := wayF_ne e
              simp [hx]
              intro hs
              rw [e1, hs]
              rfl
          · rintro ρ hf3 ⟨x1, x3, x4, rfl⟩
            exact ⟨hf3⟩
        · rintro ρ ⟨hf3⟩
          rw [hf3] at e1
          simp [e1])⟩
theorem sp_lorder5 : SpOrd (fn_lorder5 Φ) := ⟨rfl, fun {d e} hd he => run_eq (by
  unfold fn_lorder5
  rw [fn_wp]
  refine ⟨rfl, ?_⟩
  have h1 := m_ok hd.sz.bn he.sz.bd
  have h2 := m_ok he.sz.bn hd.sz.bd
  simp at h1 h2
  simp [ir_lorder5, hd.ix0, hd.ix1, he.ix0, he.ix1, h1, h2]
  have e1 := Rat.lt_iff (valR d) (valR e)
  have e2 := Rat.lt_iff (valR e) (valR d)
  unfold ordI
  by_cases c1 : valR d < valR e
  · have := e1.mp c1
    rw [if_pos c1, if_neg (by omega), if_pos (by omega)]
    rfl
  · rw [if_neg c1]
    by_cases c2 : valR e < valR d
    · have := e2.mp c2
      rw [if_pos c2, if_pos (by omega), if_neg (by omega)]
      rfl
    · have k1 := mt e1.mpr c1
      have k2 := mt e2.mpr c2
      rw [if_neg c2, if_neg (by omega), if_neg (by omega)]
      rfl)⟩
def prowL (n i : Nat) : List (Nat × Nat) := (List.range (n - (i + 1))).map fun k => (i, i + 1 + k)
def preL (n i : Nat) : List (Nat × Nat) := (List.range i).flatMap (prowL n)
theorem preL_succ (n i : Nat) : preL n (i + 1) = preL n i ++ prowL n i := by simp [preL, List.range_succ]
theorem preL_all (n : Nat) : preL n n = pairsL n := rfl
theorem preL_len (n i : Nat) : (preL n i).length ≤ i * n := by
  induction i with
  | zero => simp [preL]
  | succ i ih =>
    rw [preL_succ, List.length_append, Nat.succ_mul]
    simp only [prowL, List.length_map, List.length_range]
    omega
def pfL (g : Nat → Nat → Rat) (ps : List (Nat × Nat)) : List D := ps.map fun p => (pairF g p).getD .none
theorem pfL_len {g : Nat → Nat → Rat} {ps : List (Nat × Nat)} : (pfL g ps).length = ps.length := by simp [pfL]
theorem pfL_app {g : Nat → Nat → Rat} {ps qs : List (Nat × Nat)} : pfL g (ps ++ qs) = pfL g ps ++ pfL g qs := by simp [pfL]
theorem pfL_flt {g : Nat → Nat → Rat} {ps : List (Nat × Nat)} : (pfL g ps).filter (fun d => !isNoneD d) = ps.filterMap (pairF g) := by
  induction ps with
  | nil => rfl
  | cons p ps ih =>
    rw [pfL, List.map_cons, List.filter_cons, List.filterMap_cons]
    unfold pfL at ih
    cases e : pairF g p with
    | none => simpa [isNoneD] using ih
    | some x => simp [pairF_ne e, ih]
theorem find_flat {α β : Type} {f : α → List β} {F : β → Option D} : ∀ {l : List α}, (l.flatMap f).findSome? F = l.findSome? fun x => (f x).findSome? F
  | [] => rfl
  | a :: l => by
    rw [List.flatMap_cons, List.findSome?_append, find_flat (l := l), List.findSome?_cons]
    cases (f a).findSome? F <;> rfl
/-- the first fault by way of a third thing of a row's pairs -/
def rowW (n : Nat) (g : Nat → Nat → Rat) (i : Nat) : Option D := (prowL n i).findSome? (wayF n g)
theorem rowW_eq {n : Nat} {g : Nat → Nat → Rat} {i : Nat} : rowW n g i = (List.range (n - (i + 1))).findSome? fun k => wayF n g (i, i + 1 + k) := by
  unfold rowW prowL
  rw [List.findSome?_map]
  rfl
def way1 (g : Nat → Nat → Rat) (i j k : Nat) : Option D := if g i k + g k j < g i j then some (fT "nearer" [i, j, k]) else none
def othL (n i j : Nat) : List Nat := (List.range n).filter fun k => decide (k ≠ i ∧ k ≠ j)
theorem way1_eq {n : Nat} {g : Nat → Nat → Rat} {i j : Nat} : (othL n i j).findSome? (way1 g i j) = wayF n g (i, j) := by
  unfold wayF othL
  generalize List.range n = l
  induction l with
  | nil => rfl
  | cons a l ih =>
    rw [List.filter_cons, List.findSome?_cons]
    by_cases h : a ≠ i ∧ a ≠ j
    · rw [if_pos (decide_eq_true h), List.findSome?_cons, ih]
      unfold way1
      by_cases h2 : g i a + g a j < g i j
      · rw [if_pos h2, if_pos ⟨h, h2⟩]
      · rw [if_neg h2, if_neg (fun x => h2 x.2)]
    · rw [if_neg (by simpa using h), ih, if_neg (fun x => h x.1)]
theorem sp_lfault (h0 : Φ.fn[k0]? = some f0) (s0 : SpB1 sqB f0) (h1 : Φ.fn[k1]? = some f1) (s1 : SpPf f1) (h2 : Φ.fn[k2]? = some f2) (s2 : Sp2 (fun p q => p + q) any2 f2) (h3 : Φ.fn[k3]? = some f3) (s3 : SpOrd f3) : SpFault (fn_lfault Φ k0 k1 k2 k3) := ⟨rfl, fun {d} hs => run_eq (by
  unfold fn_lfault
  rw [fn_wp]
  refine ⟨rfl, ?_⟩
  simp [ir_lfault, s0.cl h0, -wst_loop]
  refine ⟨fun h => ?_, fun h => ?_⟩
  · unfold faultD
    rw [h]
    rfl
  · obtain ⟨n, hn, hd⟩ := sq_cases h hs
    rw [fault_sq h hd]
    simp [hd.len, -wst_loop]
    refine cutR (fun ρ => ∃ x2 x3 x4 x5 x6 x7, NoF (selfF n (cel d)) ∧ ρ = [some (.frz d), some (.frz (.int n)), x2, x3, x4, x5, x6, x7]) ?_ ?_
    · simp
      refine ⟨inR (by omega), ?_⟩
      rw [rng_map]
      refine loop_find (self1 (cel d)) (fun ρ => ∃ x2 x3 x4 x5 x6 x7, ρ = [some (.frz d), some (.frz (.int n)), x2, x3, x4, x5, x6, x7]) ⟨_, _, _, _, _, _, rfl⟩ ?_ ?_
      · rintro x hx ρ ⟨x2, x3, x4, x5, x6, x7, rfl⟩
        have hx := List.mem_range.mp hx
        refine ⟨_, rfl, ?_⟩
        simp [hd.ix hx, hd.ix2 hx hx, (hd.fr hx hx).ix0]
        exact self_calc
      · rintro ρ hf ⟨x2, x3, x4, x5, x6, x7, rfl⟩
        exact ⟨⟨hf⟩, _, _, _, _, _, _, rfl⟩
    · rintro ρ ⟨x2, x3, x4, x5, x6, x7, ⟨hf⟩, rfl⟩
      have e1 : faultO n (cel d) = ((pairsL n).findSome? (pairF (cel d))).or ((pairsL n).findSome? (wayF n (cel d))) := by
        unfold faultO
        rw [hf]
        rfl
      simp [-wst_loop]
      refine cutR (fun ρ => ∃ x2 x4 x5 x6 x7, ρ = [some (.frz d), some (.frz (.int n)), x2, some (.box ((pfL (cel d) (pairsL n)).map .frz)), x4, x5, x6, x7]) ?_ ?_
      · simp
        refine ⟨inR (by omega), ?_⟩
        rw [rng_map]
        refine loopM (c := fun k : Nat => PyData.int (0 + (k : Int))) (xs := List.range n) (fun i ρ => ∃ x2 x4 x5 x6 x7, ρ = [some (.frz d), some (.frz (.int n)), x2, some (.box ((pfL (cel d) (preL n i)).map .frz)), x4, x5, x6, x7]) ⟨_, _, _, _, _, rfl⟩ ?_ ?_
        · rintro i x ρ hx ⟨x2, x4, x5, x6, x7, rfl⟩
          obtain ⟨hi, rfl⟩ : i < n ∧ x = i := by
            obtain ⟨h1, h2⟩ := List.getElem?_eq_some_iff.mp hx
            simp at h1 h2
            exact ⟨h1, h2.symm⟩
          refine ⟨_, rfl, ?_⟩
          simp
          refine ⟨⟨inR (by omega), inR (by omega)⟩, ?_⟩
          have er : rng ((x : Int) + 1) (n - (x + 1)) = (List.range (n - (x + 1))).map fun k : Nat => PyData.int ((x : Int) + 1 + (k : Int)) := rfl
          have hp1 := preL_len n x
          have hp2 : x * n ≤ 20 * 20 := Nat.mul_le_mul (by omega) hn
          rw [er]
          refine comp_each (c := fun k : Nat => PyData.int ((x : Int) + 1 + (k : Int))) (fun k => .frz ((pairF (cel d) (x, x + 1 + k)).getD .none)) (fun k hk => ⟨_, rfl, ?_⟩) ?_
          · have hk := List.mem_range.mp hk
            have c1 := fun ρ => s1.cl (ρ := ρ) h1 hd (show x < n by omega) (show x + 1 + k < n by omega)
            have ec : ((x + 1 + k : Nat) : Int) = (x : Int) + 1 + (k : Int) := by omega
            rw [ec] at c1
            simp [c1]
          · have ef : fzs ((List.range (n - (x + 1))).map fun k => O.frz ((pairF (cel d) (x, x + 1 + k)).getD .none)) = pfL (cel d) (prowL n x) := by
              rw [fzs_comp]
              simp [pfL, prowL]
            have ec : cleans ((List.range (n - (x + 1))).map fun k => O.frz ((pairF (cel d) (x, x + 1 + k)).getD .none)) = true := cleans_comp
            simp [ec, ef, pfL_len]
            exact ⟨by omega, by omega, by rw [preL_succ, pfL_app, List.map_append]⟩
        · rintro ρ ⟨x2, x4, x5, x6, x7, rfl⟩
          simp only [List.length_range]
          exact ⟨_, _, _, _, _, rfl⟩
      · rintro ρ ⟨x2, x4, x5, x6, x7, rfl⟩
        simp [-wst_loop, -wst_ite]
        refine comp_filtG (fun y => !isNoneD y) (fun y => .frz y) (fun y hy => ⟨_, rfl, ?_⟩) ?_
        · simp
        rw [pfL_flt]
        have hl : ((pairsL n).filterMap (pairF (cel d))).length ≤ 400 := by
          have h1 := List.length_filterMap_le (pairF (cel d)) (pairsL n)
          have h2 := pairs_len (n := n)
          have h3 : n * n ≤ 20 * 20 := Nat.mul_le_mul hn hn
          omega
        have hh : ((pairsL n).filterMap (pairF (cel d))).head? = (pairsL n).findSome? (pairF (cel d)) := List.head?_filterMap
        generalize (pairsL n).filterMap (pairF (cel d)) = B at hl hh
        have ez : (B.map fun y => O.frz y) = B.map .frz := rfl
        rw [ez]
        simp [-wst_loop, -wst_ite]
        refine ⟨by omega, ?_⟩
        refine cutR (fun ρ => ∃ x2 x4 x5 x6 x7, NoF ((pairsL n).findSome? (pairF (cel d))) ∧ ρ = [some (.frz d), some (.frz (.int n)), x2, some (.frz (.list B)), x4, x5, x6, x7]) ?_ ?_
        · simp [cmp_ne_emp]
          refine ⟨fun hne => ?_, fun he => ⟨by rw [← hh, he]; rfl⟩⟩
          obtain ⟨x, m, rfl⟩ := List.exists_cons_of_ne_nil hne
          rw [e1, ← hh]
          have : atD (x :: m) 0 = some x := atD_ok (by decide) rfl
          simp [this]
        · rintro ρ ⟨x2, x4, x5, x6, x7, ⟨hf2⟩, rfl⟩
          rw [hf2] at e1
          have e2 : faultO n (cel d) = (List.range n).findSome? (rowW n (cel d)) := by
            rw [e1]
            exact find_flat
          simp [-wst_loop]
          refine cutR (fun ρ => NoF (faultO n (cel d))) ?_ ?_
          · simp
            refine ⟨inR (by omega), ?_⟩
            rw [rng_map]
            refine loop_find (rowW n (cel d)) (fun ρ => ∃ x2 x4 x6 x7, ρ = [some (.frz d), some (.frz (.int n)), x2, some (.frz (.list B)), x4, x5, x6, x7]) ⟨_, _, _, _, rfl⟩ ?_ ?_
            · rintro i hi ρ ⟨x2, x4, x6, x7, rfl⟩
              have hi := List.mem_range.mp hi
              refine ⟨_, rfl, ?_⟩
              simp only [Int.zero_add]
              simp
              refine ⟨⟨inR (by omega), inR (by omega)⟩, ?_⟩
              have er : rng ((i : Int) + 1) (n - (i + 1)) = (List.range (n - (i + 1))).map fun k : Nat => PyData.int ((i : Int) + 1 + (k : Int)) := rfl
              rw [er]
              refine loop_find (fun k => wayF n (cel d) (i, i + 1 + k)) (fun ρ => ∃ x4 x6 x7, ρ = [some (.frz d), some (.frz (.int n)), some (.frz (.int i)), some (.frz (.list B)), x4, x5, x6, x7]) ⟨_, _, _, rfl⟩ ?_ ?_
              · rintro k hk ρ ⟨x4, x6, x7, rfl⟩
                have hk := List.mem_range.mp hk
                refine ⟨_, rfl, ?_⟩
                obtain ⟨j, hj, ej⟩ : ∃ j, j = i + 1 + k ∧ ((i : Int) + 1 + (k : Int)) = j := ⟨_, rfl, by omega⟩
                rw [ej, ← hj]
                have hjn : j < n := by omega
                simp
                refine ⟨inR (by omega), ?_⟩
                rw [rng_map]
                refine comp_map (c := fun k : Nat => PyData.int (0 + (k : Int))) (fun k => decide (k ≠ i ∧ k ≠ j)) (fun k => .frz (.int (k : Int))) (fun z hz => ⟨_, rfl, ?_⟩) ?_
                · simp only [Int.zero_add]
                  have ed : decide ((z : Int) ≠ (i : Int) ∧ (z : Int) ≠ (j : Int)) = decide (z ≠ i ∧ z ≠ j) := by
                    rw [Bool.eq_iff_iff]
                    simp only [decide_eq_true_eq]
                    omega
                  simp [cmp_nmem_two, ed, -decide_not, -Bool.decide_and]
                have ez : fzs ((othL n i j).map fun (k : Nat) => O.frz (.int (k : Int))) = (othL n i j).map fun (k : Nat) => PyData.int (k : Int) := fzs_comp
                have ec : cleans ((othL n i j).map fun (k : Nat) => O.frz (.int (k : Int))) = true := cleans_comp
                have el : (othL n i j).length ≤ 20 := by
                  have := List.length_filter_le (fun k => decide (k ≠ i ∧ k ≠ j)) (List.range n)
                  simp only [List.length_range] at this
                  unfold othL
                  omega
                show ((List.map _ (othL n i j)).length ≤ 16777216 ∧ _)
                rw [List.length_map]
                refine ⟨by omega, ec, ?_⟩
                show (loopL _ _ (fzs ((othL n i j).map fun (k : Nat) => O.frz (.int (k : Int)))) _).wp _
                rw [ez]
                refine loop_find (way1 (cel d) i j) (fun ρ => ∃ x6 x7, ρ = [some (.frz d), some (.frz (.int n)), some (.frz (.int i)), some (.frz (.list B)), some (.frz (.int j)), x5, x6, x7]) ⟨x6, _, rfl⟩ ?_ ?_
                · rintro z hz ρ ⟨x6, x7, rfl⟩
                  have hz : z < n := List.mem_range.mp (List.mem_filter.mp hz).1
                  refine ⟨_, rfl, ?_⟩
                  have w : ∀ {e : D}, Fr 1921 e → Fr 4000 e := fun h => h.mono (by decide)
                  have c1 := fun ρ => s2.cl (ρ := ρ) h2 (w (hd.fr hi hz)) (w (hd.fr hz hjn)) trivial
                  have fs : Fr 4000 (frD (valR (subD (subD d i) z) + valR (subD (subD d z) j))) := fr_frD (((hd.fr hi hz).sz.add (hd.fr hz hjn).sz).mono (by decide))
                  have c2 := fun ρ => s3.cl (ρ := ρ) h3 (w (hd.fr hi hjn)) fs
                  simp [hd.ix hi, hd.ix hz, hd.ix2 hi hjn, hd.ix2 hi hz, hd.ix2 hz hjn, c1, c2, valR_fr, ord_pos]
                  refine ⟨fun h3 => ⟨_, if_pos h3, fun g1 => ⟨_, by rw [← way1_eq]; exact g1, fun g2 => ⟨_, by rw [rowW_eq]; exact g2, fun g3 => ?_⟩⟩⟩, fun h3 => if_neg h3⟩
                  rw [e2, g3]
                  rfl
                · rintro ρ hf3 ⟨x6, x7, rfl⟩
                  rw [way1_eq] at hf3
                  simp [hf3]
              · rintro ρ hf3 ⟨x4, x6, x7, rfl⟩
                rw [← rowW_eq] at hf3
                simp [hf3]
            · rintro ρ hf3 ⟨x2, x4, x6, x7, rfl⟩
              exact ⟨by rw [e2]; exact hf3⟩
          · rintro ρ ⟨hf3⟩
            simp [hf3])⟩
end
end Lib
set_option Elab.async false
set_option linter.all false
set_option maxRecDepth 100000
set_option maxHeartbeats 4000000
/-! LibO: things of any kind (the first ten laws'), deep ones. -/
namespace Lib
open PySem Tr
def ir_odd5 (k0 : Nat) (k1 : Nat) : Ss := (.cons (.set 2 (.call k0 (.r 0 (.e (.int 14) .nil)))) (.cons (.ite (.cmp .lt (.v 2) (.int 4)) (.cons (.ret (.ofE (.ix (.ofF (.lst (.cons (.ofE .non) (.cons (.ofE (.bl true)) (.cons (.ofE (.bl false)) (.cons (.ofE (.dct [] .nil)) .nil)))))) (.v 2)))) .nil) .nil) (.cons (.ite (.cmp .eq (.v 2) (.int 4)) (.cons (.ret (.ofE (.ix (.ofF (.lst (.cons (.ofE (.op .pow (.int 10) (.int 20))) (.cons (.add (.op .pow (.int 10) (.int 59)) (.int 7)) (.cons (.ofE (.neg (.op .pow (.int 10) (.int 41)))) (.cons (.ofE (.op .pow (.int 2) (.int 64))) (.cons (.ofE (.neg (.int 1))) .nil))))))) (.ofF (.call k0 (.r 0 (.e (.int 5) .nil))))))) .nil) .nil) (.cons (.ite (.cmp .eq (.v 2) (.int 5)) (.cons (.ret (.ofE (.ix (.ofF (.lst (.cons (.ofE (.str "")) (.cons (.ofE (.str "1/2")) (.cons (.ofE (.str "(0, 1)")) (.cons (.ofE (.str "none\n")) (.cons (.ofE (.str "things 2")) .nil))))))) (.ofF (.call k0 (.r 0 (.e (.int 5) .nil))))))) .nil) .nil) (.cons (.ite (.or (.cmp .lt (.v 2) (.int 8)) (.cmp .eq (.v 1) (.int 0))) (.cons (.ret (.ofE (.op .sub (.ofF (.call k0 (.r 0 (.e (.int 9) .nil)))) (.int 3)))) .nil) .nil) (.cons (.ite (.cmp .eq (.v 2) (.int 8)) (.cons (.ret (.ofE (.dct [.inr "a", .inl 1] (.cons (.ofF (.call k1 (.r 0 (.e (.op .sub (.v 1) (.int 1)) .nil)))) (.cons (.int 0) .nil))))) .nil) .nil) (.cons (.set 3 (.comp (.name 4) (.range1 (.ofF (.call k0 (.r 0 (.e (.int 4) .nil))))) .nil (.call k1 (.r 0 (.e (.op .sub (.v 1) (.int 1)) .nil))) [4])) (.cons (.ret (.ofE (.ix (.ofF (.lst (.cons (.ofE (.v 3)) (.cons (.ofE (.b1 .tuple (.v 3))) .nil)))) (.op .mod (.v 2) (.int 2))))) .nil))))))))
noncomputable def fn_odd5 (Φ : Tab) (k0 : Nat) (k1 : Nat) : Fn := mkFn 5 [true, false] ((ir_odd5 k0 k1).sem Φ)
def nO : Nat → Nat
  | 0 => 5
  | d + 1 => 5 + 4 * nO d
def mO : Nat → Nat
  | 0 => 210
  | d + 1 => 3 * (mO d + 2) + 60
theorem mO_ge : ∀ d, 210 ≤ mO d
  | 0 => Nat.le_refl _
  | d + 1 => by have := mO_ge d; simp only [mO]; omega
theorem nO_ge : ∀ d, 5 ≤ nO d
  | 0 => Nat.le_refl _
  | d + 1 => by have := nO_ge d; simp only [nO]; omega
theorem shw_dict {k m : Nat} {x : D} (h : Shw k m x) : Shw (k + 1) (m + 40) (.dict [(.str "a", x), (.int 1, .int 0)]) := by
  have e1 : (PyData.shown (.str "a")).length = 3 := by decide +kernel
  have e2 : (PyData.shown (.int 1)).length = 1 := by decide +kernel
  have e3 : (PyData.shown (.int 0)).length = 1 := by decide +kernel
  have ec : ((": " : String) : Str).length = 2 := by decide +kernel
  refine ⟨?_, ?_, ?_⟩
  · simp only [PyData.showable, PyData.showableKv, h.sh]
    decide
  · have := h.dp
    simp only [PyData.depth, PyData.depthKv]
    omega
  · have h2 := dictText_len_le (PyData.shownKv [(.str "a", x), (.int 1, .int 0)])
    have h3 := h.len
    simp only [PyData.shown] at h2 ⊢
    have e4 : ((PyData.shownKv [(.str "a", x), (.int 1, .int 0)]).map (·.length)).sum = (3 + 2 + x.shown.length) + (1 + 2 + 1) := by
      simp only [PyData.shownKv, List.map_cons, List.map_nil, List.sum_cons, List.sum_nil, strLen_append, e1, e2, e3, ec]
      omega
    have e5 : (PyData.shownKv [(.str "a", x), (.int 1, .int 0)]).length = 2 := rfl
    omega
theorem shw_str {x : Str} {m : Nat} (h : (reprText x).length ≤ m) : Shw 0 m (.str x) := ⟨rfl, by simp [PyData.depth], by simpa only [PyData.shown] using h⟩
theorem shw_emp : Shw 1 2 (.dict []) := ⟨rfl, by simp [PyData.depth, PyData.depthKv], by simp only [PyData.shown, PyData.shownKv]; decide +kernel⟩
theorem rec_succ {gl : List D} {acc : List Fn} {n : Nat} {modes : List Bool} {ir : Ss} {K : Nat} : recFn gl acc n modes ir (K + 1) = mkFn n modes (ir.sem ⟨acc ++ [recFn gl acc n modes ir K], gl⟩) := rfl
/-- a drawn thing of any kind, so deep -/
def OddSp (d : Nat) (f : Fn) : Prop := f.modes = [true, false] ∧ ∀ {c : Nat} {st : O} {Q : PQ}, OkSt c st → c + nO d < 2 ^ 58 → (∀ x st', Shw (d + 1) (mO d) x → OkSt (c + nO d) st' → Q (.frz x) [some st']) → (f.run [st, .frz (.int d)]).wp Q
theorem shw_lit {s : Str} (h : (reprText s).length ≤ 210) : Shw 0 210 (.str s) := shw_str h
theorem odd_step {Φ : Tab} {k0 k1 : Nat} {f0 : Fn} (hf : Φ.fn[k0]? = some f0) (s0 : SpNext f0) (d : Nat) (hself : ∀ e, d = e + 1 → ∃ self, Φ.fn[k1]? = some self ∧ OddSp e self) : OddSp d (mkFn 5 [true, false] ((ir_odd5 k0 k1).sem Φ)) := by
  refine ⟨rfl, fun {c st Q} hs hc q => ?_⟩
  have hn := nO_ge d
  have hm := mO_ge d
  rw [fn_wp]
  refine ⟨rfl, ?_⟩
  have d0 : dctD [] [] = some (.dict []) := by simp [dctD]
  simp [ir_odd5, d0, -wst_ite]
  refine s0.cl hf rfl hs (by omega) (by decide) (by decide) fun w st1 w0 w1 h1 => ?_
  simp [-wst_ite]
  refine cutR (fun ρ => 4 ≤ w ∧ ρ = [some st1, some (.frz (.int d)), some (.frz (.int w)), none, none]) ?_ ?_
  · simp [d0]
    intro h
    obtain ⟨x, mx, ex⟩ := at_in (l := [PyData.none, .bool true, .bool false, .dict []]) w0 (by simpa using h)
    simp [ex]
    refine q x _ ?_ (h1.mono (by omega))
    simp only [List.mem_cons, List.not_mem_nil, or_false] at mx
    rcases mx with rfl | rfl | rfl | rfl
    · exact shw_non.mono (by omega) (by omega)
    · exact shw_bool.mono (by omega) (by omega)
    · exact shw_bool.mono (by omega) (by omega)
    · exact shw_emp.mono (by omega) (by omega)
  rintro ρ ⟨w4, rfl⟩
  simp [-wst_ite]
  refine cutR (fun ρ => 5 ≤ w ∧ ρ = [some st1, some (.frz (.int d)), some (.frz (.int w)), none, none]) ?_ ?_
  · simp
    refine ⟨fun h => ?_, fun h => by omega⟩
    refine s0.cl hf rfl h1 (by omega) (by decide) (by decide) fun v st2 v0 v1 h2 => ?_
    obtain ⟨x, mx, ex⟩ := at_in (l := [PyData.int (10 ^ 20), .int (10 ^ 59 + 7), .int (-10 ^ 41), .int (2 ^ 64), .int (-1)]) v0 (by simpa using v1)
    simp at ex
    simp [ex]
    refine q x _ ?_ (h2.mono (by omega))
    simp only [List.mem_cons, List.not_mem_nil, or_false] at mx
    rcases mx with rfl | rfl | rfl | rfl | rfl <;> exact (shw_int (b := 200) (.of_lt (by decide) (by decide)) (by decide)).mono (by omega) (by omega)
  rintro ρ ⟨w5, rfl⟩
  simp [-wst_ite]
  refine cutR (fun ρ => 6 ≤ w ∧ ρ = [some st1, some (.frz (.int d)), some (.frz (.int w)), none, none]) ?_ ?_
  · simp
    refine ⟨fun h => ?_, fun h => by omega⟩
    refine s0.cl hf rfl h1 (by omega) (by decide) (by decide) fun v st2 v0 v1 h2 => ?_
    obtain ⟨x, mx, ex⟩ := at_in (l := [PyData.str "", .str "1/2", .str "(0, 1)", .str "none\n", .str "things 2"]) v0 (by simpa using v1)
    simp [ex]
    refine q x _ ?_ (h2.mono (by omega))
    simp only [List.mem_cons, List.not_mem_nil, or_false] at mx
    rcases mx with rfl | rfl | rfl | rfl | rfl <;> exact (shw_lit (by decide +kernel)).mono (by omega) (by omega)
  rintro ρ ⟨w6, rfl⟩
  simp [-wst_ite]
  refine cutR (fun ρ => (8 ≤ w ∧ d ≠ 0) ∧ ρ = [some st1, some (.frz (.int d)), some (.frz (.int w)), none, none]) ?_ ?_
  · have small : ∀ ρ : Tr.Env, ρ = [some st1, some (.frz (.int d)), some (.frz (.int w)), none, none] → (callF Φ k0 [.r 0, .d (.int 9)] ρ).wp fun o ρ => o.clean = true ∧ (R.of (opD .sub o.fz (.int 3)) ρ).wp fun d ρ => Q (.frz d) [ρ[0]?.join] := fun ρ e => by
      subst e
      refine s0.cl hf rfl h1 (by omega) (by decide) (by decide) fun v st2 v0 v1 h2 => ?_
      simp
      exact q _ _ ((shw_int (b := 5) (.of_lt (by omega) (by omega)) (by decide)).mono (by omega) (by omega)) (h2.mono (by omega))
    simp
    exact ⟨fun _ => small _ rfl, fun h8 => ⟨fun _ => small _ rfl, fun h => ⟨h8, h⟩⟩⟩
  rintro ρ ⟨⟨w8, hd0⟩, rfl⟩
  obtain ⟨e, rfl⟩ : ∃ e, d = e + 1 := ⟨d - 1, by omega⟩
  obtain ⟨self, hfs, hsm, hsp⟩ := hself e rfl
  have cs : ∀ {c : Nat} {st : O} {i : Int} {ρ : Tr.Env} {Q : PQ}, i = e → ldV 0 ρ = some st → OkSt c st → c + nO e < 2 ^ 58 → (∀ x st', Shw (e + 1) (mO e) x → OkSt (c + nO e) st' → Q (.frz x) (ρ.set 0 (some st'))) → (callF Φ k1 [.r 0, .d (.int i)] ρ).wp Q := by
    intro c st i ρ Q hi hl h hc q
    subst hi
    refine call_sp hfs hsm rfl (os := [st, .frz (.int e)]) (by simp [gather, hl]) (hsp h hc fun x st' a b => ?_)
    simpa [callK] using q x st' a b
  have en : nO (e + 1) = 5 + 4 * nO e := rfl
  have em : mO (e + 1) = 3 * (mO e + 2) + 60 := rfl
  have ei : ((e + 1 : Nat) : Int) - 1 = e := by omega
  simp [-wst_ite]
  refine cutR (fun ρ => ρ = [some st1, some (.frz (.int (e + 1 : Nat))), some (.frz (.int w)), none, none]) ?_ ?_
  · simp
    intro h8
    refine cs (by omega) rfl h1 (by omega) fun x st2 hx h2 => ?_
    have dd : dctD [.inr "a", .inl 1] [x, .int 0] = some (.dict [(.str "a", x), (.int 1, .int 0)]) := by simp [dctD, keyD]
    simp [dd]
    exact q _ _ ((shw_dict hx).mono (by omega) (by omega)) (h2.mono (by omega))
  rintro ρ rfl
  simp
  refine s0.cl hf rfl h1 (by omega) (by decide) (by decide) fun v st2 v0 v1 h2 => ?_
  simp
  refine ⟨inR (by omega), ?_⟩
  refine comp_wp (fun j acc ρ => ∃ (st' : O) (xs : List D), OkSt (c + 2 + nO e * j) st' ∧ (∀ x ∈ xs, Shw (e + 1) (mO e) x) ∧ acc = xs.map .frz ∧ xs.length = j ∧ ρ = [some st', some (.frz (.int (e + 1 : Nat))), some (.frz (.int w)), none, none]) 0 [] ⟨st2, [], h2.mono (by omega), by simp, rfl, rfl, by simp⟩ ?_ ?_
  · rintro j y acc ρ hy ⟨st', xs, g1, g2, rfl, g4, rfl⟩
    obtain ⟨rfl, hj⟩ := rng_at hy
    have hj2 : j < 3 := by omega
    have hb : nO e * j ≤ nO e * 2 := Nat.mul_le_mul_left _ (by omega)
    refine ⟨_, rfl, ?_⟩
    simp
    refine cs (by omega) rfl g1 (by simp at hb ⊢; omega) fun x st3 hx h3 => ?_
    simp
    refine ⟨st3, h3.mono (by rw [Nat.mul_succ]; simp; omega), xs ++ [x], fun z hz => ?_, by simp, by simp [g4]⟩
    rcases List.mem_append.mp hz with hz | hz
    · exact g2 z hz
    · rw [List.mem_singleton.mp hz]; exact hx
  · rintro l ρ ⟨st', xs, g1, g2, el, g4, rfl⟩
    rw [List.nil_append] at el
    subst el
    simp at g4 g1
    have hx3 : xs.length ≤ 3 := by omega
    have hb : nO e * v.toNat ≤ nO e * 3 := Nat.mul_le_mul_left _ (by omega)
    simp
    obtain ⟨m0, m1⟩ := mod_rng (i := w) (m := 2) (by decide)
    obtain ⟨x, mx, ex⟩ := at_in (l := [PyData.list xs, .tuple xs]) m0 (by simpa using m1)
    simp only [List.mem_cons, List.not_mem_nil, or_false] at mx
    rcases mx with rfl | rfl
    · simp [ex]
      exact ⟨by omega, q _ _ ((shw_lst hx3 g2).mono (by omega) (by omega)) (g1.mono (by omega))⟩
    · simp [ex]
      exact ⟨by omega, q _ _ ((shw_tup hx3 g2).mono (by omega) (by omega)) (g1.mono (by omega))⟩
theorem odd_run {gl : List D} {acc : List Fn} {k0 k1 : Nat} {f0 : Fn} (hk : acc.length = k1) (hf : acc[k0]? = some f0) (s0 : SpNext f0) : ∀ (d K : Nat), d < K → OddSp d (recFn gl acc 5 [true, false] (ir_odd5 k0 k1) K) := by
  intro d
  induction d with
  | zero =>
    intro K hK
    obtain ⟨K, rfl⟩ : ∃ j, K = j + 1 := ⟨K - 1, by omega⟩
    rw [rec_succ]
    exact odd_step (by rw [List.getElem?_append_left (List.getElem?_eq_some_iff.mp hf).1]; exact hf) s0 0 fun e h => by omega
  | succ d ih =>
    intro K hK
    obtain ⟨K, rfl⟩ : ∃ j, K = j + 1 := ⟨K - 1, by omega⟩
    rw [rec_succ]
    refine odd_step (by rw [List.getElem?_append_left (List.getElem?_eq_some_iff.mp hf).1]; exact hf) s0 (d + 1) fun e h => ?_
    obtain rfl : e = d := by omega
    exact ⟨_, by rw [List.getElem?_append_right (by omega), hk, Nat.sub_self]; rfl, ih K (by omega)⟩
section
variable {Φ : Tab} {k k0 k1 : Nat} {f0 f1 f : Fn} {ρ : Tr.Env} {d x : D} {n m : Nat} {rows : List (List D)}
theorem deep_cl {Q : PQ} {kk : Nat} (hf : Φ.fn[k]? = some (fn_deep5 Φ')) (h : Shw kk m d) (q : ∀ x, Shw (kk + 38) (m + 190) x → Q (.frz x) ρ) : (callF Φ k [.d d] ρ).wp Q := by
  refine pure1 hf rfl ?_
  unfold fn_deep5
  rw [fn_wp]
  refine ⟨rfl, ?_⟩
  simp [ir_deep5]
  refine ⟨inR (by decide), ?_⟩
  refine loop0 (fun i ρ => ∃ x x1, Shw (kk + i) (m + 5 * i) x ∧ ρ = [some (.frz x), x1]) ⟨d, none, h, rfl⟩ ?_ ?_
  · rintro i y ρ hy ⟨x, x1, hx, rfl⟩
    obtain ⟨rfl, hi⟩ := rng_at hy
    refine ⟨_, rfl, ?_⟩
    have h1 : ∀ z ∈ [x], Shw (kk + i) (m + 5 * i) z := fun z hz => by rw [List.mem_singleton.mp hz]; exact hx
    obtain ⟨m0, m1⟩ := mod_rng (i := (i : Int)) (m := 2) (by decide)
    obtain ⟨z, mz, ez⟩ := at_in (l := [PyData.list [x], .tuple [x]]) m0 (by simpa using m1)
    simp [ez]
    simp only [List.mem_cons, List.not_mem_nil, or_false] at mz
    rcases mz with rfl | rfl
    · exact (shw_lst (n := 1) (by simp) h1).mono (by omega) (by omega)
    · exact (shw_tup (n := 1) (by simp) h1).mono (by omega) (by omega)
  · rintro ρ ⟨x, x1, hx, rfl⟩
    simp at hx
    simp
    exact q x (hx.mono (by omega) (by omega))
/-! ### rows of rows -/
def LL (rows : List (List D)) : D := .list (rows.map PyData.list)
def bxs (rows : List (List D)) : List O := rows.map fun r => .box (r.map .frz)
def setLL (rows : List (List D)) (i j : Nat) (x : D) : List (List D) := rows.set i ((rows.getD i []).set j x)
theorem clean_bxs : cleans (bxs rows) = true := cleans_all fun o ho => by
  obtain ⟨r, _, rfl⟩ := List.mem_map.mp ho
  exact cleans_map
theorem fzs_bxs : PyData.list (fzs (bxs rows)) = LL rows := by
  unfold LL bxs
  rw [fzs_eq, List.map_map]
  congr 1
  refine List.map_congr_left fun r _ => ?_
  show O.fz (.box _) = _
  rw [O.fz, fzs_map]
theorem bxs_len : (bxs rows).length = rows.length := by simp [bxs]
/-- n rows of n, each passing p -/
structure SqL (n : Nat) (p : D → Prop) (rows : List (List D)) : Prop where
  len : rows.length = n
  row : ∀ r ∈ rows, r.length = n
  all : ∀ r ∈ rows, ∀ x ∈ r, p x
theorem SqL.imp {p q : D → Prop} (h : SqL n p rows) (hq : ∀ x, p x → q x) : SqL n q rows := ⟨h.len, h.row, fun r hr x hx => hq x (h.all r hr x hx)⟩
theorem SqL.get {p : D → Prop} (h : SqL n p rows) {i : Nat} (hi : i < n) : rows.getD i [] ∈ rows ∧ rows[i]? = some (rows.getD i []) := by
  have hl := h.len
  rw [List.getD_eq_getElem?_getD, List.getElem?_eq_getElem (by omega)]
  exact ⟨List.getElem_mem _, rfl⟩
theorem SqL.set {p : D → Prop} (h : SqL n p rows) {i j : Nat} (hi : i < n) (hx : p x) : SqL n p (setLL rows i j x) := by
  have hg := h.get hi
  refine ⟨by simp [setLL, h.len], fun r hr => ?_, fun r hr y hy => ?_⟩
  · rcases List.mem_or_eq_of_mem_set hr with hr | rfl
    · exact h.row r hr
    · rw [List.length_set]; exact h.row _ hg.1
  · rcases List.mem_or_eq_of_mem_set hr with hr | rfl
    · exact h.all r hr y hy
    · rcases List.mem_or_eq_of_mem_set hy with hy | rfl
      · exact h.all _ hg.1 y hy
      · exact hx
theorem store2 {p : D → Prop} (h : SqL n p rows) {i j : Nat} (hi : i < n) (hj : j < n) {K : Unit → O → Prop} (q : K () (.box (bxs (setLL rows i j x)))) : optK (modP (storeF (.int (j : Int)) (.frz x)) (.box (bxs rows)) [.int (i : Int)]) K := by
  have hg := h.get hi
  have hl := h.len
  have e1 : (bxs rows)[i]? = some (.box ((rows.getD i []).map .frz)) := by
    unfold bxs
    rw [List.getElem?_map, hg.2]
    rfl
  rw [modP_c (j := i) (by rw [bxs_len]; exact ixN_ok (by omega) (by omega)) e1, modP_n, sto_b (j := j) (by rw [List.length_map, h.row _ hg.1]; exact ixN_ok (by omega) (by omega))]
  have e2 : (bxs rows).set i (.box (((rows.getD i []).map O.frz).set j (.frz x))) = bxs (setLL rows i j x) := by
    unfold bxs setLL
    rw [List.map_set, ← List.map_set]
  rw [e2]
  exact q
theorem put_cl {p : D → Prop} {i j : Nat} {Q : PQ} (hf : Φ.fn[k]? = some (fn_put5 Φ')) (h : SqL n p rows) (hn : n ≤ 1000) (hi : i < n) (hj : j < n) (q : Q (.box (bxs (setLL rows i j x))) ρ) : (callF Φ k [.d (LL rows), .d (.int i), .d (.int j), .d x] ρ).wp Q := by
  refine pure4 hf rfl ?_
  unfold fn_put5
  rw [fn_wp]
  refine ⟨rfl, ?_⟩
  have it : itemsD (LL rows) = some (rows.map PyData.list) := rfl
  simp [ir_put5, it, -wst_storeP]
  refine comp_each (c := PyData.list) (fun r => .box (r.map .frz)) (fun r hr => ⟨_, rfl, ?_⟩) ?_
  · simp [listO, itemsD]
  show ((bxs rows).length ≤ 16777216 ∧ _)
  rw [bxs_len, h.len]
  refine ⟨by omega, ?_⟩
  show (S.sem _ _ (putO (List.set _ 5 _) 4 (.box (bxs rows)))).wp _
  simp [P.sem, Qx.sem]
  refine store2 h hi hj ?_
  simp
  exact q
theorem sq_mono {p q : D → Prop} (h : SqL n p rows) (hq : ∀ x, p x → q x) : SqL n q rows := h.imp hq
/-- a drawn square: its rows -/
theorem square_cl {c i : Nat} {st : O} {w : Int} {Q : PQ} (hf : Φ.fn[k]? = some (fn_square5 Φ' k0 k1)) (h0 : Φ'.fn[k0]? = some f0) (s0 : SpNext f0) (h1 : Φ'.fn[k1]? = some f1) (s1 : SpLow f1) (hl : ldV i ρ = some st) (hs : OkSt c st) (hc : c < 2 ^ 57) (hw : w = n) (hn : n ≤ 20)
    (q : ∀ rows st', SqL n (Fr 20) rows → OkSt (c + 500) st' → Q (.box (bxs rows)) (ρ.set i (some st'))) : (callF Φ k [.r i, .d (.int w)] ρ).wp Q := by
  subst hw
  refine state2 hf rfl hl ?_
  unfold fn_square5
  rw [fn_wp]
  refine ⟨rfl, ?_⟩
  simp [ir_square5, -wst_loop]
  refine s0.cl h0 rfl hs (by omega) (by decide) (by decide) fun a st1 a0 a1 g1 => ?_
  simp [-wst_loop]
  refine s0.cl h0 rfl g1 (by omega) (by decide) (by decide) fun b st2 b0 b1 g2 => ?_
  simp [-wst_loop]
  refine ⟨inR (by omega), ?_⟩
  rw [rng_map]
  refine comp_each (c := fun k : Nat => PyData.int (0 + (k : Int))) (fun _ => .box ((List.replicate n (frD 0)).map .frz)) (fun z hz => ⟨_, rfl, ?_⟩) ?_
  · have e01 : PyData.tuple [.int 0, .int 1] = frD 0 := rfl
    simp [e01]
    omega
  · have eb : ((List.range n).map fun _ => O.box ((List.replicate n (frD 0)).map .frz)) = bxs (List.replicate n (List.replicate n (frD 0))) := by
      simp [bxs]
      exact List.eq_replicate_iff.mpr ⟨by simp, fun x hx => by simp at hx; exact hx.2.symm⟩
    rw [eb]
    have s00 : SqL n (Fr 20) (List.replicate n (List.replicate n (frD 0))) := by
      refine ⟨by simp, fun r hr => ?_, fun r hr x hx => ?_⟩
      · rw [(List.mem_replicate.mp hr).2]; simp
      · rw [(List.mem_replicate.mp hr).2] at hx
        rw [(List.mem_replicate.mp hx).2]
        exact fr_frD (sz_zero.mono (by decide))
    refine ⟨by rw [bxs_len]; simp; omega, ?_⟩
    simp [-wst_loop]
    refine cut (fun ρ => ∃ rows st' x5 x6 x7 x8, SqL n (Fr 20) rows ∧ OkSt (c + 500) st' ∧ ρ = [some st', some (.frz (.int n)), some (.frz (.int (1 + a))), some (.frz (.int (1 + b))), some (.box (bxs rows)), x5, x6, x7, x8]) ?_ ?_
    · simp
      refine ⟨inR (by omega), ?_⟩
      rw [rng_map]
      refine loopM (c := fun k : Nat => PyData.int (0 + (k : Int))) (xs := List.range n) (fun i ρ => ∃ rows st' x5 x6 x7 x8, SqL n (Fr 20) rows ∧ OkSt (c + 2 + 20 * i) st' ∧ ρ = [some st', some (.frz (.int n)), some (.frz (.int (1 + a))), some (.frz (.int (1 + b))), some (.box (bxs rows)), x5, x6, x7, x8]) ⟨_, st2, _, _, _, _, s00, g2.mono (by omega), rfl⟩ ?_ ?_
      · rintro i x ρ hx ⟨rows, st', x5, x6, x7, x8, hsq, hst, rfl⟩
        obtain ⟨hi, rfl⟩ : i < n ∧ x = i := by
          obtain ⟨h1, h2⟩ := List.getElem?_eq_some_iff.mp hx
          simp at h1 h2
          exact ⟨h1, h2.symm⟩
        refine ⟨_, rfl, ?_⟩
        simp
        refine ⟨inR (by omega), ?_⟩
        rw [rng_map]
        refine loopM (c := fun k : Nat => PyData.int (0 + (k : Int))) (xs := List.range x) (fun j ρ => ∃ rows st' x6 x7 x8, SqL n (Fr 20) rows ∧ OkSt (c + 2 + 20 * x + j) st' ∧ ρ = [some st', some (.frz (.int n)), some (.frz (.int (1 + a))), some (.frz (.int (1 + b))), some (.box (bxs rows)), some (.frz (.int x)), x6, x7, x8]) ⟨_, _, _, _, _, hsq, hst.mono (by omega), rfl⟩ ?_ ?_
        · rintro j y ρ hy ⟨rows, st', x6, x7, x8, hsq, hst, rfl⟩
          obtain ⟨hj, rfl⟩ : j < x ∧ y = j := by
            obtain ⟨h1, h2⟩ := List.getElem?_eq_some_iff.mp hy
            simp at h1 h2
            exact ⟨h1, h2.symm⟩
          refine ⟨_, rfl, ?_⟩
          simp [-wst_storeP]
          refine s0.cl h0 rfl hst (by omega) (by omega) (by omega) fun e st3 e0 e1 g3 => ?_
          have hb : Bits 8000 (1 + b) := Bits.mono (n := 4) (.of_lt (by omega) (by omega)) (by decide)
          simp [s1.cl h1 (show 0 < 1 + b by omega) hb, -wst_storeP]
          have hx : Fr 20 (frD (Rat.divInt (1 + a + e) (1 + b))) := fr_frD (sz_divInt (by omega) (by omega) (by omega))
          simp [P.sem, Qx.sem]
          refine store2 hsq (show x < n by omega) (show y < n by omega) ?_
          refine store2 (hsq.set (by omega) hx) (show y < n by omega) (show x < n by omega) ?_
          exact ⟨_, (hsq.set (by omega) hx).set (by omega) hx, _, g3.mono (by omega), rfl, rfl⟩
        · rintro ρ ⟨rows, st', x6, x7, x8, hsq, hst, rfl⟩
          simp only [List.length_range] at hst
          simp
          exact ⟨_, hsq, _, hst.mono (by omega), rfl, rfl⟩
      · rintro ρ ⟨rows, st', x5, x6, x7, x8, hsq, hst, rfl⟩
        simp only [List.length_range] at hst
        exact ⟨rfl, _, hsq, _, hst.mono (by omega), _, _, _, _, rfl⟩
    · rintro ρ ⟨rows, st', x5, x6, x7, x8, hsq, hst, rfl⟩
      simp
      exact q rows st' hsq hst
end
end Lib
set_option Elab.async false
set_option linter.all false
set_option maxRecDepth 100000
set_option maxHeartbeats 4000000
/-! LibJ: texts of texts, cuts of lists. -/
namespace Lib
open PySem Tr
def Asc (s : Str) : Prop := ∀ c ∈ s.cps.toList, c < 16 ^ 8
theorem asc_lit (s : String) : Asc (Str.ofString s) := by
  intro c hc
  rw [Str.ofString_eq_toList] at hc
  simp only [List.mem_map] at hc
  obtain ⟨a, _, rfl⟩ := hc
  have := a.valid
  have h2 : a.toNat < 1114112 := by
    rcases this with h | h
    · exact Nat.lt_trans h (by decide)
    · exact h.2
  omega
theorem Asc.app {a b : Str} (h1 : Asc a) (h2 : Asc b) : Asc (a ++ b) := by
  intro c hc
  have : (a ++ b).cps = a.cps ++ b.cps := rfl
  rw [this, Array.toList_append] at hc
  rcases List.mem_append.mp hc with hc | hc
  · exact h1 c hc
  · exact h2 c hc
theorem asc_from : ∀ (ts : List Str) (k : Nat) (acc : Str), Asc acc → (∀ t ∈ ts, Asc t) → Asc (textFrom k acc ts)
  | [], _, _, h, _ => h
  | t :: ts, k, acc, h, ht => asc_from ts (k + 1) _ ((h.app (asc_lit _)).app (ht t List.mem_cons_self)) fun x hx => ht x (List.mem_cons_of_mem _ hx)
theorem asc_join : ∀ (ts : List Str), (∀ t ∈ ts, Asc t) → Asc (Str.join ", " ts)
  | [], _ => fun c hc => by simp [Str.join, Str.empty] at hc
  | [x], h => h x List.mem_cons_self
  | x :: y :: r, h => ((h x List.mem_cons_self).app (asc_lit _)).app (asc_join (y :: r) fun z hz => h z (List.mem_cons_of_mem _ hz))
section
variable {k m n : Nat} {d : D} {l : List D}
theorem asc_all (h : ∀ x ∈ l, Asc x.shown) : ∀ t ∈ PyData.shownAll l, Asc t := by
  rw [shownAll_map]
  intro t ht
  obtain ⟨x, hx, rfl⟩ := List.mem_map.mp ht
  exact h x hx
theorem asc_lst (h : ∀ x ∈ l, Asc x.shown) : Asc (PyData.shown (.list l)) := by
  simp only [PyData.shown]
  exact (asc_from _ _ _ (asc_lit _) (asc_all h)).app (asc_lit _)
theorem asc_tup (h : ∀ x ∈ l, Asc x.shown) : Asc (PyData.shown (.tuple l)) := by
  simp only [PyData.shown]
  exact ((asc_lit _).app (asc_join _ (asc_all h))).app (asc_lit _)
theorem asc_int {i : Int} : Asc (PyData.shown (.int i)) := by
  simp only [PyData.shown]
  exact asc_lit _
theorem Fr.asc {b : Nat} (h : Fr b d) : Asc d.shown := by
  have hi : ∀ x ∈ [PyData.int (valR d).num, .int ((valR d).den : Int)], Asc x.shown := fun x hx => by
    simp only [List.mem_cons, List.not_mem_nil, or_false] at hx
    rcases hx with rfl | rfl <;> exact asc_int
  rcases h.is with e | e <;> rw [e]
  · exact asc_tup hi
  · exact asc_lst hi
theorem shw_txt {s : Str} (h : Asc s) (hm : s.length ≤ m) : Shw 0 (10 * m + 2) (.str s) := by
  refine ⟨rfl, by simp [PyData.depth], ?_⟩
  simp only [PyData.shown]
  have := StrLaws.reprText_len s h
  omega
@[simp] theorem cleans_app {a b : List O} : cleans (a ++ b) = (cleans a && cleans b) := by
  induction a with
  | nil => simp
  | cons o a ih => simp [ih, Bool.and_assoc]
@[simp] theorem fzs_cmp {α : Type} {f : α → D} {l : List α} : fzs (l.map (O.frz ∘ f)) = l.map f := fzs_comp
@[simp] theorem cleans_cmp {α : Type} {f : α → D} {l : List α} : cleans (l.map (O.frz ∘ f)) = true := cleans_comp
theorem cut_mem {α : Type} {l : List α} {lo hi : Option Int} {x : α} (h : x ∈ cutL l lo hi) : x ∈ l := List.mem_of_mem_drop (List.mem_of_mem_take h)
theorem cut_len {α : Type} {l : List α} {lo hi : Option Int} : (cutL l lo hi).length ≤ l.length := by
  unfold cutL
  rw [List.length_take, List.length_drop]
  omega
end
end Lib
set_option Elab.async false
set_option linter.all false
set_option maxRecDepth 100000
set_option maxHeartbeats 4000000
/-! LibC: things that bar a line. -/
namespace Lib
open PySem Tr
def ir_isrising : Ss := (.cons (.loop (.tup [1, 2]) (.zip (.v 0) (.ofF (.slice (.v 0) (.some (.int 1)) .none))) (.cons (.ite (.not (.cmp .lt (.v 1) (.v 2))) (.cons (.ret (.ofE (.bl false))) .nil) .nil) .nil)) (.cons (.ret (.ofE (.bl true))) .nil))
noncomputable def fn_isrising (Φ : Tab) : Fn := mkFn 3 [false] ((ir_isrising).sem Φ)
def ir_isthings (k0 : Nat) (k1 : Nat) (k2 : Nat) : Ss := (.cons (.ite (.not (.tru (.ofF (.call k0 (.e (.v 0) .nil))))) (.cons (.ret (.ofE (.bl false))) .nil) .nil) (.cons (.loop (.name 2) (.seq (.v 0)) (.cons (.ite (.not (.tru (.ofF (.call k1 (.e (.v 2) (.e (.v 1) .nil)))))) (.cons (.ret (.ofE (.bl false))) .nil) .nil) .nil)) (.cons (.ret (.call k2 (.e (.v 0) .nil))) .nil)))
noncomputable def fn_isthings (Φ : Tab) (k0 : Nat) (k1 : Nat) (k2 : Nat) : Fn := mkFn 3 [false, false] ((ir_isthings k0 k1 k2).sem Φ)
def ir_iswholeway (k0 : Nat) (k1 : Nat) : Ss := (.cons (.ret (.ofE (.cmp .eq (.ofF (.call k0 (.e (.ofF (.call k1 (.e (.v 0) (.e (.v 1) .nil)))) (.e (.v 2) .nil)))) (.int 0)))) .nil)
noncomputable def fn_iswholeway (Φ : Tab) (k0 : Nat) (k1 : Nat) : Fn := mkFn 3 [false, false, false] ((ir_iswholeway k0 k1).sem Φ)
def ir_hasmiddle (k0 : Nat) : Ss := (.cons (.ite (.or (.tru (.ofF (.call k0 (.e (.v 0) (.e (.v 1) (.e (.v 2) .nil)))))) (.tru (.ofF (.call k0 (.e (.v 0) (.e (.v 2) (.e (.v 1) .nil))))))) (.cons (.ret (.ofE (.bl true))) .nil) .nil) (.cons (.ret (.call k0 (.e (.v 1) (.e (.v 2) (.e (.v 0) .nil))))) .nil))
noncomputable def fn_hasmiddle (Φ : Tab) (k0 : Nat) : Fn := mkFn 3 [false, false, false] ((ir_hasmiddle k0).sem Φ)
def ir_barsthree (k0 : Nat) : Ss := (.cons (.ret (.ofE (.not (.ofF (.call k0 (.e (.ix (.ix (.v 0) (.v 1)) (.v 2)) (.e (.ix (.ix (.v 0) (.v 1)) (.v 3)) (.e (.ix (.ix (.v 0) (.v 2)) (.v 3)) .nil)))))))) .nil)
noncomputable def fn_barsthree (Φ : Tab) (k0 : Nat) : Fn := mkFn 4 [false, false, false, false] ((ir_barsthree k0).sem Φ)
def ir_aresame (k0 : Nat) : Ss := (.cons (.ret (.ofE (.cmp .eq (.ofF (.call k0 (.e (.v 0) (.e (.v 1) .nil)))) (.int 0)))) .nil)
noncomputable def fn_aresame (Φ : Tab) (k0 : Nat) : Fn := mkFn 2 [false, false] ((ir_aresame k0).sem Φ)
def ir_barsfour (k0 : Nat) (k1 : Nat) : Ss := (.cons (.ite (.or (.not (.tru (.ofF (.call k0 (.e (.ix (.ix (.v 0) (.v 1)) (.v 2)) (.e (.ix (.ix (.v 0) (.v 3)) (.v 4)) .nil)))))) (.not (.tru (.ofF (.call k0 (.e (.ix (.ix (.v 0) (.v 1)) (.v 3)) (.e (.ix (.ix (.v 0) (.v 2)) (.v 4)) .nil))))))) (.cons (.ret (.ofE (.bl false))) .nil) .nil) (.cons (.ite (.not (.tru (.ofF (.call k0 (.e (.ix (.ix (.v 0) (.v 1)) (.v 4)) (.e (.ix (.ix (.v 0) (.v 2)) (.v 3)) .nil)))))) (.cons (.ret (.ofE (.bl false))) .nil) .nil) (.cons (.ret (.call k1 (.e (.ix (.ix (.v 0) (.v 1)) (.v 2)) (.e (.ix (.ix (.v 0) (.v 1)) (.v 3)) (.e (.ix (.ix (.v 0) (.v 1)) (.v 4)) .nil))))) .nil)))
noncomputable def fn_barsfour (Φ : Tab) (k0 : Nat) (k1 : Nat) : Fn := mkFn 5 [false, false, false, false, false] ((ir_barsfour k0 k1).sem Φ)
def ir_barsline (k0 : Nat) (k1 : Nat) (k2 : Nat) : Ss := (.cons (.ite (.not (.tru (.ofF (.call k0 (.e (.v 1) (.e (.b1 .len (.v 0)) .nil)))))) (.cons (.ret (.ofE (.bl false))) .nil) .nil) (.cons (.ite (.cmp .eq (.b1 .len (.v 1)) (.int 3)) (.cons (.ret (.call k1 (.e (.v 0) (.e (.ix (.v 1) (.int 0)) (.e (.ix (.v 1) (.int 1)) (.e (.ix (.v 1) (.int 2)) .nil)))))) .nil) .nil) (.cons (.ite (.cmp .eq (.b1 .len (.v 1)) (.int 4)) (.cons (.ret (.call k2 (.e (.v 0) (.e (.ix (.v 1) (.int 0)) (.e (.ix (.v 1) (.int 1)) (.e (.ix (.v 1) (.int 2)) (.e (.ix (.v 1) (.int 3)) .nil))))))) .nil) .nil) (.cons (.ret (.ofE (.bl false))) .nil))))
noncomputable def fn_barsline (Φ : Tab) (k0 : Nat) (k1 : Nat) (k2 : Nat) : Fn := mkFn 2 [false, false] ((ir_barsline k0 k1 k2).sem Φ)
def ir_lsums (k0 : Nat) : Ss := (.cons (.ret (.ofE (.or (.cmp .eq (.ofF (.call k0 (.e (.v 0) (.e (.v 1) .nil)))) (.v 2)) (.or (.cmp .eq (.ofF (.call k0 (.e (.v 0) (.e (.v 2) .nil)))) (.v 1)) (.cmp .eq (.ofF (.call k0 (.e (.v 1) (.e (.v 2) .nil)))) (.v 0)))))) .nil)
noncomputable def fn_lsums (Φ : Tab) (k0 : Nat) : Fn := mkFn 3 [false, false, false] ((ir_lsums k0).sem Φ)
section
variable {Φ : Tab} {k k0 k1 k2 : Nat} {f f0 f1 f2 : Fn} {ρ : Tr.Env} {d e t a b c : D} {m : Int} {B n : Nat}
/-! ### rising rows -/
def risI : List Int → Bool
  | a :: b :: l => decide (a < b) && risI (b :: l)
  | _ => true
def prI (a b : Int) : D := .tuple [.int a, .int b]
def lessP : D → Bool
  | .tuple [.int a, .int b] => decide (a < b)
  | _ => false
theorem zip_ris : ∀ ns : List Int, (((ns.map PyData.int).zip ((ns.map PyData.int).drop 1)).map fun p => PyData.tuple [p.1, p.2]) = (ns.zip ns.tail).map fun p => prI p.1 p.2
  | [] => rfl
  | [_] => rfl
  | a :: b :: l => by
    have := zip_ris (b :: l)
    simp at this ⊢
    exact ⟨rfl, this⟩
theorem ris_all : ∀ ns : List Int, (((ns.zip ns.tail).map fun p => prI p.1 p.2).all lessP) = risI ns
  | [] => rfl
  | [_] => rfl
  | a :: b :: l => by
    have := ris_all (b :: l)
    simp only [List.tail_cons, List.zip_cons_cons, List.map_cons, List.all_cons, risI] at this ⊢
    rw [this]
    rfl
structure SpRis (f : Fn) : Prop where
  modes : f.modes = [false]
  eq : ∀ {d : D} {ns : List Int}, itemsD d = some (ns.map .int) → f.run [.frz d] = .ok (.frz (.bool (risI ns))) []
theorem SpRis.cl (s : SpRis f) (hf : Φ.fn[k]? = some f) {ns : List Int} (h : itemsD d = some (ns.map .int)) : callF Φ k [.d d] ρ = .ok (.frz (.bool (risI ns))) ρ := call_eq hf s.modes rfl rfl rfl (s.eq h)
theorem sp_isrising : SpRis (fn_isrising Φ) := ⟨rfl, fun {d ns} h => run_eq (by
  unfold fn_isrising
  rw [fn_wp]
  refine ⟨rfl, ?_⟩
  have e1 : cutL (ns.map PyData.int) (some 1) none = (ns.map PyData.int).drop 1 := cutL_lo (i := 1)
  have step : ∀ d : D, (loopL (asgT (.tup [1, 2])) (Ss.sem Φ (.cons (.ite (.not (.cmp .lt (.v 1) (.v 2))) (.cons (.ret (.ofE (.bl false))) .nil) .nil) .nil)) ((ns.zip ns.tail).map fun p => prI p.1 p.2) [some (.frz d), none, none]).wp
      (seqK Φ (.cons (.ret (.ofE (.bl true))) .nil) (retK [false] fun o' refs' => o' = .frz (.bool (risI ns)) ∧ refs' = [])) := fun d => by
    refine loop_all lessP (fun ρ => ∃ x1 x2, ρ = [some (.frz d), x1, x2]) ⟨none, none, rfl⟩ ?_ ?_
    · rintro x hx ρ ⟨x1, x2, rfl⟩
      obtain ⟨p, hp, rfl⟩ := List.mem_map.mp hx
      refine ⟨_, rfl, ?_⟩
      simp [lessP, prI]
      refine fun h1 => ⟨h1, fun h2 => ?_⟩
      have h3 := h2.no
      have h4 := ris_all ns
      unfold prI at h4
      rw [h4] at h3
      exact h3
    · rintro ρ hall ⟨x1, x2, rfl⟩
      rw [ris_all] at hall
      simp [hall]
  cases d <;> simp only [itemsD, reduceCtorEq, Option.some.injEq] at h
  · subst h
    simp [ir_isrising, e1, pairsD]
    have := step (.list (ns.map .int))
    rw [← zip_ris] at this
    simpa using this
  · subst h
    simp [ir_isrising, e1, pairsD]
    have := step (.tuple (ns.map .int))
    rw [← zip_ris] at this
    simpa using this)⟩
def thingsB (m : Int) (d : D) : Bool := match itemsD d with
  | some l => l.all (belowB m) && risI (l.map numD)
  | none => false
structure SpThings (f : Fn) : Prop where
  modes : f.modes = [false, false]
  eq : ∀ {d : D} {m : Int}, f.run [.frz d, .frz (.int m)] = .ok (.frz (.bool (thingsB m d))) []
theorem SpThings.cl (s : SpThings f) (hf : Φ.fn[k]? = some f) : callF Φ k [.d d, .d (.int m)] ρ = .ok (.frz (.bool (thingsB m d))) ρ := call_eq hf s.modes rfl rfl rfl s.eq
theorem sp_isthings (h0 : Φ.fn[k0]? = some f0) (s0 : SpB1 isRowB f0) (h1 : Φ.fn[k1]? = some f1) (s1 : SpBelow f1) (h2 : Φ.fn[k2]? = some f2) (s2 : SpRis f2) : SpThings (fn_isthings Φ k0 k1 k2) := ⟨rfl, fun {d m} => run_eq (by
  unfold fn_isthings
  rw [fn_wp]
  refine ⟨rfl, ?_⟩
  simp [ir_isthings, s0.cl h0]
  refine ⟨fun hr => ?_, fun hr => ?_⟩
  · unfold isRowB at hr
    simp at hr
    unfold thingsB
    rw [hr]
  · obtain ⟨l, hi, hle⟩ := row_cases hr
    simp [hi]
    refine loop_all (belowB m) (fun ρ => ∃ x2, ρ = [some (.frz d), some (.frz (.int m)), x2]) ⟨none, rfl⟩ ?_ ?_
    · rintro x hx ρ ⟨x2, rfl⟩
      refine ⟨_, rfl, ?_⟩
      simp [s1.cl h1]
      refine fun hb => ⟨hb, fun ha => ?_⟩
      unfold thingsB
      rw [hi]
      simp [ha.no]
    · rintro ρ hall ⟨x2, rfl⟩
      have e := below_all (List.all_eq_true.mp hall)
      have e2 : itemsD d = some ((l.map numD).map .int) := by rw [hi, ← e]
      simp [s2.cl h2 e2]
      unfold thingsB
      rw [hi]
      simp [hall])⟩
/-! ### a middle -/
def mid (p q r : Rat) : Bool := decide (p + q = r) || (decide (p + r = q) || decide (q + r = p))
structure Sp3 (g : Rat → Rat → Rat → Bool) (f : Fn) : Prop where
  modes : f.modes = [false, false, false]
  eq : ∀ {a b c : D}, Fr 1900 a → Fr 1900 b → Fr 1900 c → f.run [.frz a, .frz b, .frz c] = .ok (.frz (.bool (g (valR a) (valR b) (valR c)))) []
theorem Sp3.cl {g : Rat → Rat → Rat → Bool} (s : Sp3 g f) (hf : Φ.fn[k]? = some f) (ha : Fr 1900 a) (hb : Fr 1900 b) (hc : Fr 1900 c) : callF Φ k [.d a, .d b, .d c] ρ = .ok (.frz (.bool (g (valR a) (valR b) (valR c)))) ρ := call_eq hf s.modes rfl rfl rfl (s.eq ha hb hc)
theorem sp_way (h0 : Φ.fn[k0]? = some f0) (s0 : SpOrd f0) (h1 : Φ.fn[k1]? = some f1) (s1 : Sp2 (fun p q => p + q) any2 f1) : Sp3 (fun p q r => decide (p + q = r)) (fn_iswholeway Φ k0 k1) := ⟨rfl, fun {a b c} ha hb hc => run_eq (by
  unfold fn_iswholeway
  rw [fn_wp]
  refine ⟨rfl, ?_⟩
  have c1 := fun ρ => s1.cl (ρ := ρ) h1 (ha.mono (show 1900 ≤ 4000 by decide)) (hb.mono (show 1900 ≤ 4000 by decide)) trivial
  have c2 := fun ρ => s0.cl (ρ := ρ) h0 (fr_frD ((ha.sz.add hb.sz).mono (show 1900 + 1900 + 1 ≤ 4000 by decide))) (hc.mono (show 1900 ≤ 4000 by decide))
  simp [ir_iswholeway, c1, c2, valR_fr]
  simp [ord_zero])⟩
theorem sp_mid (h0 : Φ.fn[k0]? = some f0) (s0 : Sp3 (fun p q r => decide (p + q = r)) f0) : Sp3 mid (fn_hasmiddle Φ k0) := ⟨rfl, fun {a b c} ha hb hc => run_eq (by
  unfold fn_hasmiddle
  rw [fn_wp]
  refine ⟨rfl, ?_⟩
  have c1 := fun ρ => s0.cl (ρ := ρ) h0 ha hb hc
  have c2 := fun ρ => s0.cl (ρ := ρ) h0 ha hc hb
  have c3 := fun ρ => s0.cl (ρ := ρ) h0 hb hc ha
  simp [ir_hasmiddle, c1, c2, c3, mid]
  by_cases h1 : valR a + valR b = valR c <;> by_cases h2 : valR a + valR c = valR b <;> simp [h1, h2])⟩
structure SpEq (f : Fn) : Prop where
  modes : f.modes = [false, false]
  eq : ∀ {a b : D}, Fr 1900 a → Fr 1900 b → f.run [.frz a, .frz b] = .ok (.frz (.bool (decide (valR a = valR b)))) []
theorem SpEq.cl (s : SpEq f) (hf : Φ.fn[k]? = some f) (ha : Fr 1900 a) (hb : Fr 1900 b) : callF Φ k [.d a, .d b] ρ = .ok (.frz (.bool (decide (valR a = valR b)))) ρ := call_eq hf s.modes rfl rfl rfl (s.eq ha hb)
theorem sp_aresame (h0 : Φ.fn[k0]? = some f0) (s0 : SpOrd f0) : SpEq (fn_aresame Φ k0) := ⟨rfl, fun {a b} ha hb => run_eq (by
  unfold fn_aresame
  rw [fn_wp]
  refine ⟨rfl, ?_⟩
  have c2 := fun ρ => s0.cl (ρ := ρ) h0 (ha.mono (show 1900 ≤ 4000 by decide)) (hb.mono (show 1900 ≤ 4000 by decide))
  simp [ir_aresame, c2]
  simp [ord_zero])⟩
def bar3 (g : Nat → Nat → Rat) (i j k : Nat) : Bool := !mid (g i j) (g i k) (g j k)
def bar4 (g : Nat → Nat → Rat) (i j k l : Nat) : Bool := decide (g i j = g k l) && (decide (g i k = g j l) && (decide (g i l = g j k) && mid (g i j) (g i k) (g i l)))
structure SpB3 (f : Fn) : Prop where
  modes : f.modes = [false, false, false, false]
  eq : ∀ {n : Nat} {t : D} {i j k : Nat}, Sqr 1900 n t → i < n → j < n → k < n → f.run [.frz t, .frz (.int i), .frz (.int j), .frz (.int k)] = .ok (.frz (.bool (bar3 (cel t) i j k))) []
theorem SpB3.cl (s : SpB3 f) (hf : Φ.fn[k0]? = some f) (ht : Sqr 1900 n t) {i j k : Nat} (hi : i < n) (hj : j < n) (hk : k < n) : callF Φ k0 [.d t, .d (.int i), .d (.int j), .d (.int k)] ρ = .ok (.frz (.bool (bar3 (cel t) i j k))) ρ := call_eq hf s.modes rfl rfl rfl (s.eq ht hi hj hk)
theorem sp_bars3 (h0 : Φ.fn[k0]? = some f0) (s0 : Sp3 mid f0) : SpB3 (fn_barsthree Φ k0) := ⟨rfl, fun {n t i j k} ht hi hj hk => run_eq (by
  unfold fn_barsthree
  rw [fn_wp]
  refine ⟨rfl, ?_⟩
  have c1 := fun ρ => s0.cl (ρ := ρ) h0 (ht.fr hi hj) (ht.fr hi hk) (ht.fr hj hk)
  simp [ir_barsthree, ht.ix hi, ht.ix hj, ht.ix2 hi hj, ht.ix2 hi hk, ht.ix2 hj hk, c1, bar3, cel])⟩
structure SpB4 (f : Fn) : Prop where
  modes : f.modes = [false, false, false, false, false]
  eq : ∀ {n : Nat} {t : D} {i j k l : Nat}, Sqr 1900 n t → i < n → j < n → k < n → l < n → f.run [.frz t, .frz (.int i), .frz (.int j), .frz (.int k), .frz (.int l)] = .ok (.frz (.bool (bar4 (cel t) i j k l))) []
theorem SpB4.cl (s : SpB4 f) (hf : Φ.fn[k0]? = some f) (ht : Sqr 1900 n t) {i j k l : Nat} (hi : i < n) (hj : j < n) (hk : k < n) (hl : l < n) : callF Φ k0 [.d t, .d (.int i), .d (.int j), .d (.int k), .d (.int l)] ρ = .ok (.frz (.bool (bar4 (cel t) i j k l))) ρ := call_eq hf s.modes rfl rfl rfl (s.eq ht hi hj hk hl)
theorem sp_bars4 (h0 : Φ.fn[k0]? = some f0) (s0 : SpEq f0) (h1 : Φ.fn[k1]? = some f1) (s1 : Sp3 mid f1) : SpB4 (fn_barsfour Φ k0 k1) := ⟨rfl, fun {n t i j k l} ht hi hj hk hl => run_eq (by
  unfold fn_barsfour
  rw [fn_wp]
  refine ⟨rfl, ?_⟩
  have c1 := fun ρ => s0.cl (ρ := ρ) h0 (ht.fr hi hj) (ht.fr hk hl)
  have c2 := fun ρ => s0.cl (ρ := ρ) h0 (ht.fr hi hk) (ht.fr hj hl)
  have c3 := fun ρ => s0.cl (ρ := ρ) h0 (ht.fr hi hl) (ht.fr hj hk)
  have c4 := fun ρ => s1.cl (ρ := ρ) h1 (ht.fr hi hj) (ht.fr hi hk) (ht.fr hi hl)
  simp [ir_barsfour, ht.ix hi, ht.ix hj, ht.ix hk, ht.ix2 hi hj, ht.ix2 hi hk, ht.ix2 hi hl, ht.ix2 hj hk, ht.ix2 hj hl, ht.ix2 hk hl, c1, c2, c3, c4, bar4, cel]
  by_cases h1 : valR (subD (subD t i) j) = valR (subD (subD t k) l) <;> by_cases h2 : valR (subD (subD t i) k) = valR (subD (subD t j) l) <;> by_cases h3 : valR (subD (subD t i) l) = valR (subD (subD t j) k) <;> simp [h1, h2, h3])⟩
def natD (d : D) : Nat := (numD d).toNat
def barL (g : Nat → Nat → Rat) : List D → Bool
  | [i, j, k] => bar3 g (natD i) (natD j) (natD k)
  | [i, j, k, l] => bar4 g (natD i) (natD j) (natD k) (natD l)
  | _ => false
def barsB (g : Nat → Nat → Rat) (n : Nat) (d : D) : Bool := thingsB n d && (match itemsD d with
  | some l => barL g l
  | none => false)
theorem below_nat {n : Nat} {d : D} (h : belowB (n : Int) d = true) : d = .int (natD d : Nat) ∧ natD d < n := by
  have e := below_num h
  rw [e] at h
  have := below_int.mp h
  refine ⟨?_, by unfold natD; omega⟩
  conv => lhs; rw [e]
  unfold natD
  congr 1
  omega
structure SpBars (f : Fn) : Prop where
  modes : f.modes = [false, false]
  eq : ∀ {n : Nat} {t d : D}, Sqr 1900 n t → f.run [.frz t, .frz d] = .ok (.frz (.bool (barsB (cel t) n d))) []
theorem SpBars.cl (s : SpBars f) (hf : Φ.fn[k0]? = some f) (ht : Sqr 1900 n t) : callF Φ k0 [.d t, .d d] ρ = .ok (.frz (.bool (barsB (cel t) n d))) ρ := call_eq hf s.modes rfl rfl rfl (s.eq ht)
theorem sp_barsline (h0 : Φ.fn[k0]? = some f0) (s0 : SpThings f0) (h1 : Φ.fn[k1]? = some f1) (s1 : SpB3 f1) (h2 : Φ.fn[k2]? = some f2) (s2 : SpB4 f2) : SpBars (fn_barsline Φ k0 k1 k2) := ⟨rfl, fun {n t d} ht => run_eq (by
  unfold fn_barsline
  rw [fn_wp]
  refine ⟨rfl, ?_⟩
  simp [ir_barsline, ht.len, s0.cl h0]
  refine ⟨fun hr => by simp [barsB, hr], fun hr => ?_⟩
  have hr0 := hr
  unfold thingsB at hr
  cases hi : itemsD d with
  | none => rw [hi] at hr; cases hr
  | some l =>
    rw [hi] at hr
    simp only [Bool.and_eq_true, List.all_eq_true] at hr
    have hle := len_items hi
    have hx := fun i => ixD_items hi i
    have hB : barsB (cel t) n d = barL (cel t) l := by unfold barsB; rw [hr0, hi]; rfl
    simp [hle]
    rw [hB]
    refine ⟨fun h3 => ?_, fun h3 => ⟨fun h4 => ?_, fun h4 => ?_⟩⟩
    · obtain ⟨x, y, z, rfl⟩ : ∃ x y z, l = [x, y, z] := by
        match l, h3 with
        | [x, y, z], _ => exact ⟨x, y, z, rfl⟩
      have e0 := hx 0
      have e1 := hx 1
      have e2 := hx 2
      simp at e0 e1 e2
      obtain ⟨ex, hxn⟩ := below_nat (hr.1 x (by simp))
      obtain ⟨ey, hyn⟩ := below_nat (hr.1 y (by simp))
      obtain ⟨ez, hzn⟩ := below_nat (hr.1 z (by simp))
      have c1 := fun ρ => s1.cl (ρ := ρ) h1 ht hxn hyn hzn
      rw [← ex, ← ey, ← ez] at c1
      simp [e0, e1, e2, c1, barL]
    · obtain ⟨x, y, z, w, rfl⟩ : ∃ x y z w, l = [x, y, z, w] := by
        match l, h4 with
        | [x, y, z, w], _ => exact ⟨x, y, z, w, rfl⟩
      have e0 := hx 0
      have e1 := hx 1
      have e2 := hx 2
      have e3 := hx 3
      simp at e0 e1 e2 e3
      obtain ⟨ex, hxn⟩ := below_nat (hr.1 x (by simp))
      obtain ⟨ey, hyn⟩ := below_nat (hr.1 y (by simp))
      obtain ⟨ez, hzn⟩ := below_nat (hr.1 z (by simp))
      obtain ⟨ew, hwn⟩ := below_nat (hr.1 w (by simp))
      have c1 := fun ρ => s2.cl (ρ := ρ) h2 ht hxn hyn hzn hwn
      rw [← ex, ← ey, ← ez, ← ew] at c1
      simp [e0, e1, e2, e3, c1, barL]
    · match l, h3, h4 with
      | [], _, _ => rfl
      | [_], _, _ => rfl
      | [_, _], _, _ => rfl
      | [_, _, _], h3, _ => simp at h3
      | [_, _, _, _], _, h4 => simp at h4
      | _ :: _ :: _ :: _ :: _ :: _, _, _ => rfl)⟩
/-! ### a law's own look -/
theorem sp_sums (h0 : Φ.fn[k0]? = some f0) (s0 : Sp2 (fun p q => p + q) any2 f0) {p q r : Rat} (hp : Sz 1900 p) (hq : Sz 1900 q) (hr : Sz 1900 r) : (fn_lsums Φ k0).run [.frz (frD p), .frz (frD q), .frz (frD r)] = .ok (.frz (.bool (mid p q r))) [] := run_eq (by
  unfold fn_lsums
  rw [fn_wp]
  refine ⟨rfl, ?_⟩
  have w : ∀ {p : Rat}, Sz 1900 p → Sz 4000 p := fun h => h.mono (by decide)
  have c1 := fun ρ => s0.cf (ρ := ρ) h0 (w hp) (w hq) trivial
  have c2 := fun ρ => s0.cf (ρ := ρ) h0 (w hp) (w hr) trivial
  have c3 := fun ρ => s0.cf (ρ := ρ) h0 (w hq) (w hr) trivial
  simp [ir_lsums, c1, c2, c3, cmp_eq_fr, mid]
  by_cases h1 : p + q = r <;> by_cases h2 : p + r = q <;> simp [h1, h2])
end
end Lib
set_option Elab.async false
set_option linter.all false
set_option maxRecDepth 100000
set_option maxHeartbeats 4000000
/-! LibD: rising rows of things; things of any kind (16); sorted whole numbers. -/
namespace Lib
open PySem Tr
section
variable {Φ : Tab} {k : Nat} {f : Fn} {ρ : Tr.Env} {n m : Nat} {r : List Nat}
def natJ (l : List Nat) : List Int := l.map fun (x : Nat) => (x : Int)
def rowT (l : List Nat) : D := .tuple ((natJ l).map .int)
def rowLs (l : List Nat) : D := .list ((natJ l).map .int)
theorem natJ_len : (natJ r).length = r.length := by simp [natJ]
/-- rising things below n -/
structure Rise (n : Nat) (r : List Nat) : Prop where
  up : r.Pairwise (· < ·)
  lt : ∀ x ∈ r, x < n
theorem ris_of : ∀ {l : List Nat}, l.Pairwise (· < ·) → risI (natJ l) = true
  | [], _ => rfl
  | [_], _ => rfl
  | a :: b :: l, h => by
    have h1 := List.pairwise_cons.mp h
    have ih := ris_of h1.2
    have := h1.1 b (by simp)
    simp only [natJ, List.map_cons, risI, Bool.and_eq_true, decide_eq_true_eq] at ih ⊢
    exact ⟨by omega, ih⟩
theorem num_ints (l : List Int) : (l.map PyData.int).map numD = l := by
  rw [List.map_map]
  exact (List.map_congr_left fun x _ => rfl).trans (List.map_id l)
theorem below_natJ (h : ∀ x ∈ r, x < n) : ((natJ r).map PyData.int).all (belowB (n : Int)) = true := by
  rw [List.all_eq_true]
  intro x hx
  obtain ⟨y, hy, rfl⟩ := List.mem_map.mp hx
  obtain ⟨z, hz, rfl⟩ := List.mem_map.mp hy
  have := h z hz
  exact below_int.mpr ⟨by omega, by omega⟩
theorem things_rise {d : D} (h : Rise n r) (hi : itemsD d = some ((natJ r).map .int)) : thingsB n d = true := by
  unfold thingsB
  rw [hi]
  simp only [below_natJ h.lt, num_ints, ris_of h.up, Bool.and_self]
theorem natD_nat {x : Nat} : natD (.int (x : Int)) = x := by simp [natD, numD]
/-- what bars by rising things -/
def barN (g : Nat → Nat → Rat) : List Nat → Bool
  | [i, j, k] => bar3 g i j k
  | [i, j, k, l] => bar4 g i j k l
  | _ => false
theorem barL_nat (g : Nat → Nat → Rat) : ∀ r : List Nat, barL g ((natJ r).map .int) = barN g r
  | [] => rfl
  | [_] => rfl
  | [_, _] => rfl
  | [_, _, _] => by simp [natJ, barL, barN, natD_nat]
  | [_, _, _, _] => by simp [natJ, barL, barN, natD_nat]
  | _ :: _ :: _ :: _ :: _ :: _ => rfl
theorem barsB_rise {g : Nat → Nat → Rat} {d : D} (h : Rise n r) (hi : itemsD d = some ((natJ r).map .int)) : barsB g n d = barN g r := by
  unfold barsB
  rw [things_rise h hi, hi, Bool.true_and]
  exact barL_nat g r
/-! ### things of any kind -/
def isI : D → Bool
  | .int _ => true
  | _ => false
/-- no row, or one with something that is no whole number -/
def oddT (d : D) : Bool := match itemsD d with
  | some l => !l.all isI
  | none => true
theorem things_odd {d : D} {m : Int} (h : oddT d = true) : thingsB m d = false := by
  unfold oddT at h
  unfold thingsB
  cases hi : itemsD d with
  | none => rfl
  | some l =>
    rw [hi] at h
    simp only [Bool.not_eq_true', List.all_eq_false] at h
    obtain ⟨x, hx, e⟩ := h
    have : l.all (belowB m) = false := List.all_eq_false.mpr ⟨x, hx, by cases x <;> simp [isI, belowB] at e ⊢⟩
    simp [this]
theorem bars_odd {g : Nat → Nat → Rat} {d : D} (h : oddT d = true) : barsB g n d = false := by
  unfold barsB
  rw [things_odd h, Bool.false_and]
theorem odd16_cl {Q : PQ} (hf : Φ.fn[k]? = some (fn_odd16 Φ0)) (q : ∀ os, cleans os = true → (∀ x ∈ fzs os, oddT x = true) → os.length = 25 → Q (.box os) ρ) : (callF Φ k [] ρ).wp Q := by
  refine call_pure hf rfl rfl rfl (os := []) rfl ?_
  unfold fn_odd16
  rw [fn_wp]
  refine ⟨rfl, ?_⟩
  simp [Lib.ir_odd16]
  refine ⟨by decide, ?_⟩
  refine loop0 (fun i ρ => ∃ x1, (i = 0 ∧ ρ = [some (.frz (.int 0)), x1, none]) ∨ (i ≠ 0 ∧ ∃ d, isI d = decide (i = 1) ∧ ρ = [some (.box [.frz d]), x1, none])) ⟨_, .inl ⟨rfl, rfl⟩⟩ ?_ ?_
  · rintro i d ρ he ⟨x1, ⟨rfl, rfl⟩ | ⟨h0, e, h1, rfl⟩⟩
    · refine ⟨_, rfl, ?_⟩
      simp
      exact ⟨_, _, rfl, rfl, rfl⟩
    · refine ⟨_, rfl, ?_⟩
      simp
      exact ⟨_, _, by simp [isI]; omega, rfl, rfl⟩
  · rintro ρ ⟨x1, ⟨h0, rfl⟩ | ⟨h0, e, h1, rfl⟩⟩
    · simp at h0
    · have d0 : dctD [] [] = some (.dict []) := by simp [dctD]
      have d1 : ∀ x, dctD [.inl 0] [x] = some (.dict [(.int 0, x)]) := fun x => by simp [dctD, keyD]
      simp at h1
      simp [d0, d1]
      refine q _ (by simp) ?_ (by simp)
      have h2 : oddT (.list [e]) = true := by simp [oddT, itemsD, h1]
      intro x hx
      simp at hx
      rcases hx with rfl | rfl | rfl | rfl | rfl | rfl | rfl | rfl | rfl | rfl | rfl | rfl | rfl | rfl | rfl | rfl | rfl | rfl | rfl | rfl | rfl | rfl | rfl | rfl | rfl
      all_goals first | rfl | exact h2 | (decide +kernel)
end
end Lib
set_option Elab.async false
set_option linter.all false
set_option maxRecDepth 100000
set_option maxHeartbeats 4000000
/-! LibE: what the laws of heights draw: streams, factors, tables of one height, any by shortest ways. -/
namespace Lib
open PySem Tr
def ir_aboveboth (k0 : Nat) : Ss := (.cons (.ret (.ofE (.and (.cmp .gt (.ofF (.call k0 (.e (.v 0) (.e (.v 1) .nil)))) (.int 0)) (.cmp .gt (.ofF (.call k0 (.e (.v 0) (.e (.v 2) .nil)))) (.int 0))))) .nil)
noncomputable def fn_aboveboth (Φ : Tab) (k0 : Nat) : Fn := mkFn 3 [false, false, false] ((ir_aboveboth k0).sem Φ)
def ir_bars3h (k0 : Nat) : Ss := (.cons (.par3 4 5 6 (.ix (.ix (.v 0) (.v 1)) (.v 2)) (.ix (.ix (.v 0) (.v 1)) (.v 3)) (.ix (.ix (.v 0) (.v 2)) (.v 3))) (.cons (.ite (.or (.tru (.ofF (.call k0 (.e (.v 4) (.e (.v 5) (.e (.v 6) .nil)))))) (.tru (.ofF (.call k0 (.e (.v 5) (.e (.v 4) (.e (.v 6) .nil))))))) (.cons (.ret (.ofE (.bl true))) .nil) .nil) (.cons (.ret (.call k0 (.e (.v 6) (.e (.v 4) (.e (.v 5) .nil))))) .nil)))
noncomputable def fn_bars3h (Φ : Tab) (k0 : Nat) : Fn := mkFn 7 [false, false, false, false] ((ir_bars3h k0).sem Φ)
def ir_barsheights (k0 : Nat) (k1 : Nat) : Ss := (.cons (.ite (.or (.not (.tru (.ofF (.call k0 (.e (.v 1) (.e (.b1 .len (.v 0)) .nil)))))) (.cmp .ne (.b1 .len (.v 1)) (.int 3))) (.cons (.ret (.ofE (.bl false))) .nil) .nil) (.cons (.ret (.call k1 (.e (.v 0) (.e (.ix (.v 1) (.int 0)) (.e (.ix (.v 1) (.int 1)) (.e (.ix (.v 1) (.int 2)) .nil)))))) .nil))
noncomputable def fn_barsheights (Φ : Tab) (k0 : Nat) (k1 : Nat) : Fn := mkFn 2 [false, false] ((ir_barsheights k0 k1).sem Φ)
def ir_streamH : Ss := (.cons (.ite (.cmp .lt (.v 1) (.plen (.v 0))) (.cons (.set 2 (.ofE (.ix1 0 (.v 1)))) (.cons (.set 3 (.add (.ofF (.add (.op .mod (.v 2) (.int 2147483629)) (.ofF (.mul (.v 1) (.v 1))))) (.int 1))) (.cons (.ite (.cmp .lt (.v 2) (.op .pow (.int 10) (.int 18))) (.cons (.set 2 (.ofE (.int 0))) .nil) .nil) (.cons (.ret (.lst (.cons (.ofE (.v 2)) (.cons (.ofE (.v 3)) .nil)))) .nil)))) .nil) (.cons (.ret (.lst (.cons (.ofE (.int 0)) (.cons (.add (.ofF (.mul (.v 1) (.v 1))) (.int 11)) .nil)))) .nil))
noncomputable def fn_streamH (Φ : Tab) : Fn := mkFn 4 [true, false] ((ir_streamH).sem Φ)
def ir_takeH : Ss := (.cons (.ite (.cmp .eq (.ix1 0 (.int 0)) (.int 0)) (.cons (.store 0 (.int 1) (.ofE (.op .mod (.ofF (.add (.ofF (.mul (.ix1 0 (.int 1)) (.int 48271))) (.int 12345))) (.int 2147483647)))) (.cons (.ret (.ofE (.op .mod (.op .mod (.ofF (.mul (.ix1 0 (.int 1)) (.ix1 0 (.int 1)))) (.int 2147483629)) (.v 1)))) .nil)) .nil) (.cons (.set 2 (.ofE (.op .mod (.ix1 0 (.int 0)) (.v 1)))) (.cons (.store 0 (.int 0) (.ofE (.op .fdiv (.ix1 0 (.int 0)) (.v 1)))) (.cons (.ret (.ofE (.v 2))) .nil))))
noncomputable def fn_takeH (Φ : Tab) : Fn := mkFn 3 [true, false] ((ir_takeH).sem Φ)
def ir_lowestH : Ss := (.cons (.par 2 3 (.b1 .abs (.v 0)) (.v 1)) (.cons (.whl (.cmp .gt (.v 3) (.int 0)) (.cons (.par 2 3 (.v 3) (.op .mod (.v 2) (.v 3))) .nil)) (.cons (.ret (.ofE (.tup (.cons (.op .fdiv (.v 0) (.v 2)) (.cons (.op .fdiv (.v 1) (.v 2)) .nil))))) .nil)))
noncomputable def fn_lowestH (Φ : Tab) : Fn := mkFn 4 [false, false] ((ir_lowestH).sem Φ)
def ir_listedH (k0 : Nat) : Ss := (.cons (.ite (.tru (.isi (.v 0) [.tuple])) (.cons (.ret (.comp (.name 1) (.seq (.v 0)) .nil (.call k0 (.e (.v 1) .nil)) [1])) .nil) .nil) (.cons (.ret (.ofE (.v 0))) .nil))
noncomputable def fn_listedH (Φ : Tab) (k0 : Nat) : Fn := mkFn 2 [false] ((ir_listedH k0).sem Φ)
def ir_factorH (k0 : Nat) : Ss := (.cons (.set 1 (.ofE (.ix (.ofF (.lst (.cons (.ofE (.int 1)) (.cons (.ofE (.int 1)) (.cons (.ofE (.int 3)) (.cons (.add (.op .pow (.int 10) (.int 24)) (.int 7)) (.cons (.add (.int 1) (.ofF (.call k0 (.r 0 (.e (.int 40) .nil))))) .nil))))))) (.ofF (.call k0 (.r 0 (.e (.int 5) .nil))))))) (.cons (.ret (.ofE (.tup (.cons (.v 1) (.cons (.ix (.ofF (.lst (.cons (.ofE (.int 1)) (.cons (.ofE (.int 2)) (.cons (.ofE (.int 5)) (.cons (.add (.int 1) (.ofF (.call k0 (.r 0 (.e (.int 30) .nil))))) .nil)))))) (.ofF (.call k0 (.r 0 (.e (.int 4) .nil))))) .nil))))) .nil))
noncomputable def fn_factorH (Φ : Tab) (k0 : Nat) : Fn := mkFn 2 [true] ((ir_factorH k0).sem Φ)
def ir_tableH (k0 : Nat) : Ss := (.cons (.ret (.ofE (.b1 .tuple (.ofF (.comp (.name 2) (.seq (.v 0)) .nil (.ofE (.b1 .tuple (.ofF (.comp (.name 3) (.seq (.v 2)) .nil (.call k0 (.e (.ofF (.mul (.v 3) (.ix (.v 1) (.int 0)))) (.e (.ix (.v 1) (.int 1)) .nil))) [3])))) [2]))))) .nil)
noncomputable def fn_tableH (Φ : Tab) (k0 : Nat) : Fn := mkFn 4 [false, false] ((ir_tableH k0).sem Φ)
def ir_mergedH (k0 : Nat) : Ss := (.cons (.set 3 (.comp (.name 8) (.range1 (.v 1)) .nil (.mul (.ofF (.lst (.cons (.ofE (.int 0)) .nil))) (.v 1)) [8])) (.cons (.set 4 (.comp (.name 8) (.range1 (.v 1)) .nil (.lst (.cons (.ofE (.v 8)) .nil)) [8])) (.cons (.set 5 (.ofE (.int 2))) (.cons (.whl (.cmp .gt (.plen (.v 4)) (.int 1)) (.cons (.set 5 (.add (.ofF (.add (.v 5) (.ofF (.mul (.int 2) (.ofF (.call k0 (.r 0 (.e (.int 3) .nil)))))))) (.ofF (.mul (.int 2) (.b1 .int (.or (.cmp .eq (.v 5) (.int 2)) (.v 2))))))) (.cons (.set 6 (.popAt 4 (.ix (.ofF (.lst (.cons (.call k0 (.r 0 (.e (.plen (.v 4)) .nil))) (.cons (.ofE (.op .sub (.plen (.v 4)) (.int 1))) .nil)))) (.b1 .int (.v 2))))) (.cons (.set 7 (.popAt 4 (.ofF (.call k0 (.r 0 (.e (.plen (.v 4)) .nil)))))) (.cons (.loop (.name 8) (.seq (.v 6)) (.cons (.loop (.name 9) (.seq (.v 7)) (.cons (.storeP (.ix (.v 3) (.v 8)) (.v 9) (.ofE (.v 5))) (.cons (.storeP (.ix (.v 3) (.v 9)) (.v 8) (.ofE (.v 5))) .nil))) .nil)) (.cons (.append 4 (.add (.v 6) (.v 7))) .nil)))))) (.cons (.ret (.mv 3)) .nil)))))
noncomputable def fn_mergedH (Φ : Tab) (k0 : Nat) : Fn := mkFn 10 [true, false, false] ((ir_mergedH k0).sem Φ)
def ir_metricH (k0 : Nat) : Ss := (.cons (.set 2 (.comp (.name 3) (.range1 (.v 1)) .nil (.mul (.ofF (.lst (.cons (.ofE (.int 0)) .nil))) (.v 1)) [3])) (.cons (.loop (.name 3) (.range1 (.v 1)) (.cons (.loop (.name 5) (.range2 (.ofF (.add (.v 3) (.int 1))) (.v 1)) (.cons (.storeP (.ix (.v 2) (.v 3)) (.v 5) (.add (.int 1) (.ofF (.call k0 (.r 0 (.e (.int 12) .nil)))))) (.cons (.storeP (.ix (.v 2) (.v 5)) (.v 3) (.ofE (.pix (.ix (.ix (.v 2) (.v 3)) (.v 5))))) .nil))) .nil)) (.cons (.loop (.name 4) (.range1 (.v 1)) (.cons (.loop (.name 3) (.range1 (.v 1)) (.cons (.loop (.name 5) (.range1 (.v 1)) (.cons (.storeP (.ix (.v 2) (.v 3)) (.v 5) (.ofE (.b2 .min (.pix (.ix (.ix (.v 2) (.v 3)) (.v 5))) (.ofF (.add (.pix (.ix (.ix (.v 2) (.v 3)) (.v 4))) (.pix (.ix (.ix (.v 2) (.v 4)) (.v 5)))))))) .nil)) .nil)) .nil)) (.cons (.ret (.mv 2)) .nil))))
noncomputable def fn_metricH (Φ : Tab) (k0 : Nat) : Fn := mkFn 6 [true, false] ((ir_metricH k0).sem Φ)
def ir_drawnH (k0 : Nat) (k1 : Nat) (k2 : Nat) : Ss := (.cons (.set 2 (.call k0 (.r 0 (.e (.int 4) .nil)))) (.cons (.ite (.cmp .eq (.v 2) (.int 3)) (.cons (.ret (.call k1 (.r 0 (.e (.v 1) .nil)))) .nil) .nil) (.cons (.set 3 (.call k2 (.r 0 (.e (.v 1) (.e (.cmp .eq (.v 2) (.int 2)) .nil))))) (.cons (.ite (.and (.cmp .eq (.v 2) (.int 1)) (.cmp .gt (.v 1) (.int 1))) (.cons (.set 4 (.call k0 (.r 0 (.e (.v 1) .nil)))) (.cons (.set 5 (.ofE (.op .mod (.ofF (.add (.ofF (.add (.v 4) (.int 1))) (.ofF (.call k0 (.r 0 (.e (.op .sub (.v 1) (.int 1)) .nil)))))) (.v 1)))) (.cons (.storeP (.ix (.v 3) (.v 4)) (.v 5) (.add (.pix (.ix (.ix (.v 3) (.v 4)) (.v 5))) (.ix (.ofF (.lst (.cons (.ofE (.int 1)) (.cons (.ofE (.neg (.int 1))) .nil)))) (.ofF (.call k0 (.r 0 (.e (.int 2) .nil))))))) (.cons (.storeP (.ix (.v 3) (.v 5)) (.v 4) (.ofE (.pix (.ix (.ix (.v 3) (.v 4)) (.v 5))))) .nil)))) .nil) (.cons (.ret (.mv 3)) .nil)))))
noncomputable def fn_drawnH (Φ : Tab) (k0 : Nat) (k1 : Nat) (k2 : Nat) : Fn := mkFn 6 [true, false] ((ir_drawnH k0 k1 k2).sem Φ)
def ir_manyH (k0 : Nat) : Ss := (.cons (.set 2 (.ofE (.ix (.ofF (.lst (.cons (.ofE (.int 3)) (.cons (.ofE (.int 4)) (.cons (.ofE (.int 5)) (.cons (.ofE (.int 6)) (.cons (.ofE (.int 7)) (.cons (.ofE (.int 2)) (.cons (.ofE (.int 1)) (.cons (.ofE (.int 0)) .nil)))))))))) (.ofF (.call k0 (.r 0 (.e (.int 8) .nil))))))) (.cons (.ite (.and (.cmp .eq (.v 1) (.int 0)) (.cmp .eq (.ofF (.call k0 (.r 0 (.e (.int 8) .nil)))) (.int 0))) (.cons (.set 2 (.ofE (.int 20))) .nil) .nil) (.cons (.ret (.ofE (.v 2))) .nil)))
noncomputable def fn_manyH (Φ : Tab) (k0 : Nat) : Fn := mkFn 3 [true, false] ((ir_manyH k0).sem Φ)
section
variable {Φ : Tab} {k k0 k1 k2 : Nat} {f f0 f1 f2 : Fn} {ρ : Tr.Env} {d : D} {n : Nat} {rows : List (List D)}
variable {k1' : Nat}
theorem sp_lowestH : SpLow (fn_lowestH Φ) := ⟨rfl, fun {a b} hb h8 => run_eq (by
  unfold fn_lowestH
  rw [fn_wp]
  refine ⟨rfl, ?_⟩
  simp [ir_lowestH, abs_nat]
  refine whl_wp (fun n ρ => ∃ x : Nat, x.gcd n = Int.gcd a b ∧ ρ = [some (.frz (.int a)), some (.frz (.int b)), some (.frz (.int x)), some (.frz (.int n))]) (fun n ρ hi => ?_) b.natAbs ⟨a.natAbs, rfl, by rw [show (b.natAbs : Int) = b by omega]⟩
  obtain ⟨x, hx, rfl⟩ := hi
  simp
  refine ⟨fun h0 => ⟨by omega, x % n, Nat.mod_lt _ h0, n, (gcd_step h0).trans hx, rfl, gcd_fmod h0⟩, fun h0 => ?_⟩
  subst h0
  rw [Nat.gcd_zero_right] at hx
  subst hx
  obtain ⟨g1, g2⟩ := gcd_bits (a := a) (show b ≠ 0 by omega) h8
  have g1' : a.gcd b ≠ 0 := by omega
  have fin := frac_eq (a := a) (show b ≠ 0 by omega)
  rw [if_neg (by omega)] at fin
  simp [g2, g1']
  exact fin)⟩
/-- a stream's two cells -/
def OkH (st : O) : Prop := ∃ c m : Int, st = .box [.frz (.int c), .frz (.int m)] ∧ 0 ≤ c ∧ 0 ≤ m ∧ m < 2 ^ 33
structure SpTake (f : Fn) : Prop where
  modes : f.modes = [true, false]
  run : ∀ {st : O} {m : Int} {Q : PQ}, OkH st → 0 < m → m < 2 ^ 200 → (∀ v st', 0 ≤ v → v < m → OkH st' → Q (.frz (.int v)) [some st']) → (f.run [st, .frz (.int m)]).wp Q
theorem SpTake.cl {Q : PQ} (s : SpTake f) (hf : Φ.fn[k]? = some f) {i : Nat} {st : O} (hs : ldV i ρ = some st) (ho : OkH st) {m : Int} (h0 : 0 < m) (h1 : m < 2 ^ 200)
    (q : ∀ v st', 0 ≤ v → v < m → OkH st' → Q (.frz (.int v)) (ρ.set i (some st'))) : (callF Φ k [.r i, .d (.int m)] ρ).wp Q := by
  refine call_sp hf s.modes rfl (os := [st, .frz (.int m)]) (by simp [gather, hs]) (s.run ho h0 h1 fun v st' a b c => ?_)
  simpa [callK] using q v st' a b c
theorem sp_takeH : SpTake (fn_takeH Φ) := ⟨rfl, fun {st m Q} hs h0 h1 q => by
  obtain ⟨c, x, rfl, c0, x0, x1⟩ := hs
  unfold fn_takeH
  rw [fn_wp]
  refine ⟨rfl, ?_⟩
  have lm : m.natAbs.log2 < 9000 := by
    have : m.natAbs < 2 ^ 8000 := Nat.lt_trans (show m.natAbs < 2 ^ 200 by omega) (Nat.pow_lt_pow_right (by decide) (by decide))
    have := log2_le this
    omega
  obtain ⟨y0, y1⟩ := mod_rng (i := x * 48271 + 12345) (m := 2147483647) (by decide)
  have bx : Bits 40 x := .of_lt (by omega) (by omega)
  have by' : Bits 40 ((x * 48271 + 12345).fmod 2147483647) := .of_lt (by omega) (by omega)
  have hb := mul_okn bx (b := 48271) (by decide +kernel)
  have hb2 := mul_ok by' by' (by decide)
  have m0 : m ≠ 0 := by omega
  have i1 : ixN 2 1 = some 1 := rfl
  have i0 : ixN 2 0 = some 0 := rfl
  simp [ir_takeH, storeF, hb, hb2, lm, m0, i1, i0]
  refine ⟨fun hc => ?_, fun hc => ?_⟩
  · obtain ⟨r0, r1⟩ := mod_rng (i := ((x * 48271 + 12345).fmod 2147483647 * (x * 48271 + 12345).fmod 2147483647).fmod 2147483629) (m := m) h0
    exact q _ _ r0 r1 ⟨_, _, rfl, c0, y0, by omega⟩
  · obtain ⟨r0, r1⟩ := mod_rng (i := c) (m := m) h0
    exact q _ _ r0 r1 ⟨_, _, rfl, Int.fdiv_nonneg c0 (by omega), x0, x1⟩⟩
structure SpStream (f : Fn) : Prop where
  modes : f.modes = [true, false]
  run : ∀ {ns : List Int} {j : Nat} {Q : PQ}, ns.length ≤ 63 → j ≤ 1000 → (∀ st, OkH st → Q st [some (.scr ns)]) → (f.run [.scr ns, .frz (.int j)]).wp Q
theorem SpStream.cl {Q : PQ} (s : SpStream f) (hf : Φ.fn[k]? = some f) {i j : Nat} {ns : List Int} (hs : ldV i ρ = some (.scr ns)) (hn : ns.length ≤ 63) (hj : j ≤ 1000)
    (q : ∀ st, OkH st → Q st (ρ.set i (some (.scr ns)))) : (callF Φ k [.r i, .d (.int j)] ρ).wp Q := by
  refine call_sp hf s.modes rfl (os := [.scr ns, .frz (.int j)]) (by simp [gather, hs]) (s.run hn hj fun st a => ?_)
  simpa [callK] using q st a
theorem sp_streamH : SpStream (fn_streamH Φ) := ⟨rfl, fun {ns j Q} hn hj q => by
  unfold fn_streamH
  rw [fn_wp]
  refine ⟨rfl, ?_⟩
  have hb := mul_ok (Bits.of_lt (n := 20) (i := (j : Int)) (by omega) (by omega)) (Bits.of_lt (n := 20) (i := (j : Int)) (by omega) (by omega)) (by decide)
  simp at hb
  have jj : (j : Int) * j ≤ 1000 * 1000 := Int.mul_le_mul (by omega) (by omega) (by omega) (by omega)
  have jj0 : 0 ≤ (j : Int) * j := Int.mul_nonneg (by omega) (by omega)
  have mulj : mulO (.int j) (.int j) = some (.frz (.int ((j : Int) * j))) := by simp [hb]
  simp [ir_streamH, P.sem, lenP, lenO, -mul_ii, mulj]
  refine ⟨fun hl => ?_, fun hl => ?_⟩
  · have e : atD ns (j : Int) = some (ns.getD j 0) := by rw [atD_nat, List.getElem?_eq_getElem (by omega)]; simp [List.getElem?_eq_getElem (show j < ns.length by omega)]
    obtain ⟨c, ec⟩ : ∃ c, ns.getD j 0 = c := ⟨_, rfl⟩
    rw [ec] at e
    obtain ⟨y0, y1⟩ := mod_rng (i := c) (m := 2147483629) (by decide)
    simp [e, -mul_ii, mulj]
    refine ⟨fun hc => q _ ⟨0, _, rfl, by decide, by omega, by omega⟩, fun hc => q _ ⟨c, _, rfl, by omega, by omega, by omega⟩⟩
  · exact q _ ⟨0, _, rfl, by decide, by omega, by omega⟩⟩
structure SpNumH (N : Nat) (f : Fn) : Prop where
  modes : f.modes = [true, false]
  run : ∀ {st : O} {j : Nat} {Q : PQ}, OkH st → (∀ (n : Nat) st', n ≤ N → OkH st' → Q (.frz (.int n)) [some st']) → (f.run [st, .frz (.int j)]).wp Q
theorem SpNumH.cl {N : Nat} {Q : PQ} (s : SpNumH N f) (hf : Φ.fn[k]? = some f) {i j : Nat} {st : O} (hs : ldV i ρ = some st) (ho : OkH st)
    (q : ∀ (n : Nat) st', n ≤ N → OkH st' → Q (.frz (.int n)) (ρ.set i (some st'))) : (callF Φ k [.r i, .d (.int j)] ρ).wp Q := by
  refine call_sp hf s.modes rfl (os := [st, .frz (.int j)]) (by simp [gather, hs]) (s.run ho fun n st' a b => ?_)
  simpa [callK] using q n st' a b
theorem sp_manyH (hf : Φ.fn[k0]? = some f0) (s0 : SpTake f0) : SpNumH 20 (fn_manyH Φ k0) := ⟨rfl, fun {st j Q} hs q => by
  unfold fn_manyH
  rw [fn_wp]
  refine ⟨rfl, ?_⟩
  simp [ir_manyH]
  refine s0.cl hf rfl hs (by decide) (by decide) fun v st1 v0 v1 h1 => ?_
  obtain ⟨x, mx, ex⟩ := at_in (l := [PyData.int 3, .int 4, .int 5, .int 6, .int 7, .int 2, .int 1, .int 0]) v0 (by simpa using v1)
  obtain ⟨n, rfl, hn⟩ : ∃ n : Nat, x = .int n ∧ n ≤ 20 := by
    simp only [List.mem_cons, List.not_mem_nil, or_false] at mx
    rcases mx with rfl | rfl | rfl | rfl | rfl | rfl | rfl | rfl
    · exact ⟨3, rfl, by decide⟩
    · exact ⟨4, rfl, by decide⟩
    · exact ⟨5, rfl, by decide⟩
    · exact ⟨6, rfl, by decide⟩
    · exact ⟨7, rfl, by decide⟩
    · exact ⟨2, rfl, by decide⟩
    · exact ⟨1, rfl, by decide⟩
    · exact ⟨0, rfl, by decide⟩
  simp [ex]
  refine ⟨fun _ => ?_, fun _ => q n _ hn h1⟩
  refine s0.cl hf rfl h1 (by decide) (by decide) fun w st2 w0 w1 h2 => ?_
  simp
  exact ⟨fun _ => q 20 _ (by decide) h2, fun _ => q n _ hn h2⟩⟩
/-- a factor: its top, its foot -/
structure SpFac (f : Fn) : Prop where
  modes : f.modes = [true]
  run : ∀ {st : O} {Q : PQ}, OkH st → (∀ (a b : Int) st', 0 < a → a < 2 ^ 90 → 0 < b → b ≤ 30 → OkH st' → Q (.frz (.tuple [.int a, .int b])) [some st']) → (f.run [st]).wp Q
theorem SpFac.cl {Q : PQ} (s : SpFac f) (hf : Φ.fn[k]? = some f) {i : Nat} {st : O} (hs : ldV i ρ = some st) (ho : OkH st)
    (q : ∀ (a b : Int) st', 0 < a → a < 2 ^ 90 → 0 < b → b ≤ 30 → OkH st' → Q (.frz (.tuple [.int a, .int b])) (ρ.set i (some st'))) : (callF Φ k [.r i] ρ).wp Q := by
  refine call_sp hf s.modes rfl (os := [st]) (by simp [gather, hs]) (s.run ho fun a b st' h1 h2 h3 h4 h5 => ?_)
  simpa [callK] using q a b st' h1 h2 h3 h4 h5
theorem sp_factorH (hf : Φ.fn[k0]? = some f0) (s0 : SpTake f0) : SpFac (fn_factorH Φ k0) := ⟨rfl, fun {st Q} hs q => by
  unfold fn_factorH
  rw [fn_wp]
  refine ⟨rfl, ?_⟩
  simp [ir_factorH]
  refine s0.cl hf rfl hs (by decide) (by decide) fun v st1 v0 v1 h1 => ?_
  simp
  refine s0.cl hf rfl h1 (by decide) (by decide) fun w st2 w0 w1 h2 => ?_
  obtain ⟨x, mx, ex⟩ := at_in (l := [PyData.int 1, .int 1, .int 3, .int (10 ^ 24 + 7), .int (1 + v)]) w0 (by simpa using w1)
  obtain ⟨a, rfl, a0, a1⟩ : ∃ a : Int, x = .int a ∧ 0 < a ∧ a < 2 ^ 90 := by
    simp only [List.mem_cons, List.not_mem_nil, or_false] at mx
    rcases mx with rfl | rfl | rfl | rfl | rfl
    · exact ⟨1, rfl, by decide, by decide⟩
    · exact ⟨1, rfl, by decide, by decide⟩
    · exact ⟨3, rfl, by decide, by decide⟩
    · exact ⟨10 ^ 24 + 7, rfl, by decide, by decide⟩
    · exact ⟨1 + v, rfl, by omega, by omega⟩
  simp at ex
  simp [ex]
  refine s0.cl hf rfl h2 (by decide) (by decide) fun v' st3 v0' v1' h3 => ?_
  simp
  refine s0.cl hf rfl h3 (by decide) (by decide) fun w' st4 w0' w1' h4 => ?_
  obtain ⟨y, my, ey⟩ := at_in (l := [PyData.int 1, .int 2, .int 5, .int (1 + v')]) w0' (by simpa using w1')
  obtain ⟨b, rfl, b0, b1⟩ : ∃ b : Int, y = .int b ∧ 0 < b ∧ b ≤ 30 := by
    simp only [List.mem_cons, List.not_mem_nil, or_false] at my
    rcases my with rfl | rfl | rfl | rfl
    · exact ⟨1, rfl, by decide, by decide⟩
    · exact ⟨2, rfl, by decide, by decide⟩
    · exact ⟨5, rfl, by decide, by decide⟩
    · exact ⟨1 + v', rfl, by omega, by omega⟩
  simp [ey]
  exact q a b _ a0 a1 b0 b1 h4⟩
/-- a whole number between -/
def IB (lo hi : Int) (x : D) : Prop := ∃ i : Int, x = .int i ∧ lo ≤ i ∧ i ≤ hi
theorem IB.mono {lo hi lo' hi' : Int} {x : D} (h : IB lo hi x) (h1 : lo' ≤ lo) (h2 : hi ≤ hi') : IB lo' hi' x := by
  obtain ⟨i, rfl, a, b⟩ := h
  exact ⟨i, rfl, by omega, by omega⟩
theorem look2 {p : D → Prop} (h : SqL n p rows) {i j : Nat} (hi : i < n) (hj : j < n) : ∃ x, lookP (.box (bxs rows)) [.int (i : Int), .int (j : Int)] = some (.frz x) ∧ p x := by
  have hg := h.get hi
  have hr := h.row _ hg.1
  have hj' : j < (rows.getD i []).length := by omega
  refine ⟨(rows.getD i [])[j]'hj', ?_, h.all _ hg.1 _ (List.getElem_mem _)⟩
  have e1 : atD (bxs rows) (i : Int) = some (.box ((rows.getD i []).map .frz)) := by
    rw [atD_nat]
    unfold bxs
    rw [List.getElem?_map, hg.2]
    rfl
  rw [look_b, e1]
  dsimp only
  rw [look_b, atD_nat, List.getElem?_map, List.getElem?_eq_getElem hj']
  simp
theorem zero_rows {lo hi : Int} (h0 : lo ≤ 0) (h1 : 0 ≤ hi) : SqL n (IB lo hi) (List.replicate n (List.replicate n (.int 0))) := by
  refine ⟨by simp, fun r hr => ?_, fun r hr x hx => ?_⟩
  · rw [(List.mem_replicate.mp hr).2]; simp
  · rw [(List.mem_replicate.mp hr).2] at hx
    exact ⟨0, (List.mem_replicate.mp hx).2, h0, h1⟩
/-- drawn rows of whole numbers -/
structure SpRows (lo hi : Int) (f : Fn) : Prop where
  modes : f.modes = [true, false]
  run : ∀ {st : O} {n : Nat} {Q : PQ}, OkH st → n ≤ 20 → (∀ rows st', SqL n (IB lo hi) rows → OkH st' → Q (.box (bxs rows)) [some st']) → (f.run [st, .frz (.int n)]).wp Q
theorem SpRows.cl {lo hi : Int} {Q : PQ} (s : SpRows lo hi f) (hf : Φ.fn[k]? = some f) {i : Nat} {st : O} (hs : ldV i ρ = some st) (ho : OkH st) (hn : n ≤ 20)
    (q : ∀ rows st', SqL n (IB lo hi) rows → OkH st' → Q (.box (bxs rows)) (ρ.set i (some st'))) : (callF Φ k [.r i, .d (.int n)] ρ).wp Q := by
  refine call_sp hf s.modes rfl (os := [st, .frz (.int n)]) (by simp [gather, hs]) (s.run ho hn fun rows st' a b => ?_)
  simpa [callK] using q rows st' a b
theorem sp_metricH (hf : Φ.fn[k0]? = some f0) (s0 : SpTake f0) : SpRows 0 12 (fn_metricH Φ k0) := ⟨rfl, fun {st n Q} hs hn q => by
  unfold fn_metricH
  rw [fn_wp]
  refine ⟨rfl, ?_⟩
  unfold ir_metricH
  rw [wss_cons]
  refine cut (fun ρ => ρ = [some st, some (.frz (.int n)), some (.box (bxs (List.replicate n (List.replicate n (.int 0))))), none, none, none]) ?_ ?_
  · simp
    refine ⟨inR (by omega), ?_⟩
    rw [rng_map]
    refine comp_each (c := fun k : Nat => PyData.int (0 + (k : Int))) (fun _ => .box ((List.replicate n (PyData.int 0)).map .frz)) (fun z hz => ⟨_, rfl, ?_⟩) ?_
    · simp
      omega
    · have eb : ((List.range n).map fun _ => O.box ((List.replicate n (PyData.int 0)).map .frz)) = bxs (List.replicate n (List.replicate n (.int 0))) := by
        simp [bxs]
        exact List.eq_replicate_iff.mpr ⟨by simp, fun x hx => by simp at hx; exact hx.2.symm⟩
      rw [eb]
      refine ⟨by rw [bxs_len]; simp; omega, ?_⟩
      simp
  rintro ρ rfl
  rw [wss_cons]
  refine cut (fun ρ => ∃ rows st' x3 x4 x5, SqL n (IB 0 12) rows ∧ OkH st' ∧ ρ = [some st', some (.frz (.int n)), some (.box (bxs rows)), x3, x4, x5]) ?_ ?_
  · rw [wst_loop]
    simp [-wst_loop]
    refine ⟨inR (by omega), ?_⟩
    refine loop0 (fun i ρ => ∃ rows st' x3 x4 x5, SqL n (IB 0 12) rows ∧ OkH st' ∧ ρ = [some st', some (.frz (.int n)), some (.box (bxs rows)), x3, x4, x5]) ⟨_, _, _, _, _, zero_rows (by decide) (by decide), hs, rfl⟩ ?_ ?_
    · rintro i d ρ he ⟨rows, st', x3, x4, x5, hr, ho, rfl⟩
      obtain ⟨rfl, hi⟩ := rng_at he
      refine ⟨_, rfl, ?_⟩
      simp
      refine ⟨⟨inR (by omega), inR (by omega)⟩, ?_⟩
      refine loop0 (fun j ρ => ∃ rows st' x4 x5, SqL n (IB 0 12) rows ∧ OkH st' ∧ ρ = [some st', some (.frz (.int n)), some (.box (bxs rows)), some (.frz (.int i)), x4, x5]) ⟨_, _, _, _, hr, ho, rfl⟩ ?_ ?_
      · rintro j d ρ he ⟨rows, st', x4, x5, hr, ho, rfl⟩
        obtain ⟨rfl, hj⟩ := rng_at he
        refine ⟨_, rfl, ?_⟩
        obtain ⟨j', ej, hjn⟩ : ∃ j' : Nat, (i : Int) + 1 + (j : Int) = j' ∧ j' < n := ⟨i + 1 + j, by omega, by omega⟩
        simp [-wst_storeP, ej]
        rw [wst_storeP]
        simp [-wst_storeP]
        refine s0.cl hf rfl ho (by decide) (by decide) fun v st2 v0 v1 h2 => ?_
        simp [-wst_storeP, P.sem, Qx.sem]
        have hr2 := hr.set (i := i) (j := j') (x := .int (1 + v)) hi ⟨_, rfl, by omega, by omega⟩
        refine store2 hr hi hjn ?_
        obtain ⟨x, ex, px⟩ := look2 hr2 hi hjn
        rw [wst_storeP]
        simp [-wst_storeP, P.sem, Qx.sem, rdP, ldV, ex, -look_b]
        refine store2 hr2 hjn hi ?_
        exact ⟨_, hr2.set hjn px, _, h2, rfl, rfl⟩
      · rintro ρ ⟨rows, st', x4, x5, hr, ho, rfl⟩
        simp
        exact ⟨rows, hr, st', ho, rfl, rfl⟩
    · rintro ρ ⟨rows, st', x3, x4, x5, hr, ho, rfl⟩
      exact ⟨rfl, rows, hr, st', ho, _, _, _, rfl⟩
  rintro ρ ⟨rows, st', x3, x4, x5, hr, ho, rfl⟩
  rw [wss_cons]
  refine cut (fun ρ => ∃ rows x3 x4 x5, SqL n (IB 0 12) rows ∧ ρ = [some st', some (.frz (.int n)), some (.box (bxs rows)), x3, x4, x5]) ?_ ?_
  · rw [wst_loop]
    simp [-wst_loop]
    refine ⟨inR (by omega), ?_⟩
    refine loop0 (fun i ρ => ∃ rows x3 x4 x5, SqL n (IB 0 12) rows ∧ ρ = [some st', some (.frz (.int n)), some (.box (bxs rows)), x3, x4, x5]) ⟨_, _, _, _, hr, rfl⟩ ?_ ?_
    · rintro c d ρ he ⟨rows, x3, x4, x5, hr, rfl⟩
      obtain ⟨rfl, hc⟩ := rng_at he
      refine ⟨_, rfl, ?_⟩
      simp
      refine ⟨inR (by omega), ?_⟩
      refine loop0 (fun i ρ => ∃ rows x3 x5, SqL n (IB 0 12) rows ∧ ρ = [some st', some (.frz (.int n)), some (.box (bxs rows)), x3, some (.frz (.int c)), x5]) ⟨_, _, _, hr, rfl⟩ ?_ ?_
      · rintro i d ρ he ⟨rows, x3, x5, hr, rfl⟩
        obtain ⟨rfl, hi⟩ := rng_at he
        refine ⟨_, rfl, ?_⟩
        simp
        refine ⟨inR (by omega), ?_⟩
        refine loop0 (fun j ρ => ∃ rows x5, SqL n (IB 0 12) rows ∧ ρ = [some st', some (.frz (.int n)), some (.box (bxs rows)), some (.frz (.int i)), some (.frz (.int c)), x5]) ⟨_, _, hr, rfl⟩ ?_ ?_
        · rintro j d ρ he ⟨rows, x5, hr, rfl⟩
          obtain ⟨rfl, hj⟩ := rng_at he
          refine ⟨_, rfl, ?_⟩
          obtain ⟨_, e1, u, rfl, u0, u1⟩ := look2 hr hi hj
          obtain ⟨_, e2, v, rfl, v0, v1⟩ := look2 hr hi hc
          obtain ⟨_, e3, w, rfl, w0, w1⟩ := look2 hr hc hj
          simp [-wst_storeP]
          rw [wst_storeP]
          simp [-wst_storeP, P.sem, Qx.sem, rdP, ldV, e1, e2, e3, -look_b]
          refine store2 hr hi hj ?_
          refine ⟨_, hr.set hi ⟨_, rfl, ?_, ?_⟩, rfl⟩
          · split <;> omega
          · split <;> omega
        · rintro ρ ⟨rows, x5, hr, rfl⟩
          simp
          exact ⟨rows, hr, rfl⟩
      · rintro ρ ⟨rows, x3, x5, hr, rfl⟩
        simp
        exact ⟨rows, hr, rfl⟩
    · rintro ρ ⟨rows, x3, x4, x5, hr, rfl⟩
      exact ⟨rfl, rows, hr, _, _, _, rfl⟩
  rintro ρ ⟨rows, x3, x4, x5, hr, rfl⟩
  simp
  exact q _ _ hr ho⟩
theorem popAt_at {l : List O} {v : Int} {K : O → O → Prop} (h0 : 0 ≤ v) (hv : v < l.length) (hl : l.length ≤ 1000) (q : ∀ o, o ∈ l → K o (.box (l.eraseIdx v.toNat))) : optK (popAtF (.int v) (.box l)) K := by
  obtain ⟨j, rfl⟩ := Int.eq_ofNat_of_zero_le h0
  have hj : j < l.length := by omega
  have e1 : ixN l.length (j : Int) = some j := ixN_ok (by omega) (by omega)
  simp only [popAtF]
  rw [if_pos (by omega), e1]
  dsimp only
  rw [List.getElem?_eq_getElem hj]
  exact q _ (List.getElem_mem _)
/-- a heap: things, not too many -/
structure Heap (n B : Nat) (o : O) : Prop where
  cl : o.clean = true
  it : ∃ l : List Nat, o.fz = .list (l.map fun (x : Nat) => PyData.int x) ∧ l.length ≤ B ∧ ∀ x ∈ l, x < n
theorem Heap.mono {B B' : Nat} {o : O} (h : Heap n B o) (hb : B ≤ B') : Heap n B' o := by
  obtain ⟨a, l, b, c, d⟩ := h
  exact ⟨a, l, b, by omega, d⟩
theorem Heap.cases {B : Nat} {o : O} (h : Heap n B o) : ∃ l : List Nat, l.length ≤ B ∧ (∀ x ∈ l, x < n) ∧ (o = .frz (.list (l.map fun (x : Nat) => PyData.int x)) ∨ ∃ bs, o = .box bs ∧ cleans bs = true ∧ fzs bs = l.map fun (x : Nat) => PyData.int x) := by
  obtain ⟨a, l, b, c, d⟩ := h
  refine ⟨l, c, d, ?_⟩
  cases o with
  | frz x => exact .inl (by simpa using b)
  | box bs => exact .inr ⟨bs, rfl, by simpa using a, by simpa using b⟩
  | _ => simp [O.clean] at a
theorem rdH {o : O} {d : D} {i : Nat} {QE : D → Tr.Env → Prop} (hc : o.clean = true) (hf : o.fz = d) (hi : ρ[i]? = some (some o)) : (rdV i ρ).wp QE = QE d (ρ.set i (some (.frz d))) := by
  unfold rdV
  rw [hi]
  cases o with
  | frz x =>
    have e : x = d := by simpa using hf
    subst e
    have e2 : ρ.set i (some (.frz x)) = ρ := by
      refine List.ext_getElem? fun j => ?_
      rw [List.getElem?_set]
      split
      · rename_i h; subst h
        split
        · exact hi.symm
        · rename_i h2
          rw [List.getElem?_eq_none (by omega)] at hi
          cases hi
      · rfl
    rw [e2]
    simp
  | box l =>
    have e : PyData.list (fzs l) = d := by simpa using hf
    subst e
    have e2 : cleans l = true := by simpa using hc
    simp [e2, putO]
  | scr l => simp [O.clean] at hc
structure SpMerg (f : Fn) : Prop where
  modes : f.modes = [true, false, false]
  run : ∀ {st : O} {n : Nat} {b : Bool} {Q : PQ}, OkH st → n ≤ 20 → (∀ rows st', SqL n (IB 0 130) rows → OkH st' → Q (.box (bxs rows)) [some st']) → (f.run [st, .frz (.int n), .frz (.bool b)]).wp Q
theorem SpMerg.cl {Q : PQ} (s : SpMerg f) (hf : Φ.fn[k]? = some f) {i : Nat} {b : Bool} {st : O} (hs : ldV i ρ = some st) (ho : OkH st) (hn : n ≤ 20)
    (q : ∀ rows st', SqL n (IB 0 130) rows → OkH st' → Q (.box (bxs rows)) (ρ.set i (some st'))) : (callF Φ k [.r i, .d (.int n), .d (.bool b)] ρ).wp Q := by
  refine call_sp hf s.modes rfl (os := [st, .frz (.int n), .frz (.bool b)]) (by simp [gather, hs]) (s.run ho hn fun rows st' a b => ?_)
  simpa [callK] using q rows st' a b
theorem sp_mergedH (hf : Φ.fn[k0]? = some f0) (s0 : SpTake f0) : SpMerg (fn_mergedH Φ k0) := ⟨rfl, fun {st n b Q} hs hn q => by
  unfold fn_mergedH
  rw [fn_wp]
  refine ⟨rfl, ?_⟩
  unfold ir_mergedH
  rw [wss_cons]
  refine cut (fun ρ => ρ = [some st, some (.frz (.int n)), some (.frz (.bool b)), some (.box (bxs (List.replicate n (List.replicate n (.int 0))))), none, none, none, none, none, none]) ?_ ?_
  · simp
    refine ⟨inR (by omega), ?_⟩
    rw [rng_map]
    refine comp_each (c := fun k : Nat => PyData.int (0 + (k : Int))) (fun _ => .box ((List.replicate n (PyData.int 0)).map .frz)) (fun z hz => ⟨_, rfl, ?_⟩) ?_
    · simp
      omega
    · have eb : ((List.range n).map fun _ => O.box ((List.replicate n (PyData.int 0)).map .frz)) = bxs (List.replicate n (List.replicate n (.int 0))) := by
        simp [bxs]
        exact List.eq_replicate_iff.mpr ⟨by simp, fun x hx => by simp at hx; exact hx.2.symm⟩
      rw [eb]
      refine ⟨by rw [bxs_len]; simp; omega, ?_⟩
      simp
  rintro ρ rfl
  rw [wss_cons]
  refine cut (fun ρ => ∃ hs : List O, hs.length = n ∧ (∀ o ∈ hs, Heap n 1 o) ∧ ρ = [some st, some (.frz (.int n)), some (.frz (.bool b)), some (.box (bxs (List.replicate n (List.replicate n (.int 0))))), some (.box hs), none, none, none, none, none]) ?_ ?_
  · simp
    refine ⟨inR (by omega), ?_⟩
    rw [rng_map]
    refine comp_each (c := fun k : Nat => PyData.int (0 + (k : Int))) (fun k => .box [.frz (.int k)]) (fun z hz => ⟨_, rfl, ?_⟩) ?_
    · simp
    · refine ⟨by simp; omega, ?_⟩
      simp
      intro a ha
      exact ⟨by simp, [a], by simp, by simp, by simpa using ha⟩
  rintro ρ ⟨hs0, hl0, hh0, rfl⟩
  rw [wss_cons]
  refine cut (fun ρ => ρ = [some st, some (.frz (.int n)), some (.frz (.bool b)), some (.box (bxs (List.replicate n (List.replicate n (.int 0))))), some (.box hs0), some (.frz (.int 2)), none, none, none, none]) ?_ ?_
  · simp
  rintro ρ rfl
  rw [wss_cons]
  refine cut (fun ρ => ∃ rows st' x4 x5 x6 x7 x8 x9, SqL n (IB 0 130) rows ∧ OkH st' ∧ ρ = [some st', some (.frz (.int n)), some (.frz (.bool b)), some (.box (bxs rows)), x4, x5, x6, x7, x8, x9]) ?_ ?_
  · rw [wst_whl]
    refine whl_wp (fun N ρ => ∃ (rows : List (List D)) (st' : O) (hs : List O) (h : Int) (x6 x7 x8 x9 : Option O), hs.length = N ∧ N ≤ n ∧ (∀ o ∈ hs, Heap n (2 ^ (n - N)) o) ∧ 2 ≤ h ∧ h ≤ 2 + 6 * ((n : Int) - N) ∧ SqL n (IB 0 130) rows ∧ OkH st' ∧ ρ = [some st', some (.frz (.int n)), some (.frz (.bool b)), some (.box (bxs rows)), some (.box hs), some (.frz (.int h)), x6, x7, x8, x9]) (fun N ρ hi => ?_) n ⟨_, st, hs0, 2, _, _, _, _, hl0, Nat.le_refl _, by simpa using hh0, by decide, by omega, zero_rows (by decide) (by decide), hs, rfl⟩
    obtain ⟨rows, st', hs, h, x6, x7, x8, x9, hN, hNn, hh, h2, h3, hr, ho, rfl⟩ := hi
    simp [P.sem, Qx.sem, lenP, lenO, -wss_cons]
    refine ⟨fun h1 => ?_, fun h1 => ⟨_, hr, _, ho, rfl, rfl⟩⟩
    rw [wss_cons]
    refine cut (fun ρ => ∃ (st' : O) (h' : Int), OkH st' ∧ 2 ≤ h' ∧ h' ≤ 2 + 6 * ((n : Int) - N + 1) ∧ ρ = [some st', some (.frz (.int n)), some (.frz (.bool b)), some (.box (bxs rows)), some (.box hs), some (.frz (.int h')), x6, x7, x8, x9]) ?_ ?_
    · simp
      refine s0.cl hf rfl ho (by decide) (by decide) fun v st2 v0 v1 g2 => ?_
      have hb : mulO (.int 2) (.int v) = some (.frz (.int (2 * v))) := by
        have := mul_okm (n := 3) (b := 2) (Bits.of_lt (n := 3) (i := v) (by omega) (by omega)) (by decide +kernel)
        exact mul_ii.trans (if_pos this)
      have l21 : Nat.log2 2 + Nat.log2 1 < 1000000 := by decide +kernel
      have l20 : Nat.log2 2 + Nat.log2 0 < 1000000 := by decide +kernel
      simp [-mul_ii, hb]
      refine ⟨fun hh => ⟨l21, _, g2, _, ?_, ?_, rfl, rfl⟩, fun hh => ?_⟩
      · omega
      · omega
      · cases b
        · simp
          exact ⟨by decide +kernel, _, g2, _, by omega, by omega, rfl, rfl⟩
        · simp [l21]
          exact ⟨_, g2, _, by omega, by omega, rfl, rfl⟩
    rintro ρ ⟨st2, h', g2, hh2, hh3, rfl⟩
    rw [wss_cons]
    refine cut (fun ρ => ∃ (st' o6 : O) (hs' : List O), OkH st' ∧ Heap n (2 ^ (n - N)) o6 ∧ hs'.length = N - 1 ∧ (∀ o ∈ hs', Heap n (2 ^ (n - N)) o) ∧ ρ = [some st', some (.frz (.int n)), some (.frz (.bool b)), some (.box (bxs rows)), some (.box hs'), some (.frz (.int h')), some o6, x7, x8, x9]) ?_ ?_
    · simp [P.sem, Qx.sem, lenP, lenO]
      refine s0.cl hf rfl g2 (by omega) (by omega) fun v st3 v0 v1 g3 => ?_
      have fin : ∀ w : Int, 0 ≤ w → w < hs.length → optK (popAtF (.int w) (.box hs)) fun o o' => ∃ st', OkH st' ∧ ∃ x, Heap n (2 ^ (n - N)) x ∧ ∃ x_1 : List O, x_1.length = N - 1 ∧ (∀ o ∈ x_1, Heap n (2 ^ (n - N)) o) ∧ putO [some st3, some (.frz (.int n)), some (.frz (.bool b)), some (.box (bxs rows)), some o', some (.frz (.int h')), x6, x7, x8, x9] 6 o = [some st', some (.frz (.int n)), some (.frz (.bool b)), some (.box (bxs rows)), some (.box x_1), some (.frz (.int h')), some x, x7, x8, x9] := fun w w0 w1 =>
        popAt_at w0 w1 (by omega) fun o ho => ⟨st3, g3, o, hh o ho, hs.eraseIdx w.toNat, by rw [List.length_eraseIdx_of_lt (by omega)]; omega, fun o' ho' => hh o' (List.mem_of_mem_eraseIdx ho'), rfl⟩
      simp at fin
      cases b
      · simp
        exact fin v v0 v1
      · simp
        exact fin _ (by omega) (by omega)
    rintro ρ ⟨st3, o6, hs3, g3, ho6, hl3, hh3', rfl⟩
    rw [wss_cons]
    refine cut (fun ρ => ∃ (st' o7 : O) (hs' : List O), OkH st' ∧ Heap n (2 ^ (n - N)) o7 ∧ hs'.length = N - 2 ∧ (∀ o ∈ hs', Heap n (2 ^ (n - N)) o) ∧ ρ = [some st', some (.frz (.int n)), some (.frz (.bool b)), some (.box (bxs rows)), some (.box hs'), some (.frz (.int h')), some o6, some o7, x8, x9]) ?_ ?_
    · simp [P.sem, Qx.sem, lenP, lenO]
      refine s0.cl hf rfl g3 (by omega) (by omega) fun v st4 v0 v1 g4 => ?_
      simp
      refine popAt_at v0 v1 (by omega) fun o ho => ?_
      refine ⟨_, g4, _, hh3' o ho, _, ?_, fun o' ho' => hh3' o' (List.mem_of_mem_eraseIdx ho'), rfl, rfl, rfl⟩
      rw [List.length_eraseIdx_of_lt (by omega)]
      omega
    rintro ρ ⟨st4, o7, hs4, g4, ho7, hl4, hh4, rfl⟩
    rw [wss_cons]
    refine cut (fun ρ => ∃ (rows : List (List D)) (x8 x9 : Option O) (o6' o7' : O), SqL n (IB 0 130) rows ∧ Heap n (2 ^ (n - N)) o6' ∧ Heap n (2 ^ (n - N)) o7' ∧ ρ = [some st4, some (.frz (.int n)), some (.frz (.bool b)), some (.box (bxs rows)), some (.box hs4), some (.frz (.int h')), some o6', some o7', x8, x9]) ?_ ?_
    · rw [wst_loop]
      obtain ⟨l6, f6, c6, d6⟩ := ho6.it
      obtain ⟨l7, f7, c7, d7⟩ := ho7.it
      simp [-wst_loop, -wss_cons]
      rw [rdH ho6.cl f6 rfl]
      simp [-wst_loop, -wss_cons]
      refine loopM (c := fun x : Nat => PyData.int x) (xs := l6) (fun i ρ => ∃ (rows : List (List D)) (o7' : O) (x8 x9 : Option O), SqL n (IB 0 130) rows ∧ o7'.clean = true ∧ o7'.fz = .list (l7.map fun (x : Nat) => PyData.int x) ∧ ρ = [some st4, some (.frz (.int n)), some (.frz (.bool b)), some (.box (bxs rows)), some (.box hs4), some (.frz (.int h')), some (.frz (.list (l6.map fun (x : Nat) => PyData.int x))), some o7', x8, x9]) ⟨_, _, _, _, hr, ho7.cl, f7, rfl⟩ ?_ ?_
      · rintro i x ρ hx ⟨rows, o7', x8, x9, hr, cl7, fz7, rfl⟩
        have hx6 := d6 x (List.mem_of_getElem? hx)
        refine ⟨_, rfl, ?_⟩
        simp [-wst_storeP]
        rw [rdH cl7 fz7 rfl]
        simp [-wst_storeP]
        refine loopM (c := fun x : Nat => PyData.int x) (xs := l7) (fun i ρ => ∃ (rows : List (List D)) (x9 : Option O), SqL n (IB 0 130) rows ∧ ρ = [some st4, some (.frz (.int n)), some (.frz (.bool b)), some (.box (bxs rows)), some (.box hs4), some (.frz (.int h')), some (.frz (.list (l6.map fun (x : Nat) => PyData.int x))), some (.frz (.list (l7.map fun (x : Nat) => PyData.int x))), some (.frz (.int x)), x9]) ⟨_, _, hr, rfl⟩ ?_ ?_
        · rintro j y ρ hy ⟨rows, x9, hr, rfl⟩
          have hy7 := d7 y (List.mem_of_getElem? hy)
          refine ⟨_, rfl, ?_⟩
          have ph : IB 0 130 (.int h') := ⟨h', rfl, by omega, by omega⟩
          simp [-wst_storeP]
          rw [wst_storeP]
          simp [-wst_storeP, P.sem, Qx.sem]
          refine store2 hr hx6 hy7 ?_
          rw [wst_storeP]
          simp [-wst_storeP, P.sem, Qx.sem]
          refine store2 (hr.set hx6 ph) hy7 hx6 ?_
          exact ⟨_, (hr.set hx6 ph).set hy7 ph, rfl⟩
        · rintro ρ ⟨rows, x9, hr, rfl⟩
          simp
          exact ⟨rows, hr, _, by simp, by simp, rfl, rfl⟩
      · rintro ρ ⟨rows, o7', x8, x9, hr, cl7, fz7, rfl⟩
        exact ⟨rfl, rows, hr, x8, x9, _, ⟨by simp, l6, by simp, c6, d6⟩, o7', ⟨cl7, l7, fz7, c7, d7⟩, rfl⟩
    rintro ρ ⟨rows', x8, x9, o6', o7', hr', ho6', ho7', rfl⟩
    obtain ⟨l6, f6, c6, d6⟩ := ho6'.it
    obtain ⟨l7, f7, c7, d7⟩ := ho7'.it
    simp
    rw [rdH ho6'.cl f6 rfl]
    simp
    rw [rdH ho7'.cl f7 rfl]
    simp
    have pb : 2 ^ (n - N) ≤ 2 ^ 20 := Nat.pow_le_pow_right (by decide) (by omega)
    have pc : 2 ^ (n - (N - 1)) = 2 * 2 ^ (n - N) := by
      rw [show n - (N - 1) = (n - N) + 1 by omega, Nat.pow_succ]
      omega
    refine ⟨by omega, by omega, N - 1, by omega, _, _, _, ?_, by omega, ?_, h', hh2, by omega, hr', g4, rfl, rfl, rfl, rfl⟩
    · simp; omega
    · intro o ho
      rcases List.mem_append.mp ho with ho | ho
      · exact (hh4 o ho).mono (by omega)
      · rw [List.mem_singleton.mp ho]
        refine ⟨by simp, l6 ++ l7, by simp, by simp; omega, fun x hx => ?_⟩
        rcases List.mem_append.mp hx with hx | hx
        · exact d6 x hx
        · exact d7 x hx
  rintro ρ ⟨rows, st', x4, x5, x6, x7, x8, x9, hr, ho, rfl⟩
  simp
  exact q _ _ hr ho⟩
theorem sp_drawnH (hf : Φ.fn[k0]? = some f0) (s0 : SpTake f0) (hg : Φ.fn[k1]? = some f1) (s1 : SpRows 0 12 f1) (hm : Φ.fn[k2]? = some f2) (s2 : SpMerg f2) : SpRows (-1) 131 (fn_drawnH Φ k0 k1 k2) := ⟨rfl, fun {st n Q} hs hn q => by
  unfold fn_drawnH
  rw [fn_wp]
  refine ⟨rfl, ?_⟩
  simp [ir_drawnH, -wst_ite]
  refine s0.cl hf rfl hs (by decide) (by decide) fun v st1 v0 v1 h1 => ?_
  simp [-wst_ite]
  refine cutR (fun ρ => v ≠ 3 ∧ ρ = [some st1, some (.frz (.int n)), some (.frz (.int v)), none, none, none]) ?_ ?_
  · rw [wst_ite]
    simp
    intro hv
    refine s1.cl hg rfl h1 hn fun rows st2 hr h2 => ?_
    simp
    exact q _ _ (hr.imp fun x hx => hx.mono (by decide) (by decide)) h2
  rintro ρ ⟨hv, rfl⟩
  simp [-wst_ite]
  refine s2.cl (b := decide (v = 2)) hm rfl h1 hn fun rows st2 hr h2 => ?_
  simp [-wst_ite]
  have hr' := hr.imp fun x hx => hx.mono (show (-1 : Int) ≤ 0 by decide) (show (130 : Int) ≤ 131 by decide)
  refine cut (fun ρ => ∃ rows st' x4 x5, SqL n (IB (-1) 131) rows ∧ OkH st' ∧ ρ = [some st', some (.frz (.int n)), some (.frz (.int v)), some (.box (bxs rows)), x4, x5]) ?_ ?_
  · rw [wst_ite]
    simp [-wst_storeP]
    refine ⟨fun hv1 => ?_, fun _ => ⟨_, hr', _, h2, rfl, rfl⟩⟩
    refine ⟨fun hn1 => ?_, fun _ => ⟨_, hr', _, h2, rfl, rfl⟩⟩
    refine s0.cl hf rfl h2 (by omega) (by omega) fun a st3 a0 a1 h3 => ?_
    simp [-wst_storeP]
    refine s0.cl hf rfl h3 (by omega) (by omega) fun c st4 c0 c1 h4 => ?_
    obtain ⟨a, rfl⟩ := Int.eq_ofNat_of_zero_le a0
    obtain ⟨j0, j1⟩ := mod_rng (i := (a : Int) + 1 + c) (m := n) (by omega)
    obtain ⟨j, ej⟩ := Int.eq_ofNat_of_zero_le j0
    rw [ej] at j1
    have han : a < n := by omega
    have hjn : j < n := by omega
    simp [ej, -wst_storeP]
    refine ⟨by omega, ?_⟩
    obtain ⟨_, ex, x, rfl, x0, x1⟩ := look2 hr han hjn
    rw [wst_storeP]
    simp [-wst_storeP, P.sem, Qx.sem, rdP, ldV, ex, -look_b]
    refine s0.cl hf rfl h4 (by decide) (by decide) fun w st5 w0 w1 h5 => ?_
    obtain ⟨y, my, ey⟩ := at_in (l := [PyData.int 1, .int (-1)]) w0 (by simpa using w1)
    obtain ⟨s, rfl, s0', s1'⟩ : ∃ s : Int, y = .int s ∧ -1 ≤ s ∧ s ≤ 1 := by
      simp only [List.mem_cons, List.not_mem_nil, or_false] at my
      rcases my with rfl | rfl
      · exact ⟨1, rfl, by decide, by decide⟩
      · exact ⟨-1, rfl, by decide, by decide⟩
    simp [ey, -wst_storeP, P.sem, Qx.sem]
    have hr2 := hr'.set (i := a) (j := j) (x := .int (x + s)) han ⟨_, rfl, by omega, by omega⟩
    refine store2 hr' han hjn ?_
    obtain ⟨z, ez, pz⟩ := look2 hr2 han hjn
    rw [wst_storeP]
    simp [-wst_storeP, P.sem, Qx.sem, rdP, ldV, ez, -look_b]
    refine store2 hr2 hjn han ?_
    exact ⟨_, hr2.set hjn pz, _, h5, rfl, rfl⟩
  rintro ρ ⟨rows, st', x4, x5, hr, ho, rfl⟩
  simp
  exact q _ _ hr ho⟩
def sqI (n : Nat) (g : Nat → Nat → Int) : List (List D) := (List.range n).map fun i => (List.range n).map fun j => PyData.int (g i j)
theorem sqI_of {lo hi : Int} (h : SqL n (IB lo hi) rows) : ∃ g : Nat → Nat → Int, rows = sqI n g ∧ ∀ i < n, ∀ j < n, lo ≤ g i j ∧ g i j ≤ hi := by
  refine ⟨fun i j => numD ((rows.getD i []).getD j .none), ?_, fun i hi j hj => ?_⟩
  · unfold sqI
    refine List.ext_getElem (by simp [h.len]) fun i h1 h2 => ?_
    have hr := h.row _ (List.getElem_mem h1)
    refine List.ext_getElem (by simp [hr]) fun j h3 h4 => ?_
    obtain ⟨x, e, _⟩ := h.all _ (List.getElem_mem h1) _ (List.getElem_mem h3)
    simp [h1, h3, e, numD]
  · have hg := h.get hi
    have hr := h.row _ hg.1
    have hj' : j < (rows.getD i []).length := by omega
    obtain ⟨x, e, x0, x1⟩ := h.all _ hg.1 _ (List.getElem_mem hj')
    have e2 : (rows.getD i []).getD j .none = .int x := by
      rw [← e, List.getD_eq_getElem?_getD, List.getElem?_eq_getElem hj']
      rfl
    dsimp only
    rw [e2]
    exact ⟨x0, x1⟩
/-- the table of whole numbers times a / b -/
structure SpTabH (f : Fn) : Prop where
  modes : f.modes = [false, false]
  eq : ∀ {n : Nat} {g : Nat → Nat → Int} {a b : Int}, n ≤ 20 → (∀ i < n, ∀ j < n, -1000 ≤ g i j ∧ g i j ≤ 1000) → 0 < a → a < 2 ^ 90 → 0 < b → b ≤ 30 → f.run [.frz (LL (sqI n g)), .frz (.tuple [.int a, .int b])] = .ok (.frz (tabD n fun i j => Rat.divInt (g i j * a) b)) []
theorem SpTabH.cl (s : SpTabH f) (hf : Φ.fn[k]? = some f) {g : Nat → Nat → Int} {a b : Int} (hn : n ≤ 20) (hg : ∀ i < n, ∀ j < n, -1000 ≤ g i j ∧ g i j ≤ 1000) (a0 : 0 < a) (a1 : a < 2 ^ 90) (b0 : 0 < b) (b1 : b ≤ 30) :
    callF Φ k [.d (LL (sqI n g)), .d (.tuple [.int a, .int b])] ρ = .ok (.frz (tabD n fun i j => Rat.divInt (g i j * a) b)) ρ := call_eq hf s.modes rfl rfl rfl (s.eq hn hg a0 a1 b0 b1)
theorem sp_tableH (hf : Φ.fn[k0]? = some f0) (s0 : SpLow f0) : SpTabH (fn_tableH Φ k0) := ⟨rfl, fun {n g a b} hn hg a0 a1 b0 b1 => run_eq (by
  unfold fn_tableH
  rw [fn_wp]
  refine ⟨rfl, ?_⟩
  have hb : Bits 8000 b := Bits.mono (n := 10) (.of_lt (by omega) (by omega)) (by decide)
  have it : itemsD (LL (sqI n g)) = some ((List.range n).map fun i => PyData.list ((List.range n).map fun j => PyData.int (g i j))) := by
    unfold LL sqI
    rw [List.map_map]
    rfl
  simp [ir_tableH, it]
  refine comp_each (c := fun i => PyData.list ((List.range n).map fun j => PyData.int (g i j))) (fun i => .frz (rowD n fun j => Rat.divInt (g i j * a) b)) (fun i hi => ⟨_, rfl, ?_⟩) ?_
  · have hi := List.mem_range.mp hi
    simp
    refine comp_each (c := fun j => PyData.int (g i j)) (fun j => .frz (frD (Rat.divInt (g i j * a) b))) (fun j hj => ⟨_, rfl, ?_⟩) ?_
    · have hj := List.mem_range.mp hj
      have hm : mulO (.int (g i j)) (.int a) = some (.frz (.int (g i j * a))) := by
        have := hg i hi j hj
        exact mul_ii.trans (if_pos (mul_ok (Bits.of_lt (n := 11) (i := g i j) (by omega) (by omega)) (Bits.of_lt (n := 91) (i := a) (by omega) (by omega)) (by decide)))
      simp [-mul_ii, hm, s0.cl hf b0 hb]
    · simp [rowD]
      omega
  · simp [tabD]
    omega)⟩
/-- lists for tuples, so deep -/
def lstd : Nat → D → D
  | 0, d => d
  | k + 1, d => match d with
    | .tuple l => .list (l.map (lstd k))
    | d => d
def LstOk : Nat → D → Prop
  | 0, _ => False
  | k + 1, d => ∀ l, d = .tuple l → l.length ≤ 1000 ∧ ∀ x ∈ l, LstOk k x
def LstRun (f : Fn) (k : Nat) : Prop := f.modes = [false] ∧ ∀ d, LstOk k d → ∃ o, f.run [.frz d] = .ok o [] ∧ o.clean = true ∧ o.fz = lstd k d
theorem clean_all2 {l : List O} (h : ∀ o ∈ l, o.clean = true) : cleans l = true := cleans_all h
theorem lst_run {gl : List D} {acc : List Fn} (hk : acc.length = k1) : ∀ K, 0 < K → LstRun (recFn gl acc 2 [false] (ir_listedH k1) K) K := by
  intro K
  induction K with
  | zero => intro h; omega
  | succ K ih =>
    intro _
    rw [rec_succ]
    generalize recFn gl acc 2 [false] (ir_listedH k1) K = g at ih ⊢
    refine ⟨rfl, fun d hd => ?_⟩
    by_cases ht : isK d .tuple = true
    · obtain ⟨l, rfl⟩ : ∃ l, d = .tuple l := by
        cases d <;> simp [isK] at ht
        exact ⟨_, rfl⟩
      obtain ⟨hl, hx⟩ := hd l rfl
      rcases Nat.eq_zero_or_pos K with rfl | hK
      · have hl0 : l = [] := by
          cases l with
          | nil => rfl
          | cons x l => exact absurd (hx x List.mem_cons_self) (by simp [LstOk])
        subst hl0
        refine ⟨.box [], run_eq ?_, by simp, by simp [lstd]⟩
        rw [fn_wp]
        refine ⟨rfl, ?_⟩
        simp [ir_listedH, isK]
        refine comp_eachG (fun x => .frz x) (fun x h => by cases h) ?_
        simp
      · obtain ⟨hm, hr⟩ := ih hK
        have hc : ∀ x ∈ l, ∃ o, g.run [.frz x] = .ok o [] ∧ o.clean = true ∧ o.fz = lstd K x := fun x h => hr x (hx x h)
        classical
        let F : D → O := fun x => if h : x ∈ l then (hc x h).choose else .frz x
        have hF : ∀ x ∈ l, g.run [.frz x] = .ok (F x) [] ∧ (F x).clean = true ∧ (F x).fz = lstd K x := fun x h => by
          have := (hc x h).choose_spec
          simpa only [F, dif_pos h] using this
        refine ⟨.box (l.map F), run_eq ?_, ?_, ?_⟩
        · rw [fn_wp]
          refine ⟨rfl, ?_⟩
          have hf : (acc ++ [g])[k1]? = some (g) := by
            rw [List.getElem?_append_right (by omega), hk, Nat.sub_self]
            rfl
          simp [ir_listedH, isK]
          refine comp_eachG F (fun x h => ⟨_, rfl, ?_⟩) ?_
          · have e := fun ρ => call_eq (Φ := ⟨acc ++ [g], gl⟩) (k := k1) (ρ := ρ) (as := [.d x]) hf hm rfl rfl rfl (hF x h).1
            simp [e]
          · simp
            omega
        · simp
          exact clean_all2 fun o ho => by
            obtain ⟨x, h, rfl⟩ := List.mem_map.mp ho
            exact (hF x h).2.1
        · simp [lstd, fzs_eq]
          exact fun x h => (hF x h).2.2
    · have e : lstd (K + 1) d = d := by
        cases d <;> first | rfl | (simp [isK] at ht)
      refine ⟨.frz d, run_eq ?_, by simp, by simp [e]⟩
      rw [fn_wp]
      refine ⟨rfl, ?_⟩
      simp [ir_listedH, ht]
/-! ### a table, of lists -/
def frL (p : Rat) : D := .list [.int p.num, .int p.den]
def tabLL (n : Nat) (u : Nat → Nat → Rat) : D := .list ((List.range n).map fun i => .list ((List.range n).map fun j => frL (u i j)))
theorem lstd_int {K : Nat} {i : Int} : lstd K (.int i) = .int i := by cases K <;> rfl
theorem lstd_tab {u : Nat → Nat → Rat} {K : Nat} : lstd (K + 3) (tabD n u) = tabLL n u := by
  simp only [tabD, tabLL, lstd, List.map_map]
  congr 1
  refine List.map_congr_left fun i _ => ?_
  simp only [Function.comp, rowD, lstd, List.map_map]
  congr 1
  refine List.map_congr_left fun j _ => ?_
  show PyData.list (List.map (lstd K) [PyData.int (u i j).num, PyData.int (u i j).den]) = _
  simp [lstd_int, frL]
theorem lstok_tab {u : Nat → Nat → Rat} {K : Nat} (hn : n ≤ 20) : LstOk (K + 4) (tabD n u) := by
  intro l e
  cases e
  refine ⟨by simp; omega, fun x hx => ?_⟩
  obtain ⟨i, _, rfl⟩ := List.mem_map.mp hx
  intro l e
  cases e
  refine ⟨by simp; omega, fun x hx => ?_⟩
  obtain ⟨j, _, rfl⟩ := List.mem_map.mp hx
  intro l e
  cases e
  refine ⟨by simp, fun x hx => ?_⟩
  simp only [List.mem_cons, List.not_mem_nil, or_false] at hx
  rcases hx with rfl | rfl <;> (intro l e; cases e)
theorem sqr_tabLL {B : Nat} {u : Nat → Nat → Rat} (h : ∀ i < n, ∀ j < n, Sz B (u i j)) : Sqr B n (tabLL n u) ∧ ∀ i < n, ∀ j < n, cel (tabLL n u) i j = u i j := by
  have s1 : ∀ i < n, subD (tabLL n u) i = .list ((List.range n).map fun j => frL (u i j)) := fun i hi => by
    rw [subD_items (l := (List.range n).map fun i => PyData.list ((List.range n).map fun j => frL (u i j))) rfl (by simpa using hi), List.getElem_map, List.getElem_range]
  refine ⟨tab_of (l := (List.range n).map fun i => PyData.list ((List.range n).map fun j => frL (u i j))) rfl (by simp) fun x hx => ?_, fun i hi j hj => ?_⟩
  · obtain ⟨i, hi, rfl⟩ := List.mem_map.mp hx
    refine row_of (l := (List.range n).map fun j => frL (u i j)) rfl (by simp) fun y hy => ?_
    obtain ⟨j, hj, rfl⟩ := List.mem_map.mp hy
    exact fr_frL (h i (List.mem_range.mp hi) j (List.mem_range.mp hj))
  · unfold cel
    rw [s1 i hi, subD_items (l := (List.range n).map fun j => frL (u i j)) rfl (by simpa using hj), List.getElem_map, List.getElem_range]
    exact valR_frL
/-! ### the program's bars -/
def top3 (p q r : Rat) : Bool := (decide (q < p) && decide (r < p)) || ((decide (p < q) && decide (r < q)) || (decide (p < r) && decide (q < r)))
theorem sp_above (h0 : Φ.fn[k0]? = some f0) (s0 : SpOrd f0) : Sp3 (fun p q r => decide (q < p) && decide (r < p)) (fn_aboveboth Φ k0) := ⟨rfl, fun {a b c} ha hb hc => run_eq (by
  unfold fn_aboveboth
  rw [fn_wp]
  refine ⟨rfl, ?_⟩
  have c1 := fun ρ => s0.cl (ρ := ρ) h0 (ha.mono (show 1900 ≤ 4000 by decide)) (hb.mono (show 1900 ≤ 4000 by decide))
  have c2 := fun ρ => s0.cl (ρ := ρ) h0 (ha.mono (show 1900 ≤ 4000 by decide)) (hc.mono (show 1900 ≤ 4000 by decide))
  simp [ir_aboveboth, c1, c2, ord_pos]
  by_cases h1 : valR b < valR a <;> by_cases h2 : valR c < valR a <;> simp [h1, h2])⟩
structure SpB3H (f : Fn) : Prop where
  modes : f.modes = [false, false, false, false]
  eq : ∀ {n : Nat} {t : D} {i j k : Nat}, Sqr 1900 n t → i < n → j < n → k < n → f.run [.frz t, .frz (.int i), .frz (.int j), .frz (.int k)] = .ok (.frz (.bool (top3 (cel t i j) (cel t i k) (cel t j k)))) []
theorem SpB3H.cl {t : D} (s : SpB3H f) (hf : Φ.fn[k0]? = some f) (ht : Sqr 1900 n t) {i j k : Nat} (hi : i < n) (hj : j < n) (hk : k < n) : callF Φ k0 [.d t, .d (.int i), .d (.int j), .d (.int k)] ρ = .ok (.frz (.bool (top3 (cel t i j) (cel t i k) (cel t j k)))) ρ := call_eq hf s.modes rfl rfl rfl (s.eq ht hi hj hk)
theorem sp_bars3h (h0 : Φ.fn[k0]? = some f0) (s0 : Sp3 (fun p q r => decide (q < p) && decide (r < p)) f0) : SpB3H (fn_bars3h Φ k0) := ⟨rfl, fun {n t i j k} ht hi hj hk => run_eq (by
  unfold fn_bars3h
  rw [fn_wp]
  refine ⟨rfl, ?_⟩
  have c1 := fun ρ => s0.cl (ρ := ρ) h0 (ht.fr hi hj) (ht.fr hi hk) (ht.fr hj hk)
  have c2 := fun ρ => s0.cl (ρ := ρ) h0 (ht.fr hi hk) (ht.fr hi hj) (ht.fr hj hk)
  have c3 := fun ρ => s0.cl (ρ := ρ) h0 (ht.fr hj hk) (ht.fr hi hj) (ht.fr hi hk)
  simp [ir_bars3h, ht.ix hi, ht.ix hj, ht.ix2 hi hj, ht.ix2 hi hk, ht.ix2 hj hk, c1, c2, c3, top3, cel]
  by_cases a1 : valR (subD (subD t i) k) < valR (subD (subD t i) j) <;> by_cases a2 : valR (subD (subD t j) k) < valR (subD (subD t i) j) <;> by_cases a3 : valR (subD (subD t i) j) < valR (subD (subD t i) k) <;> by_cases a4 : valR (subD (subD t j) k) < valR (subD (subD t i) k) <;> simp [a1, a2, a3, a4] <;> rfl)⟩
def barsH (g : Nat → Nat → Rat) : List D → Bool
  | [i, j, k] => top3 (g (natD i) (natD j)) (g (natD i) (natD k)) (g (natD j) (natD k))
  | _ => false
def barsHB (g : Nat → Nat → Rat) (n : Nat) (d : D) : Bool := thingsB n d && (match itemsD d with
  | some l => barsH g l
  | none => false)
structure SpBarsH (f : Fn) : Prop where
  modes : f.modes = [false, false]
  eq : ∀ {n : Nat} {t d : D}, Sqr 1900 n t → f.run [.frz t, .frz d] = .ok (.frz (.bool (barsHB (cel t) n d))) []
theorem SpBarsH.cl {t : D} (s : SpBarsH f) (hf : Φ.fn[k0]? = some f) (ht : Sqr 1900 n t) : callF Φ k0 [.d t, .d d] ρ = .ok (.frz (.bool (barsHB (cel t) n d))) ρ := call_eq hf s.modes rfl rfl rfl (s.eq ht)
theorem sp_barsheights (h0 : Φ.fn[k0]? = some f0) (s0 : SpThings f0) (h1 : Φ.fn[k1]? = some f1) (s1 : SpB3H f1) : SpBarsH (fn_barsheights Φ k0 k1) := ⟨rfl, fun {n t d} ht => run_eq (by
  unfold fn_barsheights
  rw [fn_wp]
  refine ⟨rfl, ?_⟩
  simp [ir_barsheights, ht.len, s0.cl h0]
  refine ⟨fun hr => by simp [barsHB, hr], fun hr => ?_⟩
  have hr0 := hr
  unfold thingsB at hr
  cases hi : itemsD d with
  | none => rw [hi] at hr; cases hr
  | some l =>
    rw [hi] at hr
    simp only [Bool.and_eq_true, List.all_eq_true] at hr
    have hle := len_items hi
    have hx := fun i => ixD_items hi i
    have hB : barsHB (cel t) n d = barsH (cel t) l := by unfold barsHB; rw [hr0, hi]; rfl
    simp [hle]
    rw [hB]
    refine ⟨fun h3 => ?_, fun h3 => ?_⟩
    · match l, h3 with
      | [], _ => rfl
      | [_], _ => rfl
      | [_, _], _ => rfl
      | [_, _, _], h3 => simp at h3
      | _ :: _ :: _ :: _ :: _, _ => rfl
    · obtain ⟨x, y, z, rfl⟩ : ∃ x y z, l = [x, y, z] := by
        have h3' : l.length = 3 := by omega
        match l, h3' with
        | [x, y, z], _ => exact ⟨x, y, z, rfl⟩
      have e0 := hx 0
      have e1 := hx 1
      have e2 := hx 2
      simp at e0 e1 e2
      obtain ⟨ex, hxn⟩ := below_nat (hr.1 x (by simp))
      obtain ⟨ey, hyn⟩ := below_nat (hr.1 y (by simp))
      obtain ⟨ez, hzn⟩ := below_nat (hr.1 z (by simp))
      have c1 := fun ρ => s1.cl (ρ := ρ) h1 ht hxn hyn hzn
      rw [← ex, ← ey, ← ez] at c1
      simp [e0, e1, e2, c1, barsH])⟩
end
end Lib
set_option Elab.async false
set_option linter.all false
set_option maxRecDepth 100000
set_option maxHeartbeats 4000000
namespace K20
open PySem PySem.Spec PyProof.Rows L2 Tr
def top (i : Nat) : Stmt := PySem.Challenge.pw_leaststretch_k20_whole_line_or_bar.main.body.getD i (.Pass ⟨0, 0, 0, 0⟩)
def ir_is_row : Ss := Lib.ir_isrow
def d_is_row : Dcl := ⟨"is_row", "is_row", top 4, ["thing"], 1, [false], 0, ir_is_row⟩
def ir_is_whole : Ss := Lib.ir_iswhole
def d_is_whole : Dcl := ⟨"is_whole", "is_whole", top 5, ["thing"], 1, [false], 0, ir_is_whole⟩
def ir_is_below : Ss := Lib.ir_isbelow 1
def d_is_below : Dcl := ⟨"is_below", "is_below", top 6, ["thing", "many"], 2, [false, false], 0, ir_is_below⟩
def ir_is_rising : Ss := Lib.ir_isrising
def d_is_rising : Dcl := ⟨"is_rising", "is_rising", top 7, ["row", "one", "other"], 1, [false], 0, ir_is_rising⟩
def ir_is_things : Ss := Lib.ir_isthings 0 2 3
def d_is_things : Dcl := ⟨"is_things", "is_things", top 8, ["thing", "many", "part"], 2, [false, false], 0, ir_is_things⟩
def ir_common : Ss := Lib.ir_common
def d_common : Dcl := ⟨"common", "common", top 10, ["one", "other", "first", "second"], 2, [false, false], 0, ir_common⟩
def ir_fraction : Ss := Lib.ir_fraction 5
def d_fraction : Dcl := ⟨"fraction", "fraction", top 11, ["above", "below", "factor"], 2, [false, false], 0, ir_fraction⟩
def ir_plus : Ss := Lib.ir_plus 6
def d_plus : Dcl := ⟨"plus", "plus", top 12, ["one", "other"], 2, [false, false], 0, ir_plus⟩
def ir_less : Ss := Lib.ir_less 6
def d_less : Dcl := ⟨"less", "less", top 13, ["one", "other"], 2, [false, false], 0, ir_less⟩
def ir_order : Ss := Lib.ir_order
def d_order : Dcl := ⟨"order", "order", top 14, ["one", "other", "gap"], 2, [false, false], 0, ir_order⟩
def ir_apart : Ss := Lib.ir_apart 9 8
def d_apart : Dcl := ⟨"apart", "apart", top 17, ["one", "other"], 2, [false, false], 0, ir_apart⟩
def ir_line_table : Ss := Lib.ir_square 10
def d_line_table : Dcl := ⟨"line_table", "line_table", top 18, ["places", "found", "place", "other"], 1, [false], 0, ir_line_table⟩
def ir_is_whole_way : Ss := Lib.ir_iswholeway 9 7
def d_is_whole_way : Dcl := ⟨"is_whole_way", "is_whole_way", top 20, ["one", "other", "both"], 3, [false, false, false], 0, ir_is_whole_way⟩
def ir_has_middle : Ss := Lib.ir_hasmiddle 12
def d_has_middle : Dcl := ⟨"has_middle", "has_middle", top 21, ["one", "other", "third"], 3, [false, false, false], 0, ir_has_middle⟩
def ir_bars_three : Ss := Lib.ir_barsthree 13
def d_bars_three : Dcl := ⟨"bars_three", "bars_three", top 22, ["table", "i", "j", "k"], 4, [false, false, false, false], 0, ir_bars_three⟩
def ir_are_same : Ss := Lib.ir_aresame 9
def d_are_same : Dcl := ⟨"are_same", "are_same", top 23, ["one", "other"], 2, [false, false], 0, ir_are_same⟩
def ir_bars_four : Ss := Lib.ir_barsfour 15 13
def d_bars_four : Dcl := ⟨"bars_four", "bars_four", top 24, ["table", "i", "j", "k", "l"], 5, [false, false, false, false, false], 0, ir_bars_four⟩
def ir_bars_line : Ss := Lib.ir_barsline 4 14 16
def d_bars_line : Dcl := ⟨"bars_line", "bars_line", top 25, ["table", "things"], 2, [false, false], 0, ir_bars_line⟩
def ir_threes_of : Ss := (.cons (.set 1 (.lst .nil)) (.cons (.loop (.name 2) (.range1 (.v 0)) (.cons (.loop (.name 3) (.range2 (.ofF (.add (.v 2) (.int 1))) (.v 0)) (.cons (.extend 1 (.ofF (.comp (.name 4) (.range2 (.ofF (.add (.v 3) (.int 1))) (.v 0)) .nil (.ofE (.tup (.cons (.v 2) (.cons (.v 3) (.cons (.v 4) .nil))))) [4]))) .nil)) .nil)) (.cons (.ret (.mv 1)) .nil)))
def d_threes_of : Dcl := ⟨"threes_of", "threes_of", top 26, ["many", "found", "i", "j", "k"], 1, [false], 0, ir_threes_of⟩
def ir_fours_of : Ss := (.cons (.set 1 (.lst .nil)) (.cons (.loop (.name 2) (.seq (.ofF (.call 18 (.e (.v 0) .nil)))) (.cons (.extend 1 (.ofF (.comp (.name 3) (.range2 (.ofF (.add (.ix (.v 2) (.int 2)) (.int 1))) (.v 0)) .nil (.add (.v 2) (.tup (.cons (.v 3) .nil))) [3]))) .nil)) (.cons (.ret (.mv 1)) .nil)))
def d_fours_of : Dcl := ⟨"fours_of", "fours_of", top 27, ["many", "found", "three", "l"], 1, [false], 0, ir_fours_of⟩
def ir_first_bar : Ss := (.cons (.loop (.name 1) (.seq (.ofF (.add (.ofF (.call 18 (.e (.b1 .len (.v 0)) .nil))) (.ofF (.call 19 (.e (.b1 .len (.v 0)) .nil)))))) (.cons (.ite (.tru (.ofF (.call 17 (.e (.v 0) (.e (.v 1) .nil))))) (.cons (.ret (.ofE (.v 1))) .nil) .nil) .nil)) (.cons (.ret (.ofE .non)) .nil))
def d_first_bar : Dcl := ⟨"first_bar", "first_bar", top 28, ["table", "things"], 1, [false], 0, ir_first_bar⟩
def ir_place_of : Ss := (.cons (.set 2 (.ofE (.ix (.ix (.v 0) (.int 0)) (.v 1)))) (.cons (.set 3 (.ofE (.ix (.ix (.v 0) (.int 1)) (.v 1)))) (.cons (.ite (.tru (.ofF (.call 15 (.e (.v 3) (.e (.ofF (.call 10 (.e (.v 2) (.e (.ix (.ix (.v 0) (.int 0)) (.int 1)) .nil)))) .nil))))) (.cons (.ret (.ofE (.b1 .tuple (.v 2)))) .nil) .nil) (.cons (.ite (.tru (.ofF (.call 12 (.e (.v 2) (.e (.ix (.ix (.v 0) (.int 0)) (.int 1)) (.e (.v 3) .nil)))))) (.cons (.ret (.call 8 (.e (.glob 0) (.e (.v 2) .nil)))) .nil) .nil) (.cons (.ret (.ofE .non)) .nil)))))
def d_place_of : Dcl := ⟨"place_of", "place_of", top 29, ["table", "thing", "far", "near"], 2, [false, false], 0, ir_place_of⟩
def ir_has_table : Ss := (.cons (.loop (.tup [2, 3]) (.zip (.v 0) (.ofF (.call 11 (.e (.v 1) .nil)))) (.cons (.ite (.cmp .ne (.ofF (.comp (.tup [4, 5]) (.zip (.v 2) (.v 3)) (.one (.not (.tru (.ofF (.call 15 (.e (.v 4) (.e (.v 5) .nil))))))) (.ofE (.int 1)) [4, 5])) (.ofF (.lst .nil))) (.cons (.ret (.ofE (.bl false))) .nil) .nil) .nil)) (.cons (.ret (.ofE (.bl true))) .nil))
def d_has_table : Dcl := ⟨"has_table", "has_table", top 30, ["table", "places", "row", "other", "one", "own"], 2, [false, false], 0, ir_has_table⟩
def ir_line_of : Ss := (.cons (.ite (.cmp .lt (.b1 .len (.v 0)) (.int 2)) (.cons (.ret (.ofE (.tup (.cons (.str "places") (.cons (.ofF (.mul (.tup (.cons (.glob 0) .nil)) (.b1 .len (.v 0)))) .nil))))) .nil) .nil) (.cons (.set 1 (.comp (.name 2) (.range1 (.b1 .len (.v 0))) .nil (.call 21 (.e (.v 0) (.e (.v 2) .nil))) [2])) (.cons (.ite (.and (.cmp .nmem .non (.v 1)) (.tru (.ofF (.call 22 (.e (.v 0) (.e (.v 1) .nil)))))) (.cons (.ret (.ofE (.tup (.cons (.str "places") (.cons (.b1 .tuple (.v 1)) .nil))))) .nil) .nil) (.cons (.ret (.ofE (.tup (.cons (.str "bar") (.cons (.ofF (.call 20 (.e (.v 0) .nil))) .nil))))) .nil))))
def d_line_of : Dcl := ⟨"line_of", "line_of", top 31, ["table", "places", "thing"], 1, [false], 0, ir_line_of⟩
def ir_l_next : Ss := Lib.ir_next
def d_l_next : Dcl := ⟨"_law_next", "_law_next", top 33, ["_law_state", "_law_most", "_law_cell", "_law_found"], 2, [true, false], 0, ir_l_next⟩
def ir_l_low : Ss := Lib.ir_low
def d_l_low : Dcl := ⟨"_law_low", "_law_low", top 34, ["_law_above", "_law_under", "_law_one", "_law_two"], 2, [false, false], 0, ir_l_low⟩
def ir_l_number : Ss := Lib.ir_number22 24 25
def d_l_number : Dcl := ⟨"_law_number", "_law_number", top 35, ["_law_state", "_law_kind", "_law_above", "_law_under"], 1, [true], 0, ir_l_number⟩
def ir_l_gap : Ss := Lib.ir_gap 25
def d_l_gap : Dcl := ⟨"_law_gap", "_law_gap", top 36, ["_law_one", "_law_two"], 2, [false, false], 0, ir_l_gap⟩
def ir_l_both : Ss := Lib.ir_plus 25
def d_l_both : Dcl := ⟨"_law_both", "_law_both", top 37, ["_law_one", "_law_two"], 2, [false, false], 0, ir_l_both⟩
def ir_l_square : Ss := Lib.ir_square 27
def d_l_square : Dcl := ⟨"_law_square", "_law_square", top 38, ["_law_row", "_law_found", "_law_one", "_law_two"], 1, [false], 0, ir_l_square⟩
def ir_l_same : Ss := Lib.ir_same 30
def d_l_same : Dcl := ⟨"_law_same", "_law_same", top 39, ["_law_found", "_law_due", "_law_one", "_law_two"], 2, [false, false], 10, ir_l_same⟩
def ir_l_unlike : Ss := Lib.ir_unlike 26 28
def d_l_unlike : Dcl := ⟨"_law_unlike", "_law_unlike", top 40, ["_law_state", "_law_many", "_law_found", "_law_k", "_law_one"], 2, [true, false], 0, ir_l_unlike⟩
def ir_l_corner : Ss := Lib.ir_corner 28
def d_l_corner : Dcl := ⟨"_law_corner", "_law_corner", top 42, ["_law_one", "_law_more", "_law_i", "_law_j", "_law_side"], 4, [false, false, false, false], 0, ir_l_corner⟩
def ir_l_great : Ss := Lib.ir_great
def d_l_great : Dcl := ⟨"_law_great", "_law_great", top 43, ["_law_one", "_law_two"], 2, [false, false], 0, ir_l_great⟩
def ir_l_table : Ss := Lib.ir_table 29 31 26 24 25 28 33 32
def d_l_table : Dcl := ⟨"_law_table", "_law_table", top 41, ["_law_state", "_law_many", "_law_one", "_law_two", "_law_kind", "_law_more", "_law_thing", "_law_found", "_law_i", "_law_row", "_law_j", "_law_far", "_law_k"], 2, [true, false], 0, ir_l_table⟩
def ir_l_named : Ss := Lib.ir_named23 24
def d_l_named : Dcl := ⟨"_law_named", "_law_named", top 44, ["_law_state", "_law_one", "_law_left", "_law_row", "_law_k", "_law_found", "_law_i", "_law_j"], 2, [true, false], 0, ir_l_named⟩
def ir_l_sums : Ss := Lib.ir_lsums 28
def d_l_sums : Dcl := ⟨"_law_sums", "_law_sums", top 45, ["_law_one", "_law_two", "_law_three"], 3, [false, false, false], 0, ir_l_sums⟩
def ir_l_bars : Ss := (.cons (.ite (.cmp .eq (.b1 .len (.v 1)) (.int 3)) (.cons (.unpack [2, 3, 4] (.v 1)) (.cons (.ret (.ofE (.not (.ofF (.call 36 (.e (.ix (.ix (.v 0) (.v 2)) (.v 3)) (.e (.ix (.ix (.v 0) (.v 2)) (.v 4)) (.e (.ix (.ix (.v 0) (.v 3)) (.v 4)) .nil)))))))) .nil)) .nil) (.cons (.unpack [2, 3, 4, 5] (.v 1)) (.cons (.ite (.or (.cmp .ne (.ix (.ix (.v 0) (.v 2)) (.v 3)) (.ix (.ix (.v 0) (.v 4)) (.v 5))) (.or (.cmp .ne (.ix (.ix (.v 0) (.v 2)) (.v 4)) (.ix (.ix (.v 0) (.v 3)) (.v 5))) (.cmp .ne (.ix (.ix (.v 0) (.v 2)) (.v 5)) (.ix (.ix (.v 0) (.v 3)) (.v 4))))) (.cons (.ret (.ofE (.bl false))) .nil) .nil) (.cons (.ret (.call 36 (.e (.ix (.ix (.v 0) (.v 2)) (.v 3)) (.e (.ix (.ix (.v 0) (.v 2)) (.v 4)) (.e (.ix (.ix (.v 0) (.v 2)) (.v 5)) .nil))))) .nil))))
def d_l_bars : Dcl := ⟨"_law_bars", "_law_bars", top 46, ["_law_one", "_law_things", "_law_i", "_law_j", "_law_k", "_law_l"], 2, [false, false], 0, ir_l_bars⟩
def ir_l_rows : Ss := (.cons (.set 2 (.lst (.cons (.ofE (.tup .nil)) .nil))) (.cons (.loop (.name 3) (.range1 (.v 1)) (.cons (.set 4 (.lst .nil)) (.cons (.loop (.name 5) (.seq (.v 2)) (.cons (.set 4 (.add (.v 4) (.ofF (.comp (.name 6) (.range1 (.v 0)) (.one (.or (.cmp .eq (.v 5) (.tup .nil)) (.cmp .gt (.v 6) (.ix (.v 5) (.neg (.int 1)))))) (.add (.v 5) (.tup (.cons (.v 6) .nil))) [6])))) .nil)) (.cons (.set 2 (.ofE (.v 4))) .nil)))) (.cons (.ret (.ofE (.v 2))) .nil)))
def d_l_rows : Dcl := ⟨"_law_rows", "_law_rows", top 47, ["_law_many", "_law_most", "_law_found", "_law_k", "_law_bigger", "_law_row", "_law_thing"], 2, [false, false], 0, ir_l_rows⟩
def ir_l_told_right : Ss := (.cons (.ite (.or (.not (.tru (.isi (.v 1) [.tuple]))) (.cmp .ne (.b1 .len (.v 1)) (.int 2))) (.cons (.ret (.ofE (.bl false))) .nil) .nil) (.cons (.ite (.cmp .eq (.ix (.v 1) (.int 0)) (.str "places")) (.cons (.set 2 (.ofE (.ix (.v 1) (.int 1)))) (.cons (.ite (.or (.not (.tru (.ofF (.call 30 (.e (.v 2) (.e (.b1 .tuple (.ofF (.comp (.name 5) (.seq (.v 2)) .nil (.ofE (.tup (.cons (.ix (.v 5) (.int 0)) (.cons (.ix (.v 5) (.int 1)) .nil)))) [5]))) .nil)))))) (.cmp .ne (.ofF (.call 29 (.e (.v 2) .nil))) (.v 0))) (.cons (.ret (.ofE (.bl false))) .nil) .nil) (.cons (.ite (.or (.and (.cmp .gt (.b1 .len (.v 2)) (.int 0)) (.cmp .ne (.ix (.v 2) (.int 0)) (.tup (.cons (.int 0) (.cons (.int 1) .nil))))) (.and (.cmp .gt (.b1 .len (.v 2)) (.int 1)) (.cmp .lt (.ix (.ix (.v 2) (.int 1)) (.int 0)) (.int 1)))) (.cons (.ret (.ofE (.bl false))) .nil) .nil) (.cons (.set 3 (.add (.ofF (.call 38 (.e (.b1 .len (.v 0)) (.e (.int 3) .nil)))) (.ofF (.call 38 (.e (.b2 .min (.b1 .len (.v 0)) (.int 8)) (.e (.int 4) .nil)))))) (.cons (.ret (.ofE (.cmp .eq (.ofF (.comp (.name 4) (.seq (.v 3)) (.one (.tru (.ofF (.call 37 (.e (.v 0) (.e (.v 4) .nil)))))) (.ofE (.int 1)) [4])) (.ofF (.lst .nil))))) .nil))))) .nil) (.cons (.ite (.or (.cmp .ne (.ix (.v 1) (.int 0)) (.str "bar")) (.or (.not (.tru (.isi (.ix (.v 1) (.int 1)) [.tuple]))) (.cmp .nmem (.b1 .len (.ix (.v 1) (.int 1))) (.tup (.cons (.int 3) (.cons (.int 4) .nil)))))) (.cons (.ret (.ofE (.bl false))) .nil) .nil) (.cons (.ret (.ofE (.and (.cmp .eq (.ofF (.list (.ix (.v 1) (.int 1)))) (.ofF (.sortS (.ix (.v 1) (.int 1))))) (.and (.ofF (.call 37 (.e (.v 0) (.e (.ix (.v 1) (.int 1)) .nil)))) (.isB false (.ofF (.call 17 (.e (.v 0) (.e (.ix (.v 1) (.int 1)) .nil)))) true))))) .nil))))
def d_l_told_right : Dcl := ⟨"_law_told_right", "_law_told_right", top 48, ["_law_one", "_law_told", "_law_row", "_law_some", "_law_things", "_law_far"], 2, [false, false], 0, ir_l_told_right⟩
def ir_l_without : Ss := (.cons (.set 2 (.comp (.name 5) (.range1 (.b1 .len (.v 0))) (.one (.cmp .ne (.v 5) (.v 1))) (.ofE (.v 5)) [5])) (.cons (.set 3 (.lst .nil)) (.cons (.loop (.name 4) (.seq (.v 2)) (.cons (.append 3 (.ofE (.b1 .tuple (.ofF (.comp (.name 6) (.seq (.v 2)) .nil (.ofE (.ix (.ix (.v 0) (.v 4)) (.v 6))) [6]))))) .nil)) (.cons (.ret (.ofE (.b1 .tuple (.v 3)))) .nil))))
def d_l_without : Dcl := ⟨"_law_without", "_law_without", top 49, ["_law_one", "_law_thing", "_law_left", "_law_found", "_law_i", "_law_k", "_law_j"], 2, [false, false], 0, ir_l_without⟩
def ir_law : Ss := (.cons (.set 1 (.lst (.cons (.mv 0) (.cons (.ofE (.int 0)) (.cons (.ofE (.int 0)) (.cons (.ofE (.int 20)) .nil)))))) (.cons (.loop (.name 2) (.range1 (.int 2)) (.cons (.set 3 (.ofE (.ix (.ofF (.lst (.cons (.call 24 (.r 1 (.e (.int 10) .nil))) (.cons (.call 24 (.r 1 (.e (.int 6) .nil))) (.cons (.ofE (.int 4)) (.cons (.ofE (.ix (.ofF (.lst (.cons (.ofE (.int 5)) (.cons (.ofE (.int 20)) .nil)))) (.v 2))) .nil)))))) (.ofF (.call 24 (.r 1 (.e (.int 4) .nil))))))) (.cons (.set 4 (.call 35 (.r 1 (.e (.ofF (.call 34 (.r 1 (.e (.v 3) .nil)))) .nil)))) (.cons (.set 5 (.call 23 (.e (.v 4) .nil))) (.cons (.ite (.not (.tru (.ofF (.call 39 (.e (.v 4) (.e (.v 5) .nil)))))) (.cons (.ret (.ofE (.bl false))) .nil) .nil) (.cons (.set 6 (.call 35 (.r 1 (.e (.v 4) .nil)))) (.cons (.set 7 (.call 23 (.e (.v 6) .nil))) (.cons (.ite (.or (.not (.tru (.ofF (.call 39 (.e (.v 6) (.e (.v 7) .nil)))))) (.cmp .ne (.ix (.v 7) (.int 0)) (.ix (.v 5) (.int 0)))) (.cons (.ret (.ofE (.bl false))) .nil) .nil) (.cons (.ite (.and (.cmp .gt (.v 3) (.int 0)) (.cmp .eq (.ix (.v 5) (.int 0)) (.str "places"))) (.cons (.set 8 (.call 40 (.e (.v 4) (.e (.ofF (.call 24 (.r 1 (.e (.v 3) .nil)))) .nil)))) (.cons (.ite (.or (.cmp .ne (.ix (.ofF (.call 23 (.e (.v 8) .nil))) (.int 0)) (.str "places")) (.not (.tru (.ofF (.call 39 (.e (.v 8) (.e (.ofF (.call 23 (.e (.v 8) .nil))) .nil))))))) (.cons (.ret (.ofE (.bl false))) .nil) .nil) .nil)) .nil) .nil))))))))) (.cons (.ret (.ofE (.bl true))) .nil)))
def d_law : Dcl := ⟨"law", "law", top 50, ["_law_script", "_law_state", "_law_turn", "_law_many", "_law_one", "_law_told", "_law_two", "_law_again", "_law_rest"], 1, [false], 0, ir_law⟩
def ds : List Dcl := [d_is_row, d_is_whole, d_is_below, d_is_rising, d_is_things, d_common, d_fraction, d_plus, d_less, d_order, d_apart, d_line_table, d_is_whole_way, d_has_middle, d_bars_three, d_are_same, d_bars_four, d_bars_line, d_threes_of, d_fours_of, d_first_bar, d_place_of, d_has_table, d_line_of, d_l_next, d_l_low, d_l_number, d_l_gap, d_l_both, d_l_square, d_l_same, d_l_unlike, d_l_corner, d_l_great, d_l_table, d_l_named, d_l_sums, d_l_bars, d_l_rows, d_l_told_right, d_l_without, d_law]
def blts : List Str := ["abs", "bool", "int", "isinstance", "len", "list", "max", "min", "range", "set", "sorted", "tuple", "zip"]
def gs : List GD := [.tup "NOUGHT" [.inl 0, .inl 1]]
def gl : List D := [.tuple [.int 0, .int 1]]
theorem ok : okAll (glsOf gs 0) blts ds [] 0 = true := by decide +kernel
noncomputable def f_is_row : Fn := mkFn 1 [false] (ir_is_row.sem ⟨[], gl⟩)
noncomputable def f_is_whole : Fn := mkFn 1 [false] (ir_is_whole.sem ⟨[f_is_row], gl⟩)
noncomputable def f_is_below : Fn := mkFn 2 [false, false] (ir_is_below.sem ⟨[f_is_row, f_is_whole], gl⟩)
noncomputable def f_is_rising : Fn := mkFn 3 [false] (ir_is_rising.sem ⟨[f_is_row, f_is_whole, f_is_below], gl⟩)
noncomputable def f_is_things : Fn := mkFn 3 [false, false] (ir_is_things.sem ⟨[f_is_row, f_is_whole, f_is_below, f_is_rising], gl⟩)
noncomputable def f_common : Fn := mkFn 4 [false, false] (ir_common.sem ⟨[f_is_row, f_is_whole, f_is_below, f_is_rising, f_is_things], gl⟩)
noncomputable def f_fraction : Fn := mkFn 3 [false, false] (ir_fraction.sem ⟨[f_is_row, f_is_whole, f_is_below, f_is_rising, f_is_things, f_common], gl⟩)
noncomputable def f_plus : Fn := mkFn 2 [false, false] (ir_plus.sem ⟨[f_is_row, f_is_whole, f_is_below, f_is_rising, f_is_things, f_common, f_fraction], gl⟩)
noncomputable def f_less : Fn := mkFn 2 [false, false] (ir_less.sem ⟨[f_is_row, f_is_whole, f_is_below, f_is_rising, f_is_things, f_common, f_fraction, f_plus], gl⟩)
noncomputable def f_order : Fn := mkFn 3 [false, false] (ir_order.sem ⟨[f_is_row, f_is_whole, f_is_below, f_is_rising, f_is_things, f_common, f_fraction, f_plus, f_less], gl⟩)
noncomputable def f_apart : Fn := mkFn 2 [false, false] (ir_apart.sem ⟨[f_is_row, f_is_whole, f_is_below, f_is_rising, f_is_things, f_common, f_fraction, f_plus, f_less, f_order], gl⟩)
noncomputable def f_line_table : Fn := mkFn 4 [false] (ir_line_table.sem ⟨[f_is_row, f_is_whole, f_is_below, f_is_rising, f_is_things, f_common, f_fraction, f_plus, f_less, f_order, f_apart], gl⟩)
noncomputable def f_is_whole_way : Fn := mkFn 3 [false, false, false] (ir_is_whole_way.sem ⟨[f_is_row, f_is_whole, f_is_below, f_is_rising, f_is_things, f_common, f_fraction, f_plus, f_less, f_order, f_apart, f_line_table], gl⟩)
noncomputable def f_has_middle : Fn := mkFn 3 [false, false, false] (ir_has_middle.sem ⟨[f_is_row, f_is_whole, f_is_below, f_is_rising, f_is_things, f_common, f_fraction, f_plus, f_less, f_order, f_apart, f_line_table, f_is_whole_way], gl⟩)
noncomputable def f_bars_three : Fn := mkFn 4 [false, false, false, false] (ir_bars_three.sem ⟨[f_is_row, f_is_whole, f_is_below, f_is_rising, f_is_things, f_common, f_fraction, f_plus, f_less, f_order, f_apart, f_line_table, f_is_whole_way, f_has_middle], gl⟩)
noncomputable def f_are_same : Fn := mkFn 2 [false, false] (ir_are_same.sem ⟨[f_is_row, f_is_whole, f_is_below, f_is_rising, f_is_things, f_common, f_fraction, f_plus, f_less, f_order, f_apart, f_line_table, f_is_whole_way, f_has_middle, f_bars_three], gl⟩)
noncomputable def f_bars_four : Fn := mkFn 5 [false, false, false, false, false] (ir_bars_four.sem ⟨[f_is_row, f_is_whole, f_is_below, f_is_rising, f_is_things, f_common, f_fraction, f_plus, f_less, f_order, f_apart, f_line_table, f_is_whole_way, f_has_middle, f_bars_three, f_are_same], gl⟩)
noncomputable def f_bars_line : Fn := mkFn 2 [false, false] (ir_bars_line.sem ⟨[f_is_row, f_is_whole, f_is_below, f_is_rising, f_is_things, f_common, f_fraction, f_plus, f_less, f_order, f_apart, f_line_table, f_is_whole_way, f_has_middle, f_bars_three, f_are_same, f_bars_four], gl⟩)
noncomputable def f_threes_of : Fn := mkFn 5 [false] (ir_threes_of.sem ⟨[f_is_row, f_is_whole, f_is_below, f_is_rising, f_is_things, f_common, f_fraction, f_plus, f_less, f_order, f_apart, f_line_table, f_is_whole_way, f_has_middle, f_bars_three, f_are_same, f_bars_four, f_bars_line], gl⟩)
noncomputable def f_fours_of : Fn := mkFn 4 [false] (ir_fours_of.sem ⟨[f_is_row, f_is_whole, f_is_below, f_is_rising, f_is_things, f_common, f_fraction, f_plus, f_less, f_order, f_apart, f_line_table, f_is_whole_way, f_has_middle, f_bars_three, f_are_same, f_bars_four, f_bars_line, f_threes_of], gl⟩)
noncomputable def f_first_bar : Fn := mkFn 2 [false] (ir_first_bar.sem ⟨[f_is_row, f_is_whole, f_is_below, f_is_rising, f_is_things, f_common, f_fraction, f_plus, f_less, f_order, f_apart, f_line_table, f_is_whole_way, f_has_middle, f_bars_three, f_are_same, f_bars_four, f_bars_line, f_threes_of, f_fours_of], gl⟩)
noncomputable def f_place_of : Fn := mkFn 4 [false, false] (ir_place_of.sem ⟨[f_is_row, f_is_whole, f_is_below, f_is_rising, f_is_things, f_common, f_fraction, f_plus, f_less, f_order, f_apart, f_line_table, f_is_whole_way, f_has_middle, f_bars_three, f_are_same, f_bars_four, f_bars_line, f_threes_of, f_fours_of, f_first_bar], gl⟩)
noncomputable def f_has_table : Fn := mkFn 6 [false, false] (ir_has_table.sem ⟨[f_is_row, f_is_whole, f_is_below, f_is_rising, f_is_things, f_common, f_fraction, f_plus, f_less, f_order, f_apart, f_line_table, f_is_whole_way, f_has_middle, f_bars_three, f_are_same, f_bars_four, f_bars_line, f_threes_of, f_fours_of, f_first_bar, f_place_of], gl⟩)
noncomputable def f_line_of : Fn := mkFn 3 [false] (ir_line_of.sem ⟨[f_is_row, f_is_whole, f_is_below, f_is_rising, f_is_things, f_common, f_fraction, f_plus, f_less, f_order, f_apart, f_line_table, f_is_whole_way, f_has_middle, f_bars_three, f_are_same, f_bars_four, f_bars_line, f_threes_of, f_fours_of, f_first_bar, f_place_of, f_has_table], gl⟩)
noncomputable def f_l_next : Fn := mkFn 4 [true, false] (ir_l_next.sem ⟨[f_is_row, f_is_whole, f_is_below, f_is_rising, f_is_things, f_common, f_fraction, f_plus, f_less, f_order, f_apart, f_line_table, f_is_whole_way, f_has_middle, f_bars_three, f_are_same, f_bars_four, f_bars_line, f_threes_of, f_fours_of, f_first_bar, f_place_of, f_has_table, f_line_of], gl⟩)
noncomputable def f_l_low : Fn := mkFn 4 [false, false] (ir_l_low.sem ⟨[f_is_row, f_is_whole, f_is_below, f_is_rising, f_is_things, f_common, f_fraction, f_plus, f_less, f_order, f_apart, f_line_table, f_is_whole_way, f_has_middle, f_bars_three, f_are_same, f_bars_four, f_bars_line, f_threes_of, f_fours_of, f_first_bar, f_place_of, f_has_table, f_line_of, f_l_next], gl⟩)
noncomputable def f_l_number : Fn := mkFn 4 [true] (ir_l_number.sem ⟨[f_is_row, f_is_whole, f_is_below, f_is_rising, f_is_things, f_common, f_fraction, f_plus, f_less, f_order, f_apart, f_line_table, f_is_whole_way, f_has_middle, f_bars_three, f_are_same, f_bars_four, f_bars_line, f_threes_of, f_fours_of, f_first_bar, f_place_of, f_has_table, f_line_of, f_l_next, f_l_low], gl⟩)
noncomputable def f_l_gap : Fn := mkFn 2 [false, false] (ir_l_gap.sem ⟨[f_is_row, f_is_whole, f_is_below, f_is_rising, f_is_things, f_common, f_fraction, f_plus, f_less, f_order, f_apart, f_line_table, f_is_whole_way, f_has_middle, f_bars_three, f_are_same, f_bars_four, f_bars_line, f_threes_of, f_fours_of, f_first_bar, f_place_of, f_has_table, f_line_of, f_l_next, f_l_low, f_l_number], gl⟩)
noncomputable def f_l_both : Fn := mkFn 2 [false, false] (ir_l_both.sem ⟨[f_is_row, f_is_whole, f_is_below, f_is_rising, f_is_things, f_common, f_fraction, f_plus, f_less, f_order, f_apart, f_line_table, f_is_whole_way, f_has_middle, f_bars_three, f_are_same, f_bars_four, f_bars_line, f_threes_of, f_fours_of, f_first_bar, f_place_of, f_has_table, f_line_of, f_l_next, f_l_low, f_l_number, f_l_gap], gl⟩)
noncomputable def f_l_square : Fn := mkFn 4 [false] (ir_l_square.sem ⟨[f_is_row, f_is_whole, f_is_below, f_is_rising, f_is_things, f_common, f_fraction, f_plus, f_less, f_order, f_apart, f_line_table, f_is_whole_way, f_has_middle, f_bars_three, f_are_same, f_bars_four, f_bars_line, f_threes_of, f_fours_of, f_first_bar, f_place_of, f_has_table, f_line_of, f_l_next, f_l_low, f_l_number, f_l_gap, f_l_both], gl⟩)
noncomputable def f_l_same : Fn := recFn gl [f_is_row, f_is_whole, f_is_below, f_is_rising, f_is_things, f_common, f_fraction, f_plus, f_less, f_order, f_apart, f_line_table, f_is_whole_way, f_has_middle, f_bars_three, f_are_same, f_bars_four, f_bars_line, f_threes_of, f_fours_of, f_first_bar, f_place_of, f_has_table, f_line_of, f_l_next, f_l_low, f_l_number, f_l_gap, f_l_both, f_l_square] 4 [false, false] ir_l_same 10
noncomputable def f_l_unlike : Fn := mkFn 5 [true, false] (ir_l_unlike.sem ⟨[f_is_row, f_is_whole, f_is_below, f_is_rising, f_is_things, f_common, f_fraction, f_plus, f_less, f_order, f_apart, f_line_table, f_is_whole_way, f_has_middle, f_bars_three, f_are_same, f_bars_four, f_bars_line, f_threes_of, f_fours_of, f_first_bar, f_place_of, f_has_table, f_line_of, f_l_next, f_l_low, f_l_number, f_l_gap, f_l_both, f_l_square, f_l_same], gl⟩)
noncomputable def f_l_corner : Fn := mkFn 5 [false, false, false, false] (ir_l_corner.sem ⟨[f_is_row, f_is_whole, f_is_below, f_is_rising, f_is_things, f_common, f_fraction, f_plus, f_less, f_order, f_apart, f_line_table, f_is_whole_way, f_has_middle, f_bars_three, f_are_same, f_bars_four, f_bars_line, f_threes_of, f_fours_of, f_first_bar, f_place_of, f_has_table, f_line_of, f_l_next, f_l_low, f_l_number, f_l_gap, f_l_both, f_l_square, f_l_same, f_l_unlike], gl⟩)
noncomputable def f_l_great : Fn := mkFn 2 [false, false] (ir_l_great.sem ⟨[f_is_row, f_is_whole, f_is_below, f_is_rising, f_is_things, f_common, f_fraction, f_plus, f_less, f_order, f_apart, f_line_table, f_is_whole_way, f_has_middle, f_bars_three, f_are_same, f_bars_four, f_bars_line, f_threes_of, f_fours_of, f_first_bar, f_place_of, f_has_table, f_line_of, f_l_next, f_l_low, f_l_number, f_l_gap, f_l_both, f_l_square, f_l_same, f_l_unlike, f_l_corner], gl⟩)
noncomputable def f_l_table : Fn := mkFn 13 [true, false] (ir_l_table.sem ⟨[f_is_row, f_is_whole, f_is_below, f_is_rising, f_is_things, f_common, f_fraction, f_plus, f_less, f_order, f_apart, f_line_table, f_is_whole_way, f_has_middle, f_bars_three, f_are_same, f_bars_four, f_bars_line, f_threes_of, f_fours_of, f_first_bar, f_place_of, f_has_table, f_line_of, f_l_next, f_l_low, f_l_number, f_l_gap, f_l_both, f_l_square, f_l_same, f_l_unlike, f_l_corner, f_l_great], gl⟩)
noncomputable def f_l_named : Fn := mkFn 8 [true, false] (ir_l_named.sem ⟨[f_is_row, f_is_whole, f_is_below, f_is_rising, f_is_things, f_common, f_fraction, f_plus, f_less, f_order, f_apart, f_line_table, f_is_whole_way, f_has_middle, f_bars_three, f_are_same, f_bars_four, f_bars_line, f_threes_of, f_fours_of, f_first_bar, f_place_of, f_has_table, f_line_of, f_l_next, f_l_low, f_l_number, f_l_gap, f_l_both, f_l_square, f_l_same, f_l_unlike, f_l_corner, f_l_great, f_l_table], gl⟩)
noncomputable def f_l_sums : Fn := mkFn 3 [false, false, false] (ir_l_sums.sem ⟨[f_is_row, f_is_whole, f_is_below, f_is_rising, f_is_things, f_common, f_fraction, f_plus, f_less, f_order, f_apart, f_line_table, f_is_whole_way, f_has_middle, f_bars_three, f_are_same, f_bars_four, f_bars_line, f_threes_of, f_fours_of, f_first_bar, f_place_of, f_has_table, f_line_of, f_l_next, f_l_low, f_l_number, f_l_gap, f_l_both, f_l_square, f_l_same, f_l_unlike, f_l_corner, f_l_great, f_l_table, f_l_named], gl⟩)
noncomputable def f_l_bars : Fn := mkFn 6 [false, false] (ir_l_bars.sem ⟨[f_is_row, f_is_whole, f_is_below, f_is_rising, f_is_things, f_common, f_fraction, f_plus, f_less, f_order, f_apart, f_line_table, f_is_whole_way, f_has_middle, f_bars_three, f_are_same, f_bars_four, f_bars_line, f_threes_of, f_fours_of, f_first_bar, f_place_of, f_has_table, f_line_of, f_l_next, f_l_low, f_l_number, f_l_gap, f_l_both, f_l_square, f_l_same, f_l_unlike, f_l_corner, f_l_great, f_l_table, f_l_named, f_l_sums], gl⟩)
noncomputable def f_l_rows : Fn := mkFn 7 [false, false] (ir_l_rows.sem ⟨[f_is_row, f_is_whole, f_is_below, f_is_rising, f_is_things, f_common, f_fraction, f_plus, f_less, f_order, f_apart, f_line_table, f_is_whole_way, f_has_middle, f_bars_three, f_are_same, f_bars_four, f_bars_line, f_threes_of, f_fours_of, f_first_bar, f_place_of, f_has_table, f_line_of, f_l_next, f_l_low, f_l_number, f_l_gap, f_l_both, f_l_square, f_l_same, f_l_unlike, f_l_corner, f_l_great, f_l_table, f_l_named, f_l_sums, f_l_bars], gl⟩)
noncomputable def f_l_told_right : Fn := mkFn 6 [false, false] (ir_l_told_right.sem ⟨[f_is_row, f_is_whole, f_is_below, f_is_rising, f_is_things, f_common, f_fraction, f_plus, f_less, f_order, f_apart, f_line_table, f_is_whole_way, f_has_middle, f_bars_three, f_are_same, f_bars_four, f_bars_line, f_threes_of, f_fours_of, f_first_bar, f_place_of, f_has_table, f_line_of, f_l_next, f_l_low, f_l_number, f_l_gap, f_l_both, f_l_square, f_l_same, f_l_unlike, f_l_corner, f_l_great, f_l_table, f_l_named, f_l_sums, f_l_bars, f_l_rows], gl⟩)
noncomputable def f_l_without : Fn := mkFn 7 [false, false] (ir_l_without.sem ⟨[f_is_row, f_is_whole, f_is_below, f_is_rising, f_is_things, f_common, f_fraction, f_plus, f_less, f_order, f_apart, f_line_table, f_is_whole_way, f_has_middle, f_bars_three, f_are_same, f_bars_four, f_bars_line, f_threes_of, f_fours_of, f_first_bar, f_place_of, f_has_table, f_line_of, f_l_next, f_l_low, f_l_number, f_l_gap, f_l_both, f_l_square, f_l_same, f_l_unlike, f_l_corner, f_l_great, f_l_table, f_l_named, f_l_sums, f_l_bars, f_l_rows, f_l_told_right], gl⟩)
noncomputable def f_law : Fn := mkFn 9 [false] (ir_law.sem ⟨[f_is_row, f_is_whole, f_is_below, f_is_rising, f_is_things, f_common, f_fraction, f_plus, f_less, f_order, f_apart, f_line_table, f_is_whole_way, f_has_middle, f_bars_three, f_are_same, f_bars_four, f_bars_line, f_threes_of, f_fours_of, f_first_bar, f_place_of, f_has_table, f_line_of, f_l_next, f_l_low, f_l_number, f_l_gap, f_l_both, f_l_square, f_l_same, f_l_unlike, f_l_corner, f_l_great, f_l_table, f_l_named, f_l_sums, f_l_bars, f_l_rows, f_l_told_right, f_l_without], gl⟩)
theorem fns : build gl ds [] = [f_is_row, f_is_whole, f_is_below, f_is_rising, f_is_things, f_common, f_fraction, f_plus, f_less, f_order, f_apart, f_line_table, f_is_whole_way, f_has_middle, f_bars_three, f_are_same, f_bars_four, f_bars_line, f_threes_of, f_fours_of, f_first_bar, f_place_of, f_has_table, f_line_of, f_l_next, f_l_low, f_l_number, f_l_gap, f_l_both, f_l_square, f_l_same, f_l_unlike, f_l_corner, f_l_great, f_l_table, f_l_named, f_l_sums, f_l_bars, f_l_rows, f_l_told_right, f_l_without, f_law] := build_step (f := f_is_row) rfl (build_step (f := f_is_whole) rfl (build_step (f := f_is_below) rfl (build_step (f := f_is_rising) rfl (build_step (f := f_is_things) rfl (build_step (f := f_common) rfl (build_step (f := f_fraction) rfl (build_step (f := f_plus) rfl (build_step (f := f_less) rfl (build_step (f := f_order) rfl (build_step (f := f_apart) rfl (build_step (f := f_line_table) rfl (build_step (f := f_is_whole_way) rfl (build_step (f := f_has_middle) rfl (build_step (f := f_bars_three) rfl (build_step (f := f_are_same) rfl (build_step (f := f_bars_four) rfl (build_step (f := f_bars_line) rfl (build_step (f := f_threes_of) rfl (build_step (f := f_fours_of) rfl (build_step (f := f_first_bar) rfl (build_step (f := f_place_of) rfl (build_step (f := f_has_table) rfl (build_step (f := f_line_of) rfl (build_step (f := f_l_next) rfl (build_step (f := f_l_low) rfl (build_step (f := f_l_number) rfl (build_step (f := f_l_gap) rfl (build_step (f := f_l_both) rfl (build_step (f := f_l_square) rfl (build_step (f := f_l_same) rfl (build_step (f := f_l_unlike) rfl (build_step (f := f_l_corner) rfl (build_step (f := f_l_great) rfl (build_step (f := f_l_table) rfl (build_step (f := f_l_named) rfl (build_step (f := f_l_sums) rfl (build_step (f := f_l_bars) rfl (build_step (f := f_l_rows) rfl (build_step (f := f_l_told_right) rfl (build_step (f := f_l_without) rfl (build_step (f := f_law) rfl (rfl))))))))))))))))))))))))))))))))))))))))))
theorem b_is_row : BndD d_is_row := fun _ _ _ _ _ _ us hl => match us, hl with | [_], _ => rfl
theorem b_is_whole : BndD d_is_whole := fun _ _ _ _ _ _ us hl => match us, hl with | [_], _ => rfl
theorem b_is_below : BndD d_is_below := fun _ _ _ _ _ _ us hl => match us, hl with | [_, _], _ => rfl
theorem b_is_rising : BndD d_is_rising := fun _ _ _ _ _ _ us hl => match us, hl with | [_], _ => rfl
theorem b_is_things : BndD d_is_things := fun _ _ _ _ _ _ us hl => match us, hl with | [_, _], _ => rfl
theorem b_common : BndD d_common := fun _ _ _ _ _ _ us hl => match us, hl with | [_, _], _ => rfl
theorem b_fraction : BndD d_fraction := fun _ _ _ _ _ _ us hl => match us, hl with | [_, _], _ => rfl
theorem b_plus : BndD d_plus := fun _ _ _ _ _ _ us hl => match us, hl with | [_, _], _ => rfl
theorem b_less : BndD d_less := fun _ _ _ _ _ _ us hl => match us, hl with | [_, _], _ => rfl
theorem b_order : BndD d_order := fun _ _ _ _ _ _ us hl => match us, hl with | [_, _], _ => rfl
theorem b_apart : BndD d_apart := fun _ _ _ _ _ _ us hl => match us, hl with | [_, _], _ => rfl
theorem b_line_table : BndD d_line_table := fun _ _ _ _ _ _ us hl => match us, hl with | [_], _ => rfl
theorem b_is_whole_way : BndD d_is_whole_way := fun _ _ _ _ _ _ us hl => match us, hl with | [_, _, _], _ => rfl
theorem b_has_middle : BndD d_has_middle := fun _ _ _ _ _ _ us hl => match us, hl with | [_, _, _], _ => rfl
theorem b_bars_three : BndD d_bars_three := fun _ _ _ _ _ _ us hl => match us, hl with | [_, _, _, _], _ => rfl
theorem b_are_same : BndD d_are_same := fun _ _ _ _ _ _ us hl => match us, hl with | [_, _], _ => rfl
theorem b_bars_four : BndD d_bars_four := fun _ _ _ _ _ _ us hl => match us, hl with | [_, _, _, _, _], _ => rfl
theorem b_bars_line : BndD d_bars_line := fun _ _ _ _ _ _ us hl => match us, hl with | [_, _], _ => rfl
theorem b_threes_of : BndD d_threes_of := fun _ _ _ _ _ _ us hl => match us, hl with | [_], _ => rfl
theorem b_fours_of : BndD d_fours_of := fun _ _ _ _ _ _ us hl => match us, hl with | [_], _ => rfl
theorem b_first_bar : BndD d_first_bar := fun _ _ _ _ _ _ us hl => match us, hl with | [_], _ => rfl
theorem b_place_of : BndD d_place_of := fun _ _ _ _ _ _ us hl => match us, hl with | [_, _], _ => rfl
theorem b_has_table : BndD d_has_table := fun _ _ _ _ _ _ us hl => match us, hl with | [_, _], _ => rfl
theorem b_line_of : BndD d_line_of := fun _ _ _ _ _ _ us hl => match us, hl with | [_], _ => rfl
theorem b_l_next : BndD d_l_next := fun _ _ _ _ _ _ us hl => match us, hl with | [_, _], _ => rfl
theorem b_l_low : BndD d_l_low := fun _ _ _ _ _ _ us hl => match us, hl with | [_, _], _ => rfl
theorem b_l_number : BndD d_l_number := fun _ _ _ _ _ _ us hl => match us, hl with | [_], _ => rfl
theorem b_l_gap : BndD d_l_gap := fun _ _ _ _ _ _ us hl => match us, hl with | [_, _], _ => rfl
theorem b_l_both : BndD d_l_both := fun _ _ _ _ _ _ us hl => match us, hl with | [_, _], _ => rfl
theorem b_l_square : BndD d_l_square := fun _ _ _ _ _ _ us hl => match us, hl with | [_], _ => rfl
theorem b_l_same : BndD d_l_same := fun _ _ _ _ _ _ us hl => match us, hl with | [_, _], _ => rfl
theorem b_l_unlike : BndD d_l_unlike := fun _ _ _ _ _ _ us hl => match us, hl with | [_, _], _ => rfl
theorem b_l_corner : BndD d_l_corner := fun _ _ _ _ _ _ us hl => match us, hl with | [_, _, _, _], _ => rfl
theorem b_l_great : BndD d_l_great := fun _ _ _ _ _ _ us hl => match us, hl with | [_, _], _ => rfl
theorem b_l_table : BndD d_l_table := fun _ _ _ _ _ _ us hl => match us, hl with | [_, _], _ => rfl
theorem b_l_named : BndD d_l_named := fun _ _ _ _ _ _ us hl => match us, hl with | [_, _], _ => rfl
theorem b_l_sums : BndD d_l_sums := fun _ _ _ _ _ _ us hl => match us, hl with | [_, _, _], _ => rfl
theorem b_l_bars : BndD d_l_bars := fun _ _ _ _ _ _ us hl => match us, hl with | [_, _], _ => rfl
theorem b_l_rows : BndD d_l_rows := fun _ _ _ _ _ _ us hl => match us, hl with | [_, _], _ => rfl
theorem b_l_told_right : BndD d_l_told_right := fun _ _ _ _ _ _ us hl => match us, hl with | [_, _], _ => rfl
theorem b_l_without : BndD d_l_without := fun _ _ _ _ _ _ us hl => match us, hl with | [_, _], _ => rfl
theorem b_law : BndD d_law := fun _ _ _ _ _ _ us hl => match us, hl with | [_], _ => rfl
theorem bnds : ∀ d ∈ ds, BndD d := by
  intro d hd
  simp only [ds, List.mem_cons, List.not_mem_nil, or_false] at hd
  rcases hd with rfl | rfl | rfl | rfl | rfl | rfl | rfl | rfl | rfl | rfl | rfl | rfl | rfl | rfl | rfl | rfl | rfl | rfl | rfl | rfl | rfl | rfl | rfl | rfl | rfl | rfl | rfl | rfl | rfl | rfl | rfl | rfl | rfl | rfl | rfl | rfl | rfl | rfl | rfl | rfl | rfl | rfl
  · exact b_is_row
  · exact b_is_whole
  · exact b_is_below
  · exact b_is_rising
  · exact b_is_things
  · exact b_common
  · exact b_fraction
  · exact b_plus
  · exact b_less
  · exact b_order
  · exact b_apart
  · exact b_line_table
  · exact b_is_whole_way
  · exact b_has_middle
  · exact b_bars_three
  · exact b_are_same
  · exact b_bars_four
  · exact b_bars_line
  · exact b_threes_of
  · exact b_fours_of
  · exact b_first_bar
  · exact b_place_of
  · exact b_has_table
  · exact b_line_of
  · exact b_l_next
  · exact b_l_low
  · exact b_l_number
  · exact b_l_gap
  · exact b_l_both
  · exact b_l_square
  · exact b_l_same
  · exact b_l_unlike
  · exact b_l_corner
  · exact b_l_great
  · exact b_l_table
  · exact b_l_named
  · exact b_l_sums
  · exact b_l_bars
  · exact b_l_rows
  · exact b_l_told_right
  · exact b_l_without
  · exact b_law
end K20
set_option Elab.async false
set_option linter.all false
set_option maxRecDepth 100000
set_option maxHeartbeats 4000000
/-! K20m: a line's places by the first two things; three and four things that bar. -/
namespace K20
open PySem Tr Lib
/-- where a thing is, by its distances from the first two: c between these -/
def plc (c a b : Rat) : Option Rat := if b = (a - c).abs then some a else if a + c = b then some (0 - a) else none
theorem mid_iff {p q r : Rat} : mid p q r = true ↔ p + q = r ∨ p + r = q ∨ q + r = p := by
  unfold mid
  simp
theorem abs_cases (x : Rat) : (0 ≤ x ∧ x.abs = x) ∨ (x < 0 ∧ x.abs = -x) := by
  unfold Rat.abs
  by_cases h : 0 ≤ x
  · rw [if_pos h]; exact .inl ⟨h, rfl⟩
  · rw [if_neg h]; exact .inr ⟨by grind, rfl⟩
theorem plc_of {c a b : Rat} (hc : 0 ≤ c) (ha : 0 ≤ a) (hb : 0 ≤ b) (h : mid c a b = true) : ∃ x, plc c a b = some x ∧ ((x = a ∧ b = (a - c).abs) ∨ (x = 0 - a ∧ b = a + c)) := by
  unfold plc
  by_cases h1 : b = (a - c).abs
  · rw [if_pos h1]; exact ⟨a, rfl, .inl ⟨rfl, h1⟩⟩
  · rw [if_neg h1]
    have h2 : a + c = b := by
      rcases abs_cases (a - c) with ⟨h3, h4⟩ | ⟨h3, h4⟩ <;> rcases mid_iff.mp h with h5 | h5 | h5 <;> grind
    rw [if_pos h2]
    exact ⟨0 - a, rfl, .inr ⟨rfl, h2.symm⟩⟩
theorem quad {c a1 b1 a2 b2 e x1 x2 : Rat} (hc : 0 < c) (ha1 : 0 < a1) (hb1 : 0 < b1) (ha2 : 0 < a2) (hb2 : 0 < b2) (he : 0 < e)
    (h1 : (x1 = a1 ∧ b1 = (a1 - c).abs) ∨ (x1 = 0 - a1 ∧ b1 = a1 + c)) (h2 : (x2 = a2 ∧ b2 = (a2 - c).abs) ∨ (x2 = 0 - a2 ∧ b2 = a2 + c))
    (m1 : mid a1 a2 e = true) (m2 : mid b1 b2 e = true) (nb : ¬ (c = e ∧ a1 = b2 ∧ a2 = b1 ∧ mid c a1 a2 = true)) : (x1 - x2).abs = e := by
  rw [mid_iff] at m1 m2 nb
  rcases abs_cases (a1 - c) with ⟨p1, q1⟩ | ⟨p1, q1⟩ <;> rcases abs_cases (a2 - c) with ⟨p2, q2⟩ | ⟨p2, q2⟩ <;> rcases abs_cases (x1 - x2) with ⟨p3, q3⟩ | ⟨p3, q3⟩ <;> rw [q3] <;> rw [q1] at h1 <;> rw [q2] at h2 <;> grind
/-- no four apart of a line bar -/
theorem line4 {x y z w : Rat} (h1 : x ≠ y) (h2 : x ≠ z) (h3 : x ≠ w) (h4 : y ≠ z) (h5 : y ≠ w) (h6 : z ≠ w) (e1 : (x - y).abs = (z - w).abs) (e2 : (x - z).abs = (y - w).abs) (e3 : (x - w).abs = (y - z).abs) : False := by
  rcases abs_cases (x - y) with ⟨p1, q1⟩ | ⟨p1, q1⟩ <;> rcases abs_cases (z - w) with ⟨p2, q2⟩ | ⟨p2, q2⟩ <;> rcases abs_cases (x - z) with ⟨p3, q3⟩ | ⟨p3, q3⟩ <;> rcases abs_cases (y - w) with ⟨p4, q4⟩ | ⟨p4, q4⟩ <;> rcases abs_cases (x - w) with ⟨p5, q5⟩ | ⟨p5, q5⟩ <;> rcases abs_cases (y - z) with ⟨p6, q6⟩ | ⟨p6, q6⟩ <;> grind
theorem line3 {x y z : Rat} : mid (x - y).abs (x - z).abs (y - z).abs = true := by
  rw [mid_iff]
  rcases abs_cases (x - y) with ⟨p1, q1⟩ | ⟨p1, q1⟩ <;> rcases abs_cases (x - z) with ⟨p2, q2⟩ | ⟨p2, q2⟩ <;> rcases abs_cases (y - z) with ⟨p3, q3⟩ | ⟨p3, q3⟩ <;> grind
/-- these places have this table -/
def Emb (n : Nat) (g : Nat → Nat → Rat) (x : Nat → Rat) : Prop := ∀ i < n, ∀ j < n, g i j = (x i - x j).abs
structure NoBar (n : Nat) (g : Nat → Nat → Rat) : Prop where
  b3 : ∀ i j k, i < j → j < k → k < n → bar3 g i j k = false
  b4 : ∀ i j k l, i < j → j < k → k < l → l < n → bar4 g i j k l = false
variable {n : Nat} {g : Nat → Nat → Rat}
theorem emb_ne (h : TabOk n g) {x : Nat → Rat} (e : Emb n g x) {i j : Nat} (hi : i < n) (hj : j < n) (hij : i ≠ j) : x i ≠ x j := fun q => by
  have h1 := h.pos i j hi hj hij
  rw [e i hi j hj, q, abs_self] at h1
  grind
theorem emb_nobar (h : TabOk n g) {x : Nat → Rat} (e : Emb n g x) : NoBar n g := by
  refine ⟨fun i j k h1 h2 h3 => ?_, fun i j k l h1 h2 h3 h4 => ?_⟩
  · unfold bar3
    rw [e i (by omega) j (by omega), e i (by omega) k h3, e j (by omega) k h3, line3]
    rfl
  · unfold bar4
    by_cases q1 : g i j = g k l
    · by_cases q2 : g i k = g j l
      · by_cases q3 : g i l = g j k
        · exfalso
          rw [e i (by omega) j (by omega), e k (by omega) l (by omega)] at q1
          rw [e i (by omega) k (by omega), e j (by omega) l (by omega)] at q2
          rw [e i (by omega) l (by omega), e j (by omega) k (by omega)] at q3
          exact line4 (emb_ne h e (by omega) (by omega) (by omega)) (emb_ne h e (by omega) (by omega) (by omega)) (emb_ne h e (by omega) (by omega) (by omega)) (emb_ne h e (by omega) (by omega) (by omega)) (emb_ne h e (by omega) (by omega) (by omega)) (emb_ne h e (by omega) (by omega) (by omega)) q1 q2 q3
        · simp [q3]
      · simp [q2]
    · simp [q1]
theorem mid_of (h : bar3 g i j k = false) : mid (g i j) (g i k) (g j k) = true := by
  unfold bar3 at h
  simpa using h
theorem nobar_places (h : TabOk n g) (hn : 2 ≤ n) (nb : NoBar n g) : ∃ x : Nat → Rat, (∀ t < n, plc (g 0 1) (g 0 t) (g 1 t) = some (x t)) ∧ Emb n g x := by
  have hc := h.pos 0 1 (by omega) (by omega) (by decide)
  have p0 : plc (g 0 1) (g 0 0) (g 1 0) = some 0 := by
    unfold plc
    have : g 1 0 = (g 0 0 - g 0 1).abs := by rw [h.diag, h.sym 1 0]; rcases abs_cases (0 - g 0 1) with ⟨a, b⟩ | ⟨a, b⟩ <;> grind
    rw [if_pos this, h.diag]
  have p1 : plc (g 0 1) (g 0 1) (g 1 1) = some (g 0 1) := by
    unfold plc
    have : g 1 1 = (g 0 1 - g 0 1).abs := by rw [h.diag, abs_self]
    rw [if_pos this]
  have pt : ∀ t, 2 ≤ t → t < n → ∃ x, plc (g 0 1) (g 0 t) (g 1 t) = some x ∧ ((x = g 0 t ∧ g 1 t = (g 0 t - g 0 1).abs) ∨ (x = 0 - g 0 t ∧ g 1 t = g 0 t + g 0 1)) := fun t h2 ht => by
    have ha := h.pos 0 t (by omega) ht (by omega)
    have hb := h.pos 1 t (by omega) ht (by omega)
    exact plc_of (by grind) (by grind) (by grind) (mid_of (nb.b3 0 1 t (by decide) (by omega) ht))
  have all : ∀ t < n, ∃ x, plc (g 0 1) (g 0 t) (g 1 t) = some x := fun t ht => by
    by_cases h0 : t = 0
    · subst h0; exact ⟨_, p0⟩
    · by_cases h1 : t = 1
      · subst h1; exact ⟨_, p1⟩
      · obtain ⟨x, e, _⟩ := pt t (by omega) ht
        exact ⟨x, e⟩
  let X : Nat → Rat := fun t => (plc (g 0 1) (g 0 t) (g 1 t)).getD 0
  have hX : ∀ t < n, plc (g 0 1) (g 0 t) (g 1 t) = some (X t) := fun t ht => by
    obtain ⟨x, e⟩ := all t ht
    show _ = some ((plc (g 0 1) (g 0 t) (g 1 t)).getD 0)
    rw [e]; rfl
  have x0 : X 0 = 0 := by show (plc (g 0 1) (g 0 0) (g 1 0)).getD 0 = 0; rw [p0]; rfl
  have x1 : X 1 = g 0 1 := by show (plc (g 0 1) (g 0 1) (g 1 1)).getD 0 = _; rw [p1]; rfl
  have xt : ∀ t, 2 ≤ t → t < n → ((X t = g 0 t ∧ g 1 t = (g 0 t - g 0 1).abs) ∨ (X t = 0 - g 0 t ∧ g 1 t = g 0 t + g 0 1)) := fun t h2 ht => by
    obtain ⟨x, e, d⟩ := pt t h2 ht
    have := hX t ht
    rw [e] at this
    cases this
    exact d
  have row0 : ∀ t < n, g 0 t = (X 0 - X t).abs := fun t ht => by
    by_cases h0 : t = 0
    · subst h0; rw [abs_self, h.diag]
    · have ha := h.pos 0 t (by omega) ht (by omega)
      by_cases h1 : t = 1
      · subst h1; rw [x0, x1]; rcases abs_cases (0 - g 0 1) with ⟨a, b⟩ | ⟨a, b⟩ <;> grind
      · rw [x0]
        rcases xt t (by omega) ht with ⟨a, _⟩ | ⟨a, _⟩
        · rw [a]; rcases abs_cases (0 - g 0 t) with ⟨a, b⟩ | ⟨a, b⟩ <;> grind
        · rw [a]; rcases abs_cases (0 - (0 - g 0 t)) with ⟨a, b⟩ | ⟨a, b⟩ <;> grind
  have row1 : ∀ t < n, g 1 t = (X 1 - X t).abs := fun t ht => by
    by_cases h0 : t = 0
    · subst h0; rw [h.sym, row0 1 (by omega), abs_sym]
    · by_cases h1 : t = 1
      · subst h1; rw [abs_self, h.diag]
      · have ha := h.pos 0 t (by omega) ht (by omega)
        rw [x1]
        rcases xt t (by omega) ht with ⟨a, b⟩ | ⟨a, b⟩
        · rw [a, b, abs_sym]
        · rw [a, b]; rcases abs_cases (g 0 1 - (0 - g 0 t)) with ⟨p, q⟩ | ⟨p, q⟩ <;> grind
  have low : ∀ i j, i < j → j < n → g i j = (X i - X j).abs := fun i j hij hj => by
    by_cases h0 : i = 0
    · subst h0; exact row0 j hj
    · by_cases h1 : i = 1
      · subst h1; exact row1 j hj
      · refine (quad hc (h.pos 0 i (by omega) (by omega) (by omega)) (h.pos 1 i (by omega) (by omega) (by omega)) (h.pos 0 j (by omega) hj (by omega)) (h.pos 1 j (by omega) hj (by omega)) (h.pos i j (by omega) hj (by omega)) (xt i (by omega) (by omega)) (xt j (by omega) hj) (mid_of (nb.b3 0 i j (by omega) hij hj)) (mid_of (nb.b3 1 i j (by omega) hij hj)) fun ⟨q1, q2, q3, q4⟩ => ?_).symm
        have := nb.b4 0 1 i j (by decide) (by omega) hij hj
        unfold bar4 at this
        simp [q1, q2, q3] at this
        rw [q1, q2, q3] at q4
        rw [this] at q4
        cases q4
  refine ⟨X, hX, fun i hi j hj => ?_⟩
  rcases Nat.lt_trichotomy i j with hij | hij | hij
  · exact low i j hij hj
  · subst hij; rw [abs_self, h.diag]
  · rw [h.sym, low j i hij hi, abs_sym]
end K20
set_option Elab.async false
set_option linter.all false
set_option maxRecDepth 100000
set_option maxHeartbeats 4000000
namespace K20
open PySem Tr Lib
theorem sRow : SpB1 isRowB f_is_row := sp_isrow
theorem sWh : SpB1 isWhB f_is_whole := sp_iswhole
theorem sBelow : SpBelow f_is_below := sp_isbelow rfl sWh
theorem sRis : SpRis f_is_rising := sp_isrising
theorem sThings : SpThings f_is_things := sp_isthings rfl sRow rfl sBelow rfl sRis
theorem sFrac : SpFrac f_fraction := sp_fraction rfl sp_common
theorem sPlus : Sp2 (fun p q => p + q) any2 f_plus := sp2_plus rfl sFrac.low
theorem sLess : Sp2 (fun p q => p - q) any2 f_less := sp2_less rfl sFrac.low
theorem sOrder : SpOrd f_order := sp2_order
theorem sApart : Sp2 (fun p q => (p - q).abs) any2 f_apart := sp2_apart rfl sOrder rfl sLess
theorem sLineT : SpSq f_line_table := sp_square rfl sApart
theorem sWay : Sp3 (fun p q r => decide (p + q = r)) f_is_whole_way := sp_way rfl sOrder rfl sPlus
theorem sMid : Sp3 mid f_has_middle := sp_mid rfl sWay
theorem sB3 : SpB3 f_bars_three := sp_bars3 rfl sMid
theorem sSame : SpEq f_are_same := sp_aresame rfl sOrder
theorem sB4 : SpB4 f_bars_four := sp_bars4 rfl sSame rfl sMid
theorem sBars : SpBars f_bars_line := sp_barsline rfl sThings rfl sB3 rfl sB4
theorem sNext : SpNext f_l_next := sp_next
theorem sLow : SpLow f_l_low := sp_low
theorem sNum : SpNum 80 4 f_l_number := sp_number22 rfl sNext rfl sLow
theorem sGap : Sp2 (fun p q => (p - q).abs) any2 f_l_gap := sp2_gap rfl sLow
theorem sBoth : Sp2 (fun p q => p + q) any2 f_l_both := sp2_plus rfl sLow
theorem sSq : SpSq f_l_square := sp_square rfl sGap
theorem sUnl : SpUnl f_l_unlike := sp_unlike rfl sNum rfl sBoth
theorem sCor : SpCor f_l_corner := sp_corner rfl sBoth
theorem sGreat : SpF2 (fun p q => if p < q then q else p) f_l_great := sp_great
theorem sTab : SpTabl f_l_table := sp_table rfl sSq rfl sUnl rfl sNum rfl sNext rfl sLow rfl sBoth rfl sGreat rfl sCor
theorem sNamed : SpNamed f_l_named := sp_named23 rfl sNext
/-! ### all rising threes, fours -/
def g3 (n i b : Nat) : List (List Nat) := (List.range (n - (i + 1 + b + 1))).map fun c => [i, i + 1 + b, i + 1 + b + 1 + c]
def f3 (n i : Nat) : List (List Nat) := (List.range (n - (i + 1))).flatMap (g3 n i)
def threesL (n : Nat) : List (List Nat) := (List.range n).flatMap (f3 n)
def g4 (n : Nat) (t : List Nat) : List (List Nat) := (List.range (n - (t.getD 2 0 + 1))).map fun l => t ++ [t.getD 2 0 + 1 + l]
def foursL (n : Nat) : List (List Nat) := (threesL n).flatMap (g4 n)
theorem flat_le {α β : Type} {f : α → List β} {B : Nat} : ∀ {l : List α}, (∀ x ∈ l, (f x).length ≤ B) → (l.flatMap f).length ≤ l.length * B
  | [], _ => by simp
  | x :: l, h => by
    have := flat_le (f := f) (l := l) fun y hy => h y (List.mem_cons_of_mem _ hy)
    have := h x List.mem_cons_self
    simp only [List.flatMap_cons, List.length_append, List.length_cons, Nat.succ_mul]
    omega
theorem mem3 {n : Nat} {r : List Nat} : r ∈ threesL n ↔ ∃ i j k, r = [i, j, k] ∧ i < j ∧ j < k ∧ k < n := by
  unfold threesL f3 g3
  simp only [List.mem_flatMap, List.mem_map, List.mem_range]
  constructor
  · rintro ⟨i, hi, b, hb, c, hc, rfl⟩
    exact ⟨_, _, _, rfl, by omega, by omega, by omega⟩
  · rintro ⟨i, j, k, rfl, h1, h2, h3⟩
    exact ⟨i, by omega, j - (i + 1), by omega, k - (j + 1), by omega, by rw [show i + 1 + (j - (i + 1)) = j by omega, show j + 1 + (k - (j + 1)) = k by omega]⟩
theorem mem4 {n : Nat} {r : List Nat} : r ∈ foursL n ↔ ∃ i j k l, r = [i, j, k, l] ∧ i < j ∧ j < k ∧ k < l ∧ l < n := by
  unfold foursL g4
  simp only [List.mem_flatMap, List.mem_map, List.mem_range, mem3]
  constructor
  · rintro ⟨t, ⟨i, j, k, rfl, h1, h2, h3⟩, l, hl, rfl⟩
    simp at hl
    exact ⟨i, j, k, k + 1 + l, by simp, h1, h2, by omega, by omega⟩
  · rintro ⟨i, j, k, l, rfl, h1, h2, h3, h4⟩
    refine ⟨[i, j, k], ⟨i, j, k, rfl, h1, h2, by omega⟩, l - (k + 1), by simp; omega, ?_⟩
    simp
    omega
section
variable {Φ : Tab} {kk : Nat} {ρ : Tr.Env} {g : Nat → Nat → Rat} {n : Nat}
theorem threes_eq (hn : n ≤ 20) : f_threes_of.run [.frz (.int n)] = .ok (.box ((threesL n).map fun r => .frz (rowT r))) [] := run_eq (by
  unfold f_threes_of
  rw [fn_wp]
  refine ⟨rfl, ?_⟩
  simp [ir_threes_of]
  refine ⟨inR (by omega), ?_⟩
  have lg : ∀ i b, (g3 n i b).length ≤ 20 := fun i b => by simp [g3]; omega
  have lf : ∀ i, (f3 n i).length ≤ 400 := fun i => Nat.le_trans (flat_le (B := 20) fun x _ => lg i x) (by simp; omega)
  refine loop0 (fun i ρ => ∃ x2 x3 x4, ρ = [some (.frz (.int n)), some (.box (((List.range i).flatMap (f3 n)).map fun r => .frz (rowT r))), x2, x3, x4]) ⟨none, none, none, by simp⟩ ?_ ?_
  · rintro i d ρ he ⟨x2, x3, x4, rfl⟩
    obtain ⟨rfl, hi⟩ := rng_at he
    refine ⟨_, rfl, ?_⟩
    have li : ((List.range i).flatMap (f3 n)).length ≤ 8000 := Nat.le_trans (flat_le (B := 400) fun x _ => lf x) (by simp; omega)
    simp
    refine ⟨⟨inR (by omega), inR (by omega)⟩, ?_⟩
    refine loop0 (fun b ρ => ∃ x3 x4, ρ = [some (.frz (.int n)), some (.box (((List.range i).flatMap (f3 n) ++ (List.range b).flatMap (g3 n i)).map fun r => .frz (rowT r))), some (.frz (.int i)), x3, x4]) ⟨x3, x4, by simp⟩ ?_ ?_
    · rintro b d ρ he ⟨x3, x4, rfl⟩
      obtain ⟨rfl, hb⟩ := rng_at he
      refine ⟨_, rfl, ?_⟩
      obtain ⟨j, ej, hj⟩ : ∃ j : Nat, (i : Int) + 1 + (b : Int) = j ∧ j = i + 1 + b := ⟨i + 1 + b, by omega, rfl⟩
      have lb : ((List.range b).flatMap (g3 n i)).length ≤ 400 := Nat.le_trans (flat_le (B := 20) fun x _ => lg i x) (by simp; omega)
      simp [ej]
      refine ⟨⟨inR (by omega), inR (by omega)⟩, ?_⟩
      unfold rng
      refine comp_each (c := fun k : Nat => PyData.int ((j : Int) + 1 + (k : Int))) (fun k : Nat => .frz (rowT [i, j, j + 1 + k])) (fun z hz => ⟨_, rfl, ?_⟩) ?_
      · simp [rowT, natJ]
      · simp at li lb
        simp
        refine ⟨by omega, by omega, ?_⟩
        rw [List.range_succ, List.flatMap_append, List.map_append]
        simp [g3, hj]
    · rintro ρ ⟨x3, x4, rfl⟩
      simp [List.range_succ, f3]
  · rintro ρ ⟨x2, x3, x4, rfl⟩
    simp [threesL])
theorem len3 (hn : n ≤ 20) : (threesL n).length ≤ 8000 := by
  have lg : ∀ i b, (g3 n i b).length ≤ 20 := fun i b => by simp [g3]; omega
  have lf : ∀ i, (f3 n i).length ≤ 400 := fun i => Nat.le_trans (flat_le (B := 20) fun x _ => lg i x) (by simp; omega)
  exact Nat.le_trans (flat_le (B := 400) fun x _ => lf x) (by simp; omega)
theorem len4 (hn : n ≤ 20) : (foursL n).length ≤ 160000 := by
  have lg : ∀ t, (g4 n t).length ≤ 20 := fun t => by simp [g4]; omega
  have := len3 hn
  exact Nat.le_trans (flat_le (B := 20) fun x _ => lg x) (by omega)
theorem eThrees (hf : Φ.fn[18]? = some f_threes_of) (hn : n ≤ 20) : callF Φ 18 [.d (.int n)] ρ = .ok (.box ((threesL n).map fun r => .frz (rowT r))) ρ := by
  have h := threes_eq (n := n) hn
  exact call_eq (os := [.frz (.int n)]) hf (by rfl) (by rfl) (by rfl) (by simp [gather]) h
theorem fours_eq (hn : n ≤ 20) : f_fours_of.run [.frz (.int n)] = .ok (.box ((foursL n).map fun r => .frz (rowT r))) [] := run_eq (by
  unfold f_fours_of
  rw [fn_wp]
  refine ⟨rfl, ?_⟩
  have c1 := fun Φ hf ρ => eThrees (Φ := Φ) (ρ := ρ) hf hn
  simp [ir_fours_of, c1]
  refine loopM (c := rowT) (xs := threesL n) (fun i ρ => ∃ x2 x3, ρ = [some (.frz (.int n)), some (.box ((((threesL n).take i).flatMap (g4 n)).map fun r => .frz (rowT r))), x2, x3]) ⟨none, none, by simp⟩ ?_ ?_
  · rintro i t ρ ht ⟨x2, x3, rfl⟩
    refine ⟨_, rfl, ?_⟩
    obtain ⟨a, b, c, rfl, h1, h2, h3⟩ := mem3.mp (List.mem_of_getElem? ht)
    have lg : ∀ t, (g4 n t).length ≤ 20 := fun t => by simp [g4]; omega
    have l3 := len3 hn
    have li : (((threesL n).take i).flatMap (g4 n)).length ≤ 160000 := Nat.le_trans (flat_le (B := 20) fun x _ => lg x) (by simp; omega)
    have e2 : ixD (rowT [a, b, c]) (.int 2) = some (.int c) := rfl
    simp [e2]
    refine ⟨⟨inR (by omega), inR (by omega)⟩, ?_⟩
    unfold rng
    refine comp_each (c := fun k : Nat => PyData.int ((c : Int) + 1 + (k : Int))) (fun k : Nat => .frz (rowT [a, b, c, c + 1 + k])) (fun z hz => ⟨_, rfl, ?_⟩) ?_
    · simp [rowT, natJ]
    · simp at li
      simp
      refine ⟨by omega, by omega, ?_⟩
      rw [show (threesL n).take (i + 1) = (threesL n).take i ++ [[a, b, c]] by rw [List.take_succ, ht]; rfl, List.flatMap_append, List.map_append]
      simp [g4]
  · rintro ρ ⟨x2, x3, rfl⟩
    simp [foursL])
theorem eFours (hf : Φ.fn[19]? = some f_fours_of) (hn : n ≤ 20) : callF Φ 19 [.d (.int n)] ρ = .ok (.box ((foursL n).map fun r => .frz (rowT r))) ρ := by
  have h := fours_eq (n := n) hn
  exact call_eq (os := [.frz (.int n)]) hf (by rfl) (by rfl) (by rfl) (by simp [gather]) h
theorem rise_of {r : List Nat} (h : r ∈ threesL n ++ foursL n) : Rise n r := by
  rcases List.mem_append.mp h with h | h
  · obtain ⟨i, j, k, rfl, h1, h2, h3⟩ := mem3.mp h
    exact ⟨by simp; omega, by simp; omega⟩
  · obtain ⟨i, j, k, l, rfl, h1, h2, h3, h4⟩ := mem4.mp h
    exact ⟨by simp; omega, by simp; omega⟩
theorem barN_cel {u : Nat → Nat → Rat} {r : List Nat} (hr : r ∈ threesL n ++ foursL n) (h : ∀ i < n, ∀ j < n, u i j = g i j) : barN u r = barN g r := by
  rcases List.mem_append.mp hr with hr | hr
  · obtain ⟨i, j, k, rfl, h1, h2, h3⟩ := mem3.mp hr
    simp only [barN, bar3, h i (by omega) j (by omega), h i (by omega) k h3, h j (by omega) k h3]
  · obtain ⟨i, j, k, l, rfl, h1, h2, h3, h4⟩ := mem4.mp hr
    simp only [barN, bar4, h i (by omega) j (by omega), h k (by omega) l h4, h i (by omega) k (by omega), h j (by omega) l h4, h i (by omega) l h4, h j (by omega) k (by omega)]
theorem find_at {α : Type} {p : α → Bool} {l : List α} {i : Nat} {r : α} (h : l[i]? = some r) (hb : ∀ x ∈ l.take i, p x = false) (hp : p r = true) : l.find? p = some r := by
  obtain ⟨hi, e⟩ := List.getElem?_eq_some_iff.mp h
  have e2 : l = l.take i ++ r :: l.drop (i + 1) := by
    rw [← e, ← List.drop_eq_getElem_cons hi, List.take_append_drop]
  rw [e2, List.find?_append, List.find?_eq_none.mpr fun x hx => by rw [hb x hx]; simp]
  simp [hp]
/-- what first_bar tells -/
def fbD (n : Nat) (g : Nat → Nat → Rat) : D := match (threesL n ++ foursL n).find? (barN g) with
  | some r => rowT r
  | none => .none
theorem fb_eq (hn : n ≤ 20) (hg : ∀ i < n, ∀ j < n, Sz 1900 (g i j)) : f_first_bar.run [.frz (tabD n g)] = .ok (.frz (fbD n g)) [] := run_eq (by
  unfold f_first_bar
  rw [fn_wp]
  refine ⟨rfl, ?_⟩
  have sq := tab_tabD hg
  have c1 := fun Φ hf ρ => eThrees (Φ := Φ) (ρ := ρ) hf hn
  have c2 := fun Φ hf ρ => eFours (Φ := Φ) (ρ := ρ) hf hn
  have c3 := fun d Φ hf ρ => sBars.cl (Φ := Φ) (k0 := 17) (d := d) (ρ := ρ) hf sq
  have hl : b1D .len (tabD n g) = some (.int n) := sq.len
  have l3 := len3 hn
  have l4 := len4 hn
  simp [ir_first_bar, hl, c1, c2]
  rw [← List.map_append]
  refine ⟨by omega, ?_⟩
  refine loopM (c := rowT) (xs := threesL n ++ foursL n) (fun i ρ => ∃ x1, (∀ r ∈ (threesL n ++ foursL n).take i, barN g r = false) ∧ ρ = [some (.frz (tabD n g)), x1]) ⟨none, by simp, rfl⟩ ?_ ?_
  · rintro i r ρ hr ⟨x1, hx, rfl⟩
    have hm := List.mem_of_getElem? hr
    have eb : barsB (cel (tabD n g)) n (rowT r) = barN g r := by
      rw [barsB_rise (rise_of hm) rfl]
      exact barN_cel hm fun i hi j hj => cel_tabD hi hj
    refine ⟨_, rfl, ?_⟩
    have c3' := c3 (rowT r)
    rw [eb] at c3'
    simp [c3']
    refine ⟨fun hb => ?_, fun hb => ?_⟩
    · unfold fbD
      rw [find_at hr hx hb]
    · rw [List.take_succ, hr]
      intro x hx'
      rcases List.mem_append.mp hx' with q | q
      · exact hx x q
      · simp at q; subst q; exact hb
  · rintro ρ ⟨x1, hx, rfl⟩
    rw [List.take_length] at hx
    simp
    unfold fbD
    rw [List.find?_eq_none.mpr fun x h => by rw [hx x h]; simp])
def optD (o : Option Rat) : D := match o with
  | some p => frD p
  | none => .none
theorem sz_abs2 {p : Rat} {B : Nat} (h : Sz B p) : Sz B p.abs := by
  unfold Rat.abs
  split
  · exact h
  · exact h.neg
theorem place_eq (hn : 2 ≤ n) (hg : ∀ i < n, ∀ j < n, Sz 900 (g i j)) {t : Nat} (ht : t < n) : f_place_of.run [.frz (tabD n g), .frz (.int t)] = .ok (.frz (optD (plc (g 0 1) (g 0 t) (g 1 t)))) [] := run_eq (by
  unfold f_place_of
  rw [fn_wp]
  refine ⟨rfl, ?_⟩
  have i0 := ix_tab (n := n) (f := g) (i := 0) (by omega)
  have i1 := ix_tab (n := n) (f := g) (i := 1) (by omega)
  have r0 := ix_row (n := n) (u := g 0) ht
  have r1 := ix_row (n := n) (u := g 1) ht
  have r01 := ix_row (n := n) (u := g 0) (i := 1) (by omega)
  simp at i0 i1 r01
  have s0 := hg 0 (by omega) t ht
  have s1 := hg 1 (by omega) t ht
  have s01 := hg 0 (by omega) 1 (by omega)
  have sa : Sz 1900 (g 0 t - g 0 1).abs := (sz_abs2 (s0.sub s01)).mono (by decide)
  have c1 := fun ρ => sApart.cf (Φ := ⟨[f_is_row, f_is_whole, f_is_below, f_is_rising, f_is_things, f_common, f_fraction, f_plus, f_less, f_order, f_apart, f_line_table, f_is_whole_way, f_has_middle, f_bars_three, f_are_same, f_bars_four, f_bars_line, f_threes_of, f_fours_of, f_first_bar], gl⟩) (k := 10) (ρ := ρ) rfl (s0.mono (show 900 ≤ 4000 by decide)) (s01.mono (show 900 ≤ 4000 by decide)) trivial
  have c2 := fun ρ => sSame.cl (Φ := ⟨[f_is_row, f_is_whole, f_is_below, f_is_rising, f_is_things, f_common, f_fraction, f_plus, f_less, f_order, f_apart, f_line_table, f_is_whole_way, f_has_middle, f_bars_three, f_are_same, f_bars_four, f_bars_line, f_threes_of, f_fours_of, f_first_bar], gl⟩) (k := 15) (ρ := ρ) rfl (fr_frD (s1.mono (show 900 ≤ 1900 by decide))) (fr_frD sa)
  have c3 := fun ρ => sWay.cl (Φ := ⟨[f_is_row, f_is_whole, f_is_below, f_is_rising, f_is_things, f_common, f_fraction, f_plus, f_less, f_order, f_apart, f_line_table, f_is_whole_way, f_has_middle, f_bars_three, f_are_same, f_bars_four, f_bars_line, f_threes_of, f_fours_of, f_first_bar], gl⟩) (k := 12) (ρ := ρ) rfl (fr_frD (s0.mono (show 900 ≤ 1900 by decide))) (fr_frD (s01.mono (show 900 ≤ 1900 by decide))) (fr_frD (s1.mono (show 900 ≤ 1900 by decide)))
  have c4 := fun ρ => sLess.cf (Φ := ⟨[f_is_row, f_is_whole, f_is_below, f_is_rising, f_is_things, f_common, f_fraction, f_plus, f_less, f_order, f_apart, f_line_table, f_is_whole_way, f_has_middle, f_bars_three, f_are_same, f_bars_four, f_bars_line, f_threes_of, f_fours_of, f_first_bar], gl⟩) (k := 8) (ρ := ρ) rfl (p := 0) (q := g 0 t) (sz_zero.mono (by decide)) (s0.mono (show 900 ≤ 4000 by decide)) trivial
  simp at c2 c3
  have gl0 : gl[0]? = some (frD 0) := rfl
  have bt : ∀ p : Rat, b1D .tuple (frD p) = some (frD p) := fun _ => rfl
  simp [ir_place_of, i0, i1, r0, r1, r01, c1, c2, c3, c4, gl0, bt]
  unfold plc
  refine ⟨fun h => by rw [if_pos h]; rfl, fun h => ⟨fun h2 => by rw [if_neg h, if_pos h2]; rfl, fun h2 => by rw [if_neg h, if_neg h2]; rfl⟩⟩)
theorem has_eq (hn : n ≤ 20) {x : Nat → Rat} (hg : ∀ i < n, ∀ j < n, Sz 900 (g i j)) (hx : ∀ j < n, Sz 900 (x j)) : f_has_table.run [.frz (tabD n g), .frz (rowL n x)] = .ok (.frz (.bool (decide (∀ i < n, ∀ j < n, g i j = (x i - x j).abs)))) [] := run_eq (by
  unfold f_has_table
  rw [fn_wp]
  refine ⟨rfl, ?_⟩
  have c1 := fun Φ hf ρ => sLineT.cu (Φ := Φ) (k := 11) (ρ := ρ) hf (fun j hj => (hx j hj).mono (show 900 ≤ 1900 by decide)) (show n ≤ 1000 by omega)
  have zp : pairsD (tabD n g) (tabD n fun i j => (x i - x j).abs) = some ((List.range n).map fun i => .tuple [rowD n (g i), rowD n fun j => (x i - x j).abs]) := by
    simp [pairsD, tabD, List.zip_map', List.map_map]
  simp [ir_has_table, c1, zp]
  refine loopM (c := fun i => PyData.tuple [rowD n (g i), rowD n fun j => (x i - x j).abs]) (xs := List.range n) (fun i ρ => ∃ x2 x3, (∀ a < i, ∀ j < n, g a j = (x a - x j).abs) ∧ ρ = [some (.frz (tabD n g)), some (.frz (rowL n x)), x2, x3, none, none]) ⟨none, none, by simp, rfl⟩ ?_ ?_
  · rintro i y ρ hy ⟨x2, x3, ha, rfl⟩
    obtain ⟨hi, rfl⟩ : i < n ∧ y = i := by
      obtain ⟨h1, h2⟩ := List.getElem?_eq_some_iff.mp hy
      simp at h1 h2
      exact ⟨h1, h2.symm⟩
    refine ⟨_, rfl, ?_⟩
    have zr : pairsD (rowD n (g y)) (rowD n fun j => (x y - x j).abs) = some ((List.range n).map fun j => .tuple [frD (g y j), frD (x y - x j).abs]) := by
      simp [pairsD, rowD, List.zip_map', List.map_map]
    simp [zr]
    refine comp_map (c := fun j => PyData.tuple [frD (g y j), frD (x y - x j).abs]) (fun j => !decide (g y j = (x y - x j).abs)) (fun j => .frz (.int 1)) (fun j hj => ⟨_, rfl, ?_⟩) ?_
    · have hj := List.mem_range.mp hj
      have c2 := fun Φ hf ρ => sSame.cl (Φ := Φ) (k := 15) (ρ := ρ) hf (fr_frD ((hg y hi j hj).mono (show 900 ≤ 1900 by decide))) (fr_frD ((sz_abs2 ((hx y hi).sub (hx j hj))).mono (show 900 + 900 + 1 ≤ 1900 by decide)))
      simp at c2
      simp [c2]
    · have hl : ((List.range n).filter fun j => !decide (g y j = (x y - x j).abs)).length ≤ n := by
        have := List.length_filter_le (fun j => !decide (g y j = (x y - x j).abs)) (List.range n)
        simpa using this
      simp only [List.length_map]
      refine ⟨by omega, by simp, ?_⟩
      rw [show fzs (((List.range n).filter fun j => !decide (g y j = (x y - x j).abs)).map fun _ => O.frz (.int 1)) = ((List.range n).filter fun j => !decide (g y j = (x y - x j).abs)).map fun _ => PyData.int 1 by simp [fzs_comp]]
      rw [cmp_ne_emp]
      simp
      refine ⟨fun a h1 h2 => ⟨y, hi, a, h1, h2⟩, fun h a h1 j hj => ?_⟩
      by_cases e : a = y
      · subst e; exact h j hj
      · exact ha a (by omega) j hj
  · rintro ρ ⟨x2, x3, ha, rfl⟩
    simp at ha
    simp
    exact ha)
theorem opt_plD (o : Option Rat) : Pl 1 (optD o) := by
  cases o with
  | none => exact pl_non.mono (by decide)
  | some p => exact pl_fr
theorem none_nmem {os : List (Option Rat)} : cmpD .nmem .none (.list (os.map optD)) = some (.bool (os.all fun o => o.isSome)) := by
  have hp : ∀ x ∈ os.map optD, Pl 1 x := fun x hx => by
    obtain ⟨o, _, rfl⟩ := List.mem_map.mp hx
    exact opt_plD o
  have ok : memOk .none (os.map optD) = true := memOk_pl (n := 1) (pl_non.mono (by decide)) hp (by decide)
  have m : memD .none (os.map optD) = !(os.all fun o => o.isSome) := by
    rw [Bool.eq_iff_iff, memD_pl pl_non.pl fun x hx => (hp x hx).pl]
    simp only [List.mem_map, Bool.not_eq_true', List.all_eq_false]
    constructor
    · rintro ⟨o, ho, e⟩
      refine ⟨o, ho, ?_⟩
      cases o with
      | none => simp
      | some p => cases e
    · rintro ⟨o, ho, e⟩
      refine ⟨o, ho, ?_⟩
      cases o with
      | none => rfl
      | some p => simp at e
  simp [cmpD, itemsD, ok, m]
/-- the places, where all are told -/
def pls (n : Nat) (g : Nat → Nat → Rat) (t : Nat) : Rat := (plc (g 0 1) (g 0 t) (g 1 t)).getD 0
def allP (n : Nat) (g : Nat → Nat → Rat) : Bool := (List.range n).all fun t => (plc (g 0 1) (g 0 t) (g 1 t)).isSome
open Classical in
noncomputable def lineD (n : Nat) (g : Nat → Nat → Rat) : D := if n < 2 then .tuple [.str "places", rowD n fun _ => 0]
  else if allP n g = true ∧ (∀ i < n, ∀ j < n, g i j = (pls n g i - pls n g j).abs) then .tuple [.str "places", rowD n (pls n g)]
  else .tuple [.str "bar", fbD n g]
theorem line_eq' (hn : n ≤ 20) (hg : ∀ i < n, ∀ j < n, Sz 500 (g i j)) : f_line_of.run [.frz (tabD n g)] = .ok (.frz (lineD n g)) [] := run_eq (by
  unfold f_line_of
  rw [fn_wp]
  refine ⟨rfl, ?_⟩
  have sq := tab_tabD hg
  have hl : b1D .len (tabD n g) = some (.int n) := sq.len
  have gl0 : gl[0]? = some (frD 0) := rfl
  unfold ir_line_of
  rw [wss_cons]
  refine cutR (fun ρ => 2 ≤ n ∧ ρ = [some (.frz (tabD n g)), none, none]) ?_ ?_
  · rw [wst_ite]
    simp [hl, gl0]
    refine ⟨fun h => ⟨by omega, ?_⟩, fun h => by omega⟩
    unfold lineD
    rw [if_pos (by omega)]
    simp only [rowD]
    congr 4
    rw [List.map_const', List.length_range]
  rintro ρ ⟨n2, rfl⟩
  rw [wss_cons]
  refine cut (fun ρ => ρ = [some (.frz (tabD n g)), some (.box ((List.range n).map fun t => .frz (optD (plc (g 0 1) (g 0 t) (g 1 t))))), none]) ?_ ?_
  · simp [hl]
    refine ⟨inR (by omega), ?_⟩
    rw [rng_map]
    refine comp_each (c := fun k : Nat => PyData.int (0 + (k : Int))) (fun t => .frz (optD (plc (g 0 1) (g 0 t) (g 1 t)))) (fun t ht => ⟨_, rfl, ?_⟩) ?_
    · have ht := List.mem_range.mp ht
      have h := place_eq n2 (fun i hi j hj => (hg i hi j hj).mono (show 500 ≤ 900 by decide)) ht
      have e := fun (Φ : Tab) (hf : Φ.fn[21]? = some f_place_of) ρ => call_eq (Φ := Φ) (k := 21) (ρ := ρ) (as := [.d (tabD n g), .d (.int t)]) (os := [.frz (tabD n g), .frz (.int t)]) hf (by rfl) (by rfl) (by rfl) (by simp [gather]) h
      simp [e]
    · simp
      omega
  rintro ρ rfl
  have ef : ((List.range n).map fun t => O.frz (optD (plc (g 0 1) (g 0 t) (g 1 t)))) = (((List.range n).map fun t => plc (g 0 1) (g 0 t) (g 1 t)).map optD).map O.frz := by
    rw [List.map_map, List.map_map]
    rfl
  have ea : (((List.range n).map fun t => plc (g 0 1) (g 0 t) (g 1 t)).all fun o => o.isSome) = allP n g := by
    unfold allP
    rw [List.all_map]
    rfl
  have efb := fb_eq hn (fun i hi j hj => (hg i hi j hj).mono (show 500 ≤ 1900 by decide))
  have cfb := fun (Φ : Tab) (hf : Φ.fn[20]? = some f_first_bar) ρ => call_eq (Φ := Φ) (k := 20) (ρ := ρ) (as := [.d (tabD n g)]) (os := [.frz (tabD n g)]) hf (by rfl) (by rfl) (by rfl) (by simp [gather]) efb
  rw [ef]
  simp [-List.map_map, none_nmem, ea]
  refine ⟨fun hA => ?_, fun hA => ?_⟩
  · have hs : ∀ t < n, plc (g 0 1) (g 0 t) (g 1 t) = some (pls n g t) := fun t ht => by
      have := List.all_eq_true.mp hA t (List.mem_range.mpr ht)
      obtain ⟨x, e⟩ := Option.isSome_iff_exists.mp this
      unfold pls
      rw [e]; rfl
    have er : PyData.list (((List.range n).map fun t => plc (g 0 1) (g 0 t) (g 1 t)).map optD) = rowL n (pls n g) := by
      unfold rowL
      rw [List.map_map]
      refine congrArg PyData.list (List.map_congr_left fun t ht => ?_)
      have e := hs t (List.mem_range.mp ht)
      simp only [Function.comp, e, optD]
    have sp : ∀ t < n, Sz 900 (pls n g t) := fun t ht => by
      have h := hs t ht
      have h0 := hg 0 (by omega) t ht
      unfold plc at h
      split at h
      · rw [← Option.some.inj h]; exact h0.mono (by decide)
      · split at h
        · rw [← Option.some.inj h]; exact (sz_zero.sub h0).mono (by decide)
        · cases h
    have eh := has_eq hn (fun i hi j hj => (hg i hi j hj).mono (show 500 ≤ 900 by decide)) sp
    have ch := fun (Φ : Tab) (hf : Φ.fn[22]? = some f_has_table) ρ => call_eq (Φ := Φ) (k := 22) (ρ := ρ) (as := [.d (tabD n g), .d (rowL n (pls n g))]) (os := [.frz (tabD n g), .frz (rowL n (pls n g))]) hf (by rfl) (by rfl) (by rfl) (by simp [gather]) eh
    have bt : b1D .tuple (rowL n (pls n g)) = some (rowD n (pls n g)) := rfl
    rw [er]
    simp [ch, cfb, bt]
    unfold lineD
    refine ⟨fun h => by rw [if_neg (by omega), if_pos ⟨hA, h⟩], fun i hi j hj h => ?_⟩
    rw [if_neg (by omega), if_neg fun q => h (q.2 i hi j hj)]
  · simp [cfb]
    unfold lineD
    rw [if_neg (by omega), if_neg fun q => by rw [hA] at q; cases q.1])
end
end K20
set_option Elab.async false
set_option linter.all false
set_option maxRecDepth 100000
set_option maxHeartbeats 4000000
namespace K20
open PySem Tr Lib
section
variable {Φ : Tab} {kk : Nat} {ρ : Tr.Env} {g : Nat → Nat → Rat} {n : Nat}
def IsLine (n : Nat) (g : Nat → Nat → Rat) : Prop := ∃ x, Emb n g x
/-- what line_of tells -/
theorem line_cases (h : TabOk n g) : (∃ x, Emb n g x ∧ lineD n g = .tuple [.str "places", rowD n x] ∧ (0 < n → x 0 = 0) ∧ (1 < n → 0 < x 1)) ∨ (¬ IsLine n g ∧ ∃ r ∈ threesL n ++ foursL n, barN g r = true ∧ lineD n g = .tuple [.str "bar", rowT r]) := by
  by_cases hn : n < 2
  · refine .inl ⟨fun _ => 0, fun i hi j hj => ?_, ?_, fun _ => rfl, fun h1 => by omega⟩
    · have e1 : i = 0 := by omega
      have e2 : j = 0 := by omega
      subst e1; subst e2
      rw [h.diag, abs_self]
    · unfold lineD; rw [if_pos hn]
  · by_cases he : IsLine n g
    · obtain ⟨y, hy⟩ := he
      obtain ⟨x, hx, ex⟩ := nobar_places h (by omega) (emb_nobar h hy)
      have ep : ∀ t < n, pls n g t = x t := fun t ht => by unfold pls; rw [hx t ht]; rfl
      have hA : allP n g = true := List.all_eq_true.mpr fun t ht => by rw [hx t (List.mem_range.mp ht)]; rfl
      have eE : Emb n g (pls n g) := fun i hi j hj => by rw [ep i hi, ep j hj]; exact ex i hi j hj
      have hc := h.pos 0 1 (by omega) (by omega) (by decide)
      have p0 : pls n g 0 = 0 := by
        unfold pls plc
        have : g 1 0 = (g 0 0 - g 0 1).abs := by rw [h.diag, h.sym 1 0]; rcases abs_cases (0 - g 0 1) with ⟨a, b⟩ | ⟨a, b⟩ <;> grind
        rw [if_pos this, h.diag]; rfl
      have p1 : pls n g 1 = g 0 1 := by
        unfold pls plc
        have : g 1 1 = (g 0 1 - g 0 1).abs := by rw [h.diag, abs_self]
        rw [if_pos this]; rfl
      refine .inl ⟨pls n g, eE, ?_, fun _ => p0, fun _ => by rw [p1]; exact hc⟩
      unfold lineD
      rw [if_neg hn, if_pos ⟨hA, eE⟩]
    · refine .inr ⟨he, ?_⟩
      have hno : ¬ (allP n g = true ∧ ∀ i < n, ∀ j < n, g i j = (pls n g i - pls n g j).abs) := fun q => he ⟨_, q.2⟩
      cases hf : (threesL n ++ foursL n).find? (barN g) with
      | none =>
        exfalso
        have hb := fun r hr => List.find?_eq_none.mp hf r hr
        have nb : NoBar n g := by
          refine ⟨fun i j k h1 h2 h3 => ?_, fun i j k l h1 h2 h3 h4 => ?_⟩
          · have := hb [i, j, k] (List.mem_append_left _ (mem3.mpr ⟨i, j, k, rfl, h1, h2, h3⟩))
            simpa [barN] using this
          · have := hb [i, j, k, l] (List.mem_append_right _ (mem4.mpr ⟨i, j, k, l, rfl, h1, h2, h3, h4⟩))
            simpa [barN] using this
        obtain ⟨x, _, ex⟩ := nobar_places h (by omega) nb
        exact he ⟨x, ex⟩
      | some r =>
        refine ⟨r, List.mem_of_find?_eq_some hf, List.find?_some hf, ?_⟩
        unfold lineD fbD
        rw [if_neg hn, if_neg hno, hf]
/-! ### the law's own looks -/
theorem eSums (hf : Φ.fn[36]? = some f_l_sums) {p q r : Rat} (hp : Sz 1900 p) (hq : Sz 1900 q) (hr : Sz 1900 r) : callF Φ 36 [.d (frD p), .d (frD q), .d (frD r)] ρ = .ok (.frz (.bool (mid p q r))) ρ :=
  call_eq hf rfl rfl rfl rfl (sp_sums rfl sBoth hp hq hr)
theorem at2 (hg : ∀ i j, i < n → j < n → Sz 1900 (g i j)) {i j : Nat} (hi : i < n) (hj : j < n) : ixD (tabD n g) (.int (i : Int)) = some (rowD n (g i)) ∧ ixD (rowD n (g i)) (.int (j : Int)) = some (frD (g i j)) := by
  constructor
  · exact atD_ok (by omega) (by simp [hi])
  · exact atD_ok (by omega) (by simp [hj])
theorem bars_eq (hg : ∀ i j, i < n → j < n → Sz 1900 (g i j)) {r : List Nat} (hr : ∀ x ∈ r, x < n) (hl : r.length = 3 ∨ r.length = 4) : f_l_bars.run [.frz (tabD n g), .frz (rowT r)] = .ok (.frz (.bool (barN g r))) [] := run_eq (by
  unfold f_l_bars
  rw [fn_wp]
  refine ⟨rfl, ?_⟩
  have hl' : r.length = 3 ∨ r.length = 4 := hl
  match r, hl' with
  | [i, j, k], _ =>
    have hi := hr i (by simp)
    have hj := hr j (by simp)
    have hk := hr k (by simp)
    have c := fun Φ hf ρ => eSums (Φ := Φ) (ρ := ρ) hf (hg i j hi hj) (hg i k hi hk) (hg j k hj hk)
    have e := @at2 g n hg
    simp [ir_l_bars, rowT, natJ, (e hi hj).1, (e hi hj).2, (e hi hk).2, (e hj hk).1, (e hj hk).2, c, barN, bar3]
  | [i, j, k, l], _ =>
    have hi := hr i (by simp)
    have hj := hr j (by simp)
    have hk := hr k (by simp)
    have hl := hr l (by simp)
    have c := fun Φ hf ρ => eSums (Φ := Φ) (ρ := ρ) hf (hg i j hi hj) (hg i k hi hk) (hg i l hi hl)
    have e := @at2 g n hg
    simp [ir_l_bars, rowT, natJ, (e hi hj).1, (e hi hj).2, (e hi hk).2, (e hi hl).2, (e hj hk).1, (e hj hk).2, (e hj hl).2, (e hk hl).1, (e hk hl).2, c, barN, bar4, cmp_ne_fr]
    by_cases h1 : g i j = g k l <;> by_cases h2 : g i k = g j l <;> by_cases h3 : g i l = g j k <;> simp [h1, h2, h3])
theorem eBars (hf : Φ.fn[37]? = some f_l_bars) (hg : ∀ i j, i < n → j < n → Sz 1900 (g i j)) {r : List Nat} (hr : ∀ x ∈ r, x < n) (hl : r.length = 3 ∨ r.length = 4) : callF Φ 37 [.d (tabD n g), .d (rowT r)] ρ = .ok (.frz (.bool (barN g r))) ρ := call_eq hf rfl rfl rfl rfl (bars_eq hg hr hl)
def stepP (r : List Nat) (x : Nat) : Bool := match r.getLast? with
  | some y => decide (y < x)
  | none => true
theorem rise_add {r : List Nat} {x : Nat} (h : Rise n r) (hx : x < n) (hp : stepP r x = true) : Rise n (r ++ [x]) := by
  refine ⟨List.pairwise_append.mpr ⟨h.up, by simp, fun a ha b hb => ?_⟩, fun y hy => ?_⟩
  · rw [List.mem_singleton.mp hb]
    obtain ⟨s, y, rfl⟩ := (List.eq_nil_or_concat r).resolve_left (fun e => by rw [e] at ha; simp at ha)
    simp [stepP] at hp
    have h2 := List.pairwise_append.mp (by simpa using h.up)
    have ha2 : a ∈ s ∨ a = y := by simpa using ha
    rcases ha2 with ha | rfl
    · have := h2.2.2 a ha y (by simp); omega
    · exact hp
  · rcases List.mem_append.mp hy with hy | hy
    · exact h.lt y hy
    · rw [List.mem_singleton.mp hy]; exact hx
/-- a name that holds these rows -/
def Hold (o : O) (L : List (List Nat)) : Prop := o = .frz (.list (L.map rowT)) ∨ o = .box (L.map fun r => .frz (rowT r))
theorem at_last {r : List Nat} (h : r ≠ []) : ixD (rowT r) (.int (-1)) = some (.int (r.getLast h : Nat)) := by
  have h1 : 0 < r.length := List.length_pos_iff.mpr h
  show atD _ _ = _
  unfold atD ixN
  rw [if_neg (by omega), if_pos (by simp [natJ]; omega)]
  simp only [Option.bind_some, List.length_map, natJ_len]
  rw [show (-1 + (r.length : Int)).toNat = r.length - 1 by omega]
  simp [natJ, show r.length - 1 < r.length by omega, List.getLast_eq_getElem]
theorem row_add {r : List Nat} {x : Nat} (h : r.length ≤ 1000) : addO (rowT r) (.tuple [.int (x : Int)]) = some (.frz (rowT (r ++ [x]))) := by
  simp [rowT, addO, natJ, line]
  omega
theorem row_nil {r : List Nat} : cmpD .eq (rowT r) (.tuple []) = some (.bool (decide (r = []))) := by
  rw [rowT, cmp_eq_T0]
  simp [natJ]
theorem rows_cl {m : Nat} {i j : Int} {Q : PQ} (hf : Φ.fn[kk]? = some f_l_rows) (hi : i = n) (hj : j = m) (hn : n ≤ 20) (hm : m ≤ 4) (hm0 : 0 < m)
    (q : ∀ L : List (List Nat), (∀ r ∈ L, Rise n r ∧ r.length = m) → L.length ≤ 20 ^ m → Q (.frz (.list (L.map rowT))) ρ) : (callF Φ kk [.d (.int i), .d (.int j)] ρ).wp Q := by
  subst hi hj
  refine pure2 hf rfl ?_
  unfold f_l_rows
  rw [fn_wp]
  refine ⟨rfl, ?_⟩
  simp [ir_l_rows]
  refine ⟨inR (by omega), ?_⟩
  refine loop0 (fun i ρ => ∃ (L : List (List Nat)) (o x3 x4 x5 x6 : _), (∀ r ∈ L, Rise n r ∧ r.length = i) ∧ L.length ≤ 20 ^ i ∧ Hold o L ∧ (0 < i → o = .frz (.list (L.map rowT))) ∧ ρ = [some (.frz (.int n)), some (.frz (.int m)), some o, x3, x4, x5, x6]) ?_ ?_ ?_
  · exact ⟨[[]], _, none, none, none, none, by simp [Rise.mk], by decide, .inr rfl, by simp, rfl⟩
  · rintro i d ρ he ⟨L, o, x3, x4, x5, x6, hL, hle, hH, _, rfl⟩
    obtain ⟨rfl, hi⟩ := rng_at he
    refine ⟨_, rfl, ?_⟩
    have key : ∀ x5 x6, (loopL (asgT (.name 5)) (Ss.sem ⟨[f_is_row, f_is_whole, f_is_below, f_is_rising, f_is_things, f_common, f_fraction, f_plus, f_less, f_order, f_apart, f_line_table, f_is_whole_way, f_has_middle, f_bars_three, f_are_same, f_bars_four, f_bars_line, f_threes_of, f_fours_of, f_first_bar, f_place_of, f_has_table, f_line_of, f_l_next, f_l_low, f_l_number, f_l_gap, f_l_both, f_l_square, f_l_same, f_l_unlike, f_l_corner, f_l_great, f_l_table, f_l_named, f_l_sums, f_l_bars], gl⟩
        (.cons (.set 4 (.add (.v 4) (.ofF (.comp (.name 6) (.range1 (.v 0)) (.one (.or (.cmp .eq (.v 5) (.tup .nil)) (.cmp .gt (.v 6) (.ix (.v 5) (.neg (.int 1)))))) (.add (.v 5) (.tup (.cons (.v 6) .nil))) [6])))) .nil)) (L.map rowT)
        [some (.frz (.int n)), some (.frz (.int m)), some (.frz (.list (L.map rowT))), some (.frz (.int i)), some (.box []), x5, x6]).wp fun fl ρ => fl = .nx ∧ ∃ (B : List (List Nat)) (o x5 x6 : _), (∀ r ∈ B, Rise n r ∧ r.length = i + 1) ∧ B.length ≤ 20 ^ (i + 1) ∧ Hold o B ∧ ρ = [some (.frz (.int n)), some (.frz (.int m)), some (.frz (.list (L.map rowT))), some (.frz (.int i)), some o, x5, x6] := by
      intro x5 x6
      refine loopM (c := rowT) (xs := L) (fun j ρ => ∃ (B : List (List Nat)) (o x5 x6 : _), (∀ r ∈ B, Rise n r ∧ r.length = i + 1) ∧ B.length ≤ 20 * j ∧ Hold o B ∧ ρ = [some (.frz (.int n)), some (.frz (.int m)), some (.frz (.list (L.map rowT))), some (.frz (.int i)), some o, x5, x6]) ?_ ?_ ?_
      · exact ⟨[], _, x5, x6, by simp, by simp, .inr rfl, rfl⟩
      · rintro j r ρ hr ⟨B, o, x5, x6, hB, hb, hH, rfl⟩
        have hr' := hL r (List.mem_of_getElem? hr)
        have hjl := (List.getElem?_eq_some_iff.mp hr).1
        have h4 : 20 ^ i ≤ 20 ^ 4 := Nat.pow_le_pow_right (by decide) (by omega)
        have e4 : 20 ^ 4 = 160000 := by decide
        refine ⟨_, rfl, ?_⟩
        have ec : cleans (B.map fun r => O.frz (rowT r)) = true := cleans_comp
        have ef : fzs (B.map fun r => O.frz (rowT r)) = B.map rowT := fzs_comp
        have rd : ∀ (Q : D → Tr.Env → Prop), Q (.list (B.map rowT)) [some (.frz (.int n)), some (.frz (.int m)), some (.frz (.list (L.map rowT))), some (.frz (.int i)), some (.frz (.list (B.map rowT))), some (.frz (rowT r)), x6] →
            (rdV 4 [some (.frz (.int n)), some (.frz (.int m)), some (.frz (.list (L.map rowT))), some (.frz (.int i)), some o, some (.frz (rowT r)), x6]).wp Q := fun Q q => by
          rcases hH with rfl | rfl
          · simpa using q
          · simpa [ec, ef] using q
        simp [-rd_succ]
        refine rd _ ?_
        simp
        refine ⟨inR (by omega), ?_⟩
        refine comp_flt (c := fun x : Nat => .int (0 + (x : Int))) (stepP r) (fun x => .frz (rowT (r ++ [x]))) (fun x hx => ⟨_, rfl, ?_⟩) ?_
        · by_cases h0 : r = []
          · subst h0
            simp [row_nil, stepP]
            have := row_add (r := []) (x := x) (by simp)
            simp at this
            simp [this]
          · obtain ⟨y, hy⟩ : ∃ y, r.getLast? = some y := ⟨_, List.getLast?_eq_some_getLast h0⟩
            have ea := at_last h0
            have ey : r.getLast h0 = y := by
              have := List.getLast?_eq_some_getLast h0
              rw [hy] at this
              cases this
              rfl
            rw [ey] at ea
            have := row_add (r := r) (x := x) (by omega)
            simp [row_nil, stepP, h0, hy, ea, this, Nat.not_lt]
        · rintro ys hy hyl hys
          have ec2 : cleans (ys.map fun x => O.frz (rowT (r ++ [x]))) = true := cleans_comp
          have ef2 : fzs (ys.map fun x => O.frz (rowT (r ++ [x]))) = ys.map fun x => rowT (r ++ [x]) := fzs_comp
          simp at hyl
          simp [ec2, ef2]
          refine ⟨by omega, by omega, B ++ ys.map fun x => r ++ [x], fun s hs => ?_, by simp; omega, .inr (by simp; rfl)⟩
          rcases List.mem_append.mp hs with hs | hs
          · exact hB s hs
          · obtain ⟨x, hx, rfl⟩ := List.mem_map.mp hs
            have hx2 := (hy x).mp hx
            exact ⟨rise_add hr'.1 (List.mem_range.mp hx2.1) hx2.2, by simp [hr'.2]⟩
      · rintro ρ ⟨B, o, x5, x6, hB, hb, hH, rfl⟩
        refine ⟨rfl, B, o, x5, x6, hB, ?_, hH, rfl⟩
        rw [Nat.pow_succ]
        omega
    rcases hH with rfl | rfl
    · simp
      refine R.wp_mono (key _ _) ?_
      rintro fl ρ ⟨rfl, B, o, x5, x6, hB, hb, rfl | rfl, rfl⟩
      · simp
        exact ⟨B, hB, hb, .inl rfl, rfl⟩
      · simp
        exact ⟨B, hB, hb, .inl rfl, rfl⟩
    · have ec : cleans (L.map fun r => O.frz (rowT r)) = true := cleans_comp
      have ef : fzs (L.map fun r => O.frz (rowT r)) = L.map rowT := fzs_comp
      simp [ec, ef]
      refine R.wp_mono (key _ _) ?_
      rintro fl ρ ⟨rfl, B, o, x5, x6, hB, hb, rfl | rfl, rfl⟩
      · simp
        exact ⟨B, hB, hb, .inl rfl, rfl⟩
      · simp
        exact ⟨B, hB, hb, .inl rfl, rfl⟩
  · rintro ρ ⟨L, o, x3, x4, x5, x6, hL, hle, hH, h0, rfl⟩
    simp at hL hle h0
    rw [h0 hm0]
    simp
    exact q L (fun r hr => hL r hr) hle
theorem emb_sz (h : TabOk n g) {x : Nat → Rat} (e : Emb n g x) (h0 : 0 < n → x 0 = 0) : ∀ i < n, Sz 500 (x i) := fun i hi => by
  have e1 := e 0 (by omega) i hi
  rw [h0 (by omega)] at e1
  have hs := h.sz 0 i (by omega) hi
  rw [e1] at hs
  rcases abs_cases (0 - x i) with ⟨a, b⟩ | ⟨a, b⟩
  · rw [b] at hs
    have := hs.neg
    rwa [show -(0 - x i) = x i by grind] at this
  · rw [b] at hs
    rwa [show -(0 - x i) = x i by grind] at hs
theorem same_row {x : Nat → Rat} (hf : Φ.fn[30]? = some f_l_same) : callF Φ 30 [.d (rowD n x), .d (rowD n x)] ρ = .ok (.frz (.bool true)) ρ := by
  have h : f_l_same.run [.frz (rowD n x), .frz (rowD n x)] = .ok (.frz (.bool true)) [] := same_eq rfl 2 (rowD n x) (by
    intro y hy
    obtain ⟨j, _, rfl⟩ := List.mem_map.mp hy
    intro z hz
    simp only [List.mem_cons, List.not_mem_nil, or_false] at hz
    rcases hz with rfl | rfl <;> trivial) _ (by decide)
  exact call_eq hf rfl rfl rfl rfl h
theorem sort_rise {r : List Nat} (h : Rise n r) (hl : r.length ≤ 20) : sortSO (rowT r) = some (.box (((natJ r).map PyData.int).map .frz)) := by
  have up : (natJ r).Pairwise (· < ·) := by
    unfold natJ
    rw [List.pairwise_map]
    exact h.up.imp fun h => by omega
  have lt := isort_lt (natJ r)
  have perm : (natJ r).Perm (isort (natJ r).eraseDups) := (List.perm_ext_iff_of_nodup (up.imp fun h => by omega) (lt.imp fun h => by omega)).mpr fun a => by rw [(isort_perm _).mem_iff, List.mem_eraseDups]
  have e : isort (natJ r).eraseDups = natJ r := (List.Perm.eq_of_pairwise (fun a b _ _ h1 h2 => Int.le_antisymm h1 h2) (up.imp fun h => by omega) (lt.imp fun h => by omega) perm).symm
  simp [sortSO, rowT, ints_map, natJ_len, e, intsF]
  omega
theorem told_bar (hn : n ≤ 20) (h : TabOk n g) {r : List Nat} (hr : r ∈ threesL n ++ foursL n) (hb : barN g r = true) : f_l_told_right.run [.frz (tabD n g), .frz (.tuple [.str "bar", rowT r])] = .ok (.frz (.bool true)) [] := run_eq (by
  unfold f_l_told_right
  rw [fn_wp]
  refine ⟨rfl, ?_⟩
  have hs : ∀ i < n, ∀ j < n, Sz 1900 (g i j) := fun i hi j hj => (h.sz i j hi hj).mono (by decide)
  have hl : r.length = 3 ∨ r.length = 4 := by
    rcases List.mem_append.mp hr with q | q
    · obtain ⟨i, j, k, rfl, _⟩ := mem3.mp q; exact .inl rfl
    · obtain ⟨i, j, k, l, rfl, _⟩ := mem4.mp q; exact .inr rfl
  have rs := rise_of hr
  have c1 := fun Φ hf ρ => eBars (Φ := Φ) (ρ := ρ) hf (fun i j hi hj => hs i hi j hj) rs.lt hl
  have eb : barsB (cel (tabD n g)) n (rowT r) = true := by
    rw [barsB_rise rs rfl, barN_cel hr fun i hi j hj => cel_tabD hi hj]
    exact hb
  have c2 := fun Φ hf ρ => sBars.cl (Φ := Φ) (k0 := 17) (d := rowT r) (ρ := ρ) hf (tab_tabD hs)
  rw [eb] at c2
  rw [hb] at c1
  have so := sort_rise rs (by omega)
  have lr : b1D .len (rowT r) = some (.int r.length) := by simp [rowT, natJ]
  have ik : isK (rowT r) .tuple = true := rfl
  have lo : listO (rowT r) = some (.box (((natJ r).map PyData.int).map .frz)) := rfl
  have nbp : Str.ofString "bar" ≠ Str.ofString "places" := by decide +kernel
  have it : ∀ l : List D, isK (.tuple l) .tuple = true := fun _ => rfl
  simp [ir_l_told_right, c1, c2, so, lr, ik, lo, cmp_nmem_two, nbp, it]
  omega)
theorem told_places (hn : n ≤ 20) (h : TabOk n g) {x : Nat → Rat} (e : Emb n g x) (h0 : 0 < n → x 0 = 0) (h1 : 1 < n → 0 < x 1) : f_l_told_right.run [.frz (tabD n g), .frz (.tuple [.str "places", rowD n x])] = .ok (.frz (.bool true)) [] := run_eq (by
  unfold f_l_told_right
  rw [fn_wp]
  refine ⟨rfl, ?_⟩
  have hs : ∀ i < n, ∀ j < n, Sz 1900 (g i j) := fun i hi j hj => (h.sz i j hi hj).mono (by decide)
  have xs := emb_sz h e h0
  have it : ∀ l : List D, isK (.tuple l) .tuple = true := fun _ => rfl
  have c1 := fun Φ hf ρ => same_row (Φ := Φ) (ρ := ρ) (n := n) (x := x) hf
  have rw1 : Row 1900 n (rowD n x) := row_rowD fun j hj => (xs j hj).mono (by decide)
  have c2 := fun Φ hf ρ => sSq.cl (Φ := Φ) (k := 29) (ρ := ρ) hf rw1 (show n ≤ 1000 by omega)
  have et : tabD n (fun i j => (valR (subD (rowD n x) i) - valR (subD (rowD n x) j)).abs) = tabD n g := tabD_inj.mpr fun i hi j hj => by rw [sub_rowD hi, sub_rowD hj, valR_fr, valR_fr, e i hi j hj]
  rw [et] at c2
  have ne : cmpD .ne (tabD n g) (tabD n g) = some (.bool false) := by rw [cmp_ne_tab]; simp
  have ir : itemsD (rowD n x) = some ((List.range n).map fun j => frD (x j)) := rfl
  have lr : b1D .len (rowD n x) = some (.int n) := by simp [rowD]
  have ltab : b1D .len (tabD n g) = some (.int n) := (tab_tabD hs).len
  unfold ir_l_told_right
  rw [wss_cons]
  refine cut (fun ρ => ρ = [some (.frz (tabD n g)), some (.frz (.tuple [.str "places", rowD n x])), none, none, none, none]) ?_ ?_
  · rw [wst_ite]
    simp [it]
  rintro ρ rfl
  rw [wss_cons, wst_ite]
  simp [-wss_cons]
  rw [wss_cons]
  refine cut (fun ρ => ρ = [some (.frz (tabD n g)), some (.frz (.tuple [.str "places", rowD n x])), some (.frz (rowD n x)), none, none, none]) ?_ ?_
  · simp
  rintro ρ rfl
  rw [wss_cons]
  refine cut (fun ρ => ρ = [some (.frz (tabD n g)), some (.frz (.tuple [.str "places", rowD n x])), some (.frz (rowD n x)), none, none, none]) ?_ ?_
  · rw [wst_ite]
    simp [ir]
    refine comp_each (c := fun j => frD (x j)) (fun j => .frz (frD (x j))) (fun j hj => ⟨_, rfl, ?_⟩) ?_
    · have a0 : ixD (frD (x j)) (.int 0) = some (.int (x j).num) := rfl
      have a1 : ixD (frD (x j)) (.int 1) = some (.int (x j).den) := rfl
      simp [a0, a1]
      rfl
    · have ef : PyData.tuple ((List.range n).map fun j => frD (x j)) = rowD n x := rfl
      simp [ef, c1, c2, ne]
      omega
  rintro ρ rfl
  rw [wss_cons]
  refine cut (fun ρ => ρ = [some (.frz (tabD n g)), some (.frz (.tuple [.str "places", rowD n x])), some (.frz (rowD n x)), none, none, none]) ?_ ?_
  · have nf : cmpD .ne (frD 0) (.tuple [.int 0, .int 1]) = some (.bool false) := by
      have := cmp_ne_fr (p := 0) (q := 0)
      show cmpD .ne (frD 0) (frD 0) = _
      simpa using this
    rw [wst_ite]
    simp [lr]
    refine ⟨fun hn0 => ?_, fun hn0 => by omega⟩
    have i0 := ix_row (n := n) (u := x) (i := 0) hn0
    rw [h0 hn0] at i0
    simp at i0
    simp [i0, nf, lr]
    intro hn1
    have i1 := ix_row (n := n) (u := x) (i := 1) (by omega)
    simp at i1
    have hp := h1 (by omega)
    have hnum : 0 < (x 1).num := by have := (Rat.lt_iff 0 (x 1)).mp hp; simpa using this
    have a0 : ixD (frD (x 1)) (.int 0) = some (.int (x 1).num) := rfl
    simp [i1, a0]
    omega
  rintro ρ rfl
  rw [wss_cons]
  refine cut (fun ρ => ∃ L : List (List Nat), L.length ≤ 200000 ∧ (∀ r ∈ L, Rise n r ∧ (r.length = 3 ∨ r.length = 4)) ∧ ρ = [some (.frz (tabD n g)), some (.frz (.tuple [.str "places", rowD n x])), some (.frz (rowD n x)), some (.box ((L.map rowT).map .frz)), none, none]) ?_ ?_
  · simp [ltab]
    refine rows_cl (n := n) (m := 3) rfl rfl rfl hn (by decide) (by decide) fun L hL hl => ?_
    simp [ltab]
    refine rows_cl (n := min n 8) (m := 4) rfl (by split <;> omega) rfl (by omega) (by decide) (by decide) fun L2 hL2 hl2 => ?_
    have b3 : 20 ^ 3 = 8000 := by decide
    have b4 : 20 ^ 4 = 160000 := by decide
    simp
    refine ⟨by omega, L ++ L2, by simp; omega, fun r hr => ?_, by simp⟩
    rcases List.mem_append.mp hr with hr | hr
    · exact ⟨(hL r hr).1, .inl (hL r hr).2⟩
    · exact ⟨⟨(hL2 r hr).1.up, fun y hy => by have := (hL2 r hr).1.lt y hy; omega⟩, .inr (hL2 r hr).2⟩
  rintro ρ ⟨L, hL, hr, rfl⟩
  simp
  refine comp_noneI (fun d hd => ?_) ?_
  · obtain ⟨r, hrL, rfl⟩ := List.mem_map.mp hd
    obtain ⟨rs, rl⟩ := hr r hrL
    have nb := emb_nobar h e
    have bf : barN g r = false := by
      have up := rs.up
      have lt := rs.lt
      match r, rl with
      | [i, j, k], _ =>
        simp at up lt
        simp only [barN]
        exact nb.b3 i j k up.1.1 up.2 lt.2.2
      | [i, j, k, l], _ =>
        simp at up lt
        simp only [barN]
        exact nb.b4 i j k l up.1.1 up.2.1.1 up.2.2 lt.2.2.2
    have c3 := fun Φ hf ρ => eBars (Φ := Φ) (ρ := ρ) hf (fun i j hi hj => hs i hi j hj) rs.lt rl
    rw [bf] at c3
    refine ⟨_, rfl, ?_⟩
    simp [c3]
  · simp [cmp_eq_emp])
end
end K20
set_option Elab.async false
set_option linter.all false
set_option maxRecDepth 100000
set_option maxHeartbeats 4000000
namespace K20
open PySem Tr Lib
section
variable {Φ : Tab} {kk : Nat} {ρ : Tr.Env} {g : Nat → Nat → Rat} {n : Nat}
def leftL (n t : Nat) : List Nat := (List.range n).filter fun k => decide (k ≠ t)
def wtg (n t : Nat) (g : Nat → Nat → Rat) : Nat → Nat → Rat := fun i j => g ((leftL n t).getD i 0) ((leftL n t).getD j 0)
theorem map_getD {α : Type} (l : List Nat) (F : Nat → α) : l.map F = (List.range l.length).map fun i => F (l.getD i 0) := by
  refine List.ext_getElem (by simp) fun i h1 h2 => ?_
  simp at h1
  simp [h1]
theorem without_eq (hn : n ≤ 20) {t : Nat} : f_l_without.run [.frz (tabD n g), .frz (.int t)] = .ok (.frz (tabD (leftL n t).length (wtg n t g))) [] := run_eq (by
  unfold f_l_without
  rw [fn_wp]
  refine ⟨rfl, ?_⟩
  have hl : b1D .len (tabD n g) = some (.int n) := by simp [tabD]
  have lt : ∀ x ∈ leftL n t, x < n := fun x hx => List.mem_range.mp (List.mem_filter.mp hx).1
  have ll : (leftL n t).length ≤ n := by
    have := List.length_filter_le (fun k => decide (k ≠ t)) (List.range n)
    simpa [leftL] using this
  unfold ir_l_without
  rw [wss_cons]
  refine cut (fun ρ => ρ = [some (.frz (tabD n g)), some (.frz (.int t)), some (.box ((leftL n t).map fun (k : Nat) => .frz (.int k))), none, none, none, none]) ?_ ?_
  · simp [hl]
    refine ⟨inR (by omega), ?_⟩
    rw [rng_map]
    refine comp_map (c := fun k : Nat => PyData.int (0 + (k : Int))) (fun k => decide (k ≠ t)) (fun k : Nat => .frz (.int k)) (fun k hk => ⟨_, rfl, ?_⟩) ?_
    · simp
      omega
    · refine ⟨?_, rfl⟩
      rw [List.length_map]
      exact Nat.le_trans ll (by omega)
  rintro ρ rfl
  rw [wss_cons]
  refine cut (fun ρ => ρ = [some (.frz (tabD n g)), some (.frz (.int t)), some (.box ((leftL n t).map fun (k : Nat) => .frz (.int k))), some (.box []), none, none, none]) ?_ ?_
  · simp
  rintro ρ rfl
  rw [wss_cons]
  refine cut (fun ρ => ∃ x4, ρ = [some (.frz (tabD n g)), some (.frz (.int t)), some (.frz (.list ((leftL n t).map fun (k : Nat) => .int k))), some (.box (((leftL n t).map fun a => PyData.tuple ((leftL n t).map fun b => frD (g a b))).map .frz)), x4, none, none]) ?_ ?_
  · have ec : cleans ((leftL n t).map fun (k : Nat) => O.frz (.int k)) = true := cleans_comp
    have ef : fzs ((leftL n t).map fun (k : Nat) => O.frz (.int k)) = (leftL n t).map fun (k : Nat) => PyData.int k := fzs_comp
    rw [wst_loop]
    simp [ec, ef, -wss_cons]
    refine loopM (c := fun k : Nat => PyData.int k) (xs := leftL n t) (fun i ρ => ∃ x4, ρ = [some (.frz (tabD n g)), some (.frz (.int t)), some (.frz (.list ((leftL n t).map fun (k : Nat) => .int k))), some (.box ((((leftL n t).take i).map fun a => PyData.tuple ((leftL n t).map fun b => frD (g a b))).map .frz)), x4, none, none]) ⟨none, by simp⟩ ?_ ?_
    · rintro i a ρ ha ⟨x4, rfl⟩
      have hil := (List.getElem?_eq_some_iff.mp ha).1
      have han := lt a (List.mem_of_getElem? ha)
      refine ⟨_, rfl, ?_⟩
      simp
      refine comp_each (c := fun k : Nat => PyData.int k) (fun b => .frz (frD (g a b))) (fun b hb => ⟨_, rfl, ?_⟩) ?_
      · have hbn := lt b hb
        simp [ix_tab han, ix_row hbn]
      · simp
        refine ⟨by omega, by omega, ?_⟩
        rw [List.take_succ, List.getElem?_map, ha]
        rfl
    · rintro ρ ⟨x4, rfl⟩
      simp
  rintro ρ ⟨x4, rfl⟩
  simp
  unfold tabD rowD wtg
  rw [map_getD]
  refine congrArg PyData.tuple (List.map_congr_left fun i _ => ?_)
  rw [map_getD])
theorem inj_surj : ∀ (n : Nat) (s : Nat → Nat), (∀ i, i < n → s i < n) → (∀ i j, i < n → j < n → s i = s j → i = j) → ∀ i, i < n → ∃ j, j < n ∧ s j = i
  | 0, _, _, _, i, hi => absurd hi (Nat.not_lt_zero _)
  | n + 1, s, lt, inj, i, hi => by
    have ih := inj_surj n (fun i => if s i = n then s n else s i) (fun a ha => by
      have l1 := lt a (by omega)
      have l2 := lt n (by omega)
      split
      · rename_i e
        have : s n ≠ n := fun e2 => by have := inj a n (by omega) (by omega) (e.trans e2.symm); omega
        omega
      · omega) fun a b ha hb e => by
      try dsimp only at e
      split at e <;> split at e
      · exact inj a b (by omega) (by omega) (by omega)
      · have := inj n b (by omega) (by omega) e; omega
      · have := inj a n (by omega) (by omega) e; omega
      · exact inj a b (by omega) (by omega) e
    by_cases h : i = s n
    · exact ⟨n, by omega, h.symm⟩
    · by_cases hin : i = n
      · have l2 := lt n (by omega)
        obtain ⟨j, hj, e⟩ := ih (s n) (by omega)
        try dsimp only at e
        split at e
        · exact ⟨j, by omega, by omega⟩
        · have := inj j n (by omega) (by omega) e; omega
      · obtain ⟨j, hj, e⟩ := ih i (by omega)
        try dsimp only at e
        split at e
        · omega
        · exact ⟨j, by omega, e⟩
theorem tab_perm {s : Nat → Nat} (h : TabOk n g) (p : Perm n s) : TabOk n fun i j => g (s i) (s j) :=
  ⟨fun i => h.diag _, fun i j hi hj hne => h.pos _ _ (p.lt i hi) (p.lt j hj) fun e => hne (p.inj i j hi hj e), fun i j => h.sym _ _, fun i j hi hj => h.sz _ _ (p.lt i hi) (p.lt j hj)⟩
theorem line_perm {s : Nat → Nat} (p : Perm n s) : IsLine n (fun i j => g (s i) (s j)) ↔ IsLine n g := by
  constructor
  · rintro ⟨y, hy⟩
    have sj := inj_surj n s p.lt p.inj
    classical
    refine ⟨fun a => if h : a < n then y (sj a h).choose else 0, fun a ha b hb => ?_⟩
    have h1 := (sj a ha).choose_spec
    have h2 := (sj b hb).choose_spec
    have := hy _ h1.1 _ h2.1
    dsimp only at this ⊢
    rw [h1.2, h2.2] at this
    rw [this, dif_pos ha, dif_pos hb]
  · rintro ⟨x, hx⟩
    exact ⟨fun i => x (s i), fun i hi j hj => hx _ (p.lt i hi) _ (p.lt j hj)⟩
theorem left_lt {t i : Nat} (hi : i < (leftL n t).length) : (leftL n t).getD i 0 < n := by
  rw [List.getD_eq_getElem?_getD, List.getElem?_eq_getElem hi]
  exact List.mem_range.mp (List.mem_filter.mp (List.getElem_mem hi)).1
theorem tab_left {t : Nat} (h : TabOk n g) : TabOk (leftL n t).length (wtg n t g) := by
  refine ⟨fun i => h.diag _, fun i j hi hj hne => h.pos _ _ (left_lt hi) (left_lt hj) fun e => hne ?_, fun i j => h.sym _ _, fun i j hi hj => h.sz _ _ (left_lt hi) (left_lt hj)⟩
  have nd : (leftL n t).Nodup := List.nodup_range.filter _
  rw [List.getD_eq_getElem?_getD, List.getD_eq_getElem?_getD, List.getElem?_eq_getElem hi, List.getElem?_eq_getElem hj] at e
  have e' : (leftL n t)[i] = (leftL n t)[j] := by simpa using e
  rcases Nat.lt_trichotomy i j with q | q | q
  · exact absurd e' (List.pairwise_iff_getElem.mp nd i j hi hj q)
  · exact q
  · exact absurd e'.symm (List.pairwise_iff_getElem.mp nd j i hj hi q)
theorem line_left {t : Nat} (h : IsLine n g) : IsLine (leftL n t).length (wtg n t g) := by
  obtain ⟨x, hx⟩ := h
  exact ⟨fun i => x ((leftL n t).getD i 0), fun i hi j hj => hx _ (left_lt hi) _ (left_lt hj)⟩
theorem eLine (hf : Φ.fn[23]? = some f_line_of) (hn : n ≤ 20) (h : TabOk n g) : callF Φ 23 [.d (tabD n g)] ρ = .ok (.frz (lineD n g)) ρ := by
  have e := line_eq' hn (fun i hi j hj => h.sz i j hi hj)
  exact call_eq (os := [.frz (tabD n g)]) hf (by rfl) (by rfl) (by rfl) (by simp [gather]) e
theorem line_all (hn : n ≤ 20) (h : TabOk n g) : ∃ (w : Str) (d : D), lineD n g = .tuple [.str w, d] ∧ ((IsLine n g ∧ w = Str.ofString "places") ∨ (¬ IsLine n g ∧ w = Str.ofString "bar")) ∧ f_l_told_right.run [.frz (tabD n g), .frz (lineD n g)] = .ok (.frz (.bool true)) [] := by
  rcases line_cases h with ⟨x, e, el, h0, h1⟩ | ⟨hno, r, hr, hb, el⟩
  · exact ⟨_, _, el, .inl ⟨⟨x, e⟩, rfl⟩, by rw [el]; exact told_places hn h e h0 h1⟩
  · exact ⟨_, _, el, .inr ⟨hno, rfl⟩, by rw [el]; exact told_bar hn h hr hb⟩
theorem eTold {o : D} (hf : Φ.fn[39]? = some f_l_told_right) (h : f_l_told_right.run [.frz (tabD n g), .frz o] = .ok (.frz (.bool true)) []) : callF Φ 39 [.d (tabD n g), .d o] ρ = .ok (.frz (.bool true)) ρ :=
  call_eq (os := [.frz (tabD n g), .frz o]) hf (by rfl) (by rfl) (by rfl) (by simp [gather]) h
theorem eWithout {t : Nat} (hf : Φ.fn[40]? = some f_l_without) (hn : n ≤ 20) : callF Φ 40 [.d (tabD n g), .d (.int t)] ρ = .ok (.frz (tabD (leftL n t).length (wtg n t g))) ρ := by
  have e := without_eq (g := g) (t := t) hn
  exact call_eq (os := [.frz (tabD n g), .frz (.int t)]) hf (by rfl) (by rfl) (by rfl) (by simp [gather]) e
end
noncomputable def PhL : Tab := ⟨[f_is_row, f_is_whole, f_is_below, f_is_rising, f_is_things, f_common, f_fraction, f_plus, f_less, f_order, f_apart, f_line_table, f_is_whole_way, f_has_middle, f_bars_three, f_are_same, f_bars_four, f_bars_line, f_threes_of, f_fours_of, f_first_bar, f_place_of, f_has_table, f_line_of, f_l_next, f_l_low, f_l_number, f_l_gap, f_l_both, f_l_square, f_l_same, f_l_unlike, f_l_corner, f_l_great, f_l_table, f_l_named, f_l_sums, f_l_bars, f_l_rows, f_l_told_right, f_l_without], gl⟩
end K20
set_option Elab.async false
set_option linter.all false
set_option maxRecDepth 100000
set_option maxHeartbeats 4000000
namespace K20
open PySem Tr Lib
theorem law_wp {ns : List Int} (hns : ns.length ≤ 63) : (f_law.run [.scr ns]).wp fun o refs => o = .frz (.bool true) ∧ refs = [] := by
  unfold f_law
  rw [fn_wp]
  refine ⟨rfl, ?_⟩
  show (Ss.sem PhL _ _).wp _
  unfold ir_law
  rw [wss_cons]
  refine cut (fun ρ => ∃ st x0, OkSt 0 st ∧ ρ = [x0, some st, none, none, none, none, none, none, none]) ?_ ?_
  · simp
    exact okSt_start (ns := ns) (s := 20) (by decide)
  rintro ρ ⟨st, x0, hs, rfl⟩
  rw [wss_cons]
  refine cut (fun ρ => True) ?_ ?_
  · rw [wst_loop]
    simp [-wss_cons]
    refine ⟨inR (by decide), ?_⟩
    refine loop0 (fun i ρ => ∃ st x2 x3 x4 x5 x6 x7 x8, OkSt (1000 * i) st ∧ ρ = [x0, some st, x2, x3, x4, x5, x6, x7, x8]) ⟨_, _, _, _, _, _, _, _, hs, rfl⟩ ?_ ?_
    · rintro i d ρ he ⟨st, x2, x3, x4, x5, x6, x7, x8, hs, rfl⟩
      obtain ⟨rfl, hi⟩ := rng_at he
      refine ⟨_, rfl, ?_⟩
      rw [wss_cons]
      refine cut (fun ρ => ∃ (st : O) (n : Nat), OkSt (1000 * i + 3) st ∧ n ≤ 20 ∧ ρ = [x0, some st, some (.frz (.int i)), some (.frz (.int n)), x4, x5, x6, x7, x8]) ?_ ?_
      · simp
        refine sNext.cl rfl rfl hs (by omega) (by decide) (by decide) fun a st1 a0 a1 h1 => ?_
        simp
        refine sNext.cl rfl rfl h1 (by omega) (by decide) (by decide) fun b st2 b0 b1 h2 => ?_
        obtain ⟨u, eu, u20⟩ : ∃ u : Nat, atD [PyData.int 5, .int 20] (i : Int) = some (.int u) ∧ u ≤ 20 := by
          have : i = 0 ∨ i = 1 := by omega
          rcases this with rfl | rfl
          · exact ⟨5, rfl, by decide⟩
          · exact ⟨20, rfl, by decide⟩
        simp [eu]
        refine sNext.cl rfl rfl h2 (by omega) (by decide) (by decide) fun c st3 c0 c1 h3 => ?_
        obtain ⟨y, my, ey⟩ := at_in (l := [PyData.int a, .int b, .int 4, .int u]) c0 (by simpa using c1)
        obtain ⟨n, rfl, hn⟩ : ∃ n : Nat, y = .int n ∧ n ≤ 20 := by
          simp only [List.mem_cons, List.not_mem_nil, or_false] at my
          rcases my with rfl | rfl | rfl | rfl
          · exact ⟨a.toNat, by rw [Int.toNat_of_nonneg a0], by omega⟩
          · exact ⟨b.toNat, by rw [Int.toNat_of_nonneg b0], by omega⟩
          · exact ⟨4, rfl, by decide⟩
          · exact ⟨u, rfl, u20⟩
        simp [ey]
        exact ⟨_, h3.mono (by omega), n, hn, rfl, rfl⟩
      rintro ρ ⟨st, n, hs, hn, rfl⟩
      rw [wss_cons]
      refine cut (fun ρ => ∃ (st : O) (g : Nat → Nat → Rat), OkSt (1000 * i + 300) st ∧ TabOk n g ∧ ρ = [x0, some st, some (.frz (.int i)), some (.frz (.int n)), some (.frz (tabD n g)), x5, x6, x7, x8]) ?_ ?_
      · simp
        refine sTab.cl rfl rfl hs (by omega) rfl hn fun g st1 ok h1 => ?_
        simp
        refine sNamed.cl rfl rfl h1 (by omega) hn fun s st2 hp h2 => ?_
        simp
        exact ⟨_, h2.mono (by omega), _, tab_perm ok hp, rfl, rfl⟩
      rintro ρ ⟨st, g, hs, ok, rfl⟩
      obtain ⟨w, dd, el, hw, ht⟩ := line_all hn ok
      have e1 := fun ρ => eLine (Φ := PhL) (ρ := ρ) rfl hn ok
      have t1 := fun ρ => eTold (Φ := PhL) (ρ := ρ) rfl ht
      rw [wss_cons]
      refine cut (fun ρ => ρ = [x0, some st, some (.frz (.int i)), some (.frz (.int n)), some (.frz (tabD n g)), some (.frz (lineD n g)), x6, x7, x8]) ?_ ?_
      · simp [e1]
      rintro ρ rfl
      rw [wss_cons]
      refine cut (fun ρ => ρ = [x0, some st, some (.frz (.int i)), some (.frz (.int n)), some (.frz (tabD n g)), some (.frz (lineD n g)), x6, x7, x8]) ?_ ?_
      · rw [wst_ite]
        simp [t1]
      rintro ρ rfl
      rw [wss_cons]
      refine cut (fun ρ => ∃ (st : O) (s : Nat → Nat), OkSt (1000 * i + 400) st ∧ Perm n s ∧ ρ = [x0, some st, some (.frz (.int i)), some (.frz (.int n)), some (.frz (tabD n g)), some (.frz (lineD n g)), some (.frz (tabD n fun i j => g (s i) (s j))), x7, x8]) ?_ ?_
      · simp
        refine sNamed.cl rfl rfl hs (by omega) hn fun s st2 hp h2 => ?_
        simp
        exact ⟨_, h2.mono (by omega), s, hp, rfl, rfl⟩
      rintro ρ ⟨st, s, hs, hp, rfl⟩
      have ok2 := tab_perm ok hp
      obtain ⟨w2, dd2, el2, hw2, ht2⟩ := line_all hn ok2
      have e2 := fun ρ => eLine (Φ := PhL) (ρ := ρ) rfl hn ok2
      have t2 := fun ρ => eTold (Φ := PhL) (ρ := ρ) rfl ht2
      have ew : w2 = w := by
        have lp := line_perm (g := g) hp
        rcases hw with ⟨a, rfl⟩ | ⟨a, rfl⟩ <;> rcases hw2 with ⟨b, rfl⟩ | ⟨b, rfl⟩
        · rfl
        · exact absurd (lp.mpr a) b
        · exact absurd (lp.mp b) a
        · rfl
      rw [wss_cons]
      refine cut (fun ρ => ρ = [x0, some st, some (.frz (.int i)), some (.frz (.int n)), some (.frz (tabD n g)), some (.frz (lineD n g)), some (.frz (tabD n fun i j => g (s i) (s j))), some (.frz (lineD n fun i j => g (s i) (s j))), x8]) ?_ ?_
      · simp [e2]
      rintro ρ rfl
      rw [wss_cons]
      refine cut (fun ρ => ρ = [x0, some st, some (.frz (.int i)), some (.frz (.int n)), some (.frz (tabD n g)), some (.frz (lineD n g)), some (.frz (tabD n fun i j => g (s i) (s j))), some (.frz (lineD n fun i j => g (s i) (s j))), x8]) ?_ ?_
      · rw [wst_ite]
        simp [t2]
        simp [el, el2, ew]
      rintro ρ rfl
      rw [wss_cons]
      refine cut (fun ρ => ∃ st x8, OkSt (1000 * i + 500) st ∧ ρ = [x0, some st, some (.frz (.int i)), some (.frz (.int n)), some (.frz (tabD n g)), some (.frz (lineD n g)), some (.frz (tabD n fun i j => g (s i) (s j))), some (.frz (lineD n fun i j => g (s i) (s j))), x8]) ?_ ?_
      · rw [wst_ite]
        have fin : OkSt (1000 * i + 500) st := hs.mono (by omega)
        rw [el]
        simp
        refine ⟨fun hn0 => ⟨fun hwp => ?_, fun hwp => ?_⟩, fun hn0 => ?_⟩
        · have hL : IsLine n g := by
            rcases hw with ⟨a, _⟩ | ⟨_, b⟩
            · exact a
            · rw [hwp] at b; exact absurd b.symm (by decide +kernel)
          refine sNext.cl rfl rfl hs (by omega) (by omega) (by omega) fun v st2 v0 v1 h2 => ?_
          obtain ⟨v, rfl⟩ := Int.eq_ofNat_of_zero_le v0
          have ll : (leftL n v).length ≤ 20 := by
            have := List.length_filter_le (fun k => decide (k ≠ v)) (List.range n)
            simp only [List.length_range] at this
            exact Nat.le_trans this hn
          have ok3 := tab_left (t := v) ok
          obtain ⟨w3, dd3, el3, hw3, ht3⟩ := line_all ll ok3
          have e3 := fun ρ => eLine (Φ := PhL) (ρ := ρ) rfl ll ok3
          have t3 := fun ρ => eTold (Φ := PhL) (ρ := ρ) rfl ht3
          have w3e : w3 = Str.ofString "places" := by
            rcases hw3 with ⟨_, b⟩ | ⟨a, _⟩
            · exact b
            · exact absurd (line_left hL) a
          have e4 := fun ρ => eWithout (Φ := PhL) (ρ := ρ) (g := g) (t := v) rfl hn
          rw [el3, w3e] at e3 t3
          simp [e4, e3, t3]
          exact h2.mono (by omega)
        · exact fin
        · exact fin
      rintro ρ ⟨st, x8, hs, rfl⟩
      simp
      exact hs.mono (by omega)
    · rintro ρ -
      simp
  rintro ρ -
  simp
end K20
set_option Elab.async false
set_option linter.all false
set_option maxRecDepth 100000
set_option maxHeartbeats 0
theorem K20.law_run : ∀ ns : List Int, ns.length ≤ 63 → K20.f_law.run [.scr ns] = .ok (.frz (.bool true)) [] := fun ns hn => by
  obtain ⟨o, refs, e, rfl, rfl⟩ := Tr.FR.wp_iff.mp (K20.law_wp hn)
  exact e
namespace K20
open PySem PySem.Spec PyProof.Rows L2 Tr
abbrev R : PySem.W.OpenRow := PySem.W.OpenLaw.row PySem.Challenge.rw_leaststretch_k20_whole_line_or_bar
abbrev hk : PySem.W.Hook := hookG 4 gs (fas ds gs blts) (ds.map toD)
def ob (s : PySem.W.SharedT) : AlG := obsGG 4 gs (fas ds gs blts) (ds.map toD) (HandSHeadRun.getT s)
theorem ob_eq (s : PySem.W.SharedT) : ob s = hk.obs s.abs := obsGG_eq (HandSHeadRun.getT_eq s)
def names0 : List PySem.Str := ["StretchError", "NoFraction", "is_row", "is_whole", "is_below", "is_rising", "is_things", "common", "fraction", "plus", "less", "order", "NOUGHT", "apart", "line_table"]
def names1 : List PySem.Str := ["is_whole_way", "has_middle", "bars_three", "are_same", "bars_four", "bars_line", "threes_of", "fours_of", "first_bar", "place_of", "has_table", "line_of", "_law_next", "_law_low", "_law_number"]
def names2 : List PySem.Str := ["_law_gap", "_law_both", "_law_square", "_law_same", "_law_unlike", "_law_table", "_law_corner", "_law_great", "_law_named", "_law_sums", "_law_bars", "_law_rows", "_law_told_right", "_law_without"]
def names : List PySem.Str := names0 ++ names1 ++ names2
theorem run (w : World) : HandSHeadRun.RunEq R (PySem.W.view R.prog [50]) hk ob 4000 names w := by
  intro os
  kernel_rfl
end K20
open PySem PySem.W PySem.Calls PyProof.Rows
theorem PySem.Challenge.cw_leaststretch_k20_whole_line_or_bar_holds : PySem.Challenge.rw_leaststretch_k20_whole_line_or_bar.Holds := by
  w_on; o_law
  refine HandSHeadRun.head_any (r := OpenLaw.row PySem.Challenge.rw_leaststretch_k20_whole_line_or_bar) (q := view (OpenLaw.row PySem.Challenge.rw_leaststretch_k20_whole_line_or_bar).prog [50]) (H := K20.hk) (ob := K20.ob) (M := 4000) (loose := K20.names) (d := HandSHeadRun.topDef (OpenLaw.row PySem.Challenge.rw_leaststretch_k20_whole_line_or_bar).prog 50) (kwd := []) K20.ob_eq
    (by kernel_rfl) (fun s => by kernel_rfl) K20.run (by kernel_rfl) (by kernel_rfl) (by kernel_rfl) (by rfl) (by first | assumption | decide +kernel) (by decide +kernel) ⟨rfl, rfl, rfl, rfl, rfl, by decide +kernel⟩ ?hw ?hc
  case hw => w_witness2
  case hc =>
    refine Tr.walk_ofG (l := PySem.Challenge.rw_leaststretch_k20_whole_line_or_bar) (n := 63) (k := 52) (x := "_law_script") (CX := L2.CX0) rfl (by decide) (by kernel_rfl) ⟨rfl, by decide, by decide⟩ ?F (fun _ _ _ _ z => z)
    intro w mg fa h Y G hmg0
    obtain ⟨K, KX, c⟩ := Y
    have hmg : mg ("law" : PySem.Str) = some (.ref fa) := by
      have e : (HandSHeadRun.topDef (OpenLaw.row PySem.Challenge.rw_leaststretch_k20_whole_line_or_bar).prog 50).name = ("law" : PySem.Str) := by kernel_rfl
      rw [← e]
      exact hmg0
    exact Tr.law_walk (ct := fun _ => none) (dl := K20.d_law) (n := 41) (fn := K20.f_law) KX G c K20.bnds K20.ok rfl rfl hmg (show (Tr.build K20.gl K20.ds [])[41]? = _ by rw [K20.fns]; rfl) rfl rfl K20.law_run
