import PyProof.Rows.All
import HandS.Base
import HandS.ForExc
import HandS.ForMost
import HandS.AnyAll
import HandS.TupAny
import HandS.TupMul
import HandS.Style
import HandS.Flow
import HandS.Wide
import HandS.WideBits
import HandS.IsInst
import HandS.Rev
import HandS.Zip
import HandS.Conv
import HandS.ExcOwn
import HandS.CallLocal
import HandS.Deep
import PyProof.SumWalkG
import PyProof.WalksMore
import KE.KExcSuper
import HandS.ExcSuper
import HandS.TryOnly
import HandS.HeadHook4
import HandS.HeadWalk
import HandS.Head0
import HandS.Head1
import HandS.Head2
import HandS.Head3
import HandS.HeadEnd
import HandS.HeadHook1
import HandS.HeadHook2
import HandS.HeadHook3
import HandS.EndTab
import PySem.Challenge.RW_banktold_k10_van_and_shelf
section
/-! My own value-level Python: deep data, syntax, interpreter. No heap in sight. -/
set_option autoImplicit false
namespace Bk
open PySem (Str)

/-- deep data: fn is a def of the module (by name), scr the script -/
inductive D where
  | non
  | bl (b : Bool)
  | int (i : Int)
  | str (x : Str)
  | tup (l : List D)
  | lst (l : List D)
  | fn (x : Str)
  | scr (l : List Int)

/-- results: a value; an exception of the class c with its field; nothing told -/
inductive R (α : Type) where
  | ok (a : α)
  | ex (c : Str) (d : D)
  | bad

namespace R
def bind {α β : Type} : R α → (α → R β) → R β
  | .ok a, f => f a
  | .ex c d, _ => .ex c d
  | .bad, _ => .bad
/-- inside a comprehension nothing may be raised -/
def calm {α : Type} : R α → R α
  | .ok a => .ok a
  | _ => .bad
end R
instance : Monad R where
  pure := R.ok
  bind := R.bind
@[simp] theorem R.pure_def {α : Type} (a : α) : (pure a : R α) = R.ok a := rfl
@[simp] theorem R.bind_ok {α β : Type} (a : α) (f : α → R β) : (R.ok a >>= f) = f a := rfl
@[simp] theorem R.bind_ex {α β : Type} (c : Str) (d : D) (f : α → R β) : ((R.ex c d : R α) >>= f) = R.ex c d := rfl
@[simp] theorem R.bind_bad {α β : Type} (f : α → R β) : ((R.bad : R α) >>= f) = R.bad := rfl
@[simp] theorem R.calm_ok {α : Type} (a : α) : (R.ok a).calm = R.ok a := rfl
@[simp] theorem R.calm_bad {α : Type} : (R.bad : R α).calm = R.bad := rfl
@[simp] theorem R.calm_ex {α : Type} (c : Str) (d : D) : (R.ex c d : R α).calm = R.bad := rfl

abbrev SL : Nat := 16777216
def gd {α : Type} (b : Bool) (a : α) : R α := if b = true then .ok a else .bad
@[simp] theorem gd_true {α : Type} (a : α) : gd true a = R.ok a := rfl
theorem gd_of {α : Type} {b : Bool} {a : α} (h : b = true) : gd b a = R.ok a := by rw [h]; rfl
def mkL (l : List D) : R D := gd (decide (l.length ≤ SL)) (.lst l)
def mkT (l : List D) : R D := gd (decide (l.length ≤ SL)) (.tup l)
theorem mkL_ok {l : List D} (h : l.length ≤ SL) : mkL l = .ok (.lst l) := gd_of (decide_eq_true h)
theorem mkT_ok {l : List D} (h : l.length ≤ SL) : mkT l = .ok (.tup l) := gd_of (decide_eq_true h)

/-! ### Python's == on data -/
mutual
def eqD : D → D → Bool
  | .non, .non => true
  | .bl a, .bl b => a == b
  | .bl a, .int j => decide ((if a then (1 : Int) else 0) = j)
  | .int i, .bl b => decide (i = if b then (1 : Int) else 0)
  | .int i, .int j => decide (i = j)
  | .str x, .str y => decide (x = y)
  | .lst xs, .lst ys => eqDs xs ys
  | .tup xs, .tup ys => eqDs xs ys
  | _, _ => false
def eqDs : List D → List D → Bool
  | [], [] => true
  | x :: xs, y :: ys => eqD x y && eqDs xs ys
  | _, _ => false
end
/- plain data (no def, no script), and its depth -/
mutual
def isData : D → Bool
  | .fn _ => false
  | .scr _ => false
  | .str x => PySem.PyData.strOk x
  | .tup l => areData l
  | .lst l => areData l
  | _ => true
def areData : List D → Bool
  | [] => true
  | d :: ds => isData d && areData ds
end
mutual
def depth : D → Nat
  | .tup l => depths l + 1
  | .lst l => depths l + 1
  | _ => 0
def depths : List D → Nat
  | [] => 0
  | d :: ds => max (depth d) (depths ds)
end
def eqOk (a b : D) : Bool := isData a && isData b && decide (depth a ≤ 60) && decide (depth b ≤ 60)

/-- a value without a reference -/
def flat : D → Bool
  | .non => true
  | .bl _ => true
  | .int _ => true
  | .str _ => true
  | _ => false

/-! ### operators -/
inductive BO where
  | add | sub | mul | fdiv | mod | pow | eq | ne | lt | le | gt | ge | in_ | nin | is_ | isn
  deriving DecidableEq
def lexLt : List Int → List Int → Bool
  | [], [] => false
  | [], _ :: _ => true
  | _ :: _, [] => false
  | x :: xs, y :: ys => if x = y then lexLt xs ys else decide (x < y)
/-- the ints of a list of ints -/
def intsOf : List D → Option (List Int)
  | [] => some []
  | .int i :: r => (intsOf r).map (i :: ·)
  | _ :: _ => none
def bo : BO → D → D → R D
  | .add, .int i, .int j => .ok (.int (i + j))
  | .add, .str x, .str y => gd (decide (x.length + y.length ≤ SL)) (.str (x ++ y))
  | .add, .tup x, .tup y => mkT (x ++ y)
  | .add, .lst x, .lst y => mkL (x ++ y)
  | .sub, .int i, .int j => .ok (.int (i - j))
  | .mul, .int i, .int j => gd (decide (i.natAbs.log2 + j.natAbs.log2 < 100000000)) (.int (i * j))
  | .mul, .tup x, .int j => if j = 1 then .ok (.tup x) else gd (decide (2 ≤ j) && decide (j ≤ 1000) && decide (x.length ≤ 1000) && !x.isEmpty) (.tup (List.replicate j.toNat x).flatten)
  | .mul, .lst x, .int j => gd (decide (j ≤ 1000) && decide (-1000 ≤ j) && decide (x.length * j.toNat ≤ SL)) (.lst (List.replicate j.toNat x).flatten)
  | .fdiv, .int i, .int j => gd (decide (0 < j) && decide (j.natAbs.log2 < 9000)) (.int (i / j))
  | .mod, .int i, .int j => gd (decide (0 < j)) (.int (i % j))
  | .pow, .int i, .int j => gd (decide (0 ≤ j) && decide (j ≤ 1000) && decide (i.natAbs < 2 ^ 64)) (.int (i ^ j.toNat))
  | .eq, a, b => gd (eqOk a b) (.bl (eqD a b))
  | .ne, a, b => gd (eqOk a b) (.bl (!eqD a b))
  | .lt, .int i, .int j => .ok (.bl (decide (i < j)))
  | .le, .int i, .int j => .ok (.bl (decide (i ≤ j)))
  | .gt, .int i, .int j => .ok (.bl (decide (j < i)))
  | .ge, .int i, .int j => .ok (.bl (decide (j ≤ i)))
  | .in_, a, .tup l => gd (flat a && l.all flat) (.bl (l.any fun z => eqD z a))
  | .in_, a, .lst l => gd (eqOk a (.lst l)) (.bl (l.any fun z => eqD z a))
  | .nin, a, .tup l => gd (flat a && l.all flat) (.bl (!(l.any fun z => eqD z a)))
  | .nin, a, .lst l => gd (eqOk a (.lst l)) (.bl (!(l.any fun z => eqD z a)))
  | .is_, a, .non => .ok (.bl (match a with | .non => true | _ => false))
  | .isn, a, .non => .ok (.bl (match a with | .non => false | _ => true))
  | _, _, _ => .bad

/-! ### subscripts -/
def ixN (n : Nat) (i : Int) : Option Nat := if 0 ≤ i then (if i < n then some i.toNat else none) else if -(n : Int) ≤ i then some (i + n).toNat else none
def atI {α : Type} (xs : List α) (i : Int) : Option α := (ixN xs.length i).bind fun j => xs[j]?
def ofO {α : Type} : Option α → R α
  | some a => .ok a
  | none => .bad
@[simp] theorem ofO_some {α : Type} (a : α) : ofO (some a) = R.ok a := rfl
@[simp] theorem ofO_none {α : Type} : ofO (none : Option α) = R.bad := rfl
def ix : D → D → R D
  | .tup l, .int i => ofO (atI l i)
  | .lst l, .int i => ofO (atI l i)
  | .scr l, .int i => ofO ((atI l i).map .int)
  | _, _ => .bad
def sIx (n d : Nat) : Option Int → Nat
  | none => d
  | some v => if v < 0 then (v + (n : Int)).toNat else min v.toNat n
def cut {α : Type} (xs : List α) (lo hi : Option Int) : List α := (xs.drop (sIx xs.length 0 lo)).take (sIx xs.length xs.length hi - sIx xs.length 0 lo)
def sl : D → Option Int → Option Int → R D
  | .tup l, lo, hi => .ok (.tup (cut l lo hi))
  | .lst l, lo, hi => .ok (.lst (cut l lo hi))
  | _, _, _ => .bad
def asInt : D → R Int
  | .int i => .ok i
  | _ => .bad
def asBl : D → R Bool
  | .bl b => .ok b
  | _ => .bad
@[simp] theorem asInt_int (i : Int) : asInt (.int i) = R.ok i := rfl
@[simp] theorem asBl_bl (b : Bool) : asBl (.bl b) = R.ok b := rfl

/-! ### types, for isinstance -/
inductive Ty where
  | int | bool | str | tuple | list
  deriving DecidableEq
def isI : D → Ty → Option Bool
  | .non, _ => some false
  | .bl _, .int => some true
  | .bl _, .bool => some true
  | .bl _, _ => some false
  | .int _, .int => some true
  | .int _, _ => some false
  | .str _, .str => some true
  | .str _, _ => some false
  | .tup _, .tuple => some true
  | .tup _, _ => some false
  | .lst _, .list => some true
  | .lst _, _ => some false
  | _, _ => none
def isIs (d : D) : List Ty → Option Bool
  | [] => some false
  | t :: ts => (isI d t).bind fun b => if b = true then some true else isIs d ts

/-! ### built-in functions -/
inductive BI where
  | len | abs | max2 | min2 | int | tuple | list | sum | max1 | min1 | all1
  deriving DecidableEq
def maxL : Int → List Int → Int
  | m, [] => m
  | m, x :: r => maxL (if x > m then x else m) r
def minL : Int → List Int → Int
  | m, [] => m
  | m, x :: r => minL (if x < m then x else m) r
def seqOf : D → Option (List D)
  | .tup l => some l
  | .lst l => some l
  | _ => none
def bi : BI → List D → R D
  | .len, [.tup l] => .ok (.int l.length)
  | .len, [.lst l] => .ok (.int l.length)
  | .len, [.scr l] => .ok (.int l.length)
  | .len, [.str x] => gd (decide (x.length ≤ SL)) (.int x.length)
  | .abs, [.int i] => .ok (.int (if i < 0 then -i else i))
  | .max2, [.int i, .int j] => .ok (.int (if j > i then j else i))
  | .min2, [.int i, .int j] => .ok (.int (if j < i then j else i))
  | .int, [.int i] => .ok (.int i)
  | .tuple, [.tup l] => .ok (.tup l)
  | .tuple, [.lst l] => .ok (.tup l)
  | .list, [.tup l] => .ok (.lst l)
  | .list, [.lst l] => .ok (.lst l)
  | .sum, [.lst l] => (ofO (intsOf l)).bind fun ns => .ok (.int ns.sum)
  | .sum, [.tup l] => (ofO (intsOf l)).bind fun ns => .ok (.int ns.sum)
  | .max1, [.lst l] => (ofO (intsOf l)).bind fun ns => match ns with
    | [] => .bad
    | n :: r => .ok (.int (maxL n r))
  | .min1, [.lst l] => (ofO (intsOf l)).bind fun ns => match ns with
    | [] => .bad
    | n :: r => .ok (.int (minL n r))
  | _, _ => .bad

/-! ### the environment: slots hold nothing, a shared value, or a list that this frame alone holds -/
inductive Slot where
  | un
  | sh (d : D)
  | ow (l : List D)
abbrev En := List Slot
def get (ρ : En) (i : Nat) : R D := match ρ[i]? with
  | some (.sh d) => .ok d
  | _ => .bad
/-- borrowed: an own list may be looked at -/
def getB (ρ : En) (i : Nat) : R D := match ρ[i]? with
  | some (.sh d) => .ok d
  | some (.ow l) => .ok (.lst l)
  | _ => .bad
def frz1 : Slot → Slot
  | .ow l => .sh (.lst l)
  | s => s
/-- the slots in is are given away: shared from now on -/
def frz (is : List Nat) (ρ : En) : En := is.foldl (fun r i => match r[i]? with
  | some s => r.set i (frz1 s)
  | none => r) ρ

def truth : D → R Bool
  | .non => .ok false
  | .bl b => .ok b
  | .int i => .ok (decide (i ≠ 0))
  | .tup l => .ok (!l.isEmpty)
  | .lst l => .ok (!l.isEmpty)
  | _ => .bad
@[simp] theorem truth_bl (b : Bool) : truth (.bl b) = R.ok b := rfl

def allR (f : D → R Bool) : List D → R Bool
  | [] => .ok true
  | d :: ds => (f d).bind fun b => if b = true then allR f ds else .ok false

def boolsR (f : D → R Bool) : List D → R (List Bool)
  | [] => .ok []
  | d :: ds => (f d).bind fun b => (boolsR f ds).bind fun bs => .ok (b :: bs)
mutual
def plainD : D → Bool
  | .fn _ => false
  | .scr _ => false
  | .tup l => plainDs l
  | .lst l => plainDs l
  | _ => true
def plainDs : List D → Bool
  | [] => true
  | d :: ds => plainD d && plainDs ds
end
/-- the slots that a generator expression may look at -/
def mask (ρ : En) : En := ρ.map fun s => match s with
  | .un => .un
  | .sh d => if plainD d = true then .sh d else .un
  | .ow l => if plainDs l = true then .ow l else .un

/-! ### syntax -/
inductive Tg where
  | nm (i : Nat)
  | tp (is : List Nat)
mutual
inductive E where
  | var (i : Nat)
  | cst (d : D)
  | glb (k : Nat)
  | bin (o : BO) (a b : E)
  | neg (a : E)
  | not (a : E)
  | and (a b : E)
  | or (a b : E)
  | ite (c a b : E)
  | chn (o p : BO) (a b c : E)
  | tup (es : Es)
  | lst (es : Es)
  | idx (a i : E)
  | slc (a : E) (lo hi : Eo)
  | rvs (a : E)
  | call (k : Nat) (es : Es)
  | cll (i : Nat) (es : Es)
  | bi (f : BI) (es : Es)
  | isi (a : E) (ts : List Ty)
  | lc (e : E) (t : Tg) (it : It) (c : Eo)
  | allc (al : Bool) (e : E) (t : Nat) (it : E)
inductive Es where
  | nil
  | cons (e : E) (es : Es)
inductive Eo where
  | no
  | so (e : E)
inductive It where
  | seq (e : E)
  | rng (e : E)
  | rng2 (a b : E)
  | rev (e : E)
  | enum (e : E)
  | zip (a b : E)
end

/-! ### the interpreter -/
abbrev Fn := List D → R D
/-- the defs that a body calls (by number), the constants that it names, and the defs that stand as values (by name) -/
structure Md where
  fns : List Fn := []
  qfn : List Fn := []
  ac : Bool := false
  gls : List D := []
  val : Str → Option Fn := fun _ => none
def bw (ρ : En) (a : E) (r : R D) : R D := match a with
  | .var i => getB ρ i
  | _ => r
/-- borrowed, where b says so -/
def bwf (b : Bool) (ρ : En) (a : E) (r : R D) : R D := if b = true then bw ρ a r else r
def wipeE (ρ : En) : List Nat → En
  | [] => ρ
  | v :: vs => (wipeE ρ vs).set v .un
def unT : Tg → En → En
  | .nm i, ρ => ρ.set i .un
  | .tp is, ρ => wipeE ρ is
def setT : List Nat → List D → En → R En
  | [], [], ρ => .ok ρ
  | i :: is, d :: ds, ρ => setT is ds (ρ.set i (.sh d))
  | _, _, _ => .bad
def bindT : Tg → D → En → R En
  | .nm i, d, ρ => .ok (ρ.set i (.sh d))
  | .tp is, .tup ds, ρ => setT is ds ρ
  | _, _, _ => .bad
def comp (f : D → R (Option D)) : List D → R (List D)
  | [] => .ok []
  | d :: ds => (f d).bind fun o => (comp f ds).bind fun r => .ok (match o with
    | some x => x :: r
    | none => r)
def rngD (a b : Int) : R (List D) := gd (decide (-1000000000 ≤ a) && decide (a ≤ 1000000000) && decide (-1000000000 ≤ b) && decide (b ≤ 1000000000)) ((List.range (b - a).toNat).map fun i => .int (a + (i : Nat)))
def enumD (k : Nat) : List D → List D
  | [] => []
  | d :: ds => .tup [.int k, d] :: enumD (k + 1) ds
def zipD : List D → List D → List D
  | a :: as, b :: bs => .tup [a, b] :: zipD as bs
  | _, _ => []
mutual
def ev (M : Md) : E → En → R D
  | .var i, ρ => get ρ i
  | .cst d, _ => .ok d
  | .glb k, _ => ofO M.gls[k]?
  | .bin o a b, ρ => (bw ρ a (ev M a ρ)).bind fun x => (bw ρ b (ev M b ρ)).bind fun y => bo o x y
  | .neg a, ρ => (ev M a ρ).bind fun x => (asInt x).bind fun i => .ok (.int (-i))
  | .not a, ρ => (ev M a ρ).bind fun x => (truth x).bind fun b => .ok (.bl (!b))
  | .and a b, ρ => (ev M a ρ).bind fun x => (truth x).bind fun t => if t = true then ev M b ρ else .ok x
  | .or a b, ρ => (ev M a ρ).bind fun x => (truth x).bind fun t => if t = true then .ok x else ev M b ρ
  | .ite c a b, ρ => (ev M c ρ).bind fun x => (truth x).bind fun t => if t = true then ev M a ρ else ev M b ρ
  | .chn o p a b c, ρ => (bw ρ a (ev M a ρ)).bind fun x => (bw ρ b (ev M b ρ)).bind fun y => (bo o x y).bind fun r => (asBl r).bind fun t =>
      if t = true then (bw ρ c (ev M c ρ)).bind fun z => bo p y z else .ok (.bl false)
  | .tup es, ρ => (evs M es ρ).bind mkT
  | .lst es, ρ => (evs M es ρ).bind mkL
  | .idx a i, ρ => (bw ρ a (ev M a ρ)).bind fun x => (ev M i ρ).bind fun y => ix x y
  | .slc a lo hi, ρ => (bw ρ a (ev M a ρ)).bind fun x => (evo M lo ρ).bind fun l => (evo M hi ρ).bind fun h => sl x l h
  | .rvs a, ρ => (bw ρ a (ev M a ρ)).bind fun x => match x with
    | .tup l => .ok (.tup l.reverse)
    | .lst l => .ok (.lst l.reverse)
    | _ => .bad
  | .call k es, ρ => (evs M es ρ).bind fun ds => (ofO M.fns[k]?).bind fun f => f ds
  | .cll i es, ρ => (get ρ i).bind fun g => match g with
    | .fn x => (ofO (M.val x)).bind fun f => (evs M es ρ).bind f
    | _ => .bad
  | .bi f es, ρ => (evsB M es ρ).bind (bi f)
  | .isi a ts, ρ => (bw ρ a (ev M a ρ)).bind fun x => (ofO (isIs x ts)).bind fun b => .ok (.bl b)
  | .lc e t it c, ρ => (evIt M true it ρ).bind fun ds => (comp (fun d => ((bindT t d (unT t ρ)).bind fun ρ' => (evC M c ρ').bind fun b =>
      if b = true then (ev M e ρ').bind fun x => .ok (some x) else .ok none).calm) ds).bind mkL
  | .allc al e t it, ρ => if M.ac = false then .bad else (bw ρ it (ev M it ρ)).bind fun x => (gd (plainD x) ()).bind fun _ => (ofO (seqOf x)).bind fun ds =>
      (boolsR (fun d => ((ev { M with fns := M.qfn } e ((mask ρ).set t (.sh d))).bind asBl).calm) ds).bind fun bs => .ok (.bl (if al = true then bs.all id else bs.any id))
def evs (M : Md) : Es → En → R (List D)
  | .nil, _ => .ok []
  | .cons e es, ρ => (ev M e ρ).bind fun d => (evs M es ρ).bind fun ds => .ok (d :: ds)
def evsB (M : Md) : Es → En → R (List D)
  | .nil, _ => .ok []
  | .cons e es, ρ => (bw ρ e (ev M e ρ)).bind fun d => (evsB M es ρ).bind fun ds => .ok (d :: ds)
def evo (M : Md) : Eo → En → R (Option Int)
  | .no, _ => .ok none
  | .so e, ρ => (ev M e ρ).bind fun d => (asInt d).bind fun i => .ok (some i)
def evC (M : Md) : Eo → En → R Bool
  | .no, _ => .ok true
  | .so e, ρ => (ev M e ρ).bind truth
def evIt (M : Md) (b : Bool) : It → En → R (List D)
  | .seq e, ρ => (bwf b ρ e (ev M e ρ)).bind fun d => ofO (seqOf d)
  | .rng e, ρ => (ev M e ρ).bind fun d => (asInt d).bind fun i => rngD 0 i
  | .rng2 a c, ρ => (ev M a ρ).bind fun d => (ev M c ρ).bind fun d' => (asInt d).bind fun i => (asInt d').bind fun j => rngD i j
  | .rev e, ρ => (bwf b ρ e (ev M e ρ)).bind fun d => (ofO (seqOf d)).bind fun l => .ok l.reverse
  | .enum e, ρ => (bwf b ρ e (ev M e ρ)).bind fun d => (ofO (seqOf d)).bind fun l => .ok (enumD 0 l)
  | .zip a c, ρ => (bwf b ρ a (ev M a ρ)).bind fun d => (bwf b ρ c (ev M c ρ)).bind fun d' => (ofO (seqOf d)).bind fun l => (ofO (seqOf d')).bind fun l' => .ok (zipD l l')
end
/-- an expression whose list is new -/
def fresh : E → Bool
  | .lst _ => true
  | .lc .. => true
  | .bin .add _ _ => true
  | .bin .mul _ _ => true
  | .slc .. => true
  | .rvs _ => true
  | .bi .list _ => true
  | .ite _ a b => fresh a && fresh b
  | _ => false

/-! ### statements -/
inductive Hd where
  | retEq (s : Nat)
  | ret (d : D)
  | retAt
  | pass
mutual
inductive S where
  | asg (i : Nat) (e : E) (g : List Nat)
  | asgT (is : List Nat) (e : E) (g : List Nat)
  | asg2 (i j : Nat) (a b : E) (g : List Nat)
  | set (i : Nat) (k e : E) (g : List Nat)
  | aug (i : Nat) (o : BO) (e : E)
  | augs (i : Nat) (k : E) (o : BO) (e : E)
  | app (i : Nat) (e : E) (g : List Nat)
  | ext (i : Nat) (e : E)
  | rvs (i : Nat)
  | expr (e : E)
  | ite (c : E) (a b : Ss)
  | for_ (t : Tg) (it : It) (b : Ss) (g : List Nat)
  | whl (n : Nat) (c : E) (b : Ss)
  | ret (e : E)
  | raise (c : Str) (es : Es)
  | try_ (b : Ss) (c : Str) (i : Nat) (h : Hd)
  | pass
  | brk
  | cnt
inductive Ss where
  | nil
  | cons (s : S) (ss : Ss)
end
inductive Fl where
  | nx (ρ : En)
  | rt (d : D)
  | bk (ρ : En)
  | ct (ρ : En)
/-- a statement's end: a flow; an exception, with the slots; nothing told -/
inductive O where
  | fl (f : Fl)
  | ex (c : Str) (d : D) (ρ : En)
  | bad
def O.of (ρ : En) {α : Type} (r : R α) (f : α → O) : O := match r with
  | .ok a => f a
  | .ex c d => .ex c d ρ
  | .bad => .bad
@[simp] theorem O.of_ok (ρ : En) {α : Type} (a : α) (f : α → O) : O.of ρ (.ok a) f = f a := rfl
@[simp] theorem O.of_bad (ρ : En) {α : Type} (f : α → O) : O.of ρ (.bad : R α) f = .bad := rfl
@[simp] theorem O.of_ex (ρ : En) {α : Type} (c : Str) (d : D) (f : α → O) : O.of ρ (.ex c d : R α) f = .ex c d ρ := rfl
def O.next : O → (En → O) → O
  | .fl (.nx ρ), f => f ρ
  | o, _ => o
@[simp] theorem O.next_nx (ρ : En) (f : En → O) : (O.fl (.nx ρ)).next f = f ρ := rfl
@[simp] theorem O.next_rt (d : D) (f : En → O) : (O.fl (.rt d)).next f = .fl (.rt d) := rfl
@[simp] theorem O.next_bk (ρ : En) (f : En → O) : (O.fl (.bk ρ)).next f = .fl (.bk ρ) := rfl
@[simp] theorem O.next_ct (ρ : En) (f : En → O) : (O.fl (.ct ρ)).next f = .fl (.ct ρ) := rfl
@[simp] theorem O.next_ex (c : Str) (d : D) (ρ : En) (f : En → O) : (O.ex c d ρ).next f = .ex c d ρ := rfl
@[simp] theorem O.next_bad (f : En → O) : O.bad.next f = .bad := rfl
def all1 (ρ : En) : En := ρ.map frz1
/-- behind an expression whose value is kept: what was given away is shared, unless the value holds no reference -/
def keep (d : D) (ρ ρ1 : En) : En := if flat d = true then ρ else ρ1
def slotOf (b : Bool) (d : D) : Slot := match d with
  | .lst l => if b = true then .ow l else .sh d
  | _ => .sh d
def getO (ρ : En) (i : Nat) : R (List D) := match ρ[i]? with
  | some (.ow l) => .ok l
  | _ => .bad
def setAt (l : List D) (k : D) (d : D) : R (List D) := match k with
  | .int i => (ofO (ixN l.length i)).bind fun j => .ok (l.set j d)
  | _ => .bad
/-- for: the body by the env, over the items -/
def loop (t : Tg) (f : En → O) : List D → En → O
  | [], ρ => .fl (.nx ρ)
  | d :: ds, ρ => O.of ρ (bindT t d ρ) fun ρ' => match f ρ' with
    | .fl (.nx r) => loop t f ds r
    | .fl (.ct r) => loop t f ds r
    | .fl (.bk r) => .fl (.nx r)
    | o => o
def wloop (c : En → R Bool) (f : En → O) : Nat → En → O
  | 0, _ => .bad
  | n + 1, ρ => O.of ρ (c ρ) fun b => if b = true then (match f ρ with
    | .fl (.nx r) => wloop c f n r
    | .fl (.ct r) => wloop c f n r
    | .fl (.bk r) => .fl (.nx r)
    | o => o) else .fl (.nx ρ)
def hd (h : Hd) (i : Nat) (d : D) (ρ : En) : O := match h with
  | .retEq s => if i < ρ.length then O.of ρ (get ρ s) fun y => O.of ρ (asInt d) fun i => O.of ρ (asInt y) fun j => .fl (.rt (.bl (decide (i = j)))) else .bad
  | .ret r => .fl (.rt r)
  | .retAt => .fl (.rt d)
  | .pass => .fl (.nx (ρ.set i .un))
mutual
def run (M : Md) : S → En → O
  | .asg i e g, ρ => O.of (frz g ρ) (ev M e (frz g ρ)) fun d => .fl (.nx ((keep d ρ (frz g ρ)).set i (slotOf (fresh e) d)))
  | .asgT is e g, ρ => O.of (frz g ρ) (ev M e (frz g ρ)) fun d => O.of (frz g ρ) (bindT (.tp is) d (keep d ρ (frz g ρ))) fun r => .fl (.nx r)
  | .asg2 i j a b g, ρ => O.of (frz g ρ) (ev M a (frz g ρ)) fun x => O.of (frz g ρ) (ev M b (frz g ρ)) fun y => .fl (.nx (((frz g ρ).set i (.sh x)).set j (.sh y)))
  | .set i k e g, ρ => O.of (frz g ρ) (ev M e (frz g ρ)) fun d => O.of ρ (getO (keep d ρ (frz g ρ)) i) fun l => O.of (keep d ρ (frz g ρ)) (ev M k (keep d ρ (frz g ρ))) fun x =>
      O.of ρ (setAt l x d) fun l' => .fl (.nx ((keep d ρ (frz g ρ)).set i (.ow l')))
  | .aug i o e, ρ => O.of ρ (get ρ i) fun x => O.of ρ (ev M e ρ) fun y => O.of ρ (asInt x) fun _ => O.of ρ (bo o x y) fun r => .fl (.nx (ρ.set i (.sh r)))
  | .augs i k o e, ρ => O.of ρ (getO ρ i) fun l => O.of ρ (ev M k ρ) fun x => O.of ρ (ix (.lst l) x) fun z => O.of ρ (ev M e ρ) fun y => O.of ρ (asInt z) fun _ => O.of ρ (bo o z y) fun r =>
      O.of ρ (setAt l x r) fun l' => .fl (.nx (ρ.set i (.ow l')))
  | .app i e g, ρ => O.of ρ (getO (frz g ρ) i) fun l => O.of (frz g ρ) (ev M e (frz g ρ)) fun d => O.of ρ (mkL (l ++ [d])) fun _ => .fl (.nx ((keep d ρ (frz g ρ)).set i (.ow (l ++ [d]))))
  | .ext i e, ρ => O.of ρ (getO ρ i) fun l => O.of ρ (ev M e ρ) fun d => match d with
    | .lst l2 => O.of ρ (mkL (l ++ l2)) fun _ => .fl (.nx (ρ.set i (.ow (l ++ l2))))
    | _ => .bad
  | .rvs i, ρ => O.of ρ (getO ρ i) fun l => .fl (.nx (ρ.set i (.ow l.reverse)))
  | .expr e, ρ => O.of ρ (ev M e (all1 ρ)) fun _ => .fl (.nx ρ)
  | .ite c a b, ρ => O.of ρ ((ev M c (all1 ρ)).bind truth) fun t => if t = true then runs M a ρ else runs M b ρ
  | .for_ t it b g, ρ => O.of (frz g ρ) (evIt M false it (frz g ρ)) fun ds => loop t (runs M b) ds (frz g ρ)
  | .whl n c b, ρ => wloop (fun r => (ev M c (all1 r)).bind truth) (runs M b) n ρ
  | .ret e, ρ => O.of ρ (ev M e (all1 ρ)) fun d => .fl (.rt d)
  | .raise c es, ρ => O.of ρ (evs M es ρ) fun ds => match ds with
    | [] => .ex c .non ρ
    | [d] => if flat d = true then .ex c d ρ else .bad
    | _ => .bad
  | .try_ b c i h, ρ => match runs M b ρ with
    | .ex c' d r => if c' = c then hd h i d r else .bad
    | o => o
  | .pass, ρ => .fl (.nx ρ)
  | .brk, ρ => .fl (.bk ρ)
  | .cnt, ρ => .fl (.ct ρ)
def runs (M : Md) : Ss → En → O
  | .nil, ρ => .fl (.nx ρ)
  | .cons s ss, ρ => (run M s ρ).next (runs M ss)
end
/-- a def: so many slots, the first ones its parameters -/
def fnD (M : Md) (np n : Nat) (b : Ss) : Fn := fun ds => if ds.length = np then (match runs M b (ds.map Slot.sh ++ List.replicate (n - np) Slot.un) with
  | .fl (.nx _) => .ok .non
  | .fl (.rt d) => .ok d
  | .ex c d _ => .ex c d
  | _ => .bad) else .bad
end Bk
end
section
set_option autoImplicit false
set_option linter.all false
/-! How my data lie in the layer's heap; the frame's slots; worlds. -/
namespace Bk
open PySem L2
abbrev Str := PySem.Str

/-! ### values -/
section
variable (K : PySem.W.Frag) (mg : Str → Option Value) (Z : List Addr) (H : Hp)
mutual
def rep : D → V → Prop
  | .non, v => v = .non
  | .bl b, v => v = .bl b
  | .int i, v => v = .int i
  | .str x, v => v = .str x
  | .tup l, v => ∃ a vs, v = .ref a ∧ SqT K H a vs ∧ reps l vs
  | .lst l, v => ∃ a vs, v = .ref a ∧ a ∉ Z ∧ H a = some (.lst vs) ∧ reps l vs
  | .fn x, v => ∃ f, v = .ref f ∧ mg x = some (.ref f)
  | .scr l, v => ∃ a, v = .ref a ∧ ((a ∉ Z ∧ H a = some (.lst (l.map V.int))) ∨ (∃ o, H a = some (.frz o (.lst (l.map V.int)))) ∨ SqL K (fun _ => none) a (l.map V.int))
def reps : List D → List V → Prop
  | [], vs => vs = []
  | d :: ds, vs => ∃ v r, vs = v :: r ∧ rep d v ∧ reps ds r
end
end

/-- all but the tables stand -/
def notTb (o : HO) : Prop := ∀ ps, o ≠ .tbl ps
structure Ext (cs : List (Addr × Addr)) (H H' : Hp) : Prop where
  keep : ∀ a o, H a = some o → ∃ o', H' a = some o' ∧ (notTb o → o' = o)
  tabs : ∀ p ∈ cs, GxR.TabG H p.2 → GxR.TabG H' p.2
section
variable {cs : List (Addr × Addr)} {H H' H1 H2 : Hp}
theorem Ext.at (e : Ext cs H H') {a : Addr} {o : HO} (h : H a = some o) (n : notTb o) : H' a = some o := by
  obtain ⟨o', h1, h2⟩ := e.keep a o h
  rw [h1, h2 n]
theorem Ext.refl : Ext cs H H := ⟨fun a o h => ⟨o, h, fun _ => rfl⟩, fun _ _ h => h⟩
theorem Ext.trans (x : Ext cs H H1) (y : Ext cs H1 H2) : Ext cs H H2 := ⟨fun a o h => by
  obtain ⟨o1, h1, k1⟩ := x.keep a o h
  obtain ⟨o2, h2, k2⟩ := y.keep a o1 h1
  exact ⟨o2, h2, fun n => by rw [k2 (by rw [k1 n]; exact n), k1 n]⟩, fun p hp h => y.tabs p hp (x.tabs p hp h)⟩
theorem Ext.gone (e : Ext cs H H') {a : Addr} (h : H' a = Option.none) : H a = Option.none := by
  cases q : H a with
  | none => rfl
  | some o =>
    obtain ⟨o', h1, _⟩ := e.keep a o q
    rw [h] at h1; cases h1
theorem Ext.new {p : Addr} {o : HO} (h : H p = none) : Ext cs H (upd H p o) := ⟨fun a u q => ⟨u, by rw [upd_ne (ne_of_none q h)]; exact q, fun _ => rfl⟩, fun q _ ⟨ps, t, r⟩ => ⟨ps, by rw [upd_ne (ne_of_none t h)]; exact t, r⟩⟩
theorem ntL {vs : List V} : notTb (.lst vs) := fun _ h => nomatch h
theorem ntT {vs : List V} : notTb (.tup vs) := fun _ h => nomatch h
theorem ntF {o : Obj} {u : HO} : notTb (.frz o u) := fun _ h => nomatch h
end

section
variable {K : PySem.W.Frag} {mg : Str → Option Value} {Z Z' : List Addr} {H H' : Hp} {cs : List (Addr × Addr)}
theorem sqT_to {a : Addr} {vs : List V} (h : SqT K H a vs) (k : ∀ o, H a = some o → (∃ xs, o = .tup xs) ∨ (∃ ob u, o = .frz ob u) → H' a = some o) : SqT K H' a vs := by
  rcases h with (h | ⟨o, h⟩) | h
  · exact .inl (.inl (k _ h (.inl ⟨_, rfl⟩)))
  · exact .inl (.inr ⟨o, k _ h (.inr ⟨_, _, rfl⟩)⟩)
  · exact .inr h
theorem sqL_to {a : Addr} {vs : List V} (h : SqL K H a vs) (k : ∀ o, H a = some o → (∃ xs, o = .lst xs) ∨ (∃ ob u, o = .frz ob u) → H' a = some o) : SqL K H' a vs := by
  rcases h with (h | ⟨o, h⟩) | h
  · exact .inl (.inl (k _ h (.inl ⟨_, rfl⟩)))
  · exact .inl (.inr ⟨o, k _ h (.inr ⟨_, _, rfl⟩)⟩)
  · exact .inr h
mutual
theorem rep_to (kt : ∀ a o, H a = some o → (∃ xs, o = .tup xs) ∨ (∃ ob u, o = .frz ob u) → H' a = some o)
    (kl : ∀ a xs, a ∉ Z → H a = some (.lst xs) → a ∉ Z' ∧ H' a = some (.lst xs)) : ∀ (d : D) (v : V), rep K mg Z H d v → rep K mg Z' H' d v
  | .non, _, h => h
  | .bl _, _, h => h
  | .int _, _, h => h
  | .str _, _, h => h
  | .fn _, _, h => h
  | .tup l, v, h => by
    obtain ⟨a, vs, e, h1, h2⟩ := h
    exact ⟨a, vs, e, sqT_to h1 (kt a), reps_to kt kl l vs h2⟩
  | .lst l, v, h => by
    obtain ⟨a, vs, e, h0, h1, h2⟩ := h
    obtain ⟨q0, q1⟩ := kl a vs h0 h1
    exact ⟨a, vs, e, q0, q1, reps_to kt kl l vs h2⟩
  | .scr l, v, h => by
    obtain ⟨a, e, h1⟩ := h
    refine ⟨a, e, ?_⟩
    rcases h1 with ⟨h0, h1⟩ | ⟨o, h1⟩ | h1
    · exact .inl (kl a _ h0 h1)
    · exact .inr (.inl ⟨o, kt a _ h1 (.inr ⟨_, _, rfl⟩)⟩)
    · exact .inr (.inr h1)
theorem reps_to (kt : ∀ a o, H a = some o → (∃ xs, o = .tup xs) ∨ (∃ ob u, o = .frz ob u) → H' a = some o)
    (kl : ∀ a xs, a ∉ Z → H a = some (.lst xs) → a ∉ Z' ∧ H' a = some (.lst xs)) : ∀ (ds : List D) (vs : List V), reps K mg Z H ds vs → reps K mg Z' H' ds vs
  | [], _, h => h
  | d :: ds, vs, h => by
    obtain ⟨v, r, e, h1, h2⟩ := h
    exact ⟨v, r, e, rep_to kt kl d v h1, reps_to kt kl ds r h2⟩
end
theorem kt_ext (e : Ext cs H H') : ∀ a o, H a = some o → (∃ xs, o = .tup xs) ∨ (∃ ob u, o = .frz ob u) → H' a = some o := fun a o h r => by
  rcases r with ⟨xs, rfl⟩ | ⟨ob, u, rfl⟩
  · exact e.at h ntT
  · exact e.at h ntF
theorem rep_ext (e : Ext cs H H') {d : D} {v : V} (h : rep K mg Z H d v) : rep K mg Z H' d v := rep_to (kt_ext e) (fun _ _ n q => ⟨n, e.at q ntL⟩) d v h
theorem reps_ext (e : Ext cs H H') {d : List D} {v : List V} (h : reps K mg Z H d v) : reps K mg Z H' d v := reps_to (kt_ext e) (fun _ _ n q => ⟨n, e.at q ntL⟩) d v h
/-- fewer addresses are kept away -/
theorem rep_sub (e : ∀ a, a ∈ Z' → a ∈ Z) {d : D} {v : V} (h : rep K mg Z H d v) : rep K mg Z' H d v := rep_to (fun _ _ q _ => q) (fun a _ n q => ⟨fun z => n (e a z), q⟩) d v h
theorem reps_sub (e : ∀ a, a ∈ Z' → a ∈ Z) {d : List D} {v : List V} (h : reps K mg Z H d v) : reps K mg Z' H d v := reps_to (fun _ _ q _ => q) (fun a _ n q => ⟨fun z => n (e a z), q⟩) d v h
/-- a new object at p is kept away too -/
theorem rep_new {p : Addr} {o : HO} (hp : H p = none) {d : D} {v : V} (h : rep K mg Z H d v) : rep K mg (p :: Z) (upd H p o) d v :=
  rep_to (fun a _ q _ => by rw [upd_ne (ne_of_none q hp)]; exact q) (fun a _ n q => ⟨fun z => by
    rcases List.mem_cons.mp z with z | z
    · exact ne_of_none q hp z
    · exact n z, by rw [upd_ne (ne_of_none q hp)]; exact q⟩) d v h
theorem reps_new {p : Addr} {o : HO} (hp : H p = none) {d : List D} {v : List V} (h : reps K mg Z H d v) : reps K mg (p :: Z) (upd H p o) d v :=
  reps_to (fun a _ q _ => by rw [upd_ne (ne_of_none q hp)]; exact q) (fun a _ n q => ⟨fun z => by
    rcases List.mem_cons.mp z with z | z
    · exact ne_of_none q hp z
    · exact n z, by rw [upd_ne (ne_of_none q hp)]; exact q⟩) d v h
/-- an own list is written -/
theorem rep_put {p : Addr} {xs : List V} {o : HO} (hp : H p = some (.lst xs)) (hz : p ∈ Z) {d : D} {v : V} (h : rep K mg Z H d v) : rep K mg Z (upd H p o) d v :=
  rep_to (fun a u q r => by
    rw [upd_ne (fun z => ?_)]; exact q
    subst z; rw [hp] at q; cases q
    rcases r with ⟨_, r⟩ | ⟨_, _, r⟩ <;> cases r) (fun a _ n q => ⟨n, (upd_ne (H := H) (a := p) (b := a) (o := o) (fun z => n (by rw [z]; exact hz))).trans q⟩) d v h
theorem reps_put {p : Addr} {xs : List V} {o : HO} (hp : H p = some (.lst xs)) (hz : p ∈ Z) {d : List D} {v : List V} (h : reps K mg Z H d v) : reps K mg Z (upd H p o) d v :=
  reps_to (fun a u q r => by
    rw [upd_ne (fun z => ?_)]; exact q
    subst z; rw [hp] at q; cases q
    rcases r with ⟨_, r⟩ | ⟨_, _, r⟩ <;> cases r) (fun a _ n q => ⟨n, (upd_ne (H := H) (a := p) (b := a) (o := o) (fun z => n (by rw [z]; exact hz))).trans q⟩) d v h

/-! ### lists of values -/
theorem reps_len : ∀ {ds : List D} {vs : List V}, reps K mg Z H ds vs → vs.length = ds.length
  | [], _, h => by rw [show _ = [] from h]; rfl
  | d :: ds, vs, h => by
    obtain ⟨v, r, rfl, _, h2⟩ := h
    rw [List.length_cons, List.length_cons, reps_len h2]
theorem reps_at : ∀ {ds : List D} {vs : List V} {i : Nat} {d : D}, reps K mg Z H ds vs → ds[i]? = some d → ∃ v, vs[i]? = some v ∧ rep K mg Z H d v
  | [], _, _, _, _, q => by simp at q
  | d :: ds, vs, 0, e, h, q => by
    obtain ⟨v, r, rfl, h1, _⟩ := h
    simp at q; subst q
    exact ⟨v, by simp, h1⟩
  | d :: ds, vs, i + 1, e, h, q => by
    obtain ⟨v, r, rfl, _, h2⟩ := h
    simp at q
    obtain ⟨u, hu, hr⟩ := reps_at h2 q
    exact ⟨u, by simpa using hu, hr⟩
theorem reps_app : ∀ {ds es : List D} {vs us : List V}, reps K mg Z H ds vs → reps K mg Z H es us → reps K mg Z H (ds ++ es) (vs ++ us)
  | [], _, _, _, h, k => by rw [show _ = [] from h]; exact k
  | d :: ds, _, _, _, h, k => by
    obtain ⟨v, r, rfl, h1, h2⟩ := h
    exact ⟨v, _, rfl, h1, reps_app h2 k⟩
theorem reps_one {d : D} {v : V} (h : rep K mg Z H d v) : reps K mg Z H [d] [v] := ⟨v, [], rfl, h, rfl⟩
theorem reps_take : ∀ {ds : List D} {vs : List V} (n : Nat), reps K mg Z H ds vs → reps K mg Z H (ds.take n) (vs.take n)
  | _, _, 0, _ => by simp [reps]
  | [], _, n + 1, h => by rw [show _ = [] from h]; rfl
  | d :: ds, _, n + 1, h => by
    obtain ⟨v, r, rfl, h1, h2⟩ := h
    exact ⟨v, _, rfl, h1, reps_take n h2⟩
theorem reps_drop : ∀ {ds : List D} {vs : List V} (n : Nat), reps K mg Z H ds vs → reps K mg Z H (ds.drop n) (vs.drop n)
  | _, _, 0, h => h
  | [], _, n + 1, h => by rw [show _ = [] from h]; rfl
  | d :: ds, _, n + 1, h => by
    obtain ⟨v, r, rfl, h1, h2⟩ := h
    exact reps_drop n h2
theorem reps_rev : ∀ {ds : List D} {vs : List V}, reps K mg Z H ds vs → reps K mg Z H ds.reverse vs.reverse
  | [], _, h => by rw [show _ = [] from h]; rfl
  | d :: ds, _, h => by
    obtain ⟨v, r, rfl, h1, h2⟩ := h
    rw [List.reverse_cons, List.reverse_cons]
    exact reps_app (reps_rev h2) (reps_one h1)
theorem reps_set : ∀ {ds : List D} {vs : List V} {d : D} {v : V} (n : Nat), reps K mg Z H ds vs → rep K mg Z H d v → reps K mg Z H (ds.set n d) (vs.set n v)
  | [], _, _, _, n, h, _ => by rw [show _ = [] from h]; cases n <;> rfl
  | d :: ds, _, _, _, 0, h, k => by
    obtain ⟨v, r, rfl, h1, h2⟩ := h
    exact ⟨_, _, rfl, k, h2⟩
  | d :: ds, _, _, _, n + 1, h, k => by
    obtain ⟨v, r, rfl, h1, h2⟩ := h
    exact ⟨_, _, rfl, h1, reps_set n h2 k⟩
theorem reps_repl {ds : List D} {vs : List V} (h : reps K mg Z H ds vs) : ∀ n : Nat, reps K mg Z H (List.replicate n ds).flatten (List.replicate n vs).flatten
  | 0 => rfl
  | n + 1 => by
    rw [List.replicate_succ, List.replicate_succ, List.flatten_cons, List.flatten_cons]
    exact reps_app h (reps_repl h n)
theorem reps_ints : ∀ {ds : List D} {vs : List V} {ns : List Int}, reps K mg Z H ds vs → intsOf ds = some ns → vs = ns.map V.int
  | [], _, _, h, q => by
    rw [show _ = [] from h]
    simp [intsOf] at q; subst q; rfl
  | .int i :: ds, vs, ns, h, q => by
    obtain ⟨v, r, rfl, h1, h2⟩ := h
    simp only [intsOf, Option.map_eq_some_iff] at q
    obtain ⟨ms, q1, rfl⟩ := q
    rw [reps_ints h2 q1, show v = V.int i from h1]; rfl
  | .non :: _, _, _, _, q => by simp [intsOf] at q
  | .bl _ :: _, _, _, _, q => by simp [intsOf] at q
  | .str _ :: _, _, _, _, q => by simp [intsOf] at q
  | .tup _ :: _, _, _, _, q => by simp [intsOf] at q
  | .lst _ :: _, _, _, _, q => by simp [intsOf] at q
  | .fn _ :: _, _, _, _, q => by simp [intsOf] at q
  | .scr _ :: _, _, _, _, q => by simp [intsOf] at q
theorem rep_flat {d : D} {v : V} (f : flat d = true) (h : rep K mg Z H d v) {K' : PySem.W.Frag} {mg' : Str → Option Value} {Z' : List Addr} {H' : Hp} : rep K' mg' Z' H' d v := by
  cases d <;> first | exact h | (simp [flat] at f)

/-! ### worlds: the heap, the lists of the frame alone, the callers' -/
structure Wd where
  H : Hp
  A : List Addr
  C : List Addr
abbrev Wd.zs (W : Wd) : List Addr := W.A ++ W.C
structure Wd.Ok (cs : List (Addr × Addr)) (W : Wd) : Prop where
  own : ∀ a ∈ W.A ++ W.C, ∃ vs, W.H a = some (.lst vs)
  apart : ∀ a ∈ W.A, a ∉ W.C
  tabs : ∀ p ∈ cs, GxR.TabG W.H p.2
structure Wd.Le (cs : List (Addr × Addr)) (W W' : Wd) : Prop where
  c : W'.C = W.C
  new : ∀ a ∈ W'.A, a ∈ W.A ∨ W.H a = none
  keep : ∀ a o, W.H a = some o → a ∉ W.A → ∃ o', W'.H a = some o' ∧ (notTb o → o' = o)
theorem Wd.Ok.ext {W : Wd} (k : W.Ok cs) (e : Ext cs W.H H') : Wd.Ok cs ⟨H', W.A, W.C⟩ := ⟨fun a h => by
  obtain ⟨vs, q⟩ := k.own a h
  exact ⟨vs, e.at q ntL⟩, k.apart, fun p hp => e.tabs p hp (k.tabs p hp)⟩
theorem Wd.Le.refl {W : Wd} : W.Le cs W := ⟨rfl, fun _ h => .inl h, fun a o h _ => ⟨o, h, fun _ => rfl⟩⟩
theorem Wd.Le.trans {W W1 W2 : Wd} (x : W.Le cs W1) (y : W1.Le cs W2) : W.Le cs W2 := by
  refine ⟨y.c.trans x.c, fun a h => ?_, fun a o h n => ?_⟩
  · rcases y.new a h with q | q
    · exact x.new a q
    · by_cases m : a ∈ W.A
      · exact .inl m
      · right
        cases r : W.H a with
        | none => rfl
        | some o =>
          obtain ⟨o', h1, _⟩ := x.keep a o r m
          rw [q] at h1; cases h1
  · obtain ⟨o1, h1, k1⟩ := x.keep a o h n
    have n1 : a ∉ W1.A := fun m => by
      rcases x.new a m with q | q
      · exact n q
      · rw [h] at q; cases q
    obtain ⟨o2, h2, k2⟩ := y.keep a o1 h1 n1
    exact ⟨o2, h2, fun t => by rw [k2 (by rw [k1 t]; exact t), k1 t]⟩
theorem Wd.Le.ext {W : Wd} (e : Ext cs W.H H') {A' : List Addr} (s : ∀ a ∈ A', a ∈ W.A) : W.Le cs ⟨H', A', W.C⟩ := ⟨rfl, fun a h => .inl (s a h), fun a o h _ => e.keep a o h⟩
theorem Wd.Le.toExt {W W' : Wd} (x : W.Le cs W') (n : W.A = []) (k : W'.Ok cs) : Ext cs W.H W'.H := ⟨fun a o h => x.keep a o h (by rw [n]; simp), fun p hp _ => k.tabs p hp⟩
theorem rep_le {W W' : Wd} (k : W.Ok cs) (x : W.Le cs W') {d : D} {v : V} (h : rep K mg W.zs W.H d v) : rep K mg W'.zs W'.H d v := by
  refine rep_to (fun a o q r => ?_) (fun a xs n q => ?_) d v h
  · have nA : a ∉ W.A := fun m => by
      obtain ⟨vs, z⟩ := k.own a (List.mem_append_left _ m)
      rw [q] at z; cases z
      rcases r with ⟨_, r⟩ | ⟨_, _, r⟩ <;> cases r
    obtain ⟨o', h1, h2⟩ := x.keep a o q nA
    rw [h1, h2 (by rcases r with ⟨_, rfl⟩ | ⟨_, _, rfl⟩; exact ntT; exact ntF)]
  · have nA : a ∉ W.A := fun m => n (List.mem_append_left _ m)
    obtain ⟨o', h1, h2⟩ := x.keep a _ q nA
    refine ⟨fun m => ?_, by rw [h1, h2 ntL]⟩
    rcases List.mem_append.mp m with m | m
    · rcases x.new a m with z | z
      · exact nA z
      · rw [q] at z; cases z
    · rw [x.c] at m
      exact n (List.mem_append_right _ m)

/-! ### the frame's slots -/
structure EnvR (K : PySem.W.Frag) (mg : Str → Option Value) (W : Wd) (σ : L2.St) (ρ : En) : Prop where
  len : ρ.length ≤ σ.length
  sh : ∀ (i : Nat) (d : D), ρ[i]? = some (.sh d) → ∃ v, σ[i]? = some (some v) ∧ rep K mg W.zs W.H d v
  ow : ∀ (i : Nat) (l : List D), ρ[i]? = some (.ow l) → ∃ a vs, σ[i]? = some (some (.ref a)) ∧ a ∈ W.A ∧ W.H a = some (.lst vs) ∧ reps K mg W.zs W.H l vs
  inj : ∀ (i j : Nat) (l l' : List D) (a : Addr), ρ[i]? = some (.ow l) → ρ[j]? = some (.ow l') → σ[i]? = some (some (.ref a)) → σ[j]? = some (some (.ref a)) → i = j
theorem EnvR.ext {W : Wd} {σ : L2.St} {ρ : En} (r : EnvR K mg W σ ρ) (e : Ext cs W.H H') : EnvR K mg ⟨H', W.A, W.C⟩ σ ρ :=
  ⟨r.len, fun i d h => by
    obtain ⟨v, h1, h2⟩ := r.sh i d h
    exact ⟨v, h1, rep_ext e h2⟩, fun i l h => by
    obtain ⟨a, vs, h1, h2, h3, h4⟩ := r.ow i l h
    exact ⟨a, vs, h1, h2, e.at h3 ntL, reps_ext e h4⟩, r.inj⟩
/-- one slot is given away -/
theorem EnvR.frz1 {W : Wd} {σ : L2.St} {ρ : En} (r : EnvR K mg W σ ρ) (k : W.Ok cs) (i : Nat) (s : Slot) (hs : ρ[i]? = some s) :
    ∃ A', (∀ a ∈ A', a ∈ W.A) ∧ EnvR K mg ⟨W.H, A', W.C⟩ σ (ρ.set i (Bk.frz1 s)) := by
  have hi : i < ρ.length := by
    rcases Nat.lt_or_ge i ρ.length with h | h
    · exact h
    · rw [List.getElem?_eq_none h] at hs; cases hs
  cases s with
  | un =>
    refine ⟨W.A, fun _ h => h, ?_⟩
    have e : ρ.set i (Bk.frz1 .un) = ρ := by
      apply List.ext_getElem?; intro j
      by_cases hj : i = j
      · subst hj; rw [List.getElem?_set_self hi, hs]; rfl
      · rw [List.getElem?_set_ne hj]
    rw [e]; exact r
  | sh d =>
    refine ⟨W.A, fun _ h => h, ?_⟩
    have e : ρ.set i (Bk.frz1 (.sh d)) = ρ := by
      apply List.ext_getElem?; intro j
      by_cases hj : i = j
      · subst hj; rw [List.getElem?_set_self hi, hs]; rfl
      · rw [List.getElem?_set_ne hj]
    rw [e]; exact r
  | ow l =>
    obtain ⟨a, vs, h1, h2, h3, h4⟩ := r.ow i l hs
    have sub : ∀ b ∈ W.A.filter (fun b => decide (b ≠ a)), b ∈ W.A := fun b h => (List.mem_filter.mp h).1
    have subZ : ∀ b, b ∈ (W.A.filter (fun b => decide (b ≠ a))) ++ W.C → b ∈ W.A ++ W.C := fun b h => by
      rcases List.mem_append.mp h with h | h
      · exact List.mem_append_left _ (sub b h)
      · exact List.mem_append_right _ h
    refine ⟨W.A.filter fun b => decide (b ≠ a), sub, ?_, fun j d hj => ?_, fun j m hj => ?_, fun j j' m m' b h5 h6 h7 h8 => ?_⟩
    · rw [List.length_set]; exact r.len
    · by_cases e : i = j
      · subst e
        rw [List.getElem?_set_self hi] at hj
        have hj' : Slot.sh (D.lst l) = .sh d := Option.some.inj hj
        cases hj'
        refine ⟨.ref a, h1, a, vs, rfl, fun z => ?_, h3, reps_sub subZ h4⟩
        rcases List.mem_append.mp z with z | z
        · have := (List.mem_filter.mp z).2
          simp at this
        · exact k.apart a h2 z
      · rw [List.getElem?_set_ne e] at hj
        obtain ⟨v, q1, q2⟩ := r.sh j d hj
        exact ⟨v, q1, rep_sub subZ q2⟩
    · by_cases e : i = j
      · subst e
        rw [List.getElem?_set_self hi] at hj
        cases (Option.some.inj hj)
      · rw [List.getElem?_set_ne e] at hj
        obtain ⟨b, ws, q1, q2, q3, q4⟩ := r.ow j m hj
        refine ⟨b, ws, q1, List.mem_filter.mpr ⟨q2, decide_eq_true fun z => ?_⟩, q3, reps_sub subZ q4⟩
        subst z
        exact e (r.inj i j l m b hs hj h1 q1)
    · have n1 : i ≠ j := fun e => by
        subst e
        rw [List.getElem?_set_self hi] at h5
        cases (Option.some.inj h5)
      have n2 : i ≠ j' := fun e => by
        subst e
        rw [List.getElem?_set_self hi] at h6
        cases (Option.some.inj h6)
      rw [List.getElem?_set_ne n1] at h5
      rw [List.getElem?_set_ne n2] at h6
      exact r.inj j j' m m' b h5 h6 h7 h8
theorem Wd.Ok.less {W : Wd} (k : W.Ok cs) {A' : List Addr} (s : ∀ a ∈ A', a ∈ W.A) : Wd.Ok cs ⟨W.H, A', W.C⟩ := ⟨fun a h => by
  rcases List.mem_append.mp h with h | h
  · exact k.own a (List.mem_append_left _ (s a h))
  · exact k.own a (List.mem_append_right _ h), fun a h => k.apart a (s a h), k.tabs⟩
theorem EnvR.frz : ∀ (is : List Nat) {W : Wd} {σ : L2.St} {ρ : En}, EnvR K mg W σ ρ → W.Ok cs → ∃ A', (∀ a ∈ A', a ∈ W.A) ∧ EnvR K mg ⟨W.H, A', W.C⟩ σ (Bk.frz is ρ)
  | [], W, _, _, r, _ => ⟨W.A, fun _ h => h, r⟩
  | i :: is, W, σ, ρ, r, k => by
    unfold Bk.frz
    rw [List.foldl_cons]
    cases q : ρ[i]? with
    | none => exact EnvR.frz is r k
    | some s =>
      obtain ⟨A1, s1, r1⟩ := r.frz1 k i s q
      obtain ⟨A2, s2, r2⟩ := EnvR.frz is r1 (k.less s1)
      exact ⟨A2, fun a h => s1 a (s2 a h), r2⟩
/-- all slots are given away -/
theorem EnvR.all1 {W : Wd} {σ : L2.St} {ρ : En} (r : EnvR K mg W σ ρ) (k : W.Ok cs) : EnvR K mg ⟨W.H, [], W.C⟩ σ (Bk.all1 ρ) := by
  have subZ : ∀ b, b ∈ ([] : List Addr) ++ W.C → b ∈ W.A ++ W.C := fun b h => List.mem_append_right _ (by simpa using h)
  refine ⟨by unfold Bk.all1; rw [List.length_map]; exact r.len, fun i d h => ?_, fun i l h => ?_, fun i j l l' a h _ _ _ => ?_⟩
  · unfold Bk.all1 at h
    rw [List.getElem?_map, Option.map_eq_some_iff] at h
    obtain ⟨s, h1, h2⟩ := h
    cases s with
    | un => cases h2
    | sh d' =>
      cases h2
      obtain ⟨v, q1, q2⟩ := r.sh i _ h1
      exact ⟨v, q1, rep_sub subZ q2⟩
    | ow l =>
      cases h2
      obtain ⟨a, vs, q1, q2, q3, q4⟩ := r.ow i _ h1
      exact ⟨.ref a, q1, a, vs, rfl, fun z => k.apart a q2 (by simpa using z), q3, reps_sub subZ q4⟩
  · unfold Bk.all1 at h
    rw [List.getElem?_map, Option.map_eq_some_iff] at h
    obtain ⟨s, _, h2⟩ := h
    cases s <;> cases h2
  · unfold Bk.all1 at h
    rw [List.getElem?_map, Option.map_eq_some_iff] at h
    obtain ⟨s, _, h2⟩ := h
    cases s <;> cases h2
/-- a slot is set to a shared value -/
theorem EnvR.setSh {W : Wd} {σ : L2.St} {ρ : En} (r : EnvR K mg W σ ρ) (i : Nat) {d : D} {v : V} (h : rep K mg W.zs W.H d v) : EnvR K mg W (σ.set i (some v)) (ρ.set i (.sh d)) := by
  refine ⟨by rw [List.length_set, List.length_set]; exact r.len, fun j d' hj => ?_, fun j l hj => ?_, fun j j' l l' a h1 h2 h3 h4 => ?_⟩
  · by_cases e : i = j
    · subst e
      by_cases hi : i < ρ.length
      · rw [List.getElem?_set_self hi] at hj
        cases (Option.some.inj hj)
        exact ⟨v, List.getElem?_set_self (Nat.lt_of_lt_of_le hi r.len), h⟩
      · rw [List.getElem?_eq_none (by rw [List.length_set]; omega)] at hj; cases hj
    · rw [List.getElem?_set_ne e] at hj
      obtain ⟨u, q1, q2⟩ := r.sh j d' hj
      exact ⟨u, by rw [List.getElem?_set_ne e]; exact q1, q2⟩
  · by_cases e : i = j
    · subst e
      by_cases hi : i < ρ.length
      · rw [List.getElem?_set_self hi] at hj
        cases (Option.some.inj hj)
      · rw [List.getElem?_eq_none (by rw [List.length_set]; omega)] at hj; cases hj
    · rw [List.getElem?_set_ne e] at hj
      obtain ⟨a, vs, q1, q2⟩ := r.ow j l hj
      exact ⟨a, vs, by rw [List.getElem?_set_ne e]; exact q1, q2⟩
  · have go : ∀ {m : Nat} {l0 : List D}, (ρ.set i (.sh d))[m]? = some (.ow l0) → i ≠ m ∧ ρ[m]? = some (.ow l0) := fun {m l0} hm => by
      by_cases e : i = m
      · subst e
        by_cases hi : i < ρ.length
        · rw [List.getElem?_set_self hi] at hm
          cases (Option.some.inj hm)
        · rw [List.getElem?_eq_none (by rw [List.length_set]; omega)] at hm; cases hm
      · rw [List.getElem?_set_ne e] at hm
        exact ⟨e, hm⟩
    obtain ⟨e1, g1⟩ := go h1
    obtain ⟨e2, g2⟩ := go h2
    rw [List.getElem?_set_ne e1] at h3
    rw [List.getElem?_set_ne e2] at h4
    exact r.inj j j' l l' a g1 g2 h3 h4
/-- a slot is emptied -/
theorem EnvR.setUn {W : Wd} {σ : L2.St} {ρ : En} (r : EnvR K mg W σ ρ) (i : Nat) (o : Option V) : EnvR K mg W (σ.set i o) (ρ.set i .un) := by
  have go : ∀ {m : Nat} {s : Slot}, s ≠ .un → (ρ.set i .un)[m]? = some s → i ≠ m ∧ ρ[m]? = some s := fun {m s} hs hm => by
    by_cases e : i = m
    · subst e
      by_cases hi : i < ρ.length
      · rw [List.getElem?_set_self hi] at hm
        exact absurd (Option.some.inj hm).symm hs
      · rw [List.getElem?_eq_none (by rw [List.length_set]; omega)] at hm; cases hm
    · rw [List.getElem?_set_ne e] at hm
      exact ⟨e, hm⟩
  refine ⟨by rw [List.length_set, List.length_set]; exact r.len, fun j d' hj => ?_, fun j l hj => ?_, fun j j' l l' a h1 h2 h3 h4 => ?_⟩
  · obtain ⟨e, g⟩ := go (by intro z; cases z) hj
    obtain ⟨u, q1, q2⟩ := r.sh j d' g
    exact ⟨u, by rw [List.getElem?_set_ne e]; exact q1, q2⟩
  · obtain ⟨e, g⟩ := go (by intro z; cases z) hj
    obtain ⟨a, vs, q1, q2⟩ := r.ow j l g
    exact ⟨a, vs, by rw [List.getElem?_set_ne e]; exact q1, q2⟩
  · obtain ⟨e1, g1⟩ := go (by intro z; cases z) h1
    obtain ⟨e2, g2⟩ := go (by intro z; cases z) h2
    rw [List.getElem?_set_ne e1] at h3
    rw [List.getElem?_set_ne e2] at h4
    exact r.inj j j' l l' a g1 g2 h3 h4
/-- a slot is set to a list of the frame's own: a is at no other slot -/
theorem EnvR.setOw {W : Wd} {σ : L2.St} {ρ : En} (r : EnvR K mg W σ ρ) (i : Nat) {l : List D} {a : Addr} {vs : List V} (hA : a ∈ W.A) (hH : W.H a = some (.lst vs)) (h : reps K mg W.zs W.H l vs)
    (no : ∀ j m, j ≠ i → ρ[j]? = some (.ow m) → σ[j]? ≠ some (some (.ref a))) : EnvR K mg W (σ.set i (some (.ref a))) (ρ.set i (.ow l)) := by
  have at_ : ∀ {j : Nat} {s : Slot}, (ρ.set i (.ow l))[j]? = some s → (i = j ∧ i < ρ.length ∧ s = .ow l) ∨ (i ≠ j ∧ ρ[j]? = some s) := fun {j s} hj => by
    by_cases e : i = j
    · subst e
      by_cases hi : i < ρ.length
      · rw [List.getElem?_set_self hi] at hj
        exact .inl ⟨rfl, hi, (Option.some.inj hj).symm⟩
      · rw [List.getElem?_eq_none (by rw [List.length_set]; omega)] at hj; cases hj
    · rw [List.getElem?_set_ne e] at hj
      exact .inr ⟨e, hj⟩
  refine ⟨by rw [List.length_set, List.length_set]; exact r.len, fun j d' hj => ?_, fun j m hj => ?_, fun j j' m m' b h1 h2 h3 h4 => ?_⟩
  · rcases at_ hj with ⟨_, _, z⟩ | ⟨e, g⟩
    · cases z
    · obtain ⟨u, q1, q2⟩ := r.sh j d' g
      exact ⟨u, by rw [List.getElem?_set_ne e]; exact q1, q2⟩
  · rcases at_ hj with ⟨e, hi, z⟩ | ⟨e, g⟩
    · cases z
      subst e
      exact ⟨a, vs, List.getElem?_set_self (Nat.lt_of_lt_of_le hi r.len), hA, hH, h⟩
    · obtain ⟨b, ws, q1, q2⟩ := r.ow j m g
      exact ⟨b, ws, by rw [List.getElem?_set_ne e]; exact q1, q2⟩
  · rcases at_ h1 with ⟨e1, hi1, z1⟩ | ⟨e1, g1⟩
    · rcases at_ h2 with ⟨e2, _, _⟩ | ⟨e2, g2⟩
      · rw [← e1, ← e2]
      · subst e1
        rw [List.getElem?_set_self (Nat.lt_of_lt_of_le hi1 r.len)] at h3
        have eb : a = b := by cases h3; rfl
        rw [List.getElem?_set_ne e2] at h4
        exact absurd (eb ▸ h4) (no j' m' (Ne.symm e2) g2)
    · rw [List.getElem?_set_ne e1] at h3
      rcases at_ h2 with ⟨e2, hi2, _⟩ | ⟨e2, g2⟩
      · subst e2
        rw [List.getElem?_set_self (Nat.lt_of_lt_of_le hi2 r.len)] at h4
        have eb : a = b := by cases h4; rfl
        exact absurd (eb ▸ h3) (no j m (Ne.symm e1) g1)
      · rw [List.getElem?_set_ne e2] at h4
        exact r.inj j j' m m' b g1 g2 h3 h4
/-- the list at an own slot is written -/
theorem EnvR.put {W : Wd} {σ : L2.St} {ρ : En} (r : EnvR K mg W σ ρ) (i : Nat) {l l' : List D} {a : Addr} {vs ws : List V} (hi : ρ[i]? = some (.ow l)) (hσ : σ[i]? = some (some (.ref a))) (hA : a ∈ W.A) (hH : W.H a = some (.lst vs))
    (h : reps K mg W.zs W.H l' ws) : EnvR K mg ⟨upd W.H a (.lst ws), W.A, W.C⟩ σ (ρ.set i (.ow l')) := by
  have hZ : a ∈ W.A ++ W.C := List.mem_append_left _ hA
  have hlt : i < ρ.length := by
    rcases Nat.lt_or_ge i ρ.length with q | q
    · exact q
    · rw [List.getElem?_eq_none q] at hi; cases hi
  have at_ : ∀ {j : Nat} {s : Slot}, (ρ.set i (.ow l'))[j]? = some s → (i = j ∧ s = .ow l') ∨ (i ≠ j ∧ ρ[j]? = some s) := fun {j s} hj => by
    by_cases e : i = j
    · subst e
      rw [List.getElem?_set_self hlt] at hj
      exact .inl ⟨rfl, (Option.some.inj hj).symm⟩
    · rw [List.getElem?_set_ne e] at hj
      exact .inr ⟨e, hj⟩
  refine ⟨by rw [List.length_set]; exact r.len, fun j d' hj => ?_, fun j m hj => ?_, fun j j' m m' b h1 h2 h3 h4 => ?_⟩
  · rcases at_ hj with ⟨_, z⟩ | ⟨e, g⟩
    · cases z
    · obtain ⟨u, q1, q2⟩ := r.sh j d' g
      exact ⟨u, q1, rep_put hH hZ q2⟩
  · rcases at_ hj with ⟨e, z⟩ | ⟨e, g⟩
    · cases z
      subst e
      exact ⟨a, ws, hσ, hA, upd_same, reps_put hH hZ h⟩
    · obtain ⟨b, us, q1, q2, q3, q4⟩ := r.ow j m g
      refine ⟨b, us, q1, q2, ?_, reps_put hH hZ q4⟩
      show upd W.H a (.lst ws) b = _
      rw [upd_ne (fun z => ?_)]
      · exact q3
      · subst z
        exact e (r.inj i j l m b hi g hσ q1)
  · have g1 : ∃ m0, ρ[j]? = some (.ow m0) := by
      rcases at_ h1 with ⟨e, _⟩ | ⟨_, g⟩
      · exact ⟨l, e ▸ hi⟩
      · exact ⟨m, g⟩
    have g2 : ∃ m0, ρ[j']? = some (.ow m0) := by
      rcases at_ h2 with ⟨e, _⟩ | ⟨_, g⟩
      · exact ⟨l, e ▸ hi⟩
      · exact ⟨m', g⟩
    obtain ⟨m1, g1⟩ := g1
    obtain ⟨m2, g2⟩ := g2
    exact r.inj j j' m1 m2 b g1 g2 h3 h4
theorem EnvR.more {H : Hp} {A A' C : List Addr} {σ : L2.St} {ρ : En} (r : EnvR K mg ⟨H, A, C⟩ σ ρ) {p : Addr} {o : HO} (hp : H p = none) : EnvR K mg ⟨upd H p o, p :: A, C⟩ σ ρ :=
  ⟨r.len, fun i d h => by
    obtain ⟨v, h1, h2⟩ := r.sh i d h
    exact ⟨v, h1, rep_new hp h2⟩, fun i l h => by
    obtain ⟨a, vs, h1, h2, h3, h4⟩ := r.ow i l h
    exact ⟨a, vs, h1, List.mem_cons_of_mem _ h2, by show upd H p o a = _; rw [upd_ne (ne_of_none h3 hp)]; exact h3, reps_new hp h4⟩, r.inj⟩
end
end Bk
end
section
set_option autoImplicit false
set_option linter.all false
set_option maxRecDepth 100000
/-! What the hand layer lacks of tuples: t * 1 is t itself; t[::-1]. -/
namespace Bk
open PySem PySem.Spec PyProof.Rows HT L2
theorem tup_mul1 (l : Addr) (items : Array Value) (n : Nat) (dd : Option Addr) (sl : Array (Option Value)) (u : Tok) :
    Meets (Builtin.«tuple.__mul__» ⟨[.ref l, .int 1 u], []⟩) (fun _ R s => s.heap.get? l = some { cls := .type "tuple", dict := dd, data := .seq items n, slots := sl } ∧
      R (.ok (.ret (Value.ref l))) { s with heap := s.heap, toks := s.toks }) :=
  .of_wp fun prog w A R s h => by
    obtain ⟨hp, g, d, tk, os⟩ := s
    obtain ⟨hl, h⟩ := h
    have f1 := AutoSeq1.idx_int
    have c1 : (items.isEmpty || (1 : Int) == 1) = true := by simp
    wp_walk using wpAny_loadPart' hl
    repeat (first
      | (refine wpAny_ite_true (decide_eq_true c1) ?_; wp_walk using wpAny_loadPart' hl))
    exact ⟨_, rfl, h⟩

def rRepT1 (K : PySem.W.Frag) : R2 := fun x y H Q => ∃ l xs, x = .ref l ∧ y = .int 1 ∧ SqT K H l xs ∧ Q (.ref l) H
section
variable {X : Cx}
theorem op_repT1 : OpR X (binaryOp .Mult) (rRepT1 X.K) := by
  intro pins s σ H x y v u Q I rx ry h
  obtain ⟨l, xs, rfl, rfl, hT, q⟩ := h
  cases rx
  obtain ⟨t, rfl⟩ := ry
  obtain ⟨its, r, ⟨⟨cls, dd, data, sl⟩, ho, hc, n, hd⟩, hs⟩ := I.tuple hT
  simp only at hc hd
  subst hc hd
  exact wpAny_binaryOp_repeat_ref (T := "tuple") (U := "int") (by decide) ⟨_, ho, rfl⟩ (fun s' => typeIs_int s' 1 t) noFill_tuple_mul F.fills_int_mul F.slot_int_rmul repeat_tuple F.slot_int_index.lookup
    (call_meets F.slot_int_rmul (typeIs_int s 1 t) F.entry_int_rmul (F.args_int_rmul_2 _ _) (int_rmul_tuple 1 t l its.toArray n dd sl)
      ⟨ho, rfl, ⟨_, ho, rfl⟩, call_meets F.slot_tuple_mul ⟨_, ho, rfl⟩ F.entry_tuple_mul (F.args_tuple_mul_2 _ _) (tup_mul1 l its.toArray n dd sl t) ⟨ho, ⟨.ref l, H, I, rfl, q⟩⟩⟩)
end
/-! ### t[::-1] -/
section
variable {prog : Program} {w : World} {A : Around} {E : Value → Shared → Prop} {s : Shared}
theorem adjust_rev (n : Nat) : Builtin.Slice.sliceAdjust none none (-1) (n : Int) = ((n : Int) - 1, -1) := rfl
theorem places_rev (n : Nat) : Builtin.Slice.slicePlaces ((n : Int) - 1) (-1) (-1) = n := by
  unfold Builtin.Slice.slicePlaces
  rw [if_neg (by decide)]
  by_cases h : (n : Int) - 1 > -1
  · rw [if_pos h]
    have : -(-1 : Int) = 1 := by decide
    rw [this, Int.ediv_one]
    omega
  · rw [if_neg h]; omega
theorem pick_rev (xs : Array Value) : ((List.range xs.size).filterMap fun (m : Nat) => xs[(((xs.size : Nat) : Int) - 1 + (m : Int) * -1).toNat]?) = xs.toList.reverse := by
  have e : ∀ m ∈ List.range xs.size, xs[(((xs.size : Nat) : Int) - 1 + (m : Int) * -1).toNat]? = xs.toList.reverse[m]? := fun m hm => by
    have hm := List.mem_range.mp hm
    rw [List.getElem?_reverse (by simpa using hm)]
    have : (((xs.size : Nat) : Int) - 1 + (m : Int) * -1).toNat = xs.toList.length - 1 - m := by
      rw [Array.length_toList]; omega
    rw [this]
    simp
  have e2 : (List.range xs.size).map (fun (m : Nat) => xs[(((xs.size : Nat) : Int) - 1 + (m : Int) * -1).toNat]?) = xs.toList.reverse.map some := by
    rw [List.map_congr_left e]
    refine List.ext_getElem (by simp) fun i h1 h2 => ?_
    have hi : i < xs.toList.reverse.length := by simpa using h2
    rw [List.getElem_map, List.getElem_map, List.getElem_range, List.getElem?_eq_getElem hi]
  have e3 := List.filterMap_map (f := fun (m : Nat) => xs[(((xs.size : Nat) : Int) - 1 + (m : Int) * -1).toNat]?) (g := id) (l := List.range xs.size)
  rw [e2] at e3
  have e4 : (xs.toList.reverse.map some).filterMap id = xs.toList.reverse := by
    generalize xs.toList.reverse = l
    induction l with
    | nil => rfl
    | cons a l ih => exact congrArg (a :: ·) ih
  rw [e4] at e3
  exact e3.symm
theorem sliceApplied_rev {sl : Addr} {vs : Value} {n : Nat} {Q : Int × Int × Nat → Shared → Prop} (hs : s.heap.IsSliceOf sl .none .none vs) (ps : IsPart vs (some (-1)))
    (h : Q ((n : Int) - 1, -1, n) s) : wpAny (model prog w) A (Builtin.Slice.sliceApplied (.ref sl) (pure (n : Int))) Q E s := by
  obtain ⟨os, hos, hcs, hds⟩ := id hs
  unfold Builtin.Slice.sliceApplied Builtin.Slice.sliceFields
  refine wpAny_bind (wpAny_bind (wpAny_field hos hds (x := .none) rfl (wpAny_bind (wpAny_field hos hds (x := .none) rfl (wpAny_bind (wpAny_field hos hds (x := vs) rfl (wpAny_pure ?_)))))))
  refine wpAny_bind (slicePart_ ps ?_)
  show wpAny _ _ (if ((-1 : Int) == 0) = true then _ else _) _ _ s
  rw [if_neg (by decide)]
  refine wpAny_bind (slicePart_none (wpAny_bind (slicePart_none (wpAny_bind (wpAny_pure ?_)))))
  show wpAny _ _ (match Builtin.Slice.sliceAdjust none none (-1) (n : Int) with | (lo, hi) => pure (lo, (-1 : Int), Builtin.Slice.slicePlaces lo hi (-1))) _ _ s
  rw [adjust_rev n]
  show wpAny _ _ (pure ((n : Int) - 1, (-1 : Int), Builtin.Slice.slicePlaces ((n : Int) - 1) (-1) (-1))) _ _ s
  rw [places_rev]
  exact wpAny_pure h
theorem getItem_tuple_rev {t sl : Addr} {items : Array Value} {vs : Value} {Q : Value → Shared → Prop} (ht : IsTup s.heap t items) (hs : s.heap.IsSliceOf sl .none .none vs) (ps : IsPart vs (some (-1)))
    (h : Q (.ref s.heap.objs.size) { s with heap := s.heap.push { cls := .type "tuple", data := .seq items.toList.reverse.toArray } })
    (hsz : items.size ≤ sizeLine) : wpAny (model prog w) A (getItem (.ref t) (.ref sl)) Q E s := by
  have htake : sizeOk (.seq items.toList.reverse.toArray) := by
    show items.toList.reverse.toArray.size ≤ sizeLine
    rw [List.size_toArray, List.length_reverse, Array.length_toList]
    exact hsz
  obtain ⟨os, hos, hcs, hds⟩ := id hs
  have hTs : s.TypeIs (.ref sl) "slice" := ⟨os, hos, hcs⟩
  unfold getItem
  try with_reducible refine wpAny_holding ?_
  first | refine wpAny_bind (wpAny_pure ?_) | skip
  refine wpAny_bind (wpAny_sequenceKey ht.typeIs (by decide) ?_)
  refine wpAny_bind (wpAny_callSpecial?_slot (name := Str.ofString "__getitem__") ht.typeIs PyProof.Rows.slot_tuple_getitem
    (wpAny_call_entry PyProof.Rows.slot_tuple_getitem ht.typeIs entry_tuple_getitem ?_ (args_tuple_getitem _ _)))
  show wpAny _ _ (Builtin.Tuple.tupleItemsOf (.ref t) >>= _) _ _ s
  refine wpAny_bind (tupleItemsOf_ ht ?_)
  refine wpAny_bind (wpAny_typeOf hTs ?_)
  rw [if_pos (by decide)]
  refine wpAny_bind (sliceApplied_rev hs ps ?_)
  have hno : ¬ ((((items.size : Nat) : Int) - 1 == 0 && (-1 : Int) == 1 && items.size == items.size) = true) := by
    intro q
    rw [Bool.and_eq_true, Bool.and_eq_true] at q
    exact absurd q.1.2 (by decide)
  show wpAny _ _ (if (((items.size : Nat) : Int) - 1 == 0 && (-1 : Int) == 1 && items.size == items.size) = true then _ else _) _ _ s
  rw [if_neg hno, pick_rev]
  first
    | exact wpAny_bind (m := Builtin.Tuple.tupleExact _) (wpAny_newObj_type (wpAny_pure ⟨_, rfl, wpAny_pure h⟩) htake)
    | exact wpAny_bind (m := Builtin.Tuple.tupleExact _) (wpAny_newObj_type (wpAny_bind (wpAny_pure (wpAny_pure ⟨_, rfl, wpAny_pure h⟩))) htake)
    | exact wpAny_bind (wpAny_bind (m := Builtin.Tuple.tupleExact _) (wpAny_newObj_type (wpAny_pure (wpAny_pure ⟨_, rfl, wpAny_pure h⟩)) htake))
    | exact wpAny_bind (wpAny_bind (m := Builtin.Tuple.tupleExact _) (wpAny_newObj_type (wpAny_pure ⟨_, rfl, wpAny_pure h⟩) htake))
end
section
variable {X : Cx}
/-- t[::-1] of a tuple or a list -/
def tRevA (K : PySem.W.Frag) (te : TE) : TE := fun σ H Q => te σ H fun x H1 => (∃ a xs, x = .ref a ∧ SqT K H1 a xs ∧ ∀ p, H1 p = none → Q (.ref p) (upd H1 p (.tup xs.reverse))) ∨ ∃ a xs, x = .ref a ∧ SqL K H1 a xs ∧ ∀ p, H1 p = none → Q (.ref p) (upd H1 p (.lst xs.reverse))
theorem pe_revA {e : Expr} {te : TE} {k : Nat} {p1 p2 p3 pos : Pos} (he : PE X e te) : PE X (.Subscript e (.Slice none none (some (.UnaryOp .USub (.Constant (.int 1) k p1) p2)) p3) pos) (tRevA X.K te) := by
  refine ⟨fun pins s σ H Q I h => ?_⟩
  refine Subscript_ (thn (he.run pins s σ H _ I h) fun v s1 ⟨x, H1, I1, r1, q1⟩ => ?_)
  have hst : PO X (some (.UnaryOp .USub (.Constant (.int 1) k p1) p2)) (tPart (tUn (rU fun i => .int (-i)) (tC (.int 1)))) := po_some (pe_un un_neg pe_int)
  refine wpAny_Slice (thn (po_none.run pins s1 σ H1 (fun o H2 => o = none ∧ H2 = H1) I1 ⟨rfl, rfl⟩) fun vl s2 ⟨l, H2, I2, pl, el, e2⟩ => ?_)
  subst el e2
  refine thn (po_none.run pins s2 σ H2 (fun o H3 => o = none ∧ H3 = H2) I2 ⟨rfl, rfl⟩) fun vu s3 ⟨u, H3, I3, pu, eu, e3⟩ => ?_
  subst eu e3
  refine thn (hst.run pins s3 σ H3 (fun o H4 => o = some (-1) ∧ H4 = H3) I3 ⟨1, rfl, -1, rfl, rfl, rfl⟩) fun vs s4 ⟨o, H4, I4, ps, eo, e4⟩ => ?_
  subst eo e4
  have I5 : Inv X pins σ H4 { s4 with heap := s4.heap.push { cls := .type "slice", data := .fields #[vl, vu, vs] } } := I4.kept (t' := s4.toks) fun b ob q => Heap.get?_push_of_some _ q
  rcases q1 with ⟨a, xs, ex, hx, q⟩ | ⟨a, xs, ex, hx, q⟩
  · subst ex
    cases r1
    cases pl
    cases pu
    obtain ⟨its, r, ht, hz⟩ := I5.tuple hx
    have hlen := r.length
    show wpAny (model X.prog X.w) X.A (subscriptTail e (.Slice none none (some (.UnaryOp .USub (.Constant (.int 1) k p1) p2)) p3) (.ref a) (.ref s4.heap.objs.size)) (EP X pins σ Q) X.xe { s4 with heap := s4.heap.push { cls := .type "slice", data := .fields #[.none, .none, vs] } }
    refine tail_any (ops := [.ref a, .ref s4.heap.objs.size]) ht.typeIs PyProof.Rows.slot_tuple_getitem.lookup ?_ (by with_unfolding_all rfl)
    refine getItem_tuple_rev ht (Heap.IsSliceOf.new _ .none .none vs) ps ?_ (by rw [List.size_toArray]; omega)
    refine ⟨.ref _, _, I5.laid (t' := s4.toks) (o := .tup xs.reverse) (fun b ob q => Heap.get?_push_of_some _ q) (Nat.le_refl _) ?_, rfl, q _ (I5.hok.fresh (Nat.le_refl _))⟩
    exact ⟨by rw [List.length_reverse]; exact hz, _, r.reverse, IsTup.new _ _⟩
  · subst ex
    cases r1
    obtain ⟨its, r, ht, hz⟩ := I5.list hx
    have hlen := r.length
    show wpAny (model X.prog X.w) X.A (subscriptTail e (.Slice none none (some (.UnaryOp .USub (.Constant (.int 1) k p1) p2)) p3) (.ref a) (.ref s4.heap.objs.size)) (EP X pins σ Q) X.xe { s4 with heap := s4.heap.push { cls := .type "slice", data := .fields #[vl, vu, vs] } }
    refine tail_any (ops := [.ref a, .ref s4.heap.objs.size]) ht.isList.typeIs (PySem.slot_list_getitem.lookup) ?_ (by with_unfolding_all rfl)
    refine wpAny_getItem_list_slice ht.isList (Heap.IsSliceOf.new _ vl vu vs) pl pu ps (by decide) ?_ (by rw [List.size_toArray]; omega)
    rw [PySem.W.krv_pick]
    refine ⟨.ref _, _, I5.laid (t' := s4.toks) (o := .lst xs.reverse) (fun b ob q => Heap.get?_push_of_some _ q) (Nat.le_refl _) ?_, rfl, q _ (I5.hok.fresh (Nat.le_refl _))⟩
    exact ⟨by rw [List.length_reverse]; exact hz, _, 0, r.reverse, Heap.get?_push_size _ rfl⟩
end
end Bk
end
section
set_option autoImplicit false
set_option linter.all false
set_option maxRecDepth 100000
/-! Expressions: what my interpreter tells holds of the layer's reading. -/
namespace Bk
open PySem L2

/-- an exception as my data has it: of the class c, with the field d -/
def Exn (K : PySem.W.Frag) (mg : Str → Option Value) (c : Str) (d : D) (cls : Value) (dx : Option Addr) (H : Hp) : Prop :=
  (∃ a, mg c = some (.ref a) ∧ cls = .ref a) ∧ flat d = true ∧ (d = .non ∨ ∃ dd v, dx = some dd ∧ H dd = some (.xd [(("at" : Str), v)]) ∧ rep K mg [] H d v)
/-- what a def promises: the value of its function -/
def spD (K : PySem.W.Frag) (mg : Str → Option Value) (cs : List (Addr × Addr)) (f : Fn) : Sp := fun vs H Q E => ∃ C ds, Wd.Ok cs ⟨H, [], C⟩ ∧ reps K mg C H ds vs ∧ (match f ds with
  | .ok d => ∀ H' v, Ext cs H H' → rep K mg C H' d v → Q v H'
  | .ex c d => ∀ H' cls dx, Ext cs H H' → Exn K mg c d cls dx H' → E cls dx H'
  | .bad => False)
structure FnF (P : Program) (w : World) (K : PySem.W.Frag) (mg : Str → Option Value) (base : Heap) (cs : List (Addr × Addr)) (j : Nat) (x : Str) (f : Fn) : Prop where
  ex : ∃ a fd ps, mg x = some (.ref a) ∧ FnOk P w K mg base (L2.CX P w) j a fd ps (spD K mg cs f) ∧ PySem.W.keepIn K (.ref a) = true ∧ Binds K fd ps []
theorem FnF.mono {P : Program} {w : World} {K : PySem.W.Frag} {mg : Str → Option Value} {base : Heap} {cs : List (Addr × Addr)} {i j : Nat} {x : Str} {f : Fn} (F : FnF P w K mg base cs i x f) (h : i ≤ j) : FnF P w K mg base cs j x f := by
  obtain ⟨a, fd, ps, h1, h2, h3⟩ := F.ex
  exact ⟨a, fd, ps, h1, h2.mono h, h3⟩

def biNames : List Str := ["len", "abs", "max", "min", "int", "tuple", "list", "sum", "all", "any", "sorted", "isinstance", "range", "reversed", "enumerate", "zip", "bool", "str"]
/-- the context serves: nothing is handled, there is room, the built-ins are the built-ins, the defs are what M says -/
structure Good (X : Cx) (cs : List (Addr × Addr)) (j : Nat) (M : Md) (nm gn : List Str) : Prop where
  calm : X.calm = true
  nd : X.N.Nodup
  room : Room j X.A
  bi : ∀ x ∈ biNames, X.mg x = none
  fns : ∀ (k : Nat) (x : Str) (f : Fn), nm[k]? = some x → M.fns[k]? = some f → FnF X.prog X.w X.K X.mg X.base cs j x f
  val : ∀ (x : Str) (f : Fn), M.val x = some f → FnF X.prog X.w X.K X.mg X.base cs j x f
  gls : ∀ (k : Nat) (x : Str) (d : D), gn[k]? = some x → M.gls[k]? = some d → ∃ u v, X.mg x = some u ∧ RelV v u ∧ ∀ Z H, rep X.K X.mg Z H d v
theorem Good.blk {X : Cx} {cs : List (Addr × Addr)} {j : Nat} {M : Md} {nm gn : List Str} (g : Good X cs j M nm gn) (s : Shared) (H : Hp) (scope : Scope) (cenv : Env) (fp : List Addr) : Good (X.blk s H scope cenv fp) cs j M nm gn :=
  ⟨g.calm, g.nd, g.room, g.bi, g.fns, g.val, g.gls⟩
theorem Good.tr {X : Cx} {cs : List (Addr × Addr)} {j : Nat} {M : Md} {nm gn : List Str} (g : Good X cs j M nm gn) (pn : List (Addr × Obj)) (xe : Value → Shared → Prop) : Good (X.tr pn xe) cs j M nm gn :=
  ⟨g.calm, g.nd, g.room, g.bi, g.fns, g.val, g.gls⟩

/-! ### ends -/
structure ResV (K : PySem.W.Frag) (mg : Str → Option Value) (W : Wd) (fr : Bool) (H' : Hp) (d : D) (v : V) : Prop where
  val : rep K mg W.zs H' d v
  new : fr = true → ∀ l, d = .lst l → ∃ a vs, v = .ref a ∧ W.H a = none ∧ H' a = some (.lst vs) ∧ reps K mg (a :: W.zs) H' l vs
/-- borrowed: the list itself may be the frame's own -/
def repB (K : PySem.W.Frag) (mg : Str → Option Value) (Z : List Addr) (H : Hp) (d : D) (v : V) : Prop := match d with
  | .lst l => ∃ a vs, v = .ref a ∧ H a = some (.lst vs) ∧ reps K mg Z H l vs
  | d => rep K mg Z H d v
section
variable {K : PySem.W.Frag} {mg : Str → Option Value} {Z : List Addr} {H H' : Hp} {cs : List (Addr × Addr)}
theorem repB_of {d : D} {v : V} (h : rep K mg Z H d v) : repB K mg Z H d v := by
  cases d <;> first
    | exact h
    | (obtain ⟨a, vs, e, _, h1, h2⟩ := h; exact ⟨a, vs, e, h1, h2⟩)
theorem repB_ext (e : Ext cs H H') {d : D} {v : V} (h : repB K mg Z H d v) : repB K mg Z H' d v := by
  cases d <;> first
    | exact rep_ext e h
    | (obtain ⟨a, vs, e1, h1, h2⟩ := h; exact ⟨a, vs, e1, e.at h1 ntL, reps_ext e h2⟩)
end

section
variable (X : Cx) (cs : List (Addr × Addr)) (W : Wd) (σ : L2.St) (Wx : WX) (fr : Bool)
def PostE (r : R D) (Q : VK) : Prop := match r with
  | .ok d => ∀ H' v, Ext cs W.H H' → ResV X.K X.mg W fr H' d v → Q v H'
  | .ex c d => ∀ H' cls dx, Ext cs W.H H' → Exn X.K X.mg c d cls dx H' → Wx cls dx σ H'
  | .bad => False
def PostB (r : R D) (Q : VK) : Prop := match r with
  | .ok d => ∀ H' v, Ext cs W.H H' → repB X.K X.mg W.zs H' d v → Q v H'
  | .ex c d => ∀ H' cls dx, Ext cs W.H H' → Exn X.K X.mg c d cls dx H' → Wx cls dx σ H'
  | .bad => False
def PostL (r : R (List D)) (Q : List V → Hp → Prop) : Prop := match r with
  | .ok ds => ∀ H' vs, Ext cs W.H H' → reps X.K X.mg W.zs H' ds vs → Q vs H'
  | .ex c d => ∀ H' cls dx, Ext cs W.H H' → Exn X.K X.mg c d cls dx H' → Wx cls dx σ H'
  | .bad => False
def PostBs (r : R (List D)) (Q : List V → Hp → Prop) : Prop := match r with
  | .ok ds => ∀ H' vs, Ext cs W.H H' → Paired (repB X.K X.mg W.zs H') ds vs → Q vs H'
  | .ex c d => ∀ H' cls dx, Ext cs W.H H' → Exn X.K X.mg c d cls dx H' → Wx cls dx σ H'
  | .bad => False
def PostT (r : R Bool) (Q : Bool → Hp → Prop) : Prop := match r with
  | .ok b => ∀ H', Ext cs W.H H' → Q b H'
  | .ex c d => ∀ H' cls dx, Ext cs W.H H' → Exn X.K X.mg c d cls dx H' → Wx cls dx σ H'
  | .bad => False
end
section
variable (X : Cx) (cs : List (Addr × Addr)) (Wx : WX) (fr : Bool)
def tE (f : En → R D) : TE := fun σ H Q => ∃ A C ρ, Wd.Ok cs ⟨H, A, C⟩ ∧ EnvR X.K X.mg ⟨H, A, C⟩ σ ρ ∧ PostE X cs ⟨H, A, C⟩ σ Wx fr (f ρ) Q
def tB (f : En → R D) : TE := fun σ H Q => ∃ A C ρ, Wd.Ok cs ⟨H, A, C⟩ ∧ EnvR X.K X.mg ⟨H, A, C⟩ σ ρ ∧ PostB X cs ⟨H, A, C⟩ σ Wx (f ρ) Q
def tL (f : En → R (List D)) : TA := fun σ H Q => ∃ A C ρ, Wd.Ok cs ⟨H, A, C⟩ ∧ EnvR X.K X.mg ⟨H, A, C⟩ σ ρ ∧ PostL X cs ⟨H, A, C⟩ σ Wx (f ρ) Q
def tBs (f : En → R (List D)) : TA := fun σ H Q => ∃ A C ρ, Wd.Ok cs ⟨H, A, C⟩ ∧ EnvR X.K X.mg ⟨H, A, C⟩ σ ρ ∧ PostBs X cs ⟨H, A, C⟩ σ Wx (f ρ) Q
def tT (f : En → R Bool) : TT := fun σ H Q => ∃ A C ρ, Wd.Ok cs ⟨H, A, C⟩ ∧ EnvR X.K X.mg ⟨H, A, C⟩ σ ρ ∧ PostT X cs ⟨H, A, C⟩ σ Wx (f ρ) Q
abbrev DE (e : Expr) (f : En → R D) : Prop := PE X e (tE X cs Wx fr f)
abbrev DB (e : Expr) (f : En → R D) : Prop := PE X e (tB X cs Wx f)
abbrev DL (es : List Expr) (f : En → R (List D)) : Prop := PA X es (tL X cs Wx f)
abbrev DBs (es : List Expr) (f : En → R (List D)) : Prop := PA X es (tBs X cs Wx f)
abbrev DT (e : Expr) (f : En → R Bool) : Prop := PT X e (tT X cs Wx f)
end
theorem pe_imp {X : Cx} {e : Expr} {t t' : TE} (h : PE X e t) (k : ∀ σ H Q, t' σ H Q → t σ H Q) : PE X e t' := ⟨fun pins s σ H Q I q => h.run pins s σ H Q I (k _ _ _ q)⟩
theorem pt_imp {X : Cx} {e : Expr} {t t' : TT} (h : PT X e t) (k : ∀ σ H Q, t' σ H Q → t σ H Q) : PT X e t' := ⟨fun pins s σ H Q I q => h.run pins s σ H Q I (k _ _ _ q)⟩
theorem pa_imp {X : Cx} {e : List Expr} {t t' : TA} (h : PA X e t) (k : ∀ σ H Q, t' σ H Q → t σ H Q) : PA X e t' := ⟨fun pos pins s σ H Q I q => h.run pos pins s σ H Q I (k _ _ _ q)⟩
theorem ps_imp {X : Cx} {st : Stmt} {t t' : TS} (h : PS X st t) (k : ∀ D σ H, t' D σ H → t D σ H) : PS X st t' := ⟨fun pins s σ H D I q => h.run pins s σ H D I (k _ _ _ q)⟩
theorem pss_imp {X : Cx} {st : List Stmt} {t t' : TS} (h : PSs X st t) (k : ∀ D σ H, t' D σ H → t D σ H) : PSs X st t' := ⟨fun pins s σ H D I q => h.run pins s σ H D I (k _ _ _ q)⟩
theorem pi_imp {X : Cx} {tg e : Expr} {t t' : TI} (h : PI X tg e t) (k : ∀ σ H Q, t' σ H Q → t σ H Q) : PI X tg e t' := ⟨fun pins s σ H R I q => h.run pins s σ H R I (k _ _ _ q)⟩

/-! ### sequencing -/
section
variable {X : Cx} {cs : List (Addr × Addr)} {W : Wd} {σ : L2.St} {Wx : WX} {fr : Bool} {H1 : Hp}
theorem PostE.go (e : Ext cs W.H H1) {r : R D} {Q : VK} (p : PostE X cs W σ Wx fr r Q) : PostE X cs ⟨H1, W.A, W.C⟩ σ Wx fr r Q := by
  cases r with
  | ok d => exact fun H' v e' q => p H' v (e.trans e') ⟨q.val, fun f l hl => by
      obtain ⟨a, vs, h1, h2, h3, h4⟩ := q.new f l hl
      exact ⟨a, vs, h1, e.gone h2, h3, h4⟩⟩
  | ex c d => exact fun H' cls dx e' q => p H' cls dx (e.trans e') q
  | bad => exact p
theorem PostB.go (e : Ext cs W.H H1) {r : R D} {Q : VK} (p : PostB X cs W σ Wx r Q) : PostB X cs ⟨H1, W.A, W.C⟩ σ Wx r Q := by
  cases r with
  | ok d => exact fun H' v e' q => p H' v (e.trans e') q
  | ex c d => exact fun H' cls dx e' q => p H' cls dx (e.trans e') q
  | bad => exact p
theorem PostL.go (e : Ext cs W.H H1) {r : R (List D)} {Q : List V → Hp → Prop} (p : PostL X cs W σ Wx r Q) : PostL X cs ⟨H1, W.A, W.C⟩ σ Wx r Q := by
  cases r with
  | ok d => exact fun H' v e' q => p H' v (e.trans e') q
  | ex c d => exact fun H' cls dx e' q => p H' cls dx (e.trans e') q
  | bad => exact p
theorem PostBs.go (e : Ext cs W.H H1) {r : R (List D)} {Q : List V → Hp → Prop} (p : PostBs X cs W σ Wx r Q) : PostBs X cs ⟨H1, W.A, W.C⟩ σ Wx r Q := by
  cases r with
  | ok d => exact fun H' v e' q => p H' v (e.trans e') q
  | ex c d => exact fun H' cls dx e' q => p H' cls dx (e.trans e') q
  | bad => exact p
theorem PostT.go (e : Ext cs W.H H1) {r : R Bool} {Q : Bool → Hp → Prop} (p : PostT X cs W σ Wx r Q) : PostT X cs ⟨H1, W.A, W.C⟩ σ Wx r Q := by
  cases r with
  | ok d => exact fun H' e' => p H' (e.trans e')
  | ex c d => exact fun H' cls dx e' q => p H' cls dx (e.trans e') q
  | bad => exact p
/-- a first part's exception is the whole's -/
def Lets {α : Type} (X : Cx) (cs : List (Addr × Addr)) (W : Wd) (σ : L2.St) (Wx : WX) (r : R α) : Prop := match r with
  | .ok _ => True
  | .ex c d => ∀ H' cls dx, Ext cs W.H H' → Exn X.K X.mg c d cls dx H' → Wx cls dx σ H'
  | .bad => False
theorem PostE.lets {α : Type} {r : R α} {g : α → R D} {Q : VK} (p : PostE X cs W σ Wx fr (r.bind g) Q) : Lets X cs W σ Wx r := by
  cases r <;> first | trivial | exact p
theorem PostB.lets {α : Type} {r : R α} {g : α → R D} {Q : VK} (p : PostB X cs W σ Wx (r.bind g) Q) : Lets X cs W σ Wx r := by
  cases r <;> first | trivial | exact p
theorem PostL.lets {α : Type} {r : R α} {g : α → R (List D)} {Q : List V → Hp → Prop} (p : PostL X cs W σ Wx (r.bind g) Q) : Lets X cs W σ Wx r := by
  cases r <;> first | trivial | exact p
theorem PostBs.lets {α : Type} {r : R α} {g : α → R (List D)} {Q : List V → Hp → Prop} (p : PostBs X cs W σ Wx (r.bind g) Q) : Lets X cs W σ Wx r := by
  cases r <;> first | trivial | exact p
theorem PostT.lets {α : Type} {r : R α} {g : α → R Bool} {Q : Bool → Hp → Prop} (p : PostT X cs W σ Wx (r.bind g) Q) : Lets X cs W σ Wx r := by
  cases r <;> first | trivial | exact p
theorem tE_of {f : En → R D} {ρ : En} {Q : VK} (k : W.Ok cs) (r : EnvR X.K X.mg W σ ρ) (l : Lets X cs W σ Wx (f ρ)) (h : ∀ d H' v, f ρ = .ok d → Ext cs W.H H' → ResV X.K X.mg W fr H' d v → Q v H') : tE X cs Wx fr f σ W.H Q := by
  refine ⟨W.A, W.C, ρ, k, r, ?_⟩
  revert l h
  cases f ρ with
  | ok d => exact fun _ h H' v e q => h d H' v rfl e q
  | ex c d => exact fun l _ => l
  | bad => exact fun l _ => l
theorem tB_of {f : En → R D} {ρ : En} {Q : VK} (k : W.Ok cs) (r : EnvR X.K X.mg W σ ρ) (l : Lets X cs W σ Wx (f ρ)) (h : ∀ d H' v, f ρ = .ok d → Ext cs W.H H' → repB X.K X.mg W.zs H' d v → Q v H') : tB X cs Wx f σ W.H Q := by
  refine ⟨W.A, W.C, ρ, k, r, ?_⟩
  revert l h
  cases f ρ with
  | ok d => exact fun _ h H' v e q => h d H' v rfl e q
  | ex c d => exact fun l _ => l
  | bad => exact fun l _ => l
theorem tL_of {f : En → R (List D)} {ρ : En} {Q : List V → Hp → Prop} (k : W.Ok cs) (r : EnvR X.K X.mg W σ ρ) (l : Lets X cs W σ Wx (f ρ)) (h : ∀ d H' v, f ρ = .ok d → Ext cs W.H H' → reps X.K X.mg W.zs H' d v → Q v H') : tL X cs Wx f σ W.H Q := by
  refine ⟨W.A, W.C, ρ, k, r, ?_⟩
  revert l h
  cases f ρ with
  | ok d => exact fun _ h H' v e q => h d H' v rfl e q
  | ex c d => exact fun l _ => l
  | bad => exact fun l _ => l
theorem tBs_of {f : En → R (List D)} {ρ : En} {Q : List V → Hp → Prop} (k : W.Ok cs) (r : EnvR X.K X.mg W σ ρ) (l : Lets X cs W σ Wx (f ρ)) (h : ∀ d H' v, f ρ = .ok d → Ext cs W.H H' → Paired (repB X.K X.mg W.zs H') d v → Q v H') : tBs X cs Wx f σ W.H Q := by
  refine ⟨W.A, W.C, ρ, k, r, ?_⟩
  revert l h
  cases f ρ with
  | ok d => exact fun _ h H' v e q => h d H' v rfl e q
  | ex c d => exact fun l _ => l
  | bad => exact fun l _ => l
theorem tT_of {f : En → R Bool} {ρ : En} {Q : Bool → Hp → Prop} (k : W.Ok cs) (r : EnvR X.K X.mg W σ ρ) (l : Lets X cs W σ Wx (f ρ)) (h : ∀ d H', f ρ = .ok d → Ext cs W.H H' → Q d H') : tT X cs Wx f σ W.H Q := by
  refine ⟨W.A, W.C, ρ, k, r, ?_⟩
  revert l h
  cases f ρ with
  | ok d => exact fun _ h H' e => h d H' rfl e
  | ex c d => exact fun l _ => l
  | bad => exact fun l _ => l
end

/-! ### names and constants -/
section
variable {X : Cx} {cs : List (Addr × Addr)} {Wx : WX} {fr : Bool} {pos : Pos}
theorem get_ok {ρ : En} {i : Nat} {d : D} (h : get ρ i = .ok d) : ρ[i]? = some (.sh d) := by
  unfold get at h
  split at h
  · cases h; assumption
  · cases h
theorem getB_ok {ρ : En} {i : Nat} {d : D} (h : getB ρ i = .ok d) : ρ[i]? = some (.sh d) ∨ ∃ l, ρ[i]? = some (.ow l) ∧ d = .lst l := by
  unfold getB at h
  split at h
  · cases h; exact .inl (by assumption)
  · cases h; exact .inr ⟨_, by assumption, rfl⟩
  · cases h
theorem get_bad {ρ : En} {i : Nat} {c : Str} {d : D} : get ρ i ≠ .ex c d := by
  unfold get; split <;> (intro h; cases h)
theorem getB_bad {ρ : En} {i : Nat} {c : Str} {d : D} : getB ρ i ≠ .ex c d := by
  unfold getB; split <;> (intro h; cases h)
theorem de_var {i : Nat} {x : Str} (hN : X.N[i]? = some x) (hv : Vis X.env.scope x) (hd : (x == ("__debug__" : Str)) = false) (hc : (x == ("__classdict__" : Str)) = false) : DE X cs Wx false (.Name x pos) (fun ρ => get ρ i) := by
  refine pe_imp (pe_var hN hv hd hc) fun σ H Q h => ?_
  obtain ⟨A, C, ρ, k, r, p⟩ := h
  dsimp only at p
  cases q : get ρ i with
  | ok d =>
    rw [q] at p
    obtain ⟨v, h1, h2⟩ := r.sh i d (get_ok q)
    exact ⟨v, h1, p H v Ext.refl ⟨h2, fun z => nomatch z⟩⟩
  | ex c d => exact absurd q get_bad
  | bad => rw [q] at p; exact p.elim
theorem db_var {i : Nat} {x : Str} (hN : X.N[i]? = some x) (hv : Vis X.env.scope x) (hd : (x == ("__debug__" : Str)) = false) (hc : (x == ("__classdict__" : Str)) = false) : DB X cs Wx (.Name x pos) (fun ρ => getB ρ i) := by
  refine pe_imp (pe_var hN hv hd hc) fun σ H Q h => ?_
  obtain ⟨A, C, ρ, k, r, p⟩ := h
  dsimp only at p
  cases q : getB ρ i with
  | ok d =>
    rw [q] at p
    rcases getB_ok q with h | ⟨l, h, rfl⟩
    · obtain ⟨v, h1, h2⟩ := r.sh i d h
      exact ⟨v, h1, p H v Ext.refl (repB_of h2)⟩
    · obtain ⟨a, vs, h1, h2, h3, h4⟩ := r.ow i l h
      exact ⟨.ref a, h1, p H _ Ext.refl ⟨a, vs, rfl, h3, h4⟩⟩
  | ex c d => exact absurd q getB_bad
  | bad => rw [q] at p; exact p.elim
theorem db_of {e : Expr} {f : En → R D} (h : DE X cs Wx fr e f) : DB X cs Wx e f := pe_imp h fun σ H Q ⟨A, C, ρ, k, r, p⟩ => by
  refine tE_of (W := ⟨H, A, C⟩) k r ?_ fun d H' v q e rv => ?_
  · revert p; cases f ρ <;> first | (intro _; trivial) | exact fun p => p
  · rw [q] at p
    exact p H' v e (repB_of rv.val)
/-- freshness may be forgotten -/
theorem de_old {e : Expr} {f : En → R D} (h : DE X cs Wx true e f) : DE X cs Wx fr e f := pe_imp h fun σ H Q ⟨A, C, ρ, k, r, p⟩ => by
  refine tE_of (W := ⟨H, A, C⟩) k r ?_ fun d H' v q e rv => ?_
  · revert p; cases f ρ <;> first | (intro _; trivial) | exact fun p => p
  · rw [q] at p
    exact p H' v e ⟨rv.val, fun _ => rv.new rfl⟩
/-- a value that is no list is as new as you like -/
theorem de_any {e : Expr} {f : En → R D} (h : DE X cs Wx false e f) (n : ∀ ρ l, f ρ ≠ .ok (.lst l)) : DE X cs Wx fr e f := pe_imp h fun σ H Q ⟨A, C, ρ, k, r, p⟩ => by
  refine tE_of (W := ⟨H, A, C⟩) k r ?_ fun d H' v q e rv => ?_
  · revert p; cases f ρ <;> first | (intro _; trivial) | exact fun p => p
  · rw [q] at p
    exact p H' v e ⟨rv.val, fun _ l hl => absurd (hl ▸ q) (n ρ l)⟩
theorem de_cst {e : Expr} {d : D} {v : V} (h : PE X e (tC v)) (hr : ∀ Z H, rep X.K X.mg Z H d v) (n : ∀ l, d ≠ .lst l) : DE X cs Wx fr e (fun _ => .ok d) := pe_imp h fun σ H Q ⟨A, C, ρ, k, r, p⟩ =>
  p H v Ext.refl ⟨hr _ _, fun _ l hl => absurd hl (n l)⟩

/-! ### operators -/
def opSem : BO → Value → Value → Sem Value
  | .add => binaryOp .Add
  | .sub => binaryOp .Sub
  | .mul => binaryOp .Mult
  | .fdiv => binaryOp .FloorDiv
  | .mod => binaryOp .Mod
  | .pow => binaryOp .Pow
  | .eq => compareOp .Eq
  | .ne => compareOp .NotEq
  | .lt => compareOp .Lt
  | .le => compareOp .LtE
  | .gt => compareOp .Gt
  | .ge => compareOp .GtE
  | .in_ => compareOp .In
  | .nin => compareOp .NotIn
  | .is_ => compareOp .Is
  | .isn => compareOp .IsNot
def OpD (X : Cx) (cs : List (Addr × Addr)) (f : Value → Value → Sem Value) (o : D → D → R D) : Prop := ∃ r, OpR X f r ∧ ∀ (W : Wd) (σ : L2.St) (Wx : WX) (fr : Bool) (dx dy : D) (x y : V) (Q : VK), W.Ok cs → repB X.K X.mg W.zs W.H dx x → repB X.K X.mg W.zs W.H dy y →
  PostE X cs W σ Wx fr (o dx dy) Q → r x y W.H Q
theorem gd_ok {α : Type} {b : Bool} {a d : α} (h : gd b a = .ok d) : b = true ∧ d = a := by
  unfold gd at h
  split at h
  · cases h; exact ⟨by assumption, rfl⟩
  · cases h
theorem post_gd {W : Wd} {σ : L2.St} {b : Bool} {d : D} {Q : VK} (p : PostE X cs W σ Wx fr (gd b d) Q) : b = true ∧ PostE X cs W σ Wx fr (.ok d) Q := by
  unfold gd at p
  split at p
  · exact ⟨by assumption, p⟩
  · exact p.elim
theorem here {W : Wd} {σ : L2.St} {d : D} {v : V} {Q : VK} (p : PostE X cs W σ Wx fr (.ok d) Q) (r : rep X.K X.mg W.zs W.H d v) (n : ∀ l, d ≠ .lst l) : Q v W.H := p W.H v Ext.refl ⟨r, fun _ l hl => absurd hl (n l)⟩
theorem newL {W : Wd} {σ : L2.St} {l : List D} {vs : List V} {Q : VK} (p : PostE X cs W σ Wx fr (.ok (.lst l)) Q) (r : reps X.K X.mg W.zs W.H l vs) (k : W.Ok cs) (a : Addr) (ha : W.H a = none) : Q (.ref a) (upd W.H a (.lst vs)) := by
  have nz : a ∉ W.zs := fun z => by
    obtain ⟨ws, q⟩ := k.own a z
    rw [ha] at q; cases q
  refine p _ _ (Ext.new ha) ⟨⟨a, vs, rfl, nz, upd_same, reps_sub (fun b hb => List.mem_cons_of_mem _ hb) (reps_new ha r)⟩, fun _ l' hl => ?_⟩
  cases hl
  exact ⟨a, vs, rfl, ha, upd_same, reps_new ha r⟩
theorem newT {W : Wd} {σ : L2.St} {l : List D} {vs : List V} {Q : VK} (p : PostE X cs W σ Wx fr (.ok (.tup l)) Q) (r : reps X.K X.mg W.zs W.H l vs) (a : Addr) (ha : W.H a = none) : Q (.ref a) (upd W.H a (.tup vs)) :=
  p _ _ (Ext.new ha) ⟨⟨a, vs, rfl, SqT.of upd_same, reps_ext (cs := cs) (Ext.new ha) r⟩, fun _ l' hl => nomatch hl⟩
theorem nl_int {i : Int} : ∀ l, D.int i ≠ .lst l := fun _ h => nomatch h
theorem nl_bl {b : Bool} : ∀ l, D.bl b ≠ .lst l := fun _ h => nomatch h
theorem nl_str {x : Str} : ∀ l, D.str x ≠ .lst l := fun _ h => nomatch h
theorem nl_tup {x : List D} : ∀ l, D.tup x ≠ .lst l := fun _ h => nomatch h
theorem slen {n : Nat} (h : decide (n ≤ SL) = true) : n ≤ sizeLine := by rw [sizeLine_eq]; exact of_decide_eq_true h
theorem od_add : OpD X cs (binaryOp .Add) (bo .add) := by
  refine ⟨_, op_add.or (op_add_str.or (op_catA.or op_cat)), fun W σ Wx fr dx dy x y Q k hx hy p => ?_⟩
  cases dx <;> cases dy <;> first | exact (show False from p).elim | skip
  · exact .inl ⟨_, _, hx, hy, here p rfl nl_int⟩
  · obtain ⟨b, p⟩ := post_gd p
    exact .inr (.inl ⟨_, _, hx, hy, slen b, here p rfl nl_str⟩)
  · obtain ⟨b, p⟩ := post_gd p
    obtain ⟨a, vs, rfl, h1, h2⟩ := hx
    obtain ⟨a', vs', rfl, h3, h4⟩ := hy
    refine .inr (.inr (.inl ⟨a, a', vs, vs', rfl, rfl, h1, h3, ?_, fun e => ?_, fun _ e => ?_, fun _ _ q hq => ?_⟩))
    · rw [reps_len h2, reps_len h4]
      rw [List.length_append] at b
      exact slen b
    · subst e
      refine here p ⟨a', vs', rfl, h3, ?_⟩ nl_tup
      have := reps_app h2 h4
      simpa using this
    · subst e
      refine here p ⟨a, vs, rfl, h1, ?_⟩ nl_tup
      have := reps_app h2 h4
      simpa using this
    · exact newT p (reps_app h2 h4) q hq
  · obtain ⟨b, p⟩ := post_gd p
    obtain ⟨a, vs, rfl, h1, h2⟩ := hx
    obtain ⟨a', vs', rfl, h3, h4⟩ := hy
    refine .inr (.inr (.inr ⟨a, a', vs, vs', rfl, rfl, h1, h3, ?_, fun q hq => newL p (reps_app h2 h4) k q hq⟩))
    rw [reps_len h2, reps_len h4]
    rw [List.length_append] at b
    exact slen b
theorem od_sub : OpD X cs (binaryOp .Sub) (bo .sub) := by
  refine ⟨_, op_sub, fun W σ Wx fr dx dy x y Q k hx hy p => ?_⟩
  cases dx <;> cases dy <;> first | exact (show False from p).elim | skip
  exact ⟨_, _, hx, hy, here p rfl nl_int⟩
theorem bits_log (x : Int) : Builtin.Int.intBits x ≤ x.natAbs.log2 + 1 := by
  unfold Builtin.Int.intBits
  split <;> omega
theorem od_mul : OpD X cs (binaryOp .Mult) (bo .mul) := by
  refine ⟨_, op_mulX.or (op_repT1.or (op_repT.or op_rep)), fun W σ Wx fr dx dy x y Q k hx hy p => ?_⟩
  cases dx <;> cases dy <;> first | exact (show False from p).elim | skip
  · rename_i i j
    obtain ⟨b, p⟩ := post_gd p
    have z := of_decide_eq_true b
    exact .inl ⟨_, _, hx, hy, (by
      unfold CMulX
      have z1 := bits_log i
      have z2 := bits_log j
      omega), here p rfl nl_int⟩
  · rename_i x j
    obtain ⟨a, vs, rfl, h1, h2⟩ := hx
    by_cases hj : j = 1
    · subst hj
      have p : PostE X cs W σ Wx fr (R.ok (D.tup x)) Q := p
      exact .inr (.inl ⟨a, vs, rfl, hy, h1, here p ⟨a, vs, rfl, h1, h2⟩ nl_tup⟩)
    have p : PostE X cs W σ Wx fr (if j = 1 then R.ok (D.tup x) else gd (decide (2 ≤ j) && decide (j ≤ 1000) && decide (x.length ≤ 1000) && !x.isEmpty) (.tup (List.replicate j.toNat x).flatten)) Q := p
    rw [if_neg hj] at p
    obtain ⟨b, p⟩ := post_gd p
    simp only [Bool.and_eq_true, decide_eq_true_eq] at b
    obtain ⟨⟨⟨b1, b2⟩, b3⟩, b4⟩ := b
    refine .inr (.inr (.inl ⟨a, _, vs, rfl, hy, h1, ?_, b1, b2, by rw [reps_len h2]; exact b3, fun q hq => newT p (reps_repl h2 _) q hq⟩))
    intro e
    subst e
    have hl := (reps_len h2).symm
    rw [List.length_eq_zero_iff.mp hl] at b4
    cases b4
  · obtain ⟨b, p⟩ := post_gd p
    simp only [Bool.and_eq_true, decide_eq_true_eq] at b
    obtain ⟨⟨b1, b2⟩, b3⟩ := b
    obtain ⟨a, vs, rfl, h1, h2⟩ := hx
    refine .inr (.inr (.inr ⟨a, _, vs, rfl, hy, h1, by omega, by omega, ?_, fun q hq => newL p (reps_repl h2 _) k q hq⟩))
    rw [reps_len h2, sizeLine_eq]; exact b3
theorem od_fdiv : OpD X cs (binaryOp .FloorDiv) (bo .fdiv) := by
  refine ⟨_, op_fdivW, fun W σ Wx fr dx dy x y Q k hx hy p => ?_⟩
  cases dx <;> cases dy <;> first | exact (show False from p).elim | skip
  obtain ⟨b, p⟩ := post_gd p
  simp only [Bool.and_eq_true, decide_eq_true_eq] at b
  exact ⟨_, _, hx, hy, b, here p rfl nl_int⟩
theorem od_mod : OpD X cs (binaryOp .Mod) (bo .mod) := by
  refine ⟨_, op_mod, fun W σ Wx fr dx dy x y Q k hx hy p => ?_⟩
  cases dx <;> cases dy <;> first | exact (show False from p).elim | skip
  obtain ⟨b, p⟩ := post_gd p
  exact ⟨_, _, hx, hy, of_decide_eq_true b, here p rfl nl_int⟩
theorem od_pow : OpD X cs (binaryOp .Pow) (bo .pow) := by
  refine ⟨_, op_pow, fun W σ Wx fr dx dy x y Q k hx hy p => ?_⟩
  cases dx <;> cases dy <;> first | exact (show False from p).elim | skip
  obtain ⟨b, p⟩ := post_gd p
  simp only [Bool.and_eq_true, decide_eq_true_eq] at b
  exact ⟨_, _, hx, hy, ⟨b.1.1, by omega, b.2⟩, here p rfl nl_int⟩
theorem od_lt : OpD X cs (compareOp .Lt) (bo .lt) := by
  refine ⟨_, op_lt, fun W σ Wx fr dx dy x y Q k hx hy p => ?_⟩
  cases dx <;> cases dy <;> first | exact (show False from p).elim | skip
  exact ⟨_, _, hx, hy, here p rfl nl_bl⟩
theorem od_le : OpD X cs (compareOp .LtE) (bo .le) := by
  refine ⟨_, op_le, fun W σ Wx fr dx dy x y Q k hx hy p => ?_⟩
  cases dx <;> cases dy <;> first | exact (show False from p).elim | skip
  exact ⟨_, _, hx, hy, here p rfl nl_bl⟩
theorem od_gt : OpD X cs (compareOp .Gt) (bo .gt) := by
  refine ⟨_, op_gt, fun W σ Wx fr dx dy x y Q k hx hy p => ?_⟩
  cases dx <;> cases dy <;> first | exact (show False from p).elim | skip
  exact ⟨_, _, hx, hy, here p rfl nl_bl⟩
theorem od_ge : OpD X cs (compareOp .GtE) (bo .ge) := by
  refine ⟨_, op_ge, fun W σ Wx fr dx dy x y Q k hx hy p => ?_⟩
  cases dx <;> cases dy <;> first | exact (show False from p).elim | skip
  exact ⟨_, _, hx, hy, here p rfl nl_bl⟩
theorem od_is : OpD X cs (compareOp .Is) (bo .is_) := by
  refine ⟨_, op_isN, fun W σ Wx fr dx dy x y Q k hx hy p => ?_⟩
  cases dy <;> first | (cases dx <;> exact (show False from p).elim) | skip
  refine ⟨hy, here p ?_ nl_bl⟩
  show V.bl _ = V.bl _
  congr 1
  cases dx <;> first
    | (obtain rfl : x = _ := hx; rfl)
    | (obtain ⟨_, _, rfl, _⟩ := hx; rfl)
    | (obtain ⟨_, rfl, _⟩ := hx; rfl)
theorem od_isn : OpD X cs (compareOp .IsNot) (bo .isn) := by
  refine ⟨_, op_notN, fun W σ Wx fr dx dy x y Q k hx hy p => ?_⟩
  cases dy <;> first | (cases dx <;> exact (show False from p).elim) | skip
  refine ⟨hy, here p ?_ nl_bl⟩
  show V.bl _ = V.bl _
  congr 1
  cases dx <;> first
    | (obtain rfl : x = _ := hx; rfl)
    | (obtain ⟨_, _, rfl, _⟩ := hx; rfl)
    | (obtain ⟨_, rfl, _⟩ := hx; rfl)

/-! ### == on data: to the library's -/
mutual
def toPy : D → PyData
  | .non => .none
  | .bl b => .bool b
  | .int i => .int i
  | .str x => .str x
  | .tup l => .tuple (toPys l)
  | .lst l => .list (toPys l)
  | .fn _ => .none
  | .scr _ => .none
def toPys : List D → List PyData
  | [] => []
  | d :: ds => toPy d :: toPys ds
end
mutual
theorem eqv_toPy : ∀ (a b : D), isData a = true → isData b = true → PyData.eqv (toPy a) (toPy b) = eqD a b
  | .non, b, _, hb => by cases b <;> first | rfl | cases hb
  | .bl x, b, _, hb => by
    cases b <;> first
      | rfl
      | cases hb
      | (show ((if x = true then (1 : Int) else 0) == _) = decide _; rw [Bool.beq_eq_decide_eq])
  | .int x, b, _, hb => by
    cases b <;> first
      | rfl
      | cases hb
      | (show (x == _) = decide _; rw [Bool.beq_eq_decide_eq])
  | .str x, b, _, hb => by
    cases b <;> first
      | rfl
      | cases hb
      | (show (x == _) = decide _; rw [Bool.beq_eq_decide_eq])
  | .tup l, b, ha, hb => by
    cases b <;> first
      | rfl
      | cases hb
      | exact eqvs_toPy l _ ha hb
  | .lst l, b, ha, hb => by
    cases b <;> first
      | rfl
      | cases hb
      | exact eqvs_toPy l _ ha hb
  | .fn _, _, ha, _ => nomatch ha
  | .scr _, _, ha, _ => nomatch ha
theorem eqvs_toPy : ∀ (a b : List D), areData a = true → areData b = true → PyData.eqvAll (toPys a) (toPys b) = eqDs a b
  | [], [], _, _ => rfl
  | [], _ :: _, _, _ => rfl
  | _ :: _, [], _, _ => rfl
  | x :: xs, y :: ys, ha, hb => by
    have ha' : (isData x && areData xs) = true := ha
    have hb' : (isData y && areData ys) = true := hb
    rw [Bool.and_eq_true] at ha' hb'
    show (PyData.eqv (toPy x) (toPy y) && PyData.eqvAll (toPys xs) (toPys ys)) = (eqD x y && eqDs xs ys)
    rw [eqv_toPy x y ha'.1 hb'.1, eqvs_toPy xs ys ha'.2 hb'.2]
end
mutual
theorem lay_toPy : ∀ (a : D), isData a = true → (toPy a).canLay0 = true ∧ (toPy a).depth ≤ depth a
  | .non, _ => ⟨rfl, Nat.le_refl _⟩
  | .bl _, _ => ⟨rfl, Nat.le_refl _⟩
  | .int _, _ => ⟨rfl, Nat.le_refl _⟩
  | .str _, h => ⟨h, Nat.le_refl _⟩
  | .fn _, _ => ⟨rfl, Nat.le_refl _⟩
  | .scr _, _ => ⟨rfl, Nat.le_refl _⟩
  | .tup l, h => by
    obtain ⟨h1, h2⟩ := lays_toPy l h
    refine ⟨by simp only [toPy, PyData.canLay0]; exact h1, ?_⟩
    simp only [toPy, PyData.depth, Bk.depth]; omega
  | .lst l, h => by
    obtain ⟨h1, h2⟩ := lays_toPy l h
    refine ⟨by simp only [toPy, PyData.canLay0]; exact h1, ?_⟩
    simp only [toPy, PyData.depth, Bk.depth]; omega
theorem lays_toPy : ∀ (a : List D), areData a = true → PyData.canLayAll0 (toPys a) = true ∧ PyData.depthAll (toPys a) ≤ depths a
  | [], _ => ⟨rfl, Nat.le_refl _⟩
  | d :: ds, h => by
    have h' : (isData d && areData ds) = true := h
    rw [Bool.and_eq_true] at h'
    obtain ⟨h1, h2⟩ := lay_toPy d h'.1
    obtain ⟨h3, h4⟩ := lays_toPy ds h'.2
    refine ⟨by simp only [toPys, PyData.canLayAll0]; simp [h1, h3], ?_⟩
    simp only [toPys, PyData.depthAll, Bk.depths]; omega
end
theorem shaped_toPy {a : D} (f : isData a = true) (h : depth a ≤ 60) : SeqAt.shaped (toPy a) = true := by
  obtain ⟨h1, h2⟩ := lay_toPy a f
  unfold SeqAt.shaped
  rw [h1, Bool.true_and]
  exact decide_eq_true (by omega)
section
variable {K : PySem.W.Frag} {mg : Str → Option Value} {Z : List Addr} {H : Hp}
mutual
theorem dp_of : ∀ (d : D) (v : V), isData d = true → rep K mg Z H d v → Dp K H v (toPy d)
  | .non, v, _, h => by rw [show v = V.non from h]; exact .non
  | .bl b, v, _, h => by rw [show v = V.bl b from h]; exact .bl b
  | .int i, v, _, h => by rw [show v = V.int i from h]; exact .int i
  | .str x, v, _, h => by rw [show v = V.str x from h]; exact .str x
  | .tup l, v, f, h => by
    obtain ⟨a, vs, rfl, h1, h2⟩ := h
    exact .tup h1 (dps_of l vs f h2)
  | .lst l, v, f, h => by
    obtain ⟨a, vs, rfl, _, h1, h2⟩ := h
    exact .lst (SqL.of h1) (dps_of l vs f h2)
  | .fn _, _, f, _ => nomatch f
  | .scr _, _, f, _ => nomatch f
theorem dps_of : ∀ (ds : List D) (vs : List V), areData ds = true → reps K mg Z H ds vs → DpAll K H vs (toPys ds)
  | [], vs, _, h => by rw [show vs = [] from h]; exact .nil
  | d :: ds, vs, f, h => by
    obtain ⟨v, r, rfl, h1, h2⟩ := h
    have f' : (isData d && areData ds) = true := f
    rw [Bool.and_eq_true] at f'
    exact .cons (dp_of d v f'.1 h1) (dps_of ds r f'.2 h2)
end
theorem dp_ofB {d : D} {v : V} (f : isData d = true) (h : repB K mg Z H d v) : Dp K H v (toPy d) := by
  cases d with
  | lst l =>
    obtain ⟨a, vs, rfl, h1, h2⟩ := h
    exact .lst (SqL.of h1) (dps_of _ vs f h2)
  | non => exact dp_of (mg := mg) (Z := Z) _ v f h
  | bl b => exact dp_of (mg := mg) (Z := Z) _ v f h
  | int i => exact dp_of (mg := mg) (Z := Z) _ v f h
  | str x => exact dp_of (mg := mg) (Z := Z) _ v f h
  | tup l => exact dp_of (mg := mg) (Z := Z) _ v f h
  | fn x => exact dp_of (mg := mg) (Z := Z) _ v f h
  | scr l => exact dp_of (mg := mg) (Z := Z) _ v f h
end
theorem any_toPys (z : D) (hz : isData z = true) : ∀ (l : List D), areData l = true → (toPys l).any (fun y => PyData.eqv y (toPy z)) = l.any fun y => eqD y z
  | [], _ => rfl
  | d :: ds, f => by
    have f' : (isData d && areData ds) = true := f
    rw [Bool.and_eq_true] at f'
    show (PyData.eqv (toPy d) (toPy z) || (toPys ds).any fun y => PyData.eqv y (toPy z)) = (eqD d z || ds.any fun y => eqD y z)
    rw [eqv_toPy d z f'.1 hz, any_toPys z hz ds f'.2]
theorem eqOk_of {a b : D} (h : eqOk a b = true) : isData a = true ∧ isData b = true ∧ depth a ≤ 60 ∧ depth b ≤ 60 := by
  unfold eqOk at h
  simp only [Bool.and_eq_true, decide_eq_true_eq] at h
  exact ⟨h.1.1.1, h.1.1.2, h.1.2, h.2⟩
theorem od_eq (hu : X.A.units + 64 < cLine) : OpD X cs (compareOp .Eq) (bo .eq) := by
  refine ⟨_, op_eqD hu, fun W σ Wx fr dx dy x y Q k hx hy p => ?_⟩
  obtain ⟨b, p⟩ := post_gd (show PostE X cs W σ Wx fr (gd (eqOk dx dy) (.bl (eqD dx dy))) Q by cases dx <;> exact p)
  obtain ⟨h1, h2, h3, h4⟩ := eqOk_of b
  exact ⟨_, _, dp_ofB h1 hx, dp_ofB h2 hy, shaped_toPy h1 h3, shaped_toPy h2 h4, here p (by rw [eqv_toPy dx dy h1 h2]; rfl) nl_bl⟩
theorem od_ne (hu : X.A.units + 64 < cLine) : OpD X cs (compareOp .NotEq) (bo .ne) := by
  refine ⟨_, op_neD hu, fun W σ Wx fr dx dy x y Q k hx hy p => ?_⟩
  obtain ⟨b, p⟩ := post_gd (show PostE X cs W σ Wx fr (gd (eqOk dx dy) (.bl (!eqD dx dy))) Q by cases dx <;> exact p)
  obtain ⟨h1, h2, h3, h4⟩ := eqOk_of b
  exact ⟨_, _, dp_ofB h1 hx, dp_ofB h2 hy, shaped_toPy h1 h3, shaped_toPy h2 h4, here p (by rw [eqv_toPy dx dy h1 h2]; rfl) nl_bl⟩
theorem eqV_flat {a b : D} {x y : V} {Z Z' : List Addr} {H H' : Hp} (fa : flat a = true) (fb : flat b = true) (ha : rep X.K X.mg Z H a x) (hb : rep X.K X.mg Z' H' b y) : eqV x y = eqD a b ∧ flatV x = true := by
  cases a <;> first | cases fa | skip
  all_goals (obtain rfl : x = _ := ha)
  all_goals (cases b <;> first | cases fb | skip)
  all_goals (obtain rfl : y = _ := hb)
  all_goals (refine ⟨?_, rfl⟩)
  all_goals first
    | rfl
    | (show (_ == _) = decide _; rw [Bool.beq_eq_decide_eq])
theorem inV_flat {a : D} {x : V} {Z : List Addr} {H : Hp} (fa : flat a = true) (ha : rep X.K X.mg Z H a x) : ∀ {l : List D} {vs : List V}, l.all flat = true → reps X.K X.mg Z H l vs → inV x vs = l.any (fun z => eqD z a) ∧ vs.all flatV = true
  | [], vs, _, h => by rw [show vs = [] from h]; exact ⟨rfl, rfl⟩
  | d :: ds, vs, f, h => by
    obtain ⟨v, r, rfl, h1, h2⟩ := h
    rw [List.all_cons, Bool.and_eq_true] at f
    obtain ⟨e1, e2⟩ := eqV_flat f.1 fa h1 ha
    obtain ⟨e3, e4⟩ := inV_flat fa ha f.2 h2
    refine ⟨?_, by rw [List.all_cons, e2, e4]; rfl⟩
    show (eqV v x || inV x r) = _
    rw [e1, e3]; rfl
theorem flat_rep {a : D} {x : V} {Z : List Addr} {H : Hp} (fa : flat a = true) (h : repB X.K X.mg Z H a x) : rep X.K X.mg Z H a x := by
  cases a <;> first | exact h | cases fa
theorem od_in (hu : X.A.units + 65 < cLine) : OpD X cs (compareOp .In) (bo .in_) := by
  refine ⟨_, (op_inD hu).or op_in_seq, fun W σ Wx fr dx dy x y Q k hx hy p => ?_⟩
  cases dy <;> first | (cases dx <;> exact (show False from p).elim) | skip
  · rename_i l
    obtain ⟨b, p⟩ := post_gd (show PostE X cs W σ Wx fr (gd (flat dx && l.all flat) (.bl (l.any fun z => eqD z dx))) Q by cases dx <;> exact p)
    rw [Bool.and_eq_true] at b
    obtain ⟨a, vs, rfl, h1, h2⟩ := hy
    have hx' := flat_rep b.1 hx
    obtain ⟨e1, e2⟩ := inV_flat b.1 hx' b.2 h2
    exact .inr ⟨a, vs, rfl, .inr h1, (eqV_flat b.1 b.1 hx' hx').2, e2, here p (by rw [if_neg Bool.false_ne_true, e1]; rfl) nl_bl⟩
  · rename_i l
    obtain ⟨b, p⟩ := post_gd (show PostE X cs W σ Wx fr (gd (eqOk dx (.lst l)) (.bl (l.any fun z => eqD z dx))) Q by cases dx <;> exact p)
    obtain ⟨h1, h2, h3, h4⟩ := eqOk_of b
    exact .inl ⟨_, toPys l, dp_ofB h1 hx, dp_ofB h2 hy, shaped_toPy h1 h3, shaped_toPy h2 h4, here p (by rw [any_toPys dx h1 l h2]; rfl) nl_bl⟩
theorem od_nin (hu : X.A.units + 65 < cLine) : OpD X cs (compareOp .NotIn) (bo .nin) := by
  refine ⟨_, (op_notInD hu).or op_notIn_seq, fun W σ Wx fr dx dy x y Q k hx hy p => ?_⟩
  cases dy <;> first | (cases dx <;> exact (show False from p).elim) | skip
  · rename_i l
    obtain ⟨b, p⟩ := post_gd (show PostE X cs W σ Wx fr (gd (flat dx && l.all flat) (.bl (!(l.any fun z => eqD z dx)))) Q by cases dx <;> exact p)
    rw [Bool.and_eq_true] at b
    obtain ⟨a, vs, rfl, h1, h2⟩ := hy
    have hx' := flat_rep b.1 hx
    obtain ⟨e1, e2⟩ := inV_flat b.1 hx' b.2 h2
    exact .inr ⟨a, vs, rfl, .inr h1, (eqV_flat b.1 b.1 hx' hx').2, e2, here p (by rw [if_pos rfl, e1]; rfl) nl_bl⟩
  · rename_i l
    obtain ⟨b, p⟩ := post_gd (show PostE X cs W σ Wx fr (gd (eqOk dx (.lst l)) (.bl (!(l.any fun z => eqD z dx)))) Q by cases dx <;> exact p)
    obtain ⟨h1, h2, h3, h4⟩ := eqOk_of b
    exact .inl ⟨_, toPys l, dp_ofB h1 hx, dp_ofB h2 hy, shaped_toPy h1 h3, shaped_toPy h2 h4, here p (by rw [any_toPys dx h1 l h2]; rfl) nl_bl⟩
theorem od_all (hu : X.A.units + 65 < cLine) : ∀ o : BO, OpD X cs (opSem o) (bo o)
  | .add => od_add
  | .sub => od_sub
  | .mul => od_mul
  | .fdiv => od_fdiv
  | .mod => od_mod
  | .pow => od_pow
  | .eq => od_eq (by omega)
  | .ne => od_ne (by omega)
  | .lt => od_lt
  | .le => od_le
  | .gt => od_gt
  | .ge => od_ge
  | .in_ => od_in hu
  | .nin => od_nin hu
  | .is_ => od_is
  | .isn => od_isn
def binOf : BO → Option Operator
  | .add => some .Add
  | .sub => some .Sub
  | .mul => some .Mult
  | .fdiv => some .FloorDiv
  | .mod => some .Mod
  | .pow => some .Pow
  | _ => none
def cmpOf : BO → Option CmpOp
  | .eq => some .Eq
  | .ne => some .NotEq
  | .lt => some .Lt
  | .le => some .LtE
  | .gt => some .Gt
  | .ge => some .GtE
  | .in_ => some .In
  | .nin => some .NotIn
  | .is_ => some .Is
  | .isn => some .IsNot
  | _ => none
theorem binOf_sem {o : BO} {op : Operator} (h : binOf o = some op) : opSem o = binaryOp op := by
  cases o <;> cases h <;> rfl
theorem cmpOf_sem {o : BO} {op : CmpOp} (h : cmpOf o = some op) : opSem o = compareOp op := by
  cases o <;> cases h <;> rfl
/-- the frame's reading of a part, then the rest -/
theorem tOp_of {r : R2} {fa fb : En → R D} {o : D → D → R D}
    (hr : ∀ (W : Wd) (σ : L2.St) (dx dy : D) (x y : V) (Q : VK), W.Ok cs → repB X.K X.mg W.zs W.H dx x → repB X.K X.mg W.zs W.H dy y → PostE X cs W σ Wx fr (o dx dy) Q → r x y W.H Q)
    {σ : L2.St} {H : Hp} {Q : VK} (h : tE X cs Wx fr (fun ρ => (fa ρ).bind fun x => (fb ρ).bind fun y => o x y) σ H Q) : tOp r (tB X cs Wx fa) (tB X cs Wx fb) σ H Q := by
  obtain ⟨A, C, ρ, k, re, p⟩ := h
  try dsimp only at p
  refine tB_of (W := ⟨H, A, C⟩) k re p.lets fun dx H1 x q1 e1 r1 => ?_
  rw [q1] at p
  have p1 := PostE.go (H1 := H1) e1 p
  dsimp only [R.bind] at p1
  refine tB_of (W := ⟨H1, A, C⟩) (k.ext e1) (re.ext e1) (PostE.lets p1) fun dy H2 y q2 e2 r2 => ?_
  have p3 := PostE.go (H1 := H2) e2 p1
  rw [q2] at p3
  exact hr ⟨H2, A, C⟩ σ dx dy x y Q ((k.ext e1).ext e2) (repB_ext e2 r1) r2 p3
theorem de_bin {o : BO} {op : Operator} (ho : binOf o = some op) (hu : X.A.units + 65 < cLine) {a b : Expr} {fa fb : En → R D} (ha : DB X cs Wx a fa) (hb : DB X cs Wx b fb) :
    DE X cs Wx fr (.BinOp a op b pos) (fun ρ => (fa ρ).bind fun x => (fb ρ).bind fun y => bo o x y) := by
  obtain ⟨r, h1, h2⟩ := od_all (cs := cs) hu o
  rw [binOf_sem ho] at h1
  exact pe_imp (pe_op h1 ha hb) fun σ H Q h => tOp_of (fun W σ dx dy x y Q => h2 W σ Wx fr dx dy x y Q) h
theorem de_cmp {o : BO} {op : CmpOp} (ho : cmpOf o = some op) (hu : X.A.units + 65 < cLine) {a b : Expr} {fa fb : En → R D} (ha : DB X cs Wx a fa) (hb : DB X cs Wx b fb) (hm : behindInMarks op b = false) :
    DE X cs Wx fr (.Compare a [op] [b] pos) (fun ρ => (fa ρ).bind fun x => (fb ρ).bind fun y => bo o x y) := by
  obtain ⟨r, h1, h2⟩ := od_all (cs := cs) hu o
  rw [cmpOf_sem ho] at h1
  exact pe_imp (pe_cmpR h1 ha hb hm) fun σ H Q h => tOp_of (fun W σ dx dy x y Q => h2 W σ Wx fr dx dy x y Q) h
/-! ### truth -/
theorem truth_ok {Z : List Addr} {H : Hp} {d : D} {x : V} {b : Bool} (h : repB X.K X.mg Z H d x) (t : truth d = .ok b) : TruV X.K x H b := by
  cases d with
  | non => obtain rfl : x = _ := h; cases t; rfl
  | bl c => obtain rfl : x = _ := h; cases t; rfl
  | int i =>
    obtain rfl : x = _ := h
    cases t
    show _ = (i != 0)
    by_cases e : i = 0
    · subst e; rfl
    · simp [e]
  | str _ => cases t
  | tup l =>
    obtain ⟨a, vs, rfl, h1, h2⟩ := h
    cases t
    refine .inr (.inl ⟨vs, h1, ?_⟩)
    have := reps_len h2
    cases l <;> cases vs <;> first | rfl | simp at this
  | lst l =>
    obtain ⟨a, vs, rfl, h1, h2⟩ := h
    cases t
    refine .inl ⟨vs, SqL.of h1, ?_⟩
    have := reps_len h2
    cases l <;> cases vs <;> first | rfl | simp at this
  | fn _ => cases t
  | scr _ => cases t
theorem truth_ex {d : D} {c : Str} {e : D} : truth d ≠ .ex c e := by
  cases d <;> (intro h; cases h)
theorem de_not {a : Expr} {fa : En → R D} (ha : DE X cs Wx false a fa) : DE X cs Wx fr (.UnaryOp .Not a pos) (fun ρ => (fa ρ).bind fun x => (truth x).bind fun b => .ok (.bl (!b))) := by
  refine pe_imp (pe_notT ha) fun σ H Q h => ?_
  obtain ⟨A, C, ρ, k, r, p⟩ := h
  try dsimp only at p
  refine tE_of (W := ⟨H, A, C⟩) k r p.lets fun d H1 v q1 e1 r1 => ?_
  rw [q1] at p
  have p1 := PostE.go (H1 := H1) e1 p
  cases t : truth d with
  | ok b =>
    refine ⟨b, truth_ok (repB_of r1.val) t, ?_⟩
    dsimp only [R.bind] at p1
    rw [t] at p1
    exact here (W := ⟨H1, A, C⟩) (fr := fr) p1 rfl nl_bl
  | ex c e => exact absurd t truth_ex
  | bad => dsimp only [R.bind] at p1; rw [t] at p1; exact p1.elim
/-- the whole expression freed of freshness, for the parts of and, or, if -/
theorem PostE.weak {W : Wd} {σ : L2.St} {r : R D} {Q : VK} (p : PostE X cs W σ Wx false r Q) : PostE X cs W σ Wx fr r Q := by
  cases r with
  | ok d => exact fun H' v e q => p H' v e ⟨q.val, fun z => nomatch z⟩
  | ex c d => exact p
  | bad => exact p
theorem de_and {a b : Expr} {rest : List Expr} {fa fb : En → R D} (ha : DE X cs Wx false a fa) (hb : DE X cs Wx false (.BoolOp .And (b :: rest) pos) fb) :
    DE X cs Wx false (.BoolOp .And (a :: b :: rest) pos) (fun ρ => (fa ρ).bind fun x => (truth x).bind fun t => if t = true then fb ρ else .ok x) := by
  refine pe_imp (pe_andT ha hb) fun σ H Q h => ?_
  obtain ⟨A, C, ρ, k, r, p⟩ := h
  try dsimp only at p
  refine tE_of (W := ⟨H, A, C⟩) k r p.lets fun d H1 v q1 e1 r1 => ?_
  rw [q1] at p
  have p1 := PostE.go (H1 := H1) e1 p
  dsimp only [R.bind] at p1
  cases t : truth d with
  | ok c =>
    rw [t] at p1
    refine ⟨c, truth_ok (repB_of r1.val) t, ?_⟩
    cases c with
    | true =>
      rw [if_pos rfl]
      dsimp only at p1; rw [if_pos rfl] at p1
      exact ⟨A, C, ρ, k.ext e1, r.ext e1, p1⟩
    | false =>
      rw [if_neg Bool.false_ne_true]
      dsimp only at p1; rw [if_neg Bool.false_ne_true] at p1
      exact p1 H1 v Ext.refl ⟨r1.val, fun z => nomatch z⟩
  | ex c e => exact absurd t truth_ex
  | bad => rw [t] at p1; exact p1.elim
theorem de_or {a b : Expr} {rest : List Expr} {fa fb : En → R D} (ha : DE X cs Wx false a fa) (hb : DE X cs Wx false (.BoolOp .Or (b :: rest) pos) fb) :
    DE X cs Wx false (.BoolOp .Or (a :: b :: rest) pos) (fun ρ => (fa ρ).bind fun x => (truth x).bind fun t => if t = true then .ok x else fb ρ) := by
  refine pe_imp (pe_orT ha hb) fun σ H Q h => ?_
  obtain ⟨A, C, ρ, k, r, p⟩ := h
  try dsimp only at p
  refine tE_of (W := ⟨H, A, C⟩) k r p.lets fun d H1 v q1 e1 r1 => ?_
  rw [q1] at p
  have p1 := PostE.go (H1 := H1) e1 p
  dsimp only [R.bind] at p1
  cases t : truth d with
  | ok c =>
    rw [t] at p1
    refine ⟨c, truth_ok (repB_of r1.val) t, ?_⟩
    cases c with
    | true =>
      rw [if_pos rfl]
      dsimp only at p1; rw [if_pos rfl] at p1
      exact p1 H1 v Ext.refl ⟨r1.val, fun z => nomatch z⟩
    | false =>
      rw [if_neg Bool.false_ne_true]
      dsimp only at p1; rw [if_neg Bool.false_ne_true] at p1
      exact ⟨A, C, ρ, k.ext e1, r.ext e1, p1⟩
  | ex c e => exact absurd t truth_ex
  | bad => rw [t] at p1; exact p1.elim
/-- a test by its value's truth -/
theorem dt_of {e : Expr} {f : En → R D} (h : DE X cs Wx false e f) (he : ∀ whole, isTrue e X.env whole = (do let v ← whole; standAt e.pos; holding [v] (truthy v))) : DT X cs Wx e (fun ρ => (f ρ).bind truth) := by
  refine pt_imp (pt_truth h he) fun σ H Q h => ?_
  obtain ⟨A, C, ρ, k, r, p⟩ := h
  try dsimp only at p
  refine tE_of (W := ⟨H, A, C⟩) k r p.lets fun d H1 v q1 e1 r1 => ?_
  rw [q1] at p
  have p1 := PostT.go (H1 := H1) e1 p
  dsimp only [R.bind] at p1
  cases t : truth d with
  | ok b =>
    rw [t] at p1
    exact ⟨b, truth_ok (repB_of r1.val) t, p1 H1 Ext.refl⟩
  | ex c e => exact absurd t truth_ex
  | bad => rw [t] at p1; exact p1.elim
theorem dt_eq {e : Expr} {f g : En → R Bool} (h : DT X cs Wx e f) (he : ∀ ρ, f ρ = g ρ) : DT X cs Wx e g := by
  have : f = g := funext he
  rw [← this]; exact h
theorem dt_not {a : Expr} {fa : En → R Bool} (ha : DT X cs Wx a fa) : DT X cs Wx (.UnaryOp .Not a pos) (fun ρ => (fa ρ).bind fun b => .ok (!b)) := by
  refine pt_imp (pt_not ha) fun σ H Q h => ?_
  obtain ⟨A, C, ρ, k, r, p⟩ := h
  try dsimp only at p
  refine tT_of (W := ⟨H, A, C⟩) k r p.lets fun b H1 q1 e1 => ?_
  rw [q1] at p
  exact (PostT.go (H1 := H1) e1 p) H1 Ext.refl
abbrev DW (X : Cx) (cs : List (Addr × Addr)) (Wx : WX) (e : Expr) (f : En → R Bool) : Prop := PW X e (tT X cs Wx f)
theorem pw_imp {e : Expr} {t t' : TT} (h : PW X e t) (k : ∀ σ H Q, t' σ H Q → t σ H Q) : PW X e t' := ⟨fun w pins s σ H Q I q => h.run w pins s σ H Q I (k _ _ _ q)⟩
theorem dw_and {a b : Expr} {rest : List Expr} {fa fb : En → R Bool} (ha : DT X cs Wx a fa) (hb : DW X cs Wx (.BoolOp .And (b :: rest) pos) fb) : DW X cs Wx (.BoolOp .And (a :: b :: rest) pos) (fun ρ => (fa ρ).bind fun t => if t = true then fb ρ else .ok false) := by
  refine pw_imp (pw_and ha hb) fun σ H Q h => ?_
  obtain ⟨A, C, ρ, k, r, p⟩ := h
  try dsimp only at p
  refine tT_of (W := ⟨H, A, C⟩) k r p.lets fun c H1 q1 e1 => ?_
  rw [q1] at p
  have p1 := PostT.go (H1 := H1) e1 p
  dsimp only [R.bind] at p1
  cases c with
  | true =>
    rw [if_pos rfl] at p1 ⊢
    exact ⟨A, C, ρ, k.ext e1, r.ext e1, p1⟩
  | false =>
    rw [if_neg Bool.false_ne_true] at p1 ⊢
    exact p1 H1 Ext.refl
theorem dw_or {a b : Expr} {rest : List Expr} {fa fb : En → R Bool} (ha : DT X cs Wx a fa) (hb : DW X cs Wx (.BoolOp .Or (b :: rest) pos) fb) : DW X cs Wx (.BoolOp .Or (a :: b :: rest) pos) (fun ρ => (fa ρ).bind fun t => if t = true then .ok true else fb ρ) := by
  refine pw_imp (pw_or ha hb) fun σ H Q h => ?_
  obtain ⟨A, C, ρ, k, r, p⟩ := h
  try dsimp only at p
  refine tT_of (W := ⟨H, A, C⟩) k r p.lets fun c H1 q1 e1 => ?_
  rw [q1] at p
  have p1 := PostT.go (H1 := H1) e1 p
  dsimp only [R.bind] at p1
  cases c with
  | true =>
    rw [if_pos rfl] at p1 ⊢
    exact p1 H1 Ext.refl
  | false =>
    rw [if_neg Bool.false_ne_true] at p1 ⊢
    exact ⟨A, C, ρ, k.ext e1, r.ext e1, p1⟩
theorem de_ite {c a b : Expr} {fc : En → R Bool} {fa fb : En → R D} (hc : DT X cs Wx c fc) (ha : DE X cs Wx fr a fa) (hb : DE X cs Wx fr b fb) :
    DE X cs Wx fr (.IfExp c a b pos) (fun ρ => (fc ρ).bind fun t => if t = true then fa ρ else fb ρ) := by
  refine pe_imp (pe_ifExp hc ha hb) fun σ H Q h => ?_
  obtain ⟨A, C, ρ, k, r, p⟩ := h
  try dsimp only at p
  refine tT_of (W := ⟨H, A, C⟩) k r p.lets fun t H1 q1 e1 => ?_
  rw [q1] at p
  have p1 := PostE.go (H1 := H1) e1 p
  dsimp only [R.bind] at p1
  cases t with
  | true =>
    rw [if_pos rfl] at p1 ⊢
    exact ⟨A, C, ρ, k.ext e1, r.ext e1, p1⟩
  | false =>
    rw [if_neg Bool.false_ne_true] at p1 ⊢
    exact ⟨A, C, ρ, k.ext e1, r.ext e1, p1⟩
theorem de_neg {a : Expr} {fa : En → R D} (ha : DE X cs Wx false a fa) : DE X cs Wx fr (.UnaryOp .USub a pos) (fun ρ => (fa ρ).bind fun x => (asInt x).bind fun i => .ok (.int (-i))) := by
  refine pe_imp (pe_un un_neg ha) fun σ H Q h => ?_
  obtain ⟨A, C, ρ, k, r, p⟩ := h
  try dsimp only at p
  refine tE_of (W := ⟨H, A, C⟩) k r p.lets fun d H1 v q1 e1 r1 => ?_
  rw [q1] at p
  have p1 := PostE.go (H1 := H1) e1 p
  cases d <;> first | exact (show False from p1).elim | skip
  exact ⟨_, r1.val, here (W := ⟨H1, A, C⟩) (fr := fr) p1 rfl nl_int⟩
theorem post_asBl {W : Wd} {σ : L2.St} {r : R D} {g : Bool → R D} {Q : VK} (p : PostE X cs W σ Wx fr (r.bind fun z => (asBl z).bind g) Q) : PostE X cs W σ Wx false r (fun z H3 => ∃ t, z = .bl t ∧ PostE X cs ⟨H3, W.A, W.C⟩ σ Wx fr (g t) Q) := by
  cases r with
  | ok d =>
    intro H' v e q
    have p1 := PostE.go (H1 := H') e p
    cases d <;> first | exact (show False from p1).elim | skip
    exact ⟨_, q.val, p1⟩
  | ex c d => exact p
  | bad => exact p
theorem PostE.imp {W : Wd} {σ : L2.St} {r : R D} {Q Q' : VK} (p : PostE X cs W σ Wx fr r Q) (h : ∀ v H', Ext cs W.H H' → Q v H' → Q' v H') : PostE X cs W σ Wx fr r Q' := by
  cases r with
  | ok d => exact fun H' v e q => h v H' e (p H' v e q)
  | ex c d => exact p
  | bad => exact p
theorem tChain_of {r1 r2 : R2} {fa fb fc : En → R D} {o o2 : D → D → R D}
    (h1 : ∀ (W : Wd) (σ : L2.St) (Wx : WX) (fr : Bool) (dx dy : D) (x y : V) (Q : VK), W.Ok cs → repB X.K X.mg W.zs W.H dx x → repB X.K X.mg W.zs W.H dy y → PostE X cs W σ Wx fr (o dx dy) Q → r1 x y W.H Q)
    (h2 : ∀ (W : Wd) (σ : L2.St) (Wx : WX) (fr : Bool) (dx dy : D) (x y : V) (Q : VK), W.Ok cs → repB X.K X.mg W.zs W.H dx x → repB X.K X.mg W.zs W.H dy y → PostE X cs W σ Wx fr (o2 dx dy) Q → r2 x y W.H Q)
    {σ : L2.St} {H : Hp} {Q : VK} (h : tE X cs Wx fr (fun ρ => (fa ρ).bind fun x => (fb ρ).bind fun y => (o x y).bind fun r => (asBl r).bind fun t => if t = true then (fc ρ).bind fun z => o2 y z else .ok (.bl false)) σ H Q) :
    tChain r1 r2 (tB X cs Wx fa) (tB X cs Wx fb) (tB X cs Wx fc) σ H Q := by
  obtain ⟨A, C, ρ, k, re, p⟩ := h
  try dsimp only at p
  refine tB_of (W := ⟨H, A, C⟩) k re p.lets fun dx H1 x q1 e1 rx => ?_
  rw [q1] at p
  have p1 := PostE.go (H1 := H1) e1 p
  dsimp only [R.bind] at p1
  refine tB_of (W := ⟨H1, A, C⟩) (k.ext e1) (re.ext e1) (PostE.lets p1) fun dy H2 y q2 e2 ry => ?_
  have p2 := PostE.go (H1 := H2) e2 p1
  rw [q2] at p2
  have k2 := (k.ext e1).ext e2
  have re2 := (re.ext e1).ext e2
  refine h1 ⟨H2, A, C⟩ σ Wx false dx dy x y _ k2 (repB_ext e2 rx) ry ?_
  refine PostE.imp (post_asBl p2) fun z H3 e3 hz => ?_
  obtain ⟨t, rfl, p3⟩ := hz
  refine ⟨t, rfl, ?_⟩
  cases t with
  | true =>
    rw [if_pos rfl] at p3 ⊢
    refine tB_of (W := ⟨H3, A, C⟩) (k2.ext e3) (re2.ext e3) p3.lets fun dz H4 z q4 e4 rz => ?_
    rw [q4] at p3
    exact h2 ⟨H4, A, C⟩ σ Wx fr dy dz y z Q ((k2.ext e3).ext e4) (repB_ext e4 (repB_ext e3 ry)) rz (PostE.go (H1 := H4) e4 p3)
  | false =>
    rw [if_neg Bool.false_ne_true] at p3 ⊢
    exact here (W := ⟨H3, A, C⟩) (fr := fr) p3 rfl nl_bl
theorem de_chn {o o2 : BO} {op op2 : CmpOp} (ho : cmpOf o = some op) (ho2 : cmpOf o2 = some op2) (hu : X.A.units + 65 < cLine) {a b c : Expr} {fa fb fc : En → R D} (ha : DB X cs Wx a fa) (hb : DB X cs Wx b fb) (hc : DB X cs Wx c fc)
    (hm : lastMarks [op, op2] [b, c] = false) :
    DE X cs Wx fr (.Compare a [op, op2] [b, c] pos) (fun ρ => (fa ρ).bind fun x => (fb ρ).bind fun y => (bo o x y).bind fun r => (asBl r).bind fun t => if t = true then (fc ρ).bind fun z => bo o2 y z else .ok (.bl false)) := by
  obtain ⟨r1, h1, h2⟩ := od_all (cs := cs) hu o
  obtain ⟨r2, h3, h4⟩ := od_all (cs := cs) hu o2
  rw [cmpOf_sem ho] at h1
  rw [cmpOf_sem ho2] at h3
  exact pe_imp (pe_chain h1 h3 ha hb hc hm) fun σ H Q h => tChain_of h2 h4 h
theorem bo_cmp {o : BO} {op : CmpOp} (ho : cmpOf o = some op) (x y : D) (d : D) (h : bo o x y = .ok d) : ∃ b, d = .bl b := by
  cases o <;> first | (cases ho; done) | skip
  all_goals (first
    | (cases x <;> cases y <;> first | (cases h; done) | (cases h; exact ⟨_, rfl⟩) | (obtain ⟨_, e⟩ := gd_ok h; exact ⟨_, e⟩)))
theorem dt_chn {o o2 : BO} {op op2 : CmpOp} (ho : cmpOf o = some op) (ho2 : cmpOf o2 = some op2) (hu : X.A.units + 65 < cLine) {a b c : Expr} {fa fb fc : En → R D} (ha : DB X cs Wx a fa) (hb : DB X cs Wx b fb) (hc : DB X cs Wx c fc)
    (hm : lastMarks [op, op2] [b, c] = false) :
    DT X cs Wx (.Compare a [op, op2] [b, c] pos) (fun ρ => ((fa ρ).bind fun x => (fb ρ).bind fun y => (bo o x y).bind fun r => (asBl r).bind fun t => if t = true then (fc ρ).bind fun z => bo o2 y z else .ok (.bl false)).bind truth) := by
  obtain ⟨r1, h1, h2⟩ := od_all (cs := cs) hu o
  obtain ⟨r2, h3, h4⟩ := od_all (cs := cs) hu o2
  rw [cmpOf_sem ho] at h1
  rw [cmpOf_sem ho2] at h3
  refine pt_imp (pt_chain h1 h3 ha hb hc hm) fun σ H Q h => ?_
  obtain ⟨A, C, ρ, k, re, p⟩ := h
  try dsimp only at p
  refine tChain_of (fr := false) h2 h4 (tE_of (W := ⟨H, A, C⟩) k re p.lets fun d H1 v q1 e1 r1 => ?_)
  rw [q1] at p
  have p1 := PostT.go (H1 := H1) e1 p
  dsimp only [R.bind] at p1
  have hb : ∃ b, d = .bl b := by
    cases ea : fa ρ with
    | ok x =>
      rw [ea] at q1
      cases eb : fb ρ with
      | ok y =>
        rw [eb] at q1
        dsimp only [R.bind] at q1
        cases ec : bo o x y with
        | ok z =>
          rw [ec] at q1
          dsimp only at q1
          obtain ⟨t, rfl⟩ := bo_cmp ho x y z ec
          dsimp only [asBl] at q1
          cases t with
          | true =>
            rw [if_pos rfl] at q1
            cases ed : fc ρ with
            | ok w =>
              rw [ed] at q1
              exact bo_cmp ho2 y w d q1
            | ex c e => rw [ed] at q1; cases q1
            | bad => rw [ed] at q1; cases q1
          | false =>
            rw [if_neg Bool.false_ne_true] at q1
            cases q1
            exact ⟨_, rfl⟩
        | ex c e => rw [ec] at q1; cases q1
        | bad => rw [ec] at q1; cases q1
      | ex c e => rw [eb] at q1; cases q1
      | bad => rw [eb] at q1; cases q1
    | ex c e => rw [ea] at q1; cases q1
    | bad => rw [ea] at q1; cases q1
  obtain ⟨b, rfl⟩ := hb
  obtain rfl : v = V.bl b := r1.val
  exact ⟨b, rfl, p1 H1 Ext.refl⟩
end
end Bk
end
section
set_option autoImplicit false
set_option linter.all false
set_option maxRecDepth 100000
/-! Expressions, further: displays, subscripts, built-in functions, calls, isinstance. -/
namespace Bk
open PySem L2
section
variable {X : Cx} {cs : List (Addr × Addr)} {Wx : WX} {fr : Bool} {pos : Pos}
/-! ### arguments -/
def notStar : Expr → Bool
  | .Starred .. => false
  | _ => true
theorem star_cons {e : Expr} {es : List Expr} {env : Env} (h : notStar e = true) : starEach (e :: es) env = (false, eval e env) :: starEach es env := by
  cases e <;> first | rfl | cases h
def noStars : List Expr → Bool
  | [] => true
  | e :: es => notStar e && noStars es
theorem star_any {pos : Pos} {env : Env} : ∀ {es : List Expr}, noStars es = true → (backTo pos (starEach es env)).any (·.1) = false
  | [], _ => rfl
  | e :: es, h => by
    have h' : (notStar e && noStars es) = true := h
    rw [Bool.and_eq_true] at h'
    rw [star_cons h'.1]
    have := star_any (pos := pos) (env := env) h'.2
    cases es with
    | nil => rfl
    | cons e2 es2 =>
      have h3 : (notStar e2 && noStars es2) = true := h'.2
      rw [Bool.and_eq_true] at h3
      rw [star_cons h3.1] at this ⊢
      exact this
theorem dl_nil : DL X cs Wx [] (fun _ => .ok []) := pa_imp pa_nil fun σ H Q ⟨A, C, ρ, k, r, p⟩ => p H [] Ext.refl rfl
theorem dl_cons {e : Expr} {es : List Expr} {f : En → R D} {g : En → R (List D)} (h : DE X cs Wx false e f) (hs : DL X cs Wx es g) (ns : notStar e = true) : DL X cs Wx (e :: es) (fun ρ => (f ρ).bind fun d => (g ρ).bind fun ds => .ok (d :: ds)) := by
  refine pa_imp (pa_cons h hs (star_cons ns)) fun σ H Q h => ?_
  obtain ⟨A, C, ρ, k, r, p⟩ := h
  try dsimp only at p
  refine tE_of (W := ⟨H, A, C⟩) k r p.lets fun d H1 v q1 e1 r1 => ?_
  rw [q1] at p
  have p1 := PostL.go (H1 := H1) e1 p
  dsimp only [R.bind] at p1
  refine tL_of (W := ⟨H1, A, C⟩) (k.ext e1) (r.ext e1) (PostL.lets p1) fun ds H2 vs q2 e2 r2 => ?_
  have p2 := PostL.go (H1 := H2) e2 p1
  rw [q2] at p2
  exact p2 H2 (v :: vs) Ext.refl ⟨v, vs, rfl, rep_ext e2 r1.val, r2⟩
theorem dbs_nil : DBs X cs Wx [] (fun _ => .ok []) := pa_imp pa_nil fun σ H Q ⟨A, C, ρ, k, r, p⟩ => p H [] Ext.refl .nil
theorem paired_ext {H H' : Hp} {Z : List Addr} (e : Ext cs H H') : ∀ {ds : List D} {vs : List V}, Paired (repB X.K X.mg Z H) ds vs → Paired (repB X.K X.mg Z H') ds vs
  | _, _, .nil => .nil
  | _, _, .cons h t => .cons (repB_ext e h) (paired_ext e t)
theorem dbs_cons {e : Expr} {es : List Expr} {f : En → R D} {g : En → R (List D)} (h : DB X cs Wx e f) (hs : DBs X cs Wx es g) (ns : notStar e = true) : DBs X cs Wx (e :: es) (fun ρ => (f ρ).bind fun d => (g ρ).bind fun ds => .ok (d :: ds)) := by
  refine pa_imp (pa_cons h hs (star_cons ns)) fun σ H Q h => ?_
  obtain ⟨A, C, ρ, k, r, p⟩ := h
  try dsimp only at p
  refine tB_of (W := ⟨H, A, C⟩) k r p.lets fun d H1 v q1 e1 r1 => ?_
  rw [q1] at p
  have p1 := PostBs.go (H1 := H1) e1 p
  dsimp only [R.bind] at p1
  refine tBs_of (W := ⟨H1, A, C⟩) (k.ext e1) (r.ext e1) (PostBs.lets p1) fun ds H2 vs q2 e2 r2 => ?_
  have p2 := PostBs.go (H1 := H2) e2 p1
  rw [q2] at p2
  exact p2 H2 (v :: vs) Ext.refl (.cons (repB_ext e2 r1) r2)
theorem de_tup {es : List Expr} {x1 : Nat} {f : En → R (List D)} (h : DL X cs Wx es f) : DE X cs Wx fr (.Tuple es x1 pos) (fun ρ => (f ρ).bind mkT) := by
  refine pe_imp (pe_tup h) fun σ H Q h => ?_
  obtain ⟨A, C, ρ, k, r, p⟩ := h
  try dsimp only at p
  refine tL_of (W := ⟨H, A, C⟩) k r p.lets fun ds H1 vs q1 e1 r1 => ?_
  rw [q1] at p
  obtain ⟨b, p1⟩ := post_gd (PostE.go (H1 := H1) e1 p)
  exact ⟨by rw [reps_len r1]; exact slen b, fun q hq => newT (W := ⟨H1, A, C⟩) (fr := fr) p1 r1 q hq⟩
theorem de_lst {es : List Expr} {f : En → R (List D)} (h : DL X cs Wx es f) : DE X cs Wx fr (.List es pos) (fun ρ => (f ρ).bind mkL) := by
  refine pe_imp (pe_lst h) fun σ H Q h => ?_
  obtain ⟨A, C, ρ, k, r, p⟩ := h
  try dsimp only at p
  refine tL_of (W := ⟨H, A, C⟩) k r p.lets fun ds H1 vs q1 e1 r1 => ?_
  rw [q1] at p
  obtain ⟨b, p1⟩ := post_gd (PostE.go (H1 := H1) e1 p)
  exact ⟨by rw [reps_len r1]; exact slen b, fun q hq => newL (W := ⟨H1, A, C⟩) (fr := fr) p1 r1 (k.ext e1) q hq⟩

/-! ### subscripts -/
def notSlice : Expr → Bool
  | .Slice .. => false
  | _ => true
theorem plainIx {b : Expr} (h : notSlice b = true) : PlainIx b := fun o i => by
  cases b <;> first | rfl | cases h
theorem atI_same {α : Type} (xs : List α) (i : Int) : L2.atI xs i = Bk.atI xs i := rfl
theorem atI_reps {Z : List Addr} {H : Hp} {ds : List D} {vs : List V} {i : Int} {d : D} (h : reps X.K X.mg Z H ds vs) (e : Bk.atI ds i = some d) : ∃ v, L2.atI vs i = some v ∧ rep X.K X.mg Z H d v := by
  unfold Bk.atI at e
  obtain ⟨j, h1, h2⟩ := Option.bind_eq_some_iff.mp e
  obtain ⟨v, h3, h4⟩ := reps_at h h2
  refine ⟨v, ?_, h4⟩
  show (Bk.ixN vs.length i).bind (fun j => vs[j]?) = some v
  rw [reps_len h, h1]
  exact h3
theorem ofO_ok {α : Type} {o : Option α} {a : α} (h : ofO o = .ok a) : o = some a := by
  cases o <;> cases h; rfl
theorem post_ofO {W : Wd} {σ : L2.St} {o : Option D} {Q : VK} (p : PostE X cs W σ Wx fr (ofO o) Q) : ∃ d, o = some d ∧ PostE X cs W σ Wx fr (.ok d) Q := by
  cases o with
  | none => exact p.elim
  | some d => exact ⟨d, rfl, p⟩
theorem atI_map {α β : Type} (f : α → β) (xs : List α) (i : Int) : L2.atI (xs.map f) i = (L2.atI xs i).map f := by
  show (Bk.ixN (xs.map f).length i).bind (fun j => (xs.map f)[j]?) = ((Bk.ixN xs.length i).bind fun j => xs[j]?).map f
  rw [List.length_map]
  cases Bk.ixN xs.length i with
  | none => rfl
  | some j => simp
theorem de_idx {a i : Expr} {fa fi : En → R D} (ha : DB X cs Wx a fa) (hi : DE X cs Wx false i fi) (hn : notSlice i = true) : DE X cs Wx false (.Subscript a i pos) (fun ρ => (fa ρ).bind fun x => (fi ρ).bind fun y => ix x y) := by
  refine pe_imp (pe_ix ix_seq ha (db_of hi) (plainIx hn)) fun σ H Q h => tOp_of (fr := false) (fun W σ dx dy x y Q k hx hy p => ?_) h
  cases dx <;> cases dy <;> first | exact (show False from p).elim | skip
  · obtain ⟨a, vs, rfl, h1, h2⟩ := hx
    obtain ⟨d, e, p⟩ := post_ofO p
    obtain ⟨v, h3, h4⟩ := atI_reps h2 e
    exact .inr (.inl ⟨a, vs, _, v, rfl, hy, h1, h3, p W.H v Ext.refl ⟨h4, fun z => nomatch z⟩⟩)
  · obtain ⟨a, vs, rfl, h1, h2⟩ := hx
    obtain ⟨d, e, p⟩ := post_ofO p
    obtain ⟨v, h3, h4⟩ := atI_reps h2 e
    exact .inl ⟨a, vs, _, v, rfl, hy, SqL.of h1, h3, p W.H v Ext.refl ⟨h4, fun z => nomatch z⟩⟩
  · obtain ⟨a, rfl, h1⟩ := hx
    rename_i l i
    obtain ⟨d, e, p⟩ := post_ofO p
    obtain ⟨n, e1, rfl⟩ := Option.map_eq_some_iff.mp e
    refine .inl ⟨a, l.map V.int, i, .int n, rfl, hy, ?_, by rw [atI_map]; exact congrArg (Option.map V.int) e1, p W.H _ Ext.refl ⟨rfl, fun z => nomatch z⟩⟩
    rcases h1 with ⟨_, h1⟩ | ⟨o, h1⟩ | h1
    · exact SqL.of h1
    · exact .inl (.inr ⟨o, h1⟩)
    · rcases h1 with (h1 | ⟨o, h1⟩) | h1
      · cases h1
      · cases h1
      · exact .inr h1
abbrev tO (X : Cx) (cs : List (Addr × Addr)) (Wx : WX) (f : En → R (Option Int)) : TO := fun σ H Q => ∃ A C ρ, Wd.Ok cs ⟨H, A, C⟩ ∧ EnvR X.K X.mg ⟨H, A, C⟩ σ ρ ∧ (match f ρ with
  | .ok o => ∀ H', Ext cs H H' → Q o H'
  | .ex c d => ∀ H' cls dx, Ext cs H H' → Exn X.K X.mg c d cls dx H' → Wx cls dx σ H'
  | .bad => False)
theorem po_imp {e : Option Expr} {t t' : TO} (h : PO X e t) (k : ∀ σ H Q, t' σ H Q → t σ H Q) : PO X e t' := ⟨fun pins s σ H Q I q => h.run pins s σ H Q I (k _ _ _ q)⟩
theorem do_no : PO X none (tO X cs Wx fun _ => .ok none) := po_imp po_none fun σ H Q ⟨A, C, ρ, k, r, p⟩ => p H Ext.refl
theorem do_so {e : Expr} {f : En → R D} (h : DE X cs Wx false e f) : PO X (some e) (tO X cs Wx fun ρ => (f ρ).bind fun d => (asInt d).bind fun i => .ok (some i)) := by
  refine po_imp (po_some h) fun σ H Q h => ?_
  obtain ⟨A, C, ρ, k, r, p⟩ := h
  try dsimp only at p
  refine tE_of (W := ⟨H, A, C⟩) k r ?_ fun d H1 v q1 e1 r1 => ?_
  · revert p; cases f ρ <;> first | (intro _; trivial) | exact fun p => p
  · rw [q1] at p
    cases d <;> first | exact (show False from p).elim | skip
    exact ⟨_, r1.val, p H1 e1⟩
theorem cutV_reps {Z : List Addr} {H : Hp} {ds : List D} {vs : List V} (lo hi : Option Int) (h : reps X.K X.mg Z H ds vs) : reps X.K X.mg Z H (cut ds lo hi) (cutV vs lo hi) := by
  unfold cut cutV
  rw [reps_len h]
  exact reps_take _ (reps_drop _ h)
theorem de_slc {a : Expr} {lo hi : Option Expr} {p2 : Pos} {fa : En → R D} {fl fh : En → R (Option Int)} (ha : DB X cs Wx a fa) (hl : PO X lo (tO X cs Wx fl)) (hh : PO X hi (tO X cs Wx fh)) :
    DE X cs Wx fr (.Subscript a (.Slice lo hi none p2) pos) (fun ρ => (fa ρ).bind fun x => (fl ρ).bind fun l => (fh ρ).bind fun h => sl x l h) := by
  refine pe_imp (pe_slice (sl_tupA.or sl_list) ha hl hh) fun σ H Q h => ?_
  obtain ⟨A, C, ρ, k, r, p⟩ := h
  try dsimp only at p
  refine tB_of (W := ⟨H, A, C⟩) k r p.lets fun d H1 v q1 e1 r1 => ?_
  rw [q1] at p
  have p1 := PostE.go (H1 := H1) e1 p
  dsimp only [R.bind] at p1
  refine ⟨A, C, ρ, k.ext e1, r.ext e1, ?_⟩
  cases ql : fl ρ with
  | ex c d => rw [ql] at p1; exact p1
  | bad => rw [ql] at p1; exact p1
  | ok l =>
    rw [ql] at p1
    intro H2 e2
    have p2 := PostE.go (H1 := H2) e2 p1
    dsimp only at p2
    refine ⟨A, C, ρ, (k.ext e1).ext e2, (r.ext e1).ext e2, ?_⟩
    cases qh : fh ρ with
    | ex c d => rw [qh] at p2; exact p2
    | bad => rw [qh] at p2; exact p2
    | ok u =>
      rw [qh] at p2
      intro H3 e3
      have p3 := PostE.go (H1 := H3) e3 p2
      dsimp only at p3
      have r3 := repB_ext e3 (repB_ext e2 r1)
      have k3 := ((k.ext e1).ext e2).ext e3
      cases d <;> first | exact (show False from p3).elim | skip
      · rename_i ds
        obtain ⟨a, vs, rfl, h1, h2⟩ := r3
        refine .inl ⟨a, vs, rfl, h1, fun z => ?_, fun _ q hq => newT (W := ⟨H3, A, C⟩) (fr := fr) p3 (cutV_reps l u h2) q hq⟩
        refine here (W := ⟨H3, A, C⟩) (fr := fr) p3 ⟨a, vs, rfl, h1, ?_⟩ nl_tup
        have e : cut ds l u = ds := by
          have z1 : Bk.sIx ds.length 0 l = 0 := by rw [← reps_len h2]; exact z.1
          have z2 : Bk.sIx ds.length ds.length u = ds.length := by rw [← reps_len h2]; exact z.2
          unfold cut
          rw [z1, z2]; simp
        rw [e]; exact h2
      · obtain ⟨a, vs, rfl, h1, h2⟩ := r3
        exact .inr ⟨a, vs, rfl, SqL.of h1, fun q hq => newL (W := ⟨H3, A, C⟩) (fr := fr) p3 (cutV_reps l u h2) k3 q hq⟩
theorem de_rvs {a : Expr} {kk : Nat} {p1 p2 p3 : Pos} {fa : En → R D} (ha : DB X cs Wx a fa) :
    DE X cs Wx fr (.Subscript a (.Slice none none (some (.UnaryOp .USub (.Constant (.int 1) kk p1) p2)) p3) pos) (fun ρ => (fa ρ).bind fun x => match x with
      | .tup l => .ok (.tup l.reverse)
      | .lst l => .ok (.lst l.reverse)
      | _ => .bad) := by
  refine pe_imp (pe_revA ha) fun σ H Q h => ?_
  obtain ⟨A, C, ρ, k, r, p⟩ := h
  try dsimp only at p
  refine tB_of (W := ⟨H, A, C⟩) k r p.lets fun d H1 v q1 e1 r1 => ?_
  rw [q1] at p
  have p1 := PostE.go (H1 := H1) e1 p
  cases d <;> first | exact (show False from p1).elim | skip
  · obtain ⟨a, vs, rfl, h1, h2⟩ := r1
    exact .inl ⟨a, vs, rfl, h1, fun q hq => newT (W := ⟨H1, A, C⟩) (fr := fr) p1 (reps_rev h2) q hq⟩
  · obtain ⟨a, vs, rfl, h1, h2⟩ := r1
    exact .inr ⟨a, vs, rfl, SqL.of h1, fun q hq => newL (W := ⟨H1, A, C⟩) (fr := fr) p1 (reps_rev h2) (k.ext e1) q hq⟩

/-! ### built-in functions -/
theorem cr_sumT (hc : X.calm = true) : CallR X (.builtin "sum") (fun vs H Q => ∃ (a : Addr) (ns : List Int), vs = [V.ref a] ∧ SqT X.K H a (ns.map V.int) ∧ Q (.int ns.sum) H) := by
  intro pins s σ H vs us Q I r h
  obtain ⟨a, ns, rfl, hs, q⟩ := h
  obtain ⟨its, rv, ht, _⟩ := I.tuple hs
  rw [Vals.ref1 r]
  obtain ⟨xs, e⟩ := rv.ints.allInts.items
  have hn : numsOf (intItems xs).toList = ns := by rw [← e]; exact rv.ints.numsOf
  rw [nums_intItems] at hn
  rw [e] at ht
  obtain ⟨o, h1, h2, h3⟩ := ht
  have hne : a ≠ s.heap.objs.size := Nat.ne_of_lt (Heap.lt_size h1)
  refine call_sum_walkG (wpAny_pyIter_tuple ⟨o, h1, h2, h3⟩ ?_)
  refine ⟨s.heap.objs.size, _, _, _, _, _, numAt xs, rfl, Walks.tuple (A := X.A.in1) (I.ok.hd hc) s.heap.objs.size a hne (intItems xs), ⟨⟨_, Heap.get?_push_size _ rfl, rfl, rfl⟩, ⟨o, Heap.get?_push_of_some _ h1, h2, h3⟩⟩, fun b hb => ?_, fun i v hv => ?_, fun h' tk t' hk => ?_⟩
  · show b < (s.heap.push _).objs.size
    rw [Heap.size_push]
    rcases List.mem_cons.mp hb with z | z
    · rw [z]; exact Nat.lt_succ_self _
    · rw [List.mem_singleton.mp z]; exact Nat.lt_succ_of_lt (Heap.lt_size h1)
  · obtain ⟨t, e⟩ := intItems_at hv
    exact ⟨t, e⟩
  · refine ⟨.int _, H, I.kept (fun b u e => hk b u (fun z => ?_) (Heap.get?_push_of_some _ e)), ⟨_, rfl⟩, ?_⟩
    · have hz := List.mem_singleton.mp z
      rw [hz] at e
      exact absurd (Heap.lt_size e) (Nat.lt_irrefl _)
    · have e2 : preSum (numAt xs) (intItems xs).size = ns.sum := by
        rw [preSum_eq, List.take_of_length_le (by simp [intItems]), hn]
      rw [e2]; exact q
theorem post_ofOb {α : Type} {W : Wd} {σ : L2.St} {o : Option α} {g : α → R D} {Q : VK} (p : PostE X cs W σ Wx fr ((ofO o).bind g) Q) : ∃ a, o = some a ∧ PostE X cs W σ Wx fr (g a) Q := by
  cases o with
  | none => exact p.elim
  | some a => exact ⟨a, rfl, p⟩
theorem maxL_mem : ∀ (l : List Int) (m : Int), maxL m l ∈ m :: l ∧ ∀ y ∈ m :: l, y ≤ maxL m l
  | [], m => ⟨by simp [maxL], by simp [maxL]⟩
  | x :: r, m => by
    obtain ⟨h1, h2⟩ := maxL_mem r (if x > m then x else m)
    unfold maxL
    by_cases c : x > m
    · rw [if_pos c] at h1 h2 ⊢
      refine ⟨List.mem_cons_of_mem _ h1, fun y hy => ?_⟩
      have hx := h2 x (List.mem_cons_self ..)
      rcases List.mem_cons.mp hy with rfl | hy
      · omega
      · exact h2 y hy
    · rw [if_neg c] at h1 h2 ⊢
      have hm := h2 m (List.mem_cons_self ..)
      refine ⟨?_, fun y hy => ?_⟩
      · rcases List.mem_cons.mp h1 with z | z
        · rw [z]; exact List.mem_cons_self ..
        · exact List.mem_cons_of_mem _ (List.mem_cons_of_mem _ z)
      · rcases List.mem_cons.mp hy with rfl | hy
        · exact hm
        · rcases List.mem_cons.mp hy with rfl | hy
          · omega
          · exact h2 y (List.mem_cons_of_mem _ hy)
theorem minL_mem : ∀ (l : List Int) (m : Int), minL m l ∈ m :: l ∧ ∀ y ∈ m :: l, minL m l ≤ y
  | [], m => ⟨by simp [minL], by simp [minL]⟩
  | x :: r, m => by
    obtain ⟨h1, h2⟩ := minL_mem r (if x < m then x else m)
    unfold minL
    by_cases c : x < m
    · rw [if_pos c] at h1 h2 ⊢
      refine ⟨List.mem_cons_of_mem _ h1, fun y hy => ?_⟩
      have hx := h2 x (List.mem_cons_self ..)
      rcases List.mem_cons.mp hy with rfl | hy
      · omega
      · exact h2 y hy
    · rw [if_neg c] at h1 h2 ⊢
      have hm := h2 m (List.mem_cons_self ..)
      refine ⟨?_, fun y hy => ?_⟩
      · rcases List.mem_cons.mp h1 with z | z
        · rw [z]; exact List.mem_cons_self ..
        · exact List.mem_cons_of_mem _ (List.mem_cons_of_mem _ z)
      · rcases List.mem_cons.mp hy with rfl | hy
        · exact hm
        · rcases List.mem_cons.mp hy with rfl | hy
          · omega
          · exact h2 y (List.mem_cons_of_mem _ hy)
def biName : BI → Str
  | .len => "len"
  | .abs => "abs"
  | .max2 => "max"
  | .min2 => "min"
  | .int => "int"
  | .tuple => "tuple"
  | .list => "list"
  | .sum => "sum"
  | .max1 => "max"
  | .min1 => "min"
  | .all1 => "all"
def biVal : BI → Value
  | .len => .builtin "len"
  | .abs => .builtin "abs"
  | .max2 => .builtin "max"
  | .min2 => .builtin "min"
  | .int => .type "int"
  | .tuple => .type "tuple"
  | .list => .type "list"
  | .sum => .builtin "sum"
  | .max1 => .builtin "max"
  | .min1 => .builtin "min"
  | .all1 => .builtin "all"
theorem paired0 {α β : Type} {R : α → β → Prop} {vs : List β} (h : Paired R [] vs) : vs = [] := by cases h; rfl
theorem paired1 {α β : Type} {R : α → β → Prop} {a : α} {vs : List β} (h : Paired R [a] vs) : ∃ v, vs = [v] ∧ R a v := by
  cases h with
  | cons h t => cases t; exact ⟨_, rfl, h⟩
theorem paired2 {α β : Type} {R : α → β → Prop} {a b : α} {vs : List β} (h : Paired R [a, b] vs) : ∃ v u, vs = [v, u] ∧ R a v ∧ R b u := by
  cases h with
  | cons h t =>
    obtain ⟨u, rfl, h2⟩ := paired1 t
    exact ⟨_, _, rfl, h, h2⟩
def BiD (X : Cx) (cs : List (Addr × Addr)) (c : Value) (o : List D → R D) : Prop := ∃ r, CallR X c r ∧ ∀ (W : Wd) (σ : L2.St) (Wx : WX) (fr : Bool) (ds : List D) (vs : List V) (Q : VK), W.Ok cs → Paired (repB X.K X.mg W.zs W.H) ds vs → PostE X cs W σ Wx fr (o ds) Q → r vs W.H Q
theorem scr_sq {a : Addr} {l : List Int} {Z : List Addr} {H : Hp} (h1 : (a ∉ Z ∧ H a = some (.lst (l.map V.int))) ∨ (∃ o, H a = some (.frz o (.lst (l.map V.int)))) ∨ SqL X.K (fun _ => none) a (l.map V.int)) : SqL X.K H a (l.map V.int) := by
  rcases h1 with ⟨_, h1⟩ | ⟨o, h1⟩ | h1
  · exact SqL.of h1
  · exact .inl (.inr ⟨o, h1⟩)
  · rcases h1 with (h1 | ⟨o, h1⟩) | h1
    · cases h1
    · cases h1
    · exact .inr h1
theorem bi_len : BiD X cs (.builtin "len") (bi .len) := by
  refine ⟨_, call_len_seq.or call_len_str, fun W σ Wx fr ds vs Q k r p => ?_⟩
  match ds, r, p with
  | [], _, p => exact (show False from p).elim
  | _ :: _ :: _, _, p => exact (show False by rename_i d _ _ _; cases d <;> exact p).elim
  | [d], r, p =>
    obtain ⟨v, rfl, h⟩ := paired1 r
    cases d <;> first | exact (show False from p).elim | skip
    · obtain ⟨b, p⟩ := post_gd p
      exact .inr ⟨_, congrArg (fun z => [z]) h, slen b, here p rfl nl_int⟩
    · obtain ⟨a, vs, rfl, h1, h2⟩ := h
      exact .inl ⟨a, vs, rfl, .inr h1, here p (by rw [reps_len h2]; rfl) nl_int⟩
    · obtain ⟨a, vs, rfl, h1, h2⟩ := h
      exact .inl ⟨a, vs, rfl, .inl (SqL.of h1), here p (by rw [reps_len h2]; rfl) nl_int⟩
    · obtain ⟨a, rfl, h1⟩ := h
      exact .inl ⟨a, _, rfl, .inl (scr_sq h1), here p (by rw [List.length_map]; rfl) nl_int⟩
theorem bi_abs : BiD X cs (.builtin "abs") (bi .abs) := by
  refine ⟨_, call_abs, fun W σ Wx fr ds vs Q k r p => ?_⟩
  match ds, r, p with
  | [], _, p => exact (show False from p).elim
  | _ :: _ :: _, _, p => exact (show False by rename_i d _ _ _; cases d <;> exact p).elim
  | [d], r, p =>
    obtain ⟨v, rfl, h⟩ := paired1 r
    cases d <;> first | exact (show False from p).elim | skip
    exact ⟨_, congrArg (fun z => [z]) h, here p rfl nl_int⟩
theorem bi_int : BiD X cs (.type "int") (bi .int) := by
  refine ⟨_, call_int1, fun W σ Wx fr ds vs Q k r p => ?_⟩
  match ds, r, p with
  | [], _, p => exact (show False from p).elim
  | _ :: _ :: _, _, p => exact (show False by rename_i d _ _ _; cases d <;> exact p).elim
  | [d], r, p =>
    obtain ⟨v, rfl, h⟩ := paired1 r
    cases d <;> first | exact (show False from p).elim | skip
    exact .inl ⟨_, congrArg (fun z => [z]) h, here p rfl nl_int⟩
theorem bi_tuple : BiD X cs (.type "tuple") (bi .tuple) := by
  refine ⟨_, call_tuple_of, fun W σ Wx fr ds vs Q k r p => ?_⟩
  match ds, r, p with
  | [], _, p => exact (show False from p).elim
  | _ :: _ :: _, _, p => exact (show False by rename_i d _ _ _; cases d <;> exact p).elim
  | [d], r, p =>
    obtain ⟨v, rfl, h⟩ := paired1 r
    cases d <;> first | exact (show False from p).elim | skip
    · obtain ⟨a, vs, rfl, h1, h2⟩ := h
      exact ⟨a, vs, rfl, .inr ⟨h1, here p ⟨a, vs, rfl, h1, h2⟩ nl_tup⟩⟩
    · obtain ⟨a, vs, rfl, h1, h2⟩ := h
      exact ⟨a, vs, rfl, .inl ⟨SqL.of h1, fun q hq => newT p h2 q hq⟩⟩
theorem bi_list : BiD X cs (.type "list") (bi .list) := by
  refine ⟨_, call_list_of, fun W σ Wx fr ds vs Q k r p => ?_⟩
  match ds, r, p with
  | [], _, p => exact (show False from p).elim
  | _ :: _ :: _, _, p => exact (show False by rename_i d _ _ _; cases d <;> exact p).elim
  | [d], r, p =>
    obtain ⟨v, rfl, h⟩ := paired1 r
    cases d <;> first | exact (show False from p).elim | skip
    · obtain ⟨a, vs, rfl, h1, h2⟩ := h
      exact ⟨a, vs, rfl, .inr h1, fun q hq => newL p h2 k q hq⟩
    · obtain ⟨a, vs, rfl, h1, h2⟩ := h
      exact ⟨a, vs, rfl, .inl (SqL.of h1), fun q hq => newL p h2 k q hq⟩
theorem bi_sum (hc : X.calm = true) : BiD X cs (.builtin "sum") (bi .sum) := by
  refine ⟨_, (cr_sum hc).or (cr_sumT hc), fun W σ Wx fr ds vs Q k r p => ?_⟩
  match ds, r, p with
  | [], _, p => exact (show False from p).elim
  | _ :: _ :: _, _, p => exact (show False by rename_i d _ _ _; cases d <;> exact p).elim
  | [d], r, p =>
    obtain ⟨v, rfl, h⟩ := paired1 r
    cases d <;> first | exact (show False from p).elim | skip
    · obtain ⟨a, vs, rfl, h1, h2⟩ := h
      obtain ⟨ns, e, p⟩ := post_ofOb p
      exact .inr ⟨a, ns, rfl, by rw [← reps_ints h2 e]; exact h1, here p rfl nl_int⟩
    · obtain ⟨a, vs, rfl, h1, h2⟩ := h
      obtain ⟨ns, e, p⟩ := post_ofOb p
      exact .inl ⟨a, ns, rfl, by rw [← reps_ints h2 e]; exact SqL.of h1, here p rfl nl_int⟩
theorem bi_max2 (hc : X.calm = true) : BiD X cs (.builtin "max") (bi .max2) := by
  refine ⟨_, call_max2 hc, fun W σ Wx fr ds vs Q k r p => ?_⟩
  match ds, r, p with
  | [], _, p => exact (show False from p).elim
  | [d], _, p => exact (show False by cases d <;> exact p).elim
  | d :: e :: _ :: _, _, p => exact (show False by cases d <;> cases e <;> exact p).elim
  | [d, e], r, p =>
    obtain ⟨v, u, rfl, h, h'⟩ := paired2 r
    cases d <;> cases e <;> first | exact (show False from p).elim | skip
    obtain rfl : v = _ := h
    obtain rfl : u = _ := h'
    exact ⟨_, _, rfl, here p rfl nl_int⟩
theorem bi_min2 (hc : X.calm = true) : BiD X cs (.builtin "min") (bi .min2) := by
  refine ⟨_, call_min2 hc, fun W σ Wx fr ds vs Q k r p => ?_⟩
  match ds, r, p with
  | [], _, p => exact (show False from p).elim
  | [d], _, p => exact (show False by cases d <;> exact p).elim
  | d :: e :: _ :: _, _, p => exact (show False by cases d <;> cases e <;> exact p).elim
  | [d, e], r, p =>
    obtain ⟨v, u, rfl, h, h'⟩ := paired2 r
    cases d <;> cases e <;> first | exact (show False from p).elim | skip
    obtain rfl : v = _ := h
    obtain rfl : u = _ := h'
    exact ⟨_, _, rfl, here p rfl nl_int⟩
theorem bi_max1 (hc : X.calm = true) : BiD X cs (.builtin "max") (bi .max1) := by
  refine ⟨_, cr_max hc, fun W σ Wx fr ds vs Q k r p => ?_⟩
  match ds, r, p with
  | [], _, p => exact (show False from p).elim
  | _ :: _ :: _, _, p => exact (show False by rename_i d _ _ _; cases d <;> exact p).elim
  | [d], r, p =>
    obtain ⟨v, rfl, h⟩ := paired1 r
    cases d <;> first | exact (show False from p).elim | skip
    obtain ⟨a, vs, rfl, h1, h2⟩ := h
    obtain ⟨ns, e, p⟩ := post_ofOb p
    cases ns with
    | nil => exact p.elim
    | cons n l =>
      refine ⟨a, n :: l, rfl, by rw [← reps_ints h2 e]; exact SqL.of h1, by simp, fun m hm hmax => ?_⟩
      obtain ⟨g1, g2⟩ := maxL_mem l n
      have em : m = maxL n l := Int.le_antisymm (g2 m hm) (hmax _ g1)
      rw [em]
      exact here p rfl nl_int
theorem bi_min1 (hc : X.calm = true) : BiD X cs (.builtin "min") (bi .min1) := by
  refine ⟨_, cr_min hc, fun W σ Wx fr ds vs Q k r p => ?_⟩
  match ds, r, p with
  | [], _, p => exact (show False from p).elim
  | _ :: _ :: _, _, p => exact (show False by rename_i d _ _ _; cases d <;> exact p).elim
  | [d], r, p =>
    obtain ⟨v, rfl, h⟩ := paired1 r
    cases d <;> first | exact (show False from p).elim | skip
    obtain ⟨a, vs, rfl, h1, h2⟩ := h
    obtain ⟨ns, e, p⟩ := post_ofOb p
    cases ns with
    | nil => exact p.elim
    | cons n l =>
      refine ⟨a, n :: l, rfl, by rw [← reps_ints h2 e]; exact SqL.of h1, by simp, fun m hm hmin => ?_⟩
      obtain ⟨g1, g2⟩ := minL_mem l n
      have em : m = minL n l := Int.le_antisymm (hmin _ g1) (g2 m hm)
      rw [em]
      exact here p rfl nl_int
theorem bi_none {c : Value} : BiD X cs c (fun _ => .bad) := ⟨fun _ _ _ => False, fun _ _ _ _ _ _ _ _ _ h => h.elim, fun _ _ _ _ _ _ _ _ _ p => p⟩
theorem bi_all (hc : X.calm = true) : ∀ f : BI, BiD X cs (biVal f) (bi f)
  | .len => bi_len
  | .abs => bi_abs
  | .max2 => bi_max2 hc
  | .min2 => bi_min2 hc
  | .int => bi_int
  | .tuple => bi_tuple
  | .list => bi_list
  | .sum => bi_sum hc
  | .max1 => bi_max1 hc
  | .min1 => bi_min1 hc
  | .all1 => bi_none
theorem biName_boot (f : BI) : bootBuiltins (biName f) = some (biVal f) := by
  cases f <;> decide +kernel
theorem biName_free (f : BI) : biName f ∈ biNames := by
  cases f <;> decide +kernel
theorem biName_ne (f : BI) : biName f ≠ "__name__" ∧ (biName f == ("__debug__" : Str)) = false := by
  cases f <;> decide +kernel
theorem de_bi {j : Nat} {M : Md} {nm gn : List Str} (g : Good X cs j M nm gn) (f : BI) {x : Str} {p : Pos} (hx : x = biName f) (hg : Gl X x) {e : Expr} {es : List Expr} {fs : En → R (List D)} (h : DBs X cs Wx (e :: es) fs) (ns : noStars (e :: es) = true) :
    DE X cs Wx fr (.Call (.Name x p) (e :: es) [] pos) (fun ρ => (fs ρ).bind (bi f)) := by
  subst hx
  obtain ⟨r, h1, h2⟩ := bi_all (cs := cs) g.calm f
  have ns' : (notStar e && noStars es) = true := ns
  rw [Bool.and_eq_true] at ns'
  have hm := g.bi _ (biName_free f)
  have go : ∀ σ H Q, tE X cs Wx fr (fun ρ => (fs ρ).bind (bi f)) σ H Q → tCB r (tBs X cs Wx fs) σ H Q := fun σ H Q h => by
    obtain ⟨A, C, ρ, k, re, p⟩ := h
    try dsimp only at p
    refine tBs_of (W := ⟨H, A, C⟩) k re p.lets fun ds H1 vs q1 e1 r1 => ?_
    rw [q1] at p
    exact h2 ⟨H1, A, C⟩ σ Wx fr ds vs Q (k.ext e1) r1 (PostE.go (H1 := H1) e1 p)
  have hv := biName_boot f
  cases hf : biVal f with
  | builtin id =>
    rw [hf] at h1 hv
    exact pe_imp (pe_callB h1 hg hm hv h (biName_ne f).1 (biName_ne f).2 (star_cons ns'.1) (star_any ns'.2)) go
  | type T =>
    rw [hf] at h1 hv
    exact pe_imp (pe_callTy h1 hg hm hv h (biName_ne f).1 (biName_ne f).2 (star_cons ns'.1) (star_any ns'.2)) go
  | _ => cases f <;> cases hf
end
end Bk
end
section
set_option autoImplicit false
set_option linter.all false
set_option maxRecDepth 100000
/-! Expressions, further: calls, isinstance, what is walked, comprehensions. -/
namespace Bk
open PySem L2
section
variable {X : Cx} {cs : List (Addr × Addr)} {Wx : WX} {fr : Bool} {pos : Pos}
/-! ### calls -/
theorem Wd.Ok.callee {H : Hp} {A C : List Addr} (k : Wd.Ok cs ⟨H, A, C⟩) : Wd.Ok cs ⟨H, [], A ++ C⟩ := ⟨fun a h => k.own a h, fun _ h => (nomatch h), k.tabs⟩
theorem sp_of {f : Fn} {H1 : Hp} {A C : List Addr} {ds : List D} {vs : List V} {σ : L2.St} {Q : VK} (k : Wd.Ok cs ⟨H1, A, C⟩) (r : reps X.K X.mg (A ++ C) H1 ds vs) (p : PostE X cs ⟨H1, A, C⟩ σ Wx false (f ds) Q) : spD X.K X.mg cs f vs H1 Q (WE Wx σ) := by
  refine ⟨A ++ C, ds, k.callee, r, ?_⟩
  revert p
  cases f ds with
  | ok d => exact fun p H' v e q => p H' v e ⟨q, fun z => nomatch z⟩
  | ex c d => exact fun p => p
  | bad => exact fun p => p
theorem de_call {j : Nat} {x : Str} {f : Fn} (F : FnF X.prog X.w X.K X.mg X.base cs j x f) (hr : Room j X.A) (tk : Takes X Wx) {p : Pos} (hg : Gl X x) (hd : (x == ("__debug__" : Str)) = false) {e : Expr} {es : List Expr} {fs : En → R (List D)} (h : DL X cs Wx (e :: es) fs) (ns : noStars (e :: es) = true) :
    DE X cs Wx false (.Call (.Name x p) (e :: es) [] pos) (fun ρ => (fs ρ).bind f) := by
  obtain ⟨a, fd, ps, h1, h2, h3, h4⟩ := F.ex
  have ns' : (notStar e && noStars es) = true := ns
  rw [Bool.and_eq_true] at ns'
  refine pe_imp (pe_callS h2 hr hg h1 h3 h4 (fun σ => passAt tk σ) h hd (star_cons ns'.1) (star_any ns'.2)) fun σ H Q h => ?_
  obtain ⟨A, C, ρ, k, re, p⟩ := h
  try dsimp only at p
  refine tL_of (W := ⟨H, A, C⟩) k re p.lets fun ds H1 vs q1 e1 r1 => ?_
  rw [q1] at p
  exact sp_of (k.ext e1) r1 (PostE.go (H1 := H1) e1 p)
theorem de_cll {j : Nat} {M : Md} {nm gn : List Str} (g : Good X cs j M nm gn) (tk : Takes X Wx) {i : Nat} {x : Str} {p : Pos} (hN : X.N[i]? = some x) (hv : Vis X.env.scope x) (hd : (x == ("__debug__" : Str)) = false) (hc : (x == ("__classdict__" : Str)) = false) {e : Expr} {es : List Expr} {fs : En → R (List D)} (h : DL X cs Wx (e :: es) fs) (ns : noStars (e :: es) = true) :
    DE X cs Wx false (.Call (.Name x p) (e :: es) [] pos) (fun ρ => (get ρ i).bind fun g => match g with
      | .fn y => (ofO (M.val y)).bind fun f => (fs ρ).bind f
      | _ => .bad) := by
  have ns' : (notStar e && noStars es) = true := ns
  rw [Bool.and_eq_true] at ns'
  refine ⟨fun pins s σ H Q I h0 => ?_⟩
  obtain ⟨A, C, ρ, k, re, p⟩ := h0
  try dsimp only at p
  cases q : get ρ i with
  | ex c d => exact absurd q get_bad
  | bad => rw [q] at p; exact p.elim
  | ok d =>
    rw [q] at p
    dsimp only [R.bind] at p
    obtain ⟨v, h1, h2⟩ := re.sh i d (get_ok q)
    cases d <;> first | exact (show False from p).elim | skip
    rename_i y
    obtain ⟨fa, rfl, hmg⟩ := h2
    obtain ⟨f, hf, p⟩ := post_ofOb p
    obtain ⟨a, fd, ps, g1, g2, g3, g4⟩ := (g.val y f hf).ex
    have ea : fa = a := by
      have := hmg.symm.trans g1
      cases this; rfl
    subst ea
    refine wpAny_Call_Name_kw (thn ((pe_var (pos := _) hN hv hd hc).run pins s σ H (fun u H1 => u = .ref fa ∧ H1 = H) I ⟨.ref fa, h1, rfl, rfl⟩) fun u s1 hh => ?_)
    obtain ⟨v', H1, I1, r1, e1, e2⟩ := hh
    rw [e1] at r1
    rw [e2] at I1
    cases r1
    refine PySem.W.callWith_K (h₀ := X.base) I.ok.mod.kin g3 (thn (h.run _ pins s1 σ H (fun vs H2 => spD X.K X.mg cs f vs H2 Q (WE Wx σ)) I1 ?_) fun us s2 hh => ?_) (star_cons ns'.1) (star_any ns'.2)
    · refine tL_of (W := ⟨H, A, C⟩) k re p.lets fun ds H2 vs q2 e2 r2 => ?_
      rw [q2] at p
      exact sp_of (k.ext e2) r2 (PostE.go (H1 := H2) e2 p)
    · obtain ⟨vs, H2, I2, r, q⟩ := hh
      exact ⟨I2.kIn, run_fnS g2 g.room g4 (passAt tk σ) I2 r q⟩

/-! ### isinstance -/
def tyS : Ty → Str
  | .int => "int"
  | .bool => "bool"
  | .str => "str"
  | .tuple => "tuple"
  | .list => "list"
def tyN : Ty → String
  | .int => "int"
  | .bool => "bool"
  | .str => "str"
  | .tuple => "tuple"
  | .list => "list"
theorem ty_boot (t : Ty) : bootBuiltins (tyS t) = some (.type (tyN t)) := by cases t <;> decide +kernel
theorem ty_free (t : Ty) : tyS t ∈ biNames := by cases t <;> decide +kernel
theorem ty_ne (t : Ty) : tyS t ≠ "__name__" ∧ (tyS t == ("__debug__" : Str)) = false := by cases t <;> decide +kernel
def dTy : D → Option String
  | .non => some "NoneType"
  | .bl _ => some "bool"
  | .int _ => some "int"
  | .str _ => some "str"
  | .tup _ => some "tuple"
  | .lst _ => some "list"
  | _ => none
theorem dTy_ok {W : Wd} {d : D} {v : V} {n : String} (h : repB X.K X.mg W.zs W.H d v) (e : dTy d = some n) : TyX X.K W.H v (.type n) := by
  cases d with
  | non => obtain rfl : v = _ := h; cases e; exact .base .non
  | bl b => obtain rfl : v = _ := h; cases e; exact .base (.bl b)
  | int i => obtain rfl : v = _ := h; cases e; exact .base (.int i)
  | str x => obtain rfl : v = _ := h; cases e; exact .base (.str x)
  | tup l =>
    obtain ⟨a, vs, rfl, h1, _⟩ := h
    cases e
    rcases h1 with (h1 | ⟨o, h1⟩) | ⟨o, its, n, h1, h2, _⟩
    · exact .base (.tup h1)
    · exact .fTuple h1
    · exact .kTuple h1 h2
  | lst l => obtain ⟨a, vs, rfl, h1, _⟩ := h; cases e; exact .base (.lst h1)
  | fn _ => cases e
  | scr _ => cases e
theorem kit_all : ∀ (d : D) (t : Ty) (b : Bool), isI d t = some b → ∃ n, dTy d = some n ∧ kitB n (tyN t) = some b := fun d t b h => by
  cases d <;> cases t <;> first
    | (cases h; done)
    | (cases h; refine ⟨_, rfl, ?_⟩; decide +kernel)
theorem isIs_ty : ∀ {d : D} {ts : List Ty} {b : Bool} {n : String}, dTy d = some n → isIs d ts = some b → ∀ K, PySem.W.kitAny K (.type n) (ts.map fun t => Value.type (tyN t)) = some b
  | d, [], b, n, _, h, K => by cases h; rfl
  | d, t :: ts, b, n, hn, h, K => by
    obtain ⟨c, h1, h2⟩ := Option.bind_eq_some_iff.mp (show (isI d t).bind (fun b => if b = true then some true else isIs d ts) = some b from h)
    obtain ⟨n', e1, e2⟩ := kit_all d t c h1
    have en : n' = n := Option.some.inj (e1.symm.trans hn)
    subst en
    refine kitAny_cons (kit_ty e2) (fun z => ?_) (fun z => ?_)
    · rw [z, if_neg Bool.false_ne_true] at h2
      exact isIs_ty hn h2 K
    · rw [z, if_pos rfl] at h2
      exact (Option.some.inj h2).symm
theorem isIs_some {d : D} {ts : List Ty} {b : Bool} (h : isIs d ts = some b) (hne : ts ≠ []) : ∃ n, dTy d = some n := by
  cases ts with
  | nil => exact absurd rfl hne
  | cons t ts =>
    obtain ⟨c, h1, _⟩ := Option.bind_eq_some_iff.mp (show (isI d t).bind (fun b => if b = true then some true else isIs d ts) = some b from h)
    obtain ⟨n, e, _⟩ := kit_all d t c h1
    exact ⟨n, e⟩
theorem pe_ty (hb : ∀ x ∈ biNames, X.mg x = none) (t : Ty) {p : Pos} (hg : Gl X (tyS t)) : PE X (.Name (tyS t) p) (tC (.ty (tyN t))) := pe_bltn hg (hb _ (ty_free t)) (ty_boot t) rfl (ty_ne t).1 (ty_ne t).2
theorem de_isi1 (hb : ∀ x ∈ biNames, X.mg x = none) (t : Ty) {a : Expr} {fa : En → R D} {p pt : Pos} (hg : Gl X "isinstance") (hgt : Gl X (tyS t)) (ha : DB X cs Wx a fa) (ns : notStar a = true) :
    DE X cs Wx fr (.Call (.Name "isinstance" p) [a, .Name (tyS t) pt] [] pos) (fun ρ => (fa ρ).bind fun x => (ofO (isIs x [t])).bind fun b => .ok (.bl b)) := by
  refine pe_imp (pe_callB call_isi hg (hb _ (by decide +kernel)) (by decide +kernel) (pa_cons ha (pa_cons (pe_ty hb t hgt) pa_nil) (star_cons ns)) (by decide) (by decide) (star_cons ns)) fun σ H Q h => ?_
  obtain ⟨A, C, ρ, k, re, p⟩ := h
  try dsimp only at p
  refine tB_of (W := ⟨H, A, C⟩) k re p.lets fun d H1 v q1 e1 r1 => ?_
  rw [q1] at p
  obtain ⟨b, hb', p1⟩ := post_ofOb (PostE.go (H1 := H1) e1 p)
  obtain ⟨n, hn⟩ := isIs_some hb' (by simp)
  have hk := isIs_ty hn hb' X.K
  obtain ⟨c, h1, h2⟩ := Option.bind_eq_some_iff.mp (show (isI d t).bind (fun b => if b = true then some true else isIs d []) = some b from hb')
  obtain ⟨n', e1', e2'⟩ := kit_all d t c h1
  have ec : c = b := by
    cases c with
    | true => rw [if_pos rfl] at h2; exact Option.some.inj h2
    | false => rw [if_neg Bool.false_ne_true] at h2; exact Option.some.inj h2
  subst ec
  exact ⟨v, .ty (tyN t), .type n', .type (tyN t), c, rfl, .ty _, dTy_ok (W := ⟨H1, A, C⟩) r1 e1', kit_ty e2', here (W := ⟨H1, A, C⟩) (fr := fr) p1 rfl nl_bl⟩
def tysM : List Ty → List Expr → Bool
  | [], [] => true
  | t :: ts, .Name x _ :: es => decide (x = tyS t) && tysM ts es
  | _, _ => false
def tTys (ts : List Ty) : TA := fun _ H Q => Q (ts.map fun t => V.ty (tyN t)) H
theorem pa_tys (hb : ∀ x ∈ biNames, X.mg x = none) : ∀ (ts : List Ty) (es : List Expr), tysM ts es = true → (∀ t ∈ ts, Gl X (tyS t)) → PA X es (tTys ts)
  | [], [], _, _ => pa_imp pa_nil fun σ H Q h => h
  | [], _ :: _, h, _ => by cases h
  | t :: ts, [], h, _ => by cases h
  | t :: ts, e :: es, h, hg => by
    cases e <;> first | (cases h; done) | skip
    rename_i x p
    have h' : (decide (x = tyS t) && tysM ts es) = true := h
    rw [Bool.and_eq_true, decide_eq_true_eq] at h'
    obtain ⟨rfl, h2⟩ := h'
    exact pa_imp (pa_cons (pe_ty hb t (hg t (List.mem_cons_self ..))) (pa_tys hb ts es h2 fun u hu => hg u (List.mem_cons_of_mem _ hu))) fun σ H Q h => h
theorem clsVs : ∀ ts : List Ty, Paired ClsV (ts.map fun t => V.ty (tyN t)) (ts.map fun t => Value.type (tyN t))
  | [] => .nil
  | t :: ts => .cons (.ty _) (clsVs ts)
theorem de_isi (hb : ∀ x ∈ biNames, X.mg x = none) (ts : List Ty) (h2 : ts.length ≤ 8) (hne : ts ≠ []) {a : Expr} {es : List Expr} {fa : En → R D} {p pt : Pos} {kk : Nat} (hg : Gl X "isinstance") (hts : tysM ts es = true) (hgt : ∀ t ∈ ts, Gl X (tyS t)) (ha : DB X cs Wx a fa) (ns : notStar a = true) :
    DE X cs Wx fr (.Call (.Name "isinstance" p) [a, .Tuple es kk pt] [] pos) (fun ρ => (fa ρ).bind fun x => (ofO (isIs x ts)).bind fun b => .ok (.bl b)) := by
  refine pe_imp (pe_callB call_isiT hg (hb _ (by decide +kernel)) (by decide +kernel) (pa_cons ha (pa_cons (pe_tup (pa_tys hb ts es hts hgt)) pa_nil) (star_cons ns)) (by decide) (by decide) (star_cons ns)) fun σ H Q h => ?_
  obtain ⟨A, C, ρ, k, re, p⟩ := h
  try dsimp only at p
  refine tB_of (W := ⟨H, A, C⟩) k re p.lets fun d H1 v q1 e1 r1 => ?_
  rw [q1] at p
  refine ⟨by rw [List.length_map, sizeLine_eq]; omega, fun q hq => ?_⟩
  have e2 : Ext cs H1 (upd H1 q (.tup (ts.map fun t => V.ty (tyN t)))) := Ext.new hq
  obtain ⟨b, hb', p1⟩ := post_ofOb (PostE.go (H1 := upd H1 q (.tup (ts.map fun t => V.ty (tyN t)))) (e1.trans e2) p)
  obtain ⟨n, hn⟩ := isIs_some hb' hne
  refine ⟨v, q, _, .type n, ts.map fun t => Value.type (tyN t), b, rfl, upd_same, ?_, dTy_ok (W := ⟨upd H1 q (.tup (ts.map fun t => V.ty (tyN t))), A, C⟩) (repB_ext e2 r1) hn, isIs_ty hn hb' X.K, here (W := ⟨upd H1 q (.tup (ts.map fun t => V.ty (tyN t))), A, C⟩) (fr := fr) p1 rfl nl_bl⟩
  exact clsVs ts

/-! ### what is walked -/
structure Yields (K : PySem.W.Frag) (mg : Str → Option Value) (cs : List (Addr × Addr)) (J : L2.It) (ds : List D) (src : List (D × V)) : Prop where
  all : ∀ (Z : List Addr) (H : Hp), (∀ p ∈ src, repB K mg Z H p.1 p.2) → J.stop ds.length H ∧ (∀ i, i < ds.length → J.go i H) ∧ ∀ i d x H', ds[i]? = some d → J.yld i H x H' → Ext cs H H' ∧ rep K mg Z H' d x
def repF (b : Bool) (K : PySem.W.Frag) (mg : Str → Option Value) (Z : List Addr) (H : Hp) (d : D) (v : V) : Prop := if b = true then repB K mg Z H d v else rep K mg Z H d v
theorem repF_B {b : Bool} {Z : List Addr} {H : Hp} {d : D} {v : V} (h : repF b X.K X.mg Z H d v) : repB X.K X.mg Z H d v := by
  unfold repF at h
  split at h
  · exact h
  · exact repB_of h
def tI (X : Cx) (cs : List (Addr × Addr)) (Wx : WX) (b : Bool) (f : En → R (List D)) : TI := fun σ H Q => ∃ A C ρ, Wd.Ok cs ⟨H, A, C⟩ ∧ EnvR X.K X.mg ⟨H, A, C⟩ σ ρ ∧ (match f ρ with
  | .ok ds => ∀ J H' src, Ext cs H H' → (∀ p ∈ src, repF b X.K X.mg (A ++ C) H' p.1 p.2) → Yields X.K X.mg cs J ds src → Q J H'
  | .ex c d => ∀ H' cls dx, Ext cs H H' → Exn X.K X.mg c d cls dx H' → Wx cls dx σ H'
  | .bad => False)
abbrev DI (X : Cx) (cs : List (Addr × Addr)) (Wx : WX) (b : Bool) (tg e : Expr) (f : En → R (List D)) : Prop := PI X tg e (tI X cs Wx b f)
/-- the part in front: borrowed or not -/
def DF (X : Cx) (cs : List (Addr × Addr)) (Wx : WX) (b : Bool) (e : Expr) (f : En → R D) : Prop := if b = true then DB X cs Wx e f else DE X cs Wx false e f
theorem DF.run {b : Bool} {e : Expr} {f : En → R D} (h : DF X cs Wx b e f) : ∃ t : TE, PE X e t ∧ ∀ (W : Wd) (σ : L2.St) (ρ : En) (Q : VK), W.Ok cs → EnvR X.K X.mg W σ ρ → Lets X cs W σ Wx (f ρ) → (∀ d H' v, f ρ = .ok d → Ext cs W.H H' → repF b X.K X.mg W.zs H' d v → Q v H') → t σ W.H Q := by
  unfold DF at h
  split at h
  · exact ⟨_, h, fun W σ ρ Q k r l g => tB_of k r l fun d H' v q e rv => g d H' v q e (by unfold repF; rw [if_pos (by assumption)]; exact rv)⟩
  · exact ⟨_, h, fun W σ ρ Q k r l g => tE_of k r l fun d H' v q e rv => g d H' v q e (by unfold repF; rw [if_neg (by assumption)]; exact rv.val)⟩
theorem repF_ext {b : Bool} {Z : List Addr} {H H' : Hp} (e : Ext cs H H') {d : D} {v : V} (h : repF b X.K X.mg Z H d v) : repF b X.K X.mg Z H' d v := by
  unfold repF at h ⊢
  split
  · rw [if_pos (by assumption)] at h; exact repB_ext e h
  · rw [if_neg (by assumption)] at h; exact rep_ext e h
theorem seqOf_ok {d : D} {ds : List D} (h : ofO (seqOf d) = .ok ds) : d = .tup ds ∨ d = .lst ds := by
  cases d <;> first | (cases h; done) | (cases h; first | exact .inl rfl | exact .inr rfl)
theorem yields_tup {a : Addr} {ds : List D} : Yields X.K X.mg cs (Itt X.K a) ds [(.tup ds, .ref a)] := ⟨fun Z H h => by
  obtain ⟨a', vs, e, h1, h2⟩ := h _ (List.mem_cons_self ..)
  cases e
  have hl := reps_len h2
  refine ⟨⟨vs, h1, by omega⟩, fun i hi => ⟨vs, vs[i]'(by omega), h1, by simp [hl, hi]⟩, fun i d x H' hd y => ?_⟩
  obtain ⟨rfl, y⟩ := y
  obtain ⟨v, h3, h4⟩ := reps_at h2 hd
  have := (y vs h1).symm.trans h3
  cases this
  exact ⟨Ext.refl, h4⟩⟩
theorem yields_lst {a : Addr} {ds : List D} : Yields X.K X.mg cs (Itl X.K a) ds [(.lst ds, .ref a)] := ⟨fun Z H h => by
  obtain ⟨a', vs, e, h1, h2⟩ := h _ (List.mem_cons_self ..)
  cases e
  have hl := reps_len h2
  have hs := SqL.of (K := X.K) h1
  refine ⟨⟨vs, hs, by omega⟩, fun i hi => ⟨vs, vs[i]'(by omega), hs, by simp [hl, hi]⟩, fun i d x H' hd y => ?_⟩
  obtain ⟨rfl, y⟩ := y
  obtain ⟨v, h3, h4⟩ := reps_at h2 hd
  have := (y vs hs).symm.trans h3
  cases this
  exact ⟨Ext.refl, h4⟩⟩
theorem rng_get {a b : Int} {i : Nat} {d : D} (h : ((List.range (b - a).toNat).map fun (i : Nat) => D.int (a + (i : Nat)))[i]? = some d) : d = .int (a + i) := by
  rw [List.getElem?_map, Option.map_eq_some_iff] at h
  obtain ⟨j, h1, rfl⟩ := h
  obtain ⟨hj, e⟩ := List.getElem?_eq_some_iff.mp h1
  rw [List.getElem_range] at e
  rw [e]
theorem yields_rng {a b : Int} : Yields X.K X.mg cs (Itr a (b - a).toNat) ((List.range (b - a).toNat).map fun (i : Nat) => D.int (a + (i : Nat))) [] := ⟨fun Z H _ => by
  have hl : ((List.range (b - a).toNat).map fun (i : Nat) => D.int (a + (i : Nat))).length = (b - a).toNat := by simp
  refine ⟨Nat.le_of_eq hl.symm, fun i hi => by rw [hl] at hi; exact hi, fun i d x H' hd y => ?_⟩
  obtain ⟨rfl, rfl⟩ := y
  rw [rng_get hd]
  exact ⟨Ext.refl, rfl⟩⟩
theorem di_seq {b : Bool} {tg e : Expr} {f : En → R D} (h : DF X cs Wx b e f) : DI X cs Wx b tg e (fun ρ => (f ρ).bind fun d => ofO (seqOf d)) := by
  obtain ⟨t, ht, hq⟩ := h.run
  refine ⟨fun pins s σ H Q I h0 => ?_⟩
  obtain ⟨A, C, ρ, k, re, p⟩ := h0
  try dsimp only at p
  -- either form, by the value
  cases q : f ρ with
  | bad => rw [q] at p; exact p.elim
  | ex c d =>
    rw [q] at p
    refine (pi_list (tg := tg) ht).run pins s σ H Q I (hq ⟨H, A, C⟩ σ ρ _ k re (by rw [q]; exact p) fun d' H' v q' => ?_)
    rw [q] at q'; cases q'
  | ok d =>
    rw [q] at p
    cases d <;> first | exact (show False from p).elim | skip
    · refine (pi_tup (tg := tg) ht).run pins s σ H Q I (hq ⟨H, A, C⟩ σ ρ _ k re (by rw [q]; trivial) fun d' H' v q' e' r' => ?_)
      rw [q] at q'; cases q'
      obtain ⟨a, vs, rfl, h1, h2⟩ := repF_B r'
      exact ⟨a, rfl, ⟨vs, h1⟩, p _ H' _ e' (fun p hp => by rw [List.mem_singleton.mp hp]; exact r') yields_tup⟩
    · refine (pi_list (tg := tg) ht).run pins s σ H Q I (hq ⟨H, A, C⟩ σ ρ _ k re (by rw [q]; trivial) fun d' H' v q' e' r' => ?_)
      rw [q] at q'; cases q'
      obtain ⟨a, vs, rfl, h1, h2⟩ := repF_B r'
      exact ⟨a, rfl, ⟨vs, SqL.of h1⟩, p _ H' _ e' (fun p hp => by rw [List.mem_singleton.mp hp]; exact r') yields_lst⟩
theorem rngD_ok {a b : Int} {ds : List D} (h : rngD a b = .ok ds) : (-1000000000 ≤ a ∧ a ≤ 1000000000 ∧ -1000000000 ≤ b ∧ b ≤ 1000000000) ∧ ds = (List.range (b - a).toNat).map fun (i : Nat) => D.int (a + (i : Nat)) := by
  obtain ⟨h1, h2⟩ := gd_ok h
  simp only [Bool.and_eq_true, decide_eq_true_eq] at h1
  exact ⟨⟨h1.1.1.1, h1.1.1.2, h1.1.2, h1.2⟩, h2⟩
theorem di_rng {b : Bool} (hb : ∀ x ∈ biNames, X.mg x = none) {tg e : Expr} {p : Pos} {f : En → R D} (hg : Gl X "range") (h : DE X cs Wx false e f) (ns : notStar e = true) : DI X cs Wx b tg (.Call (.Name "range" p) [e] [] pos) (fun ρ => (f ρ).bind fun d => (asInt d).bind fun i => rngD 0 i) := by
  refine pi_imp (pi_range1 hg (hb _ (by decide +kernel)) (pa_cons h pa_nil (star_cons ns)) (star_cons ns)) fun σ H Q h0 => ?_
  obtain ⟨A, C, ρ, k, re, p⟩ := h0
  try dsimp only at p
  refine tE_of (W := ⟨H, A, C⟩) k re ?_ fun d H1 v q1 e1 r1 => ?_
  · revert p; cases f ρ <;> first | (intro _; trivial) | exact fun p => p
  · rw [q1] at p
    cases d <;> first | exact (show False from p).elim | skip
    rename_i i
    cases q : rngD 0 i with
    | bad => dsimp only [R.bind, asInt] at p; rw [q] at p; exact p.elim
    | ex c d => unfold rngD gd at q; split at q <;> cases q
    | ok ds =>
      dsimp only [R.bind, asInt] at p
      rw [q] at p
      obtain ⟨hb, rfl⟩ := rngD_ok q
      have e0 : (i - 0).toNat = i.toNat := by rw [Int.sub_zero]
      have y := yields_rng (X := X) (cs := cs) (a := 0) (b := i)
      rw [e0] at y
      refine ⟨i, congrArg (fun z => [z]) r1.val, by omega, by omega, p _ H1 [] e1 (fun _ h => (nomatch h)) ?_⟩
      rw [e0]; exact y
theorem di_rng2 {b : Bool} (hb : ∀ x ∈ biNames, X.mg x = none) {tg e e' : Expr} {p : Pos} {f g : En → R D} (hg : Gl X "range") (h : DE X cs Wx false e f) (h' : DE X cs Wx false e' g) (ns : notStar e = true) (ns' : notStar e' = true) : DI X cs Wx b tg (.Call (.Name "range" p) [e, e'] [] pos) (fun ρ => (f ρ).bind fun d => (g ρ).bind fun d' => (asInt d).bind fun i => (asInt d').bind fun j => rngD i j) := by
  refine pi_imp (pi_range2 hg (hb _ (by decide +kernel)) (pa_cons h (pa_cons h' pa_nil (star_cons ns')) (star_cons ns)) (by rw [star_cons ns, star_cons ns']; rfl) (by rw [star_cons ns']; rfl)) fun σ H Q h0 => ?_
  obtain ⟨A, C, ρ, k, re, p⟩ := h0
  try dsimp only at p
  refine tE_of (W := ⟨H, A, C⟩) k re ?_ fun d H1 v q1 e1 r1 => ?_
  · revert p; cases f ρ <;> first | (intro _; trivial) | exact fun p => p
  · rw [q1] at p
    dsimp only [R.bind] at p
    refine tE_of (W := ⟨H1, A, C⟩) (k.ext e1) (re.ext e1) ?_ fun d2 H2 v2 q2 e2 r2 => ?_
    · revert p; cases g ρ <;> first | (intro _; trivial) | exact fun p H' cls dx e' => p H' cls dx (e1.trans e') | exact fun p => p
    · rw [q2] at p
      cases d <;> first | exact (show False from p).elim | skip
      cases d2 <;> first | exact (show False from p).elim | skip
      rename_i i j
      cases q : rngD i j with
      | bad => dsimp only [R.bind, asInt] at p; rw [q] at p; exact p.elim
      | ex c d => unfold rngD gd at q; split at q <;> cases q
      | ok ds =>
        dsimp only [R.bind, asInt] at p
        rw [q] at p
        obtain ⟨hb, rfl⟩ := rngD_ok q
        obtain rfl : v = V.int i := r1.val
        obtain rfl : v2 = V.int j := r2.val
        exact ⟨i, j, rfl, ⟨by omega, by omega, by omega, by omega⟩, p _ H2 [] (e1.trans e2) (fun _ h => (nomatch h)) yields_rng⟩
end
end Bk
end
section
set_option autoImplicit false
set_option linter.all false
set_option maxRecDepth 100000
/-! What is walked, further; targets; comprehensions. -/
namespace Bk
open PySem L2 RT
section
variable {X : Cx} {cs : List (Addr × Addr)} {Wx : WX} {fr : Bool} {pos : Pos}
theorem rev_get {α : Type} {l : List α} {n i : Nat} (hn : l.length = n) (hi : i < n) : l.reverse[i]? = l[n - 1 - i]? := by
  subst hn
  rw [List.getElem?_reverse hi]
theorem yields_revL {a : Addr} {ds : List D} : Yields X.K X.mg cs (Itv X.K a ds.length) ds.reverse [(.lst ds, .ref a)] := ⟨fun Z H h => by
  obtain ⟨a', vs, e, h1, h2⟩ := h _ (List.mem_cons_self ..)
  cases e
  have hl := reps_len h2
  have hs := SqL.of (K := X.K) h1
  have hr := reps_rev h2
  refine ⟨by rw [List.length_reverse]; exact Nat.le_refl _, fun i hi => ?_, fun i d x H' hd y => ?_⟩
  · rw [List.length_reverse] at hi
    exact ⟨hi, vs, vs[ds.length - 1 - i]'(by omega), hs, List.getElem?_eq_getElem _⟩
  · obtain ⟨rfl, y⟩ := y
    obtain ⟨v, h3, h4⟩ := reps_at hr hd
    have hi : i < ds.length := by
      have := (List.getElem?_eq_some_iff.mp hd).1
      simpa using this
    rw [rev_get hl hi] at h3
    have := (y vs hs).symm.trans h3
    cases this
    exact ⟨Ext.refl, h4⟩⟩
theorem yields_revT {a : Addr} {ds : List D} : Yields X.K X.mg cs (ItvT X.K a ds.length) ds.reverse [(.tup ds, .ref a)] := ⟨fun Z H h => by
  obtain ⟨a', vs, e, hs, h2⟩ := h _ (List.mem_cons_self ..)
  cases e
  have hl := reps_len h2
  have hr := reps_rev h2
  refine ⟨by rw [List.length_reverse]; exact Nat.le_refl _, fun i hi => ?_, fun i d x H' hd y => ?_⟩
  · rw [List.length_reverse] at hi
    exact ⟨hi, vs, vs[ds.length - 1 - i]'(by omega), hs, List.getElem?_eq_getElem _⟩
  · obtain ⟨rfl, y⟩ := y
    obtain ⟨v, h3, h4⟩ := reps_at hr hd
    have hi : i < ds.length := by
      have := (List.getElem?_eq_some_iff.mp hd).1
      simpa using this
    rw [rev_get hl hi] at h3
    have := (y vs hs).symm.trans h3
    cases this
    exact ⟨Ext.refl, h4⟩⟩
theorem di_rev {b : Bool} (hb : ∀ x ∈ biNames, X.mg x = none) {tg e : Expr} {p : Pos} {f : En → R D} (hg : Gl X "reversed") (h : DF X cs Wx b e f) (ns : notStar e = true) : DI X cs Wx b tg (.Call (.Name "reversed" p) [e] [] pos) (fun ρ => (f ρ).bind fun d => (ofO (seqOf d)).bind fun l => .ok l.reverse) := by
  obtain ⟨t, ht, hq⟩ := h.run
  refine pi_imp (pi_revA hg (hb _ (by decide +kernel)) ht (star_cons ns)) fun σ H Q h0 => ?_
  obtain ⟨A, C, ρ, k, re, p⟩ := h0
  try dsimp only at p
  refine hq ⟨H, A, C⟩ σ ρ _ k re ?_ fun d H' v q e' r' => ?_
  · revert p; cases f ρ <;> first | (intro _; trivial) | exact fun p => p
  · rw [q] at p
    cases d <;> first | exact (show False from p).elim | skip
    · obtain ⟨a, vs, rfl, h1, h2⟩ := repF_B r'
      refine ⟨a, vs, rfl, .inr ⟨h1, ?_⟩⟩
      rw [reps_len h2]
      exact p _ H' _ e' (fun p hp => by rw [List.mem_singleton.mp hp]; exact r') yields_revT
    · obtain ⟨a, vs, rfl, h1, h2⟩ := repF_B r'
      refine ⟨a, vs, rfl, .inl ⟨SqL.of h1, ?_⟩⟩
      rw [reps_len h2]
      exact p _ H' _ e' (fun p hp => by rw [List.mem_singleton.mp hp]; exact r') yields_revL

/-! ### targets -/
def tgSlots : Tg → List Nat
  | .nm i => [i]
  | .tp is => is
def gNames : List Nat → TGs
  | [] => gNil
  | i :: is => gCons (gName i) (gNames is)
def gOf (K : PySem.W.Frag) : Tg → TG
  | .nm i => gName i
  | .tp is => gTup K is.length (gNames is)
abbrev DG (X : Cx) (tg : Expr) (t : Tg) : Prop := PG X tg (gOf X.K t)
theorem wipe_get (σ : L2.St) (i : Nat) : ∀ vs : List Nat, (wipe σ vs)[i]? = if i ∈ vs then (if i < σ.length then some none else none) else σ[i]?
  | [] => by simp [wipe]
  | v :: vs => by
    unfold wipe
    by_cases e : v = i
    · subst e
      rw [if_pos (List.mem_cons_self ..)]
      by_cases hi : v < σ.length
      · rw [if_pos hi, List.getElem?_set_self (by rw [wipe_length]; exact hi)]
      · rw [if_neg hi, List.getElem?_eq_none (by rw [List.length_set, wipe_length]; omega)]
    · rw [List.getElem?_set_ne e, wipe_get σ i vs]
      by_cases m : i ∈ vs
      · rw [if_pos m, if_pos (List.mem_cons_of_mem _ m)]
      · rw [if_neg m, if_neg (fun z => by
          rcases List.mem_cons.mp z with z | z
          · exact e z.symm
          · exact m z)]
theorem wipe_set {σ : L2.St} {i : Nat} {o : Option V} {vs : List Nat} (h : i ∈ vs) : wipe (σ.set i o) vs = wipe σ vs := by
  apply List.ext_getElem?
  intro j
  rw [wipe_get, wipe_get, List.length_set]
  by_cases m : j ∈ vs
  · rw [if_pos m, if_pos m]
  · rw [if_neg m, if_neg m, List.getElem?_set_ne (fun z => m (by rw [← z]; exact h))]
theorem wipe_wipe {σ : L2.St} {vs : List Nat} : wipe (wipe σ vs) vs = wipe σ vs := by
  apply List.ext_getElem?
  intro j
  rw [wipe_get, wipe_get, wipe_length]
  by_cases m : j ∈ vs
  · rw [if_pos m, if_pos m]
  · rw [if_neg m, if_neg m]
theorem EnvR.wipe {W : Wd} {σ : L2.St} {ρ : En} (r : EnvR X.K X.mg W σ ρ) : ∀ vs : List Nat, EnvR X.K X.mg W (L2.wipe σ vs) (wipeE ρ vs)
  | [] => r
  | v :: vs => (EnvR.wipe r vs).setUn v none
theorem dg_nm (hN : X.N.Nodup) {i : Nat} {x : Str} {p : Pos} (hi : X.N[i]? = some x) (hx : Loc X.env.scope x) (hf : X.fn x = true ∨ X.env.scope.names.lookup x = some .local) : DG X (.Name x p) (.nm i) := pg_name hN hi hx hf
/-- the names of a tuple target -/
inductive DGs (X : Cx) : List Expr → List Nat → Prop where
  | nil : DGs X [] []
  | cons {i : Nat} {x : Str} {p : Pos} {es : List Expr} {is : List Nat} (hi : X.N[i]? = some x) (hx : Loc X.env.scope x) (hf : X.fn x = true ∨ X.env.scope.names.lookup x = some .local) (t : DGs X es is) : DGs X (.Name x p :: es) (i :: is)
theorem dgs_pgs (hN : X.N.Nodup) {es : List Expr} {is : List Nat} (h : DGs X es is) : PGs X es (gNames is) := by
  induction h with
  | nil => exact pgs_nil
  | cons hi hx hf t ih => exact pgs_cons (pg_name hN hi hx hf) ih
theorem dgs_each {es : List Expr} {is : List Nat} (h : DGs X es is) : (assignEach es X.env).length = is.length ∧ (assignEach es X.env).findIdx? (·.1) = none := by
  induction h with
  | nil => exact ⟨rfl, rfl⟩
  | @cons i x p es is hi hx hf t ih =>
    refine ⟨?_, ?_⟩
    · show ((false, _) :: assignEach es X.env).length = _
      rw [List.length_cons, ih.1]; rfl
    · show ((false, _) :: assignEach es X.env).findIdx? (·.1) = none
      rw [List.findIdx?_cons]
      simp only [Bool.false_eq_true, if_false, ih.2, Option.map_none]
theorem dg_tp (hc : X.calm = true) (hN : X.N.Nodup) {es : List Expr} {is : List Nat} {kk : Nat} {p : Pos} (h : DGs X es is) : DG X (.Tuple es kk p) (.tp is) := by
  obtain ⟨h3, h4⟩ := dgs_each h
  exact pg_tup (n := is.length) hc (dgs_pgs hN h) h3 h4
theorem setT_len : ∀ {is : List Nat} {ds : List D} {ρ ρ' : En}, setT is ds ρ = .ok ρ' → ds.length = is.length
  | [], [], _, _, _ => rfl
  | [], _ :: _, _, _, h => by cases h
  | _ :: _, [], _, _, h => by cases h
  | i :: is, d :: ds, ρ, ρ', h => by
    have := setT_len (is := is) (ds := ds) h
    simp [this]
theorem gNames_run {K : PySem.W.Frag} {mg : Str → Option Value} : ∀ {is : List Nat} {W : Wd} {σ : L2.St} {ρ ρ' : En} {ds : List D} {xs : List V} {Q : L2.St → Hp → Prop}, EnvR K mg W σ ρ → reps K mg W.zs W.H ds xs → setT is ds ρ = .ok ρ' →
    (∀ σ', EnvR K mg W σ' ρ' → (∀ vs, (∀ i ∈ is, i ∈ vs) → wipe σ' vs = wipe σ vs) → Q σ' W.H) → gNames is xs σ W.H Q
  | [], W, σ, ρ, ρ', [], xs, Q, r, rv, e, q => by
    cases e
    exact ⟨rv, q σ r fun _ _ => rfl⟩
  | [], _, _, _, _, _ :: _, _, _, _, _, e, _ => by cases e
  | _ :: _, _, _, _, _, [], _, _, _, _, e, _ => by cases e
  | i :: is, W, σ, ρ, ρ', d :: ds, xs, Q, r, rv, e, q => by
    obtain ⟨v, vs, rfl, r1, r2⟩ := rv
    refine ⟨v, vs, rfl, gNames_run (r.setSh i r1) r2 e fun σ' r' hw => q σ' r' fun us hu => ?_⟩
    rw [hw us fun j hj => hu j (List.mem_cons_of_mem _ hj)]
    exact wipe_set (hu i (List.mem_cons_self ..))
theorem gOf_run {K : PySem.W.Frag} {mg : Str → Option Value} {t : Tg} {W : Wd} {σ : L2.St} {ρ ρ' : En} {d : D} {v : V} {Q : L2.St → Hp → Prop} (r : EnvR K mg W σ ρ) (rv : rep K mg W.zs W.H d v) (e : bindT t d ρ = .ok ρ')
    (q : ∀ σ', EnvR K mg W σ' ρ' → (∀ vs, (∀ i ∈ tgSlots t, i ∈ vs) → wipe σ' vs = wipe σ vs) → Q σ' W.H) : gOf K t v σ W.H Q := by
  cases t with
  | nm i =>
    cases e
    exact q _ (r.setSh i rv) fun vs h => wipe_set (h i (List.mem_singleton.mpr rfl))
  | tp is =>
    cases d <;> first | (cases e; done) | skip
    rename_i ds
    obtain ⟨a, vs, rfl, g1, g2⟩ := rv
    exact ⟨a, vs, rfl, g1, by rw [reps_len g2]; exact setT_len e, gNames_run r g2 e q⟩
theorem unT_eq (t : Tg) (ρ : En) : unT t ρ = wipeE ρ (tgSlots t) := by
  cases t <;> rfl

/-! ### comprehensions -/
theorem comp_cons {f : D → R (Option D)} {d : D} {ds : List D} {l : List D} (h : comp f (d :: ds) = .ok l) : ∃ o r, f d = .ok o ∧ comp f ds = .ok r ∧ l = (match o with | some x => x :: r | none => r) := by
  unfold comp at h
  cases q : f d with
  | ok o =>
    rw [q] at h
    dsimp only [R.bind] at h
    cases q2 : comp f ds with
    | ok r =>
      rw [q2] at h
      cases h
      exact ⟨o, r, rfl, rfl, rfl⟩
    | ex _ _ => rw [q2] at h; cases h
    | bad => rw [q2] at h; cases h
  | ex _ _ => rw [q] at h; cases h
  | bad => rw [q] at h; cases h
theorem calm_ok' {α : Type} {r : R α} {a : α} (h : r.calm = .ok a) : r = .ok a := by
  cases r <;> first | exact h | cases h
theorem bind_ok' {α β : Type} {r : R α} {f : α → R β} {b : β} (h : r.bind f = .ok b) : ∃ a, r = .ok a ∧ f a = .ok b := by
  cases r with
  | ok a => exact ⟨a, rfl, h⟩
  | ex _ _ => cases h
  | bad => cases h
abbrev noX : WX := fun _ _ _ _ => False
theorem tLc_of {t : Tg} {fi : En → R (List D)} {fc : En → R Bool} {fe : En → R D} {vs : List Nat} (hown : vs = tgSlots t) {σ : L2.St} {H : Hp} {Q : VK}
    (h : tE X cs Wx fr (fun ρ => (fi ρ).bind fun ds => (comp (fun d => ((bindT t d (unT t ρ)).bind fun ρ' => (fc ρ').bind fun b => if b = true then (fe ρ').bind fun x => .ok (some x) else .ok none).calm) ds).bind mkL) σ H Q) :
    tLc (tI X cs Wx true fi) (gOf X.K t) (tT X cs noX fc) (tE X cs noX false fe) vs σ H Q := by
  obtain ⟨A, C, ρ, k, re, p⟩ := h
  try dsimp only at p
  refine ⟨A, C, ρ, k, re, ?_⟩
  cases q : fi ρ with
  | bad => rw [q] at p; exact p.elim
  | ex c d => rw [q] at p; exact p
  | ok ds =>
    rw [q] at p
    intro J H1 src e1 hsrc Y D hD
    have p1 := PostE.go (H1 := H1) e1 p
    obtain ⟨F, hF⟩ : ∃ F, (fun d => ((bindT t d (unT t ρ)).bind fun ρ' => (fc ρ').bind fun b => if b = true then (fe ρ').bind fun x => R.ok (some x) else R.ok none).calm) = F := ⟨_, rfl⟩
    replace p1 : PostE X cs ⟨H1, A, C⟩ σ Wx fr ((comp F ds).bind mkL) Q := by rw [← hF]; exact p1
    cases qc : comp F ds with
    | bad => rw [qc] at p1; exact p1.elim
    | ex c d =>
      exfalso
      have : ∀ l : List Bk.D, comp F l ≠ .ex c d := by
        intro l
        induction l with
        | nil => intro h; cases h
        | cons a l ih =>
          intro h
          unfold comp at h
          cases qa : F a with
          | ok o =>
            rw [qa] at h
            dsimp only [R.bind] at h
            cases ql : comp F l with
            | ok r => rw [ql] at h; cases h
            | ex c2 d2 => rw [ql] at h; cases h; exact ih ql
            | bad => rw [ql] at h; cases h
          | ex c2 d2 =>
            rw [← hF] at qa
            dsimp only at qa
            revert qa
            generalize ((bindT t a (unT t ρ)).bind fun ρ' => (fc ρ').bind fun b => if b = true then (fe ρ').bind fun x => R.ok (some x) else R.ok none) = z
            intro qa
            cases z <;> cases qa
          | bad => rw [qa] at h; cases h
      exact this ds qc
    | ok l =>
      rw [qc] at p1
      obtain ⟨bl, p2⟩ := post_gd (show PostE X cs ⟨H1, A, C⟩ σ Wx fr (mkL l) Q from p1)
      have bl' : l.length ≤ SL := of_decide_eq_true bl
      have k1 := k.ext e1
      have re1 := re.ext e1
      -- the world in which the new list is kept apart
      have nA : D ∉ A ++ C := fun z => by
        obtain ⟨ws, z2⟩ := k1.own D z
        have z2 : H1 D = _ := z2
        rw [hD] at z2; cases z2
      have sub : ∀ b, b ∈ A ++ C → b ∈ A ++ D :: C := fun b hb => by
        rcases List.mem_append.mp hb with z | z
        · exact List.mem_append_left _ z
        · exact List.mem_append_right _ (List.mem_cons_of_mem _ z)
      have sub2 : ∀ b, b ∈ A ++ D :: C → b ∈ D :: (A ++ C) := fun b hb => by
        rcases List.mem_append.mp hb with z | z
        · exact List.mem_cons_of_mem _ (List.mem_append_left _ z)
        · rcases List.mem_cons.mp z with z | z
          · rw [z]; exact List.mem_cons_self ..
          · exact List.mem_cons_of_mem _ (List.mem_append_right _ z)
      have sub3 : ∀ b, b ∈ D :: (A ++ C) → b ∈ A ++ D :: C := fun b hb => by
        rcases List.mem_cons.mp hb with z | z
        · rw [z]; exact List.mem_append_right _ (List.mem_cons_self ..)
        · exact sub b z
      have more : ∀ {d : Bk.D} {v : V} {H0 : Hp}, Ext cs H1 H0 → rep X.K X.mg (A ++ C) H1 d v → rep X.K X.mg (A ++ D :: C) H0 d v := fun {d v H0} e h => rep_to (kt_ext e) (fun a xs n q => ⟨fun z => by
        rcases List.mem_cons.mp (sub2 a z) with z | z
        · rw [z, hD] at q; cases q
        · exact n z, e.at q ntL⟩) d v h
      have mores : ∀ {d : List Bk.D} {v : List V} {H0 : Hp}, Ext cs H1 H0 → reps X.K X.mg (A ++ C) H1 d v → reps X.K X.mg (A ++ D :: C) H0 d v := fun {d v H0} e h => reps_to (kt_ext e) (fun a xs n q => ⟨fun z => by
        rcases List.mem_cons.mp (sub2 a z) with z | z
        · rw [z, hD] at q; cases q
        · exact n z, e.at q ntL⟩) d v h
      have moreB : ∀ {d : Bk.D} {v : V} {H0 : Hp}, Ext cs H1 H0 → repB X.K X.mg (A ++ C) H1 d v → repB X.K X.mg (A ++ D :: C) H0 d v := fun {d v H0} e h => by
        cases d with
        | lst l =>
          obtain ⟨a, vs, e1, h1, h2⟩ := h
          exact ⟨a, vs, e1, e.at h1 ntL, mores e h2⟩
        | non => exact more e h
        | bl b => exact more e h
        | int i => exact more e h
        | str x => exact more e h
        | tup l => exact more e h
        | fn x => exact more e h
        | scr l => exact more e h
      refine ⟨fun i m H' => i ≤ ds.length ∧ m = ds.length - i ∧ Ext cs H1 H' ∧ ∃ acc ys r, H' D = some (.lst acc) ∧ reps X.K X.mg (A ++ D :: C) H' ys acc ∧ comp F (ds.drop i) = .ok r ∧ l = ys ++ r, ⟨ds.length, Nat.zero_le _, by simp, Ext.new hD, [], [], l, upd_same, rfl, by simpa using qc, by simp⟩, ?_⟩
      rintro i m H' ⟨hi1, rfl, e2, acc, ys, r, hDa, hya, hcr, hlr⟩
      have hsrc' : ∀ p ∈ src, repB X.K X.mg (A ++ D :: C) H' p.1 p.2 := fun p hp => moreB e2 (repF_B (hsrc p hp))
      obtain ⟨hstop, hgo, hyld⟩ := Y.all (A ++ D :: C) H' hsrc'
      by_cases hlt : i < ds.length
      · refine .inr ⟨hgo i hlt, fun H'' => i + 1 ≤ ds.length ∧ Ext cs H1 H'' ∧ ∃ acc ys r, H'' D = some (.lst acc) ∧ reps X.K X.mg (A ++ D :: C) H'' ys acc ∧ comp F (ds.drop (i + 1)) = .ok r ∧ l = ys ++ r, fun H'' ⟨n1, n2, n3⟩ => ⟨_, (by omega : ds.length - (i + 1) < ds.length - i), n1, rfl, n2, n3⟩, fun x H2 y => ?_⟩
        have hd : ds[i]? = some ds[i] := List.getElem?_eq_getElem hlt
        obtain ⟨e3, rx⟩ := hyld i ds[i] x H2 hd y
        have edrop : ds.drop i = ds[i] :: ds.drop (i + 1) := (List.drop_eq_getElem_cons hlt)
        rw [edrop] at hcr
        obtain ⟨o, r', ho, hr', hrr⟩ := comp_cons hcr
        have e13 := e2.trans e3
        have hD2 : H2 D = some (.lst acc) := e3.at hDa ntL
        have hya2 := reps_ext (cs := cs) e3 hya
        -- the world of this turn
        have kW : Wd.Ok cs ⟨H2, A, D :: C⟩ := ⟨fun a ha => by
          rcases List.mem_append.mp ha with z | z
          · exact (k1.ext e13).own a (List.mem_append_left _ z)
          · rcases List.mem_cons.mp z with z | z
            · rw [z]; exact ⟨acc, hD2⟩
            · exact (k1.ext e13).own a (List.mem_append_right _ z), fun a ha z => by
          rcases List.mem_cons.mp z with z | z
          · rw [z] at ha; exact nA (List.mem_append_left _ ha)
          · exact k1.apart a ha z, (k1.ext e13).tabs⟩
        have reW : EnvR X.K X.mg ⟨H2, A, D :: C⟩ σ ρ := ⟨re1.len, fun a d h => by
          obtain ⟨v, g1, g2⟩ := re1.sh a d h
          exact ⟨v, g1, more e13 g2⟩, fun a d h => by
          obtain ⟨b, vs, g1, g2, g3, g4⟩ := re1.ow a d h
          exact ⟨b, vs, g1, g2, e13.at g3 ntL, mores e13 g4⟩, re1.inj⟩
        rw [← hF] at ho
        obtain ⟨ρ', hb, ho⟩ := bind_ok' (calm_ok' ho)
        obtain ⟨bb, hcc, ho⟩ := bind_ok' ho
        have hw0 : EnvR X.K X.mg ⟨H2, A, D :: C⟩ (wipe σ vs) (unT t ρ) := by
          rw [hown, unT_eq]
          exact reW.wipe _
        refine gOf_run (W := ⟨H2, A, D :: C⟩) hw0 rx hb fun σ2 r2 hw => ⟨?_, ?_⟩
        · rw [hw vs fun i hi => by rw [hown]; exact hi, wipe_wipe]
        · refine tT_of (W := ⟨H2, A, D :: C⟩) kW r2 (by rw [hcc]; trivial) fun b' H3 q3 e4 => ?_
          rw [hcc] at q3; cases q3
          cases bb with
          | false =>
            rw [if_neg Bool.false_ne_true] at ho ⊢
            cases ho
            exact ⟨by omega, e13.trans e4, acc, ys, r', e4.at hD2 ntL, reps_ext (cs := cs) e4 hya2, hr', by rw [hlr, hrr]⟩
          | true =>
            rw [if_pos rfl] at ho ⊢
            obtain ⟨xx, hx, ho⟩ := bind_ok' ho
            cases ho
            refine tE_of (W := ⟨H3, A, D :: C⟩) (kW.ext e4) (r2.ext e4) (by rw [hx]; trivial) fun d' H4 v q5 e5 r5 => ?_
            rw [hx] at q5; cases q5
            have e45 := e4.trans e5
            refine ⟨acc, e45.at hD2 ntL, ?_, by omega, ?_, acc ++ [v], ys ++ [xx], r', upd_same, ?_, hr', by rw [hlr, hrr]; simp⟩
            · rw [reps_len hya, sizeLine_eq]
              have : l.length = ys.length + (r'.length + 1) := by rw [hlr, hrr]; simp
              have h2 : l.length ≤ 16777216 := bl'
              omega
            · have hDb := e45.at hD2 ntL
              refine ⟨fun a o h => ?_, fun p hp h => ?_⟩
              · have hne : a ≠ D := fun z => by rw [z, hD] at h; cases h
                obtain ⟨o', g1, g2⟩ := (e13.trans e45).keep a o h
                exact ⟨o', by rw [upd_ne hne]; exact g1, g2⟩
              · obtain ⟨ps, g1, g2⟩ := (e13.trans e45).tabs p hp h
                have hne : p.2 ≠ D := fun z => by
                  rw [z, hDb] at g1
                  cases g1
                exact ⟨ps, by rw [upd_ne hne]; exact g1, g2⟩
            · have hDb := e45.at hD2 ntL
              exact reps_put hDb (List.mem_append_right _ (List.mem_cons_self ..)) (reps_app (reps_ext (cs := cs) e45 hya2) (reps_one r5.val))
      · have ei : i = ds.length := by omega
        subst ei
        refine .inl ⟨hstop, ?_⟩
        rw [List.drop_length] at hcr
        cases hcr
        have hl2 : l = ys := by rw [hlr]; simp
        subst hl2
        refine p2 H' (.ref D) e2 ⟨⟨D, acc, rfl, nA, hDa, reps_sub sub hya⟩, fun _ l' hl => ?_⟩
        cases hl
        exact ⟨D, acc, rfl, hD, hDa, reps_sub sub3 hya⟩
theorem de_lc {elt tg iter : Expr} {ifs : List Expr} {scope : Scope} {own : List (Str × Nat)} {t : Tg} {fi : En → R (List D)} {fc : En → R Bool} {fe : En → R D} (hc : X.calm = true) (hN : X.N.Nodup)
    (hi : DI X cs Wx true tg iter fi) (ok : BlkOk X.N X.env.scope scope own) (hown : own.map (·.2) = tgSlots t)
    (hg : ∀ (s : Shared) (H : Hp) (C : Addr) (cl : List (Str × Addr)) (fp : List Addr), DG (X.blk s H scope (compEnvC scope cl C X.env) fp) tg t)
    (ht : ∀ (s : Shared) (H : Hp) (C : Addr) (cl : List (Str × Addr)) (fp : List Addr), PTs (X.blk s H scope (compEnvC scope cl C X.env) fp) ifs (tT X cs noX fc))
    (he : ∀ (s : Shared) (H : Hp) (C : Addr) (cl : List (Str × Addr)) (fp : List Addr), PE (X.blk s H scope (compEnvC scope cl C X.env) fp) elt (tE X cs noX false fe)) (hs : ∀ x, foldedSetIterable iter X.env x = pure x) :
    DE X cs Wx fr (.ListComp elt [⟨tg, iter, ifs, 0⟩] scope pos) (fun ρ => (fi ρ).bind fun ds => (comp (fun d => ((bindT t d (unT t ρ)).bind fun ρ' => (fc ρ').bind fun b => if b = true then (fe ρ').bind fun x => .ok (some x) else .ok none).calm) ds).bind mkL) := by
  exact pe_imp (pe_lc (g := gOf X.K t) (tt := tT X cs noX fc) (te := tE X cs noX false fe) hc hN hi ok hg ht he hs) fun σ H Q h => tLc_of hown h
end
end Bk
end
section
set_option autoImplicit false
set_option linter.all false
set_option maxRecDepth 100000
/-! Statements. -/
namespace Bk
open PySem L2
section
variable {K : PySem.W.Frag} {mg : Str → Option Value} {cs : List (Addr × Addr)}
theorem EnvR.grow {H H' : Hp} {A C : List Addr} {σ : L2.St} {ρ : En} (r : EnvR K mg ⟨H, A, C⟩ σ ρ) (e : Ext cs H H') {p : Addr} (hp : H p = none) : EnvR K mg ⟨H', p :: A, C⟩ σ ρ := by
  have kl : ∀ a xs, a ∉ A ++ C → H a = some (.lst xs) → a ∉ p :: A ++ C ∧ H' a = some (.lst xs) := fun a xs n q => ⟨fun z => by
    rcases List.mem_cons.mp z with z | z
    · rw [z, hp] at q; cases q
    · exact n z, e.at q ntL⟩
  exact ⟨r.len, fun i d h => by
    obtain ⟨v, h1, h2⟩ := r.sh i d h
    exact ⟨v, h1, rep_to (kt_ext e) kl d v h2⟩, fun i l h => by
    obtain ⟨a, vs, h1, h2, h3, h4⟩ := r.ow i l h
    exact ⟨a, vs, h1, List.mem_cons_of_mem _ h2, e.at h3 ntL, reps_to (kt_ext e) kl l vs h4⟩, r.inj⟩
end
section
variable (X : Cx) (cs : List (Addr × Addr)) (Wx : WX)
def PostS (W : Wd) (o : O) (D : Ends) : Prop := match o with
  | .fl (.nx ρ') => ∀ σ' W', W.Le cs W' → W'.Ok cs → EnvR X.K X.mg W' σ' ρ' → D.nx σ' W'.H
  | .fl (.rt d) => ∀ v W', W.Le cs W' → W'.Ok cs → rep X.K X.mg W.C W'.H d v → D.rt v W'.H
  | .fl (.bk ρ') => ∀ σ' W', W.Le cs W' → W'.Ok cs → EnvR X.K X.mg W' σ' ρ' → D.bk σ' W'.H
  | .fl (.ct ρ') => ∀ σ' W', W.Le cs W' → W'.Ok cs → EnvR X.K X.mg W' σ' ρ' → D.ct σ' W'.H
  | .ex c d ρ' => ∀ σ' W' cls dx, W.Le cs W' → W'.Ok cs → EnvR X.K X.mg W' σ' ρ' → Exn X.K X.mg c d cls dx W'.H → Wx cls dx σ' W'.H
  | .bad => False
def tS (f : En → O) : TS := fun D σ H => ∃ A C ρ, Wd.Ok cs ⟨H, A, C⟩ ∧ EnvR X.K X.mg ⟨H, A, C⟩ σ ρ ∧ PostS X cs Wx ⟨H, A, C⟩ (f ρ) D
abbrev DS (s : Stmt) (f : En → O) : Prop := PS X s (tS X cs Wx f)
abbrev DSs (ss : List Stmt) (f : En → O) : Prop := PSs X ss (tS X cs Wx f)
end
section
variable {X : Cx} {cs : List (Addr × Addr)} {Wx : WX} {pos : Pos}
theorem PostS.go {W W1 : Wd} {o : O} {D : Ends} (l : W.Le cs W1) (p : PostS X cs Wx W o D) : PostS X cs Wx W1 o D := by
  cases o with
  | fl f =>
    cases f with
    | nx ρ => exact fun σ' W' l' k r => p σ' W' (l.trans l') k r
    | rt d => exact fun v W' l' k r => p v W' (l.trans l') k (by rw [← l.c]; exact r)
    | bk ρ => exact fun σ' W' l' k r => p σ' W' (l.trans l') k r
    | ct ρ => exact fun σ' W' l' k r => p σ' W' (l.trans l') k r
  | ex c d ρ => exact fun σ' W' cls dx l' k r => p σ' W' cls dx (l.trans l') k r
  | bad => exact p
theorem dss_nil : DSs X cs Wx [] (fun ρ => .fl (.nx ρ)) := pss_imp pss_nil fun D σ H ⟨A, C, ρ, k, r, p⟩ => p σ ⟨H, A, C⟩ Wd.Le.refl k r
theorem dss_cons {s : Stmt} {ss : List Stmt} {f g : En → O} (h : DS X cs Wx s f) (hs : DSs X cs Wx ss g) : DSs X cs Wx (s :: ss) (fun ρ => (f ρ).next g) := by
  refine pss_imp (pss_cons h hs) fun D σ H ⟨A, C, ρ, k, r, p⟩ => ⟨A, C, ρ, k, r, ?_⟩
  try dsimp only at p
  revert p
  cases f ρ with
  | fl fl =>
    cases fl with
    | nx ρ' => exact fun p σ' W' l' k' r' => ⟨W'.A, W'.C, ρ', k', r', PostS.go l' p⟩
    | rt d => exact fun p => p
    | bk ρ' => exact fun p => p
    | ct ρ' => exact fun p => p
  | ex c d ρ' => exact fun p => p
  | bad => exact fun p => p
theorem ds_pass : DS X cs Wx (.Pass pos) (fun ρ => .fl (.nx ρ)) := ps_imp ps_pass fun D σ H ⟨A, C, ρ, k, r, p⟩ => p σ ⟨H, A, C⟩ Wd.Le.refl k r
theorem ds_brk : DS X cs Wx (.Break pos) (fun ρ => .fl (.bk ρ)) := ps_imp ps_break fun D σ H ⟨A, C, ρ, k, r, p⟩ => p σ ⟨H, A, C⟩ Wd.Le.refl k r
theorem ds_cnt : DS X cs Wx (.Continue pos) (fun ρ => .fl (.ct ρ)) := ps_imp ps_continue fun D σ H ⟨A, C, ρ, k, r, p⟩ => p σ ⟨H, A, C⟩ Wd.Le.refl k r
/-- an expression's exception is the statement's -/
theorem lets_of {H : Hp} {A A1 C : List Addr} {σ : L2.St} {ρ1 : En} {α : Type} {r : R α} {f : α → O} {D : Ends} (s : ∀ a ∈ A1, a ∈ A) (k : Wd.Ok cs ⟨H, A1, C⟩) (re : EnvR X.K X.mg ⟨H, A1, C⟩ σ ρ1) (p : PostS X cs Wx ⟨H, A, C⟩ (O.of ρ1 r f) D) : Lets X cs ⟨H, A1, C⟩ σ Wx r := by
  cases r with
  | ok _ => trivial
  | ex c d => exact fun H' cls dx e x => p σ ⟨H', A1, C⟩ cls dx (Wd.Le.ext (W := ⟨H, A, C⟩) e s) (k.ext e) (re.ext e) x
  | bad => exact p.elim
theorem ds_ret {e : Expr} {f : En → R D} (h : DE X cs Wx false e f) : DS X cs Wx (.Return (some e) pos) (fun ρ => O.of ρ (f (all1 ρ)) fun d => .fl (.rt d)) := by
  refine ps_imp (ps_ret h) fun D σ H ⟨A, C, ρ, k, r, p⟩ => ?_
  try dsimp only at p
  have k1 : Wd.Ok cs ⟨H, [], C⟩ := k.less (fun a h => nomatch h)
  refine tE_of (W := ⟨H, [], C⟩) k1 (r.all1 k) ?_ fun d H' v q e rv => ?_
  · cases q : f (all1 ρ) with
    | ok d => trivial
    | bad => rw [q] at p; exact p.elim
    | ex c d =>
      rw [q] at p
      exact fun H' cls dx e x => p σ ⟨H', A, C⟩ cls dx (Wd.Le.ext (W := ⟨H, A, C⟩) e fun _ h => h) (k.ext e) (r.ext e) x
  · rw [q] at p
    exact p v ⟨H', [], C⟩ (Wd.Le.ext (W := ⟨H, A, C⟩) e fun _ h => nomatch h) (k1.ext e) rv.val
theorem ds_retN : DS X cs Wx (.Return none pos) (fun ρ => .fl (.rt .non)) := ps_imp ps_retN fun D σ H ⟨A, C, ρ, k, r, p⟩ => p .non ⟨H, A, C⟩ Wd.Le.refl k rfl
theorem sw_plain {e : Expr} {t : Option Expr} {l : Nat} {env : Env} (h : ∀ s, (match e with | .ListComp _ _ s _ | .SetComp _ _ s _ | .DictComp _ _ _ s _ => some s | _ => none) ≠ some s) : swapsWith e t l env = pure false := by
  cases e <;> first | rfl | exact absurd rfl (h _)
def noComp : Expr → Bool
  | .ListComp .. => false
  | .SetComp .. => false
  | .DictComp .. => false
  | _ => true
theorem sw_no {e : Expr} {t : Option Expr} {l : Nat} {env : Env} (h : noComp e = true) : swapsWith e t l env = pure false := by
  cases e <;> first | rfl | cases h
theorem ds_expr {e : Expr} {f : En → R D} (h : DE X cs Wx false e f) (hn : noComp e = true) : DS X cs Wx (.Expr e pos) (fun ρ => O.of ρ (f (all1 ρ)) fun _ => .fl (.nx ρ)) := by
  refine ps_imp (ps_expr h (sw_no hn)) fun D σ H ⟨A, C, ρ, k, r, p⟩ => ?_
  try dsimp only at p
  have k1 : Wd.Ok cs ⟨H, [], C⟩ := k.less (fun a h => nomatch h)
  refine tE_of (W := ⟨H, [], C⟩) k1 (r.all1 k) ?_ fun d H' v q e rv => ?_
  · cases q : f (all1 ρ) with
    | ok d => trivial
    | bad => rw [q] at p; exact p.elim
    | ex c d =>
      rw [q] at p
      exact fun H' cls dx e x => p σ ⟨H', A, C⟩ cls dx (Wd.Le.ext (W := ⟨H, A, C⟩) e fun _ h => h) (k.ext e) (r.ext e) x
  · rw [q] at p
    exact p σ ⟨H', A, C⟩ (Wd.Le.ext (W := ⟨H, A, C⟩) e fun _ h => h) (k.ext e) (r.ext e)
theorem ds_ite {c : Expr} {a b : List Stmt} {fc : En → R Bool} {fa fb : En → O} (hc : DT X cs Wx c fc) (ha : DSs X cs Wx a fa) (hb : DSs X cs Wx b fb) :
    DS X cs Wx (.If c a b pos) (fun ρ => O.of ρ (fc (all1 ρ)) fun t => if t = true then fa ρ else fb ρ) := by
  refine ps_imp (ps_if hc ha hb) fun D σ H ⟨A, C, ρ, k, r, p⟩ => ?_
  try dsimp only at p
  have k1 : Wd.Ok cs ⟨H, [], C⟩ := k.less (fun a h => nomatch h)
  refine tT_of (W := ⟨H, [], C⟩) k1 (r.all1 k) ?_ fun t H' q e => ?_
  · cases q : fc (all1 ρ) with
    | ok d => trivial
    | bad => rw [q] at p; exact p.elim
    | ex c d =>
      rw [q] at p
      exact fun H' cls dx e x => p σ ⟨H', A, C⟩ cls dx (Wd.Le.ext (W := ⟨H, A, C⟩) e fun _ h => h) (k.ext e) (r.ext e) x
  · rw [q] at p
    have p1 := PostS.go (Wd.Le.ext (W := ⟨H, A, C⟩) e fun _ h => h) p
    cases t with
    | true => rw [if_pos rfl]; exact ⟨A, C, ρ, k.ext e, r.ext e, p1⟩
    | false => rw [if_neg Bool.false_ne_true]; exact ⟨A, C, ρ, k.ext e, r.ext e, p1⟩
/-- behind an expression whose value is kept -/
theorem kept {H H' : Hp} {A A1 C : List Addr} {σ : L2.St} {ρ : En} {gs : List Nat} {d : D} {v : V} (k : Wd.Ok cs ⟨H, A, C⟩) (r : EnvR X.K X.mg ⟨H, A, C⟩ σ ρ) (s : ∀ a ∈ A1, a ∈ A) (r1 : EnvR X.K X.mg ⟨H, A1, C⟩ σ (frz gs ρ)) (e : Ext cs H H')
    (rv : rep X.K X.mg (A1 ++ C) H' d v) : ∃ A2, (∀ a ∈ A2, a ∈ A) ∧ EnvR X.K X.mg ⟨H', A2, C⟩ σ (keep d ρ (frz gs ρ)) ∧ rep X.K X.mg (A2 ++ C) H' d v := by
  unfold keep
  by_cases f : flat d = true
  · rw [if_pos f]
    exact ⟨A, fun _ h => h, r.ext e, rep_flat f rv⟩
  · rw [if_neg f]
    exact ⟨A1, s, r1.ext e, rv⟩
/-- x = e -/
theorem asg_core {H : Hp} {A C : List Addr} {σ : L2.St} {ρ : En} {i : Nat} {f : En → R D} {gs : List Nat} {b : Bool} {D : Ends} (k : Wd.Ok cs ⟨H, A, C⟩) (r : EnvR X.K X.mg ⟨H, A, C⟩ σ ρ)
    (p : PostS X cs Wx ⟨H, A, C⟩ (O.of (frz gs ρ) (f (frz gs ρ)) fun d => .fl (.nx ((keep d ρ (frz gs ρ)).set i (slotOf b d)))) D) : tE X cs Wx b f σ H fun v H' => D.nx (σ.set i (some v)) H' := by
  obtain ⟨A1, s, r1⟩ := EnvR.frz gs r k
  have k1 : Wd.Ok cs ⟨H, A1, C⟩ := k.less s
  refine tE_of (W := ⟨H, A1, C⟩) k1 r1 (lets_of s k1 r1 p) fun d H' v q e rv => ?_
  rw [q] at p
  obtain ⟨A2, s2, r2, rv2⟩ := kept k r s r1 e rv.val
  have old : slotOf b d = .sh d → D.nx (σ.set i (some v)) H' := fun es => by
    refine p _ ⟨H', A2, C⟩ (Wd.Le.ext (W := ⟨H, A, C⟩) e s2) ((k.less s2).ext e) ?_
    rw [es]
    exact r2.setSh i rv2
  cases d with
  | lst l =>
    cases b with
    | false => exact old rfl
    | true =>
      obtain ⟨a, vs, rfl, h1, h2, h3⟩ := rv.new rfl l rfl
      have h1 : H a = none := h1
      have nC : a ∉ C := fun z => by
        obtain ⟨ws, z2⟩ := k.own a (List.mem_append_right _ z)
        have z2 : H a = _ := z2
        rw [h1] at z2; cases z2
      refine p _ ⟨H', a :: A1, C⟩ ⟨rfl, fun b hb => ?_, fun b o hb _ => e.keep b o hb⟩ ⟨fun b hb => ?_, fun b hb => ?_, (k.ext e).tabs⟩ ?_
      · rcases List.mem_cons.mp hb with z | z
        · rw [z]; exact .inr h1
        · exact .inl (s b z)
      · rcases List.mem_cons.mp hb with z | z
        · rw [z]; exact ⟨vs, h2⟩
        · exact (k1.ext e).own b z
      · rcases List.mem_cons.mp hb with z | z
        · rw [z]; exact nC
        · exact k1.apart b z
      · have ek : keep (.lst l) ρ (frz gs ρ) = frz gs ρ := rfl
        rw [ek]
        show EnvR X.K X.mg _ _ ((frz gs ρ).set i (.ow l))
        have rg := r1.grow e h1
        refine rg.setOw i (List.mem_cons_self ..) h2 h3 fun j m hj hm z => ?_
        obtain ⟨b, ws, g1, g2, g3, g4⟩ := r1.ow j m hm
        rw [z] at g1
        have : a = b := by cases g1; rfl
        subst this
        have g3 : H a = _ := g3
        rw [h1] at g3; cases g3
  | non => exact old rfl
  | bl _ => exact old rfl
  | int _ => exact old rfl
  | str _ => exact old rfl
  | tup _ => exact old rfl
  | fn _ => exact old rfl
  | scr _ => exact old rfl
theorem ds_asg (hN : X.N.Nodup) {i : Nat} {x : Str} {px : Pos} (hi : X.N[i]? = some x) (hx : Loc X.env.scope x) (hf : X.fn x = true ∨ X.env.scope.names.lookup x = some .local) {e : Expr} {f : En → R D} {b : Bool} (gs : List Nat) (h : DE X cs Wx b e f) (hs : swapsWith e (some (.Name x px)) pos.line X.env = pure false) :
    DS X cs Wx (.Assign [.Name x px] e pos) (fun ρ => O.of (frz gs ρ) (f (frz gs ρ)) fun d => .fl (.nx ((keep d ρ (frz gs ρ)).set i (slotOf b d)))) :=
  ps_imp (ps_set hN hi hx h hs hf) fun D σ H ⟨A, C, ρ, k, r, p⟩ => asg_core k r p
theorem ds_asgLc (hc : X.calm = true) (hN : X.N.Nodup) {i : Nat} {x : Str} {px : Pos} (hi : X.N[i]? = some x) (hx : X.env.scope.names.lookup x = some .local) {elt tg iter : Expr} {ifs : List Expr} {scope : Scope} {own : List (Str × Nat)} {lpos : Pos} {t : Tg} {fi : En → R (List D)} {fc : En → R Bool} {fe : En → R D} (gs : List Nat)
    (hsw : swapsWith (.ListComp elt [⟨tg, iter, ifs, 0⟩] scope lpos) (some (.Name x px)) pos.line X.env = pure true)
    (hit : DI X cs Wx true tg iter fi) (ok : BlkOk X.N X.env.scope scope own) (hown : own.map (·.2) = tgSlots t)
    (hg : ∀ (s : Shared) (H : Hp) (C : Addr) (cl : List (Str × Addr)) (fp : List Addr), DG (X.blk s H scope (compEnvC scope cl C X.env) fp) tg t)
    (ht : ∀ (s : Shared) (H : Hp) (C : Addr) (cl : List (Str × Addr)) (fp : List Addr), PTs (X.blk s H scope (compEnvC scope cl C X.env) fp) ifs (tT X cs noX fc))
    (he : ∀ (s : Shared) (H : Hp) (C : Addr) (cl : List (Str × Addr)) (fp : List Addr), PE (X.blk s H scope (compEnvC scope cl C X.env) fp) elt (tE X cs noX false fe)) (hs : ∀ x, foldedSetIterable iter X.env x = pure x) :
    DS X cs Wx (.Assign [.Name x px] (.ListComp elt [⟨tg, iter, ifs, 0⟩] scope lpos) pos) (fun ρ => O.of (frz gs ρ) ((fun ρ => (fi ρ).bind fun ds => (comp (fun d => ((bindT t d (unT t ρ)).bind fun ρ' => (fc ρ').bind fun b => if b = true then (fe ρ').bind fun x => .ok (some x) else .ok none).calm) ds).bind mkL) (frz gs ρ)) fun d => .fl (.nx ((keep d ρ (frz gs ρ)).set i (slotOf true d)))) :=
  ps_imp (ps_setLc (g := gOf X.K t) (tt := tT X cs noX fc) (te := tE X cs noX false fe) hc hN hi hx hsw hit ok hg ht he hs) fun D σ H ⟨A, C, ρ, k, r, p⟩ => tLc_of hown (asg_core k r p)
/-- (a, b, ..) = e -/
theorem ds_asgT (hc : X.calm = true) (hN : X.N.Nodup) {es : List Expr} {is : List Nat} {kk : Nat} {pt : Pos} (ht : DGs X es is) {e : Expr} {f : En → R D} (gs : List Nat) (h : DE X cs Wx false e f) (hne : ∀ vs k p, e ≠ .Tuple vs k p) :
    DS X cs Wx (.Assign [.Tuple es kk pt] e pos) (fun ρ => O.of (frz gs ρ) (f (frz gs ρ)) fun d => O.of (frz gs ρ) (bindT (.tp is) d (keep d ρ (frz gs ρ))) fun r => .fl (.nx r)) := by
  refine ps_imp (ps_asg h (dg_tp hc hN ht) (by cases e <;> rfl) (by cases e <;> first | rfl | exact absurd rfl (hne _ _ _))) fun D σ H ⟨A, C, ρ, k, r, p⟩ => ?_
  obtain ⟨A1, s, r1⟩ := EnvR.frz gs r k
  have k1 : Wd.Ok cs ⟨H, A1, C⟩ := k.less s
  refine tE_of (W := ⟨H, A1, C⟩) k1 r1 (lets_of s k1 r1 p) fun d H' v q e rv => ?_
  try dsimp only at p
  rw [q] at p
  obtain ⟨A2, s2, r2, rv2⟩ := kept k r s r1 e rv.val
  dsimp only [O.of] at p
  cases qb : bindT (.tp is) d (keep d ρ (frz gs ρ)) with
  | bad => rw [qb] at p; exact p.elim
  | ex c d =>
    exfalso
    have : ∀ (is : List Nat) (ds : List Bk.D) (ρ : En) (c : Str) (d : Bk.D), setT is ds ρ ≠ .ex c d := by
      intro is
      induction is with
      | nil => intro ds ρ c d h; cases ds <;> cases h
      | cons i is ih =>
        intro ds ρ c d h
        cases ds with
        | nil => cases h
        | cons a ds => exact ih ds _ c d h
    rename_i dd
    revert qb
    cases dd <;> intro qb <;> first | (cases qb; done) | exact this _ _ _ _ _ qb
  | ok ρ' =>
    rw [qb] at p
    refine gOf_run (W := ⟨H', A2, C⟩) r2 rv2 qb fun σ' r' _ => ?_
    exact p σ' ⟨H', A2, C⟩ (Wd.Le.ext (W := ⟨H, A, C⟩) e s2) ((k.less s2).ext e) r'
/-- a, b = x, y -/
theorem ds_asg2 (hc : X.calm = true) (hN : X.N.Nodup) {i j : Nat} {x y : Str} {a b : Expr} {px py pt : Pos} {kt k2 : Nat} {pt2 : Pos} {fa fb : En → R D} (gs : List Nat) (hi : X.N[i]? = some x) (hj : X.N[j]? = some y) (hij : i ≠ j)
    (hx : X.env.scope.names.lookup x = some .local) (hy : X.env.scope.names.lookup y = some .local) (ha : DE X cs Wx false a fa) (hb : DE X cs Wx false b fb) (na : notStar a = true) (nb : notStar b = true)
    (hw : swappedStores [.Tuple [.Name x px, .Name y py] kt pt] (.Tuple [a, b] k2 pt2) X.env = pure (some [x, y])) :
    DS X cs Wx (.Assign [.Tuple [.Name x px, .Name y py] kt pt] (.Tuple [a, b] k2 pt2) pos) (fun ρ => O.of (frz gs ρ) (fa (frz gs ρ)) fun x => O.of (frz gs ρ) (fb (frz gs ρ)) fun y => .fl (.nx (((frz gs ρ).set i (.sh x)).set j (.sh y)))) := by
  refine ps_imp (ps_par hc hN hi hj hij hx hy (dl_cons ha (dl_cons hb dl_nil nb) na) hw) fun D σ H ⟨A, C, ρ, k, r, p⟩ => ?_
  obtain ⟨A1, s, r1⟩ := EnvR.frz gs r k
  have k1 : Wd.Ok cs ⟨H, A1, C⟩ := k.less s
  refine ⟨A1, C, frz gs ρ, k1, r1, ?_⟩
  try dsimp only at p
  try dsimp only
  cases q1 : fa (frz gs ρ) with
  | bad => rw [q1] at p; exact p.elim
  | ex c d =>
    rw [q1] at p
    exact fun H' cls dx e z => p σ ⟨H', A1, C⟩ cls dx (Wd.Le.ext (W := ⟨H, A, C⟩) e s) (k1.ext e) (r1.ext e) z
  | ok u =>
    rw [q1] at p
    try dsimp only [O.of] at p
    try dsimp only [R.bind]
    cases q2 : fb (frz gs ρ) with
    | bad => rw [q2] at p; exact p.elim
    | ex c d =>
      rw [q2] at p
      exact fun H' cls dx e z => p σ ⟨H', A1, C⟩ cls dx (Wd.Le.ext (W := ⟨H, A, C⟩) e s) (k1.ext e) (r1.ext e) z
    | ok w =>
      rw [q2] at p
      intro H' vs e rv
      obtain ⟨v1, _, rfl, g1, v2, _, rfl, g2, rfl⟩ := rv
      exact ⟨v1, v2, rfl, p _ ⟨H', A1, C⟩ (Wd.Le.ext (W := ⟨H, A, C⟩) e s) (k1.ext e) (((r1.ext e).setSh i g1).setSh j g2)⟩
theorem getO_ok {ρ : En} {i : Nat} {l : List D} (h : getO ρ i = .ok l) : ρ[i]? = some (.ow l) := by
  unfold getO at h
  split at h
  · cases h; assumption
  · cases h
theorem getO_ex {ρ : En} {i : Nat} {c : Str} {d : D} : getO ρ i ≠ .ex c d := by
  unfold getO; split <;> (intro h; cases h)
theorem setAt_ok {l l' : List D} {x d : D} (h : setAt l x d = .ok l') : ∃ i j, x = .int i ∧ Bk.ixN l.length i = some j ∧ l' = l.set j d := by
  unfold setAt at h
  cases x <;> first | (cases h; done) | skip
  obtain ⟨j, h1, h2⟩ := bind_ok' h
  cases h2
  exact ⟨_, j, rfl, ofO_ok h1, rfl⟩
theorem setAt_ex {l : List D} {x d : D} {c : Str} {e : D} : setAt l x d ≠ .ex c e := by
  cases x <;> first | (intro h; cases h; done) | skip
  rename_i i
  show (ofO (Bk.ixN l.length i)).bind _ ≠ _
  cases Bk.ixN l.length i <;> (intro h; cases h)
/-- the name alone, as the layer reads it -/
theorem own_at {W : Wd} {σ : L2.St} {ρ : En} (r : EnvR X.K X.mg W σ ρ) {i : Nat} {l : List D} (h : ρ[i]? = some (.ow l)) : ∃ a vs, σ[i]? = some (some (.ref a)) ∧ a ∈ W.A ∧ W.H a = some (.lst vs) ∧ reps X.K X.mg W.zs W.H l vs := r.ow i l h
/-- the world behind a write to an own list -/
theorem put_le {H : Hp} {A C : List Addr} {a : Addr} {vs ws : List V} (k : Wd.Ok cs ⟨H, A, C⟩) (hA : a ∈ A) (hH : H a = some (.lst vs)) : Wd.Le cs ⟨H, A, C⟩ ⟨upd H a (.lst ws), A, C⟩ ∧ Wd.Ok cs ⟨upd H a (.lst ws), A, C⟩ := by
  refine ⟨⟨rfl, fun b h => .inl h, fun b o h n => ⟨o, ?_, fun _ => rfl⟩⟩, ⟨fun b h => ?_, k.apart, fun p hp => ?_⟩⟩
  · show upd H a (.lst ws) b = some o
    rw [upd_ne (fun z => n (by rw [z]; exact hA))]; exact h
  · by_cases e : b = a
    · rw [e]; exact ⟨ws, upd_same⟩
    · obtain ⟨us, q⟩ := k.own b h
      exact ⟨us, by show upd H a (.lst ws) b = _; rw [upd_ne e]; exact q⟩
  · obtain ⟨ps, g1, g2⟩ := k.tabs p hp
    have g1 : H p.2 = _ := g1
    have ne : p.2 ≠ a := fun z => by rw [z, hH] at g1; cases g1
    exact ⟨ps, by show upd H a (.lst ws) p.2 = _; rw [upd_ne ne]; exact g1, g2⟩
theorem frz_own : ∀ (gs : List Nat) {ρ : En} {i : Nat} {l : List D}, (frz gs ρ)[i]? = some (.ow l) → ρ[i]? = some (.ow l)
  | [], _, _, _, h => h
  | g :: gs, ρ, i, l, h => by
    have h' : (frz gs (match ρ[g]? with | some s => ρ.set g (frz1 s) | none => ρ))[i]? = some (.ow l) := h
    have h2 := frz_own gs h'
    cases q : ρ[g]? with
    | none => rw [q] at h2; exact h2
    | some s =>
      rw [q] at h2
      have h2 : (ρ.set g (frz1 s))[i]? = some (.ow l) := h2
      by_cases e : g = i
      · subst e
        have hlt : g < ρ.length := by
          rcases Nat.lt_or_ge g ρ.length with z | z
          · exact z
          · rw [List.getElem?_eq_none z] at q; cases q
        rw [List.getElem?_set_self hlt] at h2
        cases s <;> cases (Option.some.inj h2)
      · rw [List.getElem?_set_ne e] at h2; exact h2
theorem keep_own {gs : List Nat} {ρ : En} {i : Nat} {l : List D} {d : D} (h : (frz gs ρ)[i]? = some (.ow l)) : (keep d ρ (frz gs ρ))[i]? = some (.ow l) := by
  unfold keep
  split
  · exact frz_own gs h
  · exact h
/-- xs.append(e) -/
theorem ds_app {i : Nat} {x : Str} {p1 p2 p3 : Pos} (hi : X.N[i]? = some x) (hv : Vis X.env.scope x) (hd : (x == ("__debug__" : Str)) = false) (hcd : (x == ("__classdict__" : Str)) = false) {e : Expr} {f : En → R D} (gs : List Nat) (h : DE X cs Wx false e f) (ns : notStar e = true) (hline : (p2.endLine == p3.line) = true) :
    DS X cs Wx (.Expr (.Call (.Attribute (.Name x p1) "append" p2) [e] [] p3) pos) (fun ρ => O.of ρ (getO (frz gs ρ) i) fun l => O.of (frz gs ρ) (f (frz gs ρ)) fun d => O.of ρ (mkL (l ++ [d])) fun _ => .fl (.nx ((keep d ρ (frz gs ρ)).set i (.ow (l ++ [d]))))) := by
  have hfew : ((backTo p3 (starEach (e :: []) X.env)).all (fun x => !x.1) && (backToKw p3 (keywordEach [] X.env)).all (fun x => x.1.isSome)
      && decide ((e :: ([] : List Expr)).length + ([] : List Keyword).length + (if ([] : List Keyword).isEmpty then 0 else 1) < 30)) = true := by
    rw [star_cons ns]; rfl
  refine ps_imp (ps_expr (pe_bm PySem.F.plainAttrs_list PySem.F.slot_list_append PySem.F.type_list_append mt_append (pe_var hi hv hd hcd) (pa_cons h pa_nil (star_cons ns)) (by rfl) hfew hline (star_cons ns) (by rfl)) (by rfl)) fun D σ H ⟨A, C, ρ, k, r, p⟩ => ?_
  obtain ⟨A1, s, r1⟩ := EnvR.frz gs r k
  have k1 : Wd.Ok cs ⟨H, A1, C⟩ := k.less s
  try dsimp only at p
  cases q0 : getO (frz gs ρ) i with
  | bad => rw [q0] at p; exact p.elim
  | ex c d => exact absurd q0 getO_ex
  | ok l =>
    rw [q0] at p
    have hl := getO_ok q0
    obtain ⟨a, vs, g1, g2, g3, g4⟩ := r1.ow i l hl
    refine ⟨.ref a, g1, .inl ⟨rfl, vs, SqL.of g3⟩, tE_of (W := ⟨H, A1, C⟩) k1 r1 (lets_of s k1 r1 p) fun d H' v q e rv => ?_⟩
    dsimp only [O.of] at p
    rw [q] at p
    dsimp only at p
    cases qm : mkL (l ++ [d]) with
    | bad => rw [qm] at p; exact p.elim
    | ex c d => unfold mkL gd at qm; split at qm <;> cases qm
    | ok m =>
      rw [qm] at p
      obtain ⟨b, _⟩ := gd_ok qm
      have b := of_decide_eq_true b
      obtain ⟨A2, s2, r2, rv2⟩ := kept k r s r1 e rv.val
      have hl2 := keep_own (d := d) hl
      obtain ⟨a', vs', f1, f2, f3, f4⟩ := r2.ow i l hl2
      have ea : a = a' := by
        have := g1.symm.trans f1
        cases this; rfl
      subst ea
      have e3 : H' a = some (.lst vs) := e.at g3 ntL
      have f3 : H' a = _ := f3
      rw [e3] at f3
      have ev : vs = vs' := by cases f3; rfl
      subst ev
      have k2 : Wd.Ok cs ⟨H', A2, C⟩ := (k.less s2).ext e
      obtain ⟨le, ok⟩ := put_le (ws := vs ++ [v]) k2 f2 e3
      refine ⟨a, vs, v, rfl, rfl, e3, ?_, p σ ⟨upd H' a (.lst (vs ++ [v])), A2, C⟩ ((Wd.Le.ext (W := ⟨H, A, C⟩) e s2).trans le) ok ?_⟩
      · rw [reps_len f4, sizeLine_eq]
        rw [List.length_append] at b
        have : l.length + 1 ≤ 16777216 := b
        omega
      · exact r2.put i hl2 f1 f2 e3 (reps_app f4 (reps_one rv2))
/-- xs.reverse() -/
theorem ds_rvs {i : Nat} {x : Str} {p1 p2 p3 : Pos} (hi : X.N[i]? = some x) (hv : Vis X.env.scope x) (hd : (x == ("__debug__" : Str)) = false) (hcd : (x == ("__classdict__" : Str)) = false) (hline : (p2.endLine == p3.line) = true) :
    DS X cs Wx (.Expr (.Call (.Attribute (.Name x p1) "reverse" p2) [] [] p3) pos) (fun ρ => O.of ρ (getO ρ i) fun l => .fl (.nx (ρ.set i (.ow l.reverse)))) := by
  refine ps_imp (ps_expr (pe_bm0 PySem.F.plainAttrs_list PySem.F.slot_list_reverse PySem.F.type_list_reverse mt_reverse (pe_var hi hv hd hcd) (by rfl) hline) (by rfl)) fun D σ H ⟨A, C, ρ, k, r, p⟩ => ?_
  try dsimp only at p
  cases q0 : getO ρ i with
  | bad => rw [q0] at p; exact p.elim
  | ex c d => exact absurd q0 getO_ex
  | ok l =>
    rw [q0] at p
    have hl := getO_ok q0
    obtain ⟨a, vs, g1, g2, g3, g4⟩ := r.ow i l hl
    obtain ⟨le, ok⟩ := put_le (ws := vs.reverse) k g2 g3
    exact ⟨.ref a, g1, .inl ⟨rfl, vs, SqL.of g3⟩, a, vs, rfl, rfl, g3, p σ ⟨upd H a (.lst vs.reverse), A, C⟩ le ok (r.put i hl g1 g2 g3 (reps_rev g4))⟩
/-- xs[k] = e -/
theorem ixN_same (n : Nat) (i : Int) : L2.ixN n i = Bk.ixN n i := rfl
theorem ds_set {i : Nat} {x : Str} {p1 p2 : Pos} (hi : X.N[i]? = some x) (hv : Vis X.env.scope x) (hd : (x == ("__debug__" : Str)) = false) (hcd : (x == ("__classdict__" : Str)) = false) {kx e : Expr} {fk f : En → R D} (gs : List Nat) (hk : DE X cs Wx false kx fk) (h : DE X cs Wx false e f)
    (hns : notSlice kx = true) :
    DS X cs Wx (.Assign [.Subscript (.Name x p1) kx p2] e pos) (fun ρ => O.of (frz gs ρ) (f (frz gs ρ)) fun d => O.of ρ (getO (keep d ρ (frz gs ρ)) i) fun l => O.of (keep d ρ (frz gs ρ)) (fk (keep d ρ (frz gs ρ))) fun x => O.of ρ (setAt l x d) fun l' => .fl (.nx ((keep d ρ (frz gs ρ)).set i (.ow l')))) := by
  refine ps_imp (ps_asg h (pg_sub (pe_var hi hv hd hcd) hk set_list (by intro _; cases kx <;> first | rfl | cases hns)) (by cases e <;> rfl) (by cases e <;> rfl)) fun D σ H ⟨A, C, ρ, k, r, p⟩ => ?_
  obtain ⟨A1, s, r1⟩ := EnvR.frz gs r k
  have k1 : Wd.Ok cs ⟨H, A1, C⟩ := k.less s
  refine tE_of (W := ⟨H, A1, C⟩) k1 r1 (lets_of s k1 r1 p) fun d H' v q e rv => ?_
  try dsimp only at p
  rw [q] at p
  try dsimp only [O.of] at p
  obtain ⟨A2, s2, r2, rv2⟩ := kept k r s r1 e rv.val
  have k2 : Wd.Ok cs ⟨H', A2, C⟩ := (k.less s2).ext e
  have le2 : Wd.Le cs ⟨H, A, C⟩ ⟨H', A2, C⟩ := Wd.Le.ext (W := ⟨H, A, C⟩) e s2
  cases q0 : getO (keep d ρ (frz gs ρ)) i with
  | bad => rw [q0] at p; exact p.elim
  | ex c d => exact absurd q0 getO_ex
  | ok l =>
    rw [q0] at p
    have hl := getO_ok q0
    obtain ⟨a, vs, g1, g2, g3, g4⟩ := r2.ow i l hl
    refine ⟨.ref a, g1, tE_of (W := ⟨H', A2, C⟩) k2 r2 ?_ fun y H2 vy q2 e2 ry => ?_⟩
    · cases qk : fk (keep d ρ (frz gs ρ)) with
      | ok y => trivial
      | bad => rw [qk] at p; exact p.elim
      | ex c d =>
        rw [qk] at p
        exact fun H2 cls dx e2 z => p σ ⟨H2, A2, C⟩ cls dx (le2.trans (Wd.Le.ext (W := ⟨H', A2, C⟩) e2 fun _ h => h)) (k2.ext e2) (r2.ext e2) z
    · rw [q2] at p
      try dsimp only at p
      cases qs : setAt l y d with
      | bad => rw [qs] at p; exact p.elim
      | ex c e => exact absurd qs setAt_ex
      | ok l' =>
        rw [qs] at p
        obtain ⟨n, j, rfl, hj, rfl⟩ := setAt_ok qs
        have g3' : H2 a = _ := e2.at g3 ntL
        have k3 := k2.ext e2
        obtain ⟨le, ok⟩ := put_le (ws := vs.set j v) k3 g2 g3'
        have r3 := r2.ext e2
        refine ⟨a, vs, n, j, rfl, ry.val, g3', by rw [reps_len g4]; exact hj, p σ ⟨upd H2 a (.lst (vs.set j v)), A2, C⟩ ((le2.trans (Wd.Le.ext (W := ⟨H', A2, C⟩) e2 fun _ h => h)).trans le) ok ?_⟩
        exact r3.put i hl g1 g2 g3' (reps_set j (reps_ext (cs := cs) e2 g4) (rep_ext e2 rv2))
/-- x op= e, ints -/
def ipOf (X : Cx) : BO → Option (Operator × (Int → Int → Int))
  | .add => some (.Add, fun i j => i + j)
  | .sub => some (.Sub, fun i j => i - j)
  | _ => none
theorem ip_ok {o : BO} {op : Operator} {g : Int → Int → Int} (h : ipOf X o = some (op, g)) : PIp X op (ipI g) ∧ ∀ i j, bo o (.int i) (.int j) = .ok (.int (g i j)) := by
  cases o <;> cases h
  · exact ⟨ip_add, fun _ _ => rfl⟩
  · exact ⟨ip_sub, fun _ _ => rfl⟩
theorem ds_aug (hN : X.N.Nodup) {i : Nat} {x : Str} {px : Pos} (hi : X.N[i]? = some x) (hx : Loc X.env.scope x) (hf : X.fn x = true ∨ X.env.scope.names.lookup x = some .local) {o : BO} {op : Operator} {g : Int → Int → Int} (ho : ipOf X o = some (op, g)) {e : Expr} {f : En → R D} (h : DE X cs Wx false e f) :
    DS X cs Wx (.AugAssign (.Name x px) op e pos) (fun ρ => O.of ρ (get ρ i) fun x => O.of ρ (f ρ) fun y => O.of ρ (asInt x) fun _ => O.of ρ (bo o x y) fun r => .fl (.nx (ρ.set i (.sh r)))) := by
  obtain ⟨h1, h2⟩ := ip_ok ho
  refine ps_imp (ps_aug hN hi hx h h1 hf) fun D σ H ⟨A, C, ρ, k, r, p⟩ => ?_
  try dsimp only at p
  cases q0 : get ρ i with
  | bad => rw [q0] at p; exact p.elim
  | ex c d => exact absurd q0 get_bad
  | ok d =>
    rw [q0] at p
    obtain ⟨v, g1, g2⟩ := r.sh i d (get_ok q0)
    refine ⟨v, g1, tE_of (W := ⟨H, A, C⟩) k r (lets_of (fun _ h => h) k r p) fun y H' vy q e ry => ?_⟩
    dsimp only [O.of] at p
    rw [q] at p
    cases d <;> first | exact (show False from p).elim | skip
    rename_i a
    obtain ⟨b, rfl⟩ : ∃ b, y = .int b := by
      cases y <;> first
        | exact ⟨_, rfl⟩
        | (exfalso; cases o <;> first | (cases ho; done) | exact p)
    dsimp only [asInt] at p
    rw [h2] at p
    obtain rfl : v = V.int a := g2
    obtain rfl : vy = V.int b := ry.val
    exact ⟨a, b, rfl, rfl, p _ ⟨H', A, C⟩ (Wd.Le.ext (W := ⟨H, A, C⟩) e fun _ h => h) (k.ext e) ((r.ext e).setSh i rfl)⟩
/-! ### loops -/
theorem le_c {W : Wd} {H : Hp} {A C : List Addr} (l : Wd.Le cs ⟨H, A, C⟩ W) : W = ⟨W.H, W.A, C⟩ := by
  obtain ⟨H', A', C'⟩ := W
  have : C' = C := l.c
  subst this; rfl
theorem ds_for (hp : PassesOwn (model X.prog X.w) X.A X.env X.xe) (hc : X.calm = true) {tg iter : Expr} {body : List Stmt} {t : Tg} {fi : En → R (List D)} {fb : En → O} (gs : List Nat) (hi : DI X cs Wx false tg iter fi) (hg : DG X tg t) (hb : DSs X cs Wx body fb)
    (hs : ∀ x, foldedSetIterable iter X.env x = pure x) :
    DS X cs Wx (.For tg iter body [] pos) (fun ρ => O.of (frz gs ρ) (fi (frz gs ρ)) fun ds => loop t fb ds (frz gs ρ)) := by
  refine ps_imp (ps_for hp hc hi hg hb hs) fun D σ H ⟨A, C, ρ, k, r, p⟩ => ?_
  obtain ⟨A1, s, r1⟩ := EnvR.frz gs r k
  have k1 : Wd.Ok cs ⟨H, A1, C⟩ := k.less s
  refine ⟨A1, C, frz gs ρ, k1, r1, ?_⟩
  try dsimp only at p
  cases q : fi (frz gs ρ) with
  | bad => rw [q] at p; exact p.elim
  | ex c d =>
    rw [q] at p
    exact fun H' cls dx e z => p σ ⟨H', A1, C⟩ cls dx (Wd.Le.ext (W := ⟨H, A, C⟩) e s) (k1.ext e) (r1.ext e) z
  | ok ds =>
    rw [q] at p
    dsimp only [O.of] at p
    intro J H1 src e1 hsrc Y
    have k2 := k1.ext e1
    have r2 := r1.ext e1
    have p1 : PostS X cs Wx ⟨H1, A1, C⟩ (loop t fb ds (frz gs ρ)) D := PostS.go (Wd.Le.ext (W := ⟨H, A, C⟩) e1 s) p
    refine ⟨fun i m σ' H' => i ≤ ds.length ∧ m = ds.length - i ∧ ∃ A' ρ', Wd.Le cs ⟨H1, A1, C⟩ ⟨H', A', C⟩ ∧ Wd.Ok cs ⟨H', A', C⟩ ∧ EnvR X.K X.mg ⟨H', A', C⟩ σ' ρ' ∧ PostS X cs Wx ⟨H', A', C⟩ (loop t fb (ds.drop i) ρ') D,
      ⟨ds.length, Nat.zero_le _, by simp, A1, frz gs ρ, Wd.Le.refl, k2, r2, by simpa using p1⟩, ?_⟩
    rintro i m σ' H' ⟨hi1, rfl, A', ρ', le, k', r', p'⟩
    have hsrc' : ∀ p ∈ src, repB X.K X.mg (A' ++ C) H' p.1 p.2 := fun p hp => by
      have h0 := hsrc p hp
      unfold repF at h0
      rw [if_neg Bool.false_ne_true] at h0
      exact repB_of (rep_le k2 le h0)
    obtain ⟨hstop, hgo, hyld⟩ := Y.all (A' ++ C) H' hsrc'
    by_cases hlt : i < ds.length
    · have edrop : ds.drop i = ds[i] :: ds.drop (i + 1) := List.drop_eq_getElem_cons hlt
      rw [edrop] at p'
      refine .inr ⟨hgo i hlt, fun σ'' H'' => i + 1 ≤ ds.length ∧ ∃ A'' ρ'', Wd.Le cs ⟨H1, A1, C⟩ ⟨H'', A'', C⟩ ∧ Wd.Ok cs ⟨H'', A'', C⟩ ∧ EnvR X.K X.mg ⟨H'', A'', C⟩ σ'' ρ'' ∧ PostS X cs Wx ⟨H'', A'', C⟩ (loop t fb (ds.drop (i + 1)) ρ'') D,
        fun σ'' H'' ⟨n1, n2⟩ => ⟨_, (by omega : ds.length - (i + 1) < ds.length - i), n1, rfl, n2⟩, fun x H2 y => ?_⟩
      obtain ⟨e3, rx⟩ := hyld i ds[i] x H2 (List.getElem?_eq_getElem hlt) y
      have le3 : Wd.Le cs ⟨H', A', C⟩ ⟨H2, A', C⟩ := Wd.Le.ext (W := ⟨H', A', C⟩) e3 fun _ h => h
      have p2 := PostS.go le3 p'
      unfold loop at p2
      cases qb : bindT t ds[i] ρ' with
      | bad => rw [qb] at p2; exact p2.elim
      | ex c d =>
        exfalso
        have : ∀ (is : List Nat) (ds : List Bk.D) (ρ : En) (c : Str) (d : Bk.D), setT is ds ρ ≠ .ex c d := by
          intro is
          induction is with
          | nil => intro ds ρ c d h; cases ds <;> cases h
          | cons i is ih =>
            intro ds ρ c d h
            cases ds with
            | nil => cases h
            | cons a ds => exact ih ds _ c d h
        revert qb
        cases t with
        | nm i => intro qb; cases qb
        | tp is =>
          generalize ds[i] = dd
          cases dd <;> intro qb <;> first | (cases qb; done) | exact this _ _ _ _ _ qb
      | ok ρ2 =>
        rw [qb] at p2
        dsimp only [O.of] at p2
        refine gOf_run (W := ⟨H2, A', C⟩) (r'.ext e3) rx qb fun σ2 r3 _ => ⟨A', C, ρ2, k'.ext e3, r3, ?_⟩
        have nxt : ∀ {σ'' : L2.St} {W'' : Wd} {ρ'' : En}, Wd.Le cs ⟨H2, A', C⟩ W'' → W''.Ok cs → EnvR X.K X.mg W'' σ'' ρ'' → PostS X cs Wx ⟨H2, A', C⟩ (loop t fb (ds.drop (i + 1)) ρ'') D →
            i + 1 ≤ ds.length ∧ ∃ A'' ρ'', Wd.Le cs ⟨H1, A1, C⟩ ⟨W''.H, A'', C⟩ ∧ Wd.Ok cs ⟨W''.H, A'', C⟩ ∧ EnvR X.K X.mg ⟨W''.H, A'', C⟩ σ'' ρ'' ∧ PostS X cs Wx ⟨W''.H, A'', C⟩ (loop t fb (ds.drop (i + 1)) ρ'') D := fun {σ'' W'' ρ''} l k r q => by
          have ew := le_c l
          rw [ew] at l k r
          exact ⟨by omega, W''.A, ρ'', (le.trans le3).trans l, k, r, PostS.go l q⟩
        revert p2
        cases qf : fb ρ2 with
        | bad => exact fun p2 => p2
        | ex c d ρ3 => exact fun p2 => p2
        | fl fl =>
          cases fl with
          | nx ρ3 => exact fun p2 σ'' W'' l k r => nxt l k r p2
          | ct ρ3 => exact fun p2 σ'' W'' l k r => nxt l k r p2
          | bk ρ3 => exact fun p2 σ'' W'' l k r => p2 σ'' W'' l k r
          | rt d => exact fun p2 => p2
    · have ei : i = ds.length := by omega
      subst ei
      rw [List.drop_length] at p'
      exact .inl ⟨hstop, p' σ' ⟨H', A', C⟩ Wd.Le.refl k' r'⟩
theorem ds_whl (hp : PassesOwn (model X.prog X.w) X.A X.env X.xe) {c : Expr} {body : List Stmt} {fc : En → R Bool} {fb : En → O} (n : Nat) (hc : DT X cs Wx c fc) (hb : DSs X cs Wx body fb) :
    DS X cs Wx (.While c body [] pos) (wloop (fun r => fc (all1 r)) fb n) := by
  refine ps_imp (ps_while hp hc hb) fun D σ H ⟨A, C, ρ, k, r, p⟩ => ?_
  refine ⟨fun m σ' H' => ∃ A' ρ', Wd.Ok cs ⟨H', A', C⟩ ∧ EnvR X.K X.mg ⟨H', A', C⟩ σ' ρ' ∧ PostS X cs Wx ⟨H', A', C⟩ (wloop (fun r => fc (all1 r)) fb m ρ') D, ⟨n, A, ρ, k, r, p⟩, ?_⟩
  rintro m σ' H' ⟨A', ρ', k', r', p'⟩
  cases m with
  | zero => exact p'.elim
  | succ m =>
    unfold wloop at p'
    have k1 : Wd.Ok cs ⟨H', [], C⟩ := k'.less (fun a h => nomatch h)
    refine tT_of (W := ⟨H', [], C⟩) k1 (r'.all1 k') ?_ fun b H2 q e => ?_
    · cases q : fc (all1 ρ') with
      | ok d => trivial
      | bad => rw [q] at p'; exact p'.elim
      | ex c d =>
        rw [q] at p'
        exact fun H2 cls dx e x => p' σ' ⟨H2, A', C⟩ cls dx (Wd.Le.ext (W := ⟨H', A', C⟩) e fun _ h => h) (k'.ext e) (r'.ext e) x
    · rw [q] at p'
      dsimp only [O.of] at p'
      have le2 : Wd.Le cs ⟨H', A', C⟩ ⟨H2, A', C⟩ := Wd.Le.ext (W := ⟨H', A', C⟩) e fun _ h => h
      cases b with
      | false =>
        rw [if_neg Bool.false_ne_true] at p' ⊢
        exact p' σ' ⟨H2, A', C⟩ le2 (k'.ext e) (r'.ext e)
      | true =>
        rw [if_pos rfl] at p' ⊢
        have p2 := PostS.go le2 p'
        refine ⟨fun σ'' H'' => ∃ A'' ρ'', Wd.Ok cs ⟨H'', A'', C⟩ ∧ EnvR X.K X.mg ⟨H'', A'', C⟩ σ'' ρ'' ∧ PostS X cs Wx ⟨H'', A'', C⟩ (wloop (fun r => fc (all1 r)) fb m ρ'') D, fun σ'' H'' h => ⟨m, Nat.lt_succ_self _, h⟩, A', C, ρ', k'.ext e, r'.ext e, ?_⟩
        have nxt : ∀ {σ'' : L2.St} {W'' : Wd} {ρ'' : En}, Wd.Le cs ⟨H2, A', C⟩ W'' → W''.Ok cs → EnvR X.K X.mg W'' σ'' ρ'' → PostS X cs Wx ⟨H2, A', C⟩ (wloop (fun r => fc (all1 r)) fb m ρ'') D →
            ∃ A'' ρ'', Wd.Ok cs ⟨W''.H, A'', C⟩ ∧ EnvR X.K X.mg ⟨W''.H, A'', C⟩ σ'' ρ'' ∧ PostS X cs Wx ⟨W''.H, A'', C⟩ (wloop (fun r => fc (all1 r)) fb m ρ'') D := fun {σ'' W'' ρ''} l k r q => by
          have ew := le_c l
          rw [ew] at l k r
          exact ⟨W''.A, ρ'', k, r, PostS.go l q⟩
        revert p2
        cases qf : fb ρ' with
        | bad => exact fun p2 => p2
        | ex c d ρ3 => exact fun p2 => p2
        | fl fl =>
          cases fl with
          | nx ρ3 => exact fun p2 σ'' W'' l k r => nxt l k r p2
          | ct ρ3 => exact fun p2 σ'' W'' l k r => nxt l k r p2
          | bk ρ3 => exact fun p2 σ'' W'' l k r => p2 σ'' W'' l k r
          | rt d => exact fun p2 => p2
end
end Bk
end
section
set_option autoImplicit false
set_option linter.all false
set_option maxRecDepth 100000
/-! The errors of the package: a class over a class over Exception, its __init__ says super().__init__(at); self.at = at. -/
namespace Bk
open PySem L2
namespace Er
open PySem.W PySem.Calls PyProof.Rows
abbrev exB : List Value := [.type "Exception", .type "BaseException", .type "object"]
def iA (p1 p2 : Pos) : Arguments := { posonlyargs := [], args := [{ arg := "self", annotation := none, pos := p1 }, { arg := "at", annotation := none, pos := p2 }], vararg := none, kwonlyargs := [], kw_defaults := [], kwarg := none, defaults := [] }
def iB (q1 q2 q3 q4 q5 q6 q7 q8 q9 q10 : Pos) : List Stmt :=
  [.Expr (.Call (.Attribute (.Call (.Name "super" q1) [] [] q2) "__init__" q3) [.Name "at" q4] [] q5) q6, .Assign [.Attribute (.Name "self" q7) "at" q8] (.Name "at" q9) q10]
def iS : Scope := { kind := .function, names := [(PySem.Str.ofString "self", .local), (PySem.Str.ofString "at", .local), (PySem.Str.ofString "__class__", .free), (PySem.Str.ofString "super", .globalImplicit)], isGenerator := false, isCoroutine := false, more := [] }
/-- what the written part says of the class c, at C -/
structure Txt (prog : Program) (K : Frag) (mg : Str → Option Value) (c : Str) (C fI : Addr) : Prop where
  gC : mg c = some (.ref C)
  ini : excInitIn K C exB "Exception.__new__" = true
  ovr : excOver K C exB = true
  sa : findIn K (.ref C) "__setattr__" = some (some (.builtin "object.__setattr__"))
  ga : findIn K (.ref C) "__getattribute__" = some (some (.builtin "BaseException.__getattribute__"))
  gg : findIn K (.ref C) "__getattr__" = some none
  tkr : takerIn K C "at" = some none
  noN : findIn K (.ref C) "at" = some none
  hd : hasDictIn K C = true
  iC : findIn K (.ref C) "__init__" = some (some (.ref fI))
  tC : typeIn K (.ref fI) = some (.type "function")
  kC : keepIn K (.ref C) = true
  exC : subIn K (.ref C) (.type "BaseException") = some true
  exE : subIn K (.ref C) (.type "Exception") = some true
  tyC : typeIn K (.ref C) = some (.type "type")
  te : exmOne K (.ref C) (.ref C) = some true
  nosup : mg "super" = none
  opq : nsIn K cStatics "thirdparty.any" = some none
  alo : ks_superIn K C C "__init__" = some (some (.builtin "Exception.__init__"))
  sub : mroIn K C (.ref C) = some true
  top : (prog.main.scope.names.lookup ("super" : Str)).isSome = false
  fn : ∃ (qual : Str) (oc : Value) (od : Option Addr) (doc pm ct : Value) (an : Option Addr) (osl : Array (Option Value)) (p1 p2 q1 q2 q3 q4 q5 q6 q7 q8 q9 q10 : Pos) (cc cda : Addr) (ccl cl : Value) (cdd cld : Option Addr) (ccs csl : Array (Option Value)) (vs : Array Value) (file : Str) (tf : Tok),
    K.lookup fI = some ⟨oc, od, .func (fnX "__init__" qual (iA p1 p2) (iB q1 q2 q3 q4 q5 q6 q7 q8 q9 q10) iS [("__class__", cc)] .none .none doc pm an (.ref cda) ct), osl⟩ ∧ codeIn K (.ref cda) qual = true ∧
    K.lookup cda = some ⟨ccl, cdd, .fields vs, ccs⟩ ∧ vs[2]? = some (.str file tf) ∧ ((prog.main.file : Str) == file) = true ∧
    K.lookup cc = some ⟨cl, cld, .cell (some (.ref C)), csl⟩ ∧ (q3.endLine == q5.line) = true
theorem one_size (v : Value) : [v].length ≤ sizeLine := by rw [sizeLine_eq]; exact (by decide : 1 ≤ 16777216)
/-- what __init__ leaves of a fresh exception at x -/
structure InitEnd (h h' : Heap) (x C dx : Addr) (v : Value) : Prop where
  keep : ∀ b o, b ≠ x → h.get? b = some o → h'.get? b = some o
  obj : ∃ t1, h'.get? x = some { cls := .ref C, dict := some dx, data := .fields #[.ref t1, .none, .none, .none, .bool false, .none] }
  dbig : h.objs.size ≤ dx
  dne : dx ≠ x
  ns : h'.Ns1 dx (fun y => if y = "at" then some v else none)
structure Made (h h' : Heap) (e C d : Addr) (v : Value) : Prop where
  keep : ∀ b o, h.get? b = some o → h'.get? b = some o
  new : h.objs.size ≤ e
  obj : ∃ oe vs, h'.get? e = some oe ∧ oe.cls = .ref C ∧ oe.dict = some d ∧ oe.data = .fields vs ∧ vs[1]? = some .none
  dbig : h.objs.size ≤ d
  dne : d ≠ e
  ns : h'.Ns1 d (fun y => if y = "at" then some v else none)
section
variable {prog : Program} {w : World} {A : Around} {E : Value → Shared → Prop} {R : Result → Shared → Prop} {s : Shared} {K : Frag} {mg mb : Str → Option Value} {c : Str} {C fI : Addr}
theorem cls_some (h : excOver K C exB = true) : ∃ cd, clsIn K C = some cd ∧ (∃ bm, cd.mro = .ref C :: bm) := by
  unfold excOver at h
  cases q : clsIn K C with
  | none => rw [q] at h; cases h
  | some cd =>
    rw [q] at h
    refine ⟨cd, rfl, ?_⟩
    simp only [Option.any_some] at h
    split at h
    · rename_i C' bm hm
      rw [Bool.and_eq_true, beq_iff_eq] at h
      obtain ⟨rfl, _⟩ := h
      exact ⟨bm, hm⟩
    · cases h
/-- self.at = v on an exception without a dict -/
theorem osa_at {hp : Heap} {g : Array GenState} {d : Drawn} {t : Nat} {os : OsState} {name : Str} {tk : Tok} {v : Value} {x : Addr} {fv : Array Value} {cd : ClassData}
    (X : K.In hp) (hx : hp.get? x = some { cls := .ref C, data := .fields fv }) (ho : excOver K C exB = true) (hcd : clsIn K C = some cd) (hh : cd.hasDict = true) (ha : takerIn K C name = some none)
    (hq : ∀ h' tk' dx, (∀ b o, b ≠ x → hp.get? b = some o → h'.get? b = some o) → hp.objs.size ≤ dx → dx ≠ x → h'.get? x = some { cls := .ref C, dict := some dx, data := .fields fv } →
      h'.Ns1 dx (fun y => if y = name then some v else none) → R (.ok (.ret .none)) ⟨h', g, d, tk', os⟩) :
    codeAny (model prog w) A (.call (.builtin "object.__setattr__") ⟨[.ref x, .str name tk, v], []⟩) R ⟨hp, g, d, t, os⟩ := by
  have I : InstAt hp x { cls := .ref C, data := .fields fv } C none := ⟨hx, rfl, rfl, trivial⟩
  have hxs : x ≠ hp.objs.size := Nat.ne_of_lt (Heap.lt_size hx)
  refine osa_openX PySem.F.store_Exception X I ho ha fun b => ?_
  have hcls : Looks (model prog w) hp (classData C) cd := looks_clsIn X hcd
  obtain ⟨c1, c2, c3, c4, c5, c6, c7, c8, c9, c10, c11⟩ := cd
  dsimp only at hh
  subst hh
  unfold Builtin.ObjectAttr.storeInOwnDict Builtin.ObjectAttr.ownDictForStores
  repeat (first | with_reducible refine HandSPX.store_in_new ?_ ?_ | with_reducible refine wpAny_loadPart_at hx ?_ | with_reducible refine hcls.at ?_ | wp_step)
  · exact ⟨_, #[], _, (Heap.get?_update_ne _ _ _ _ hxs.symm).trans (Heap.get?_push_at rfl rfl), rfl, fun e he => absurd he (by simp), fun _ => rfl⟩
  · intro h2 tk2 hn2 hs2
    have up := (Heap.get?_push_of_some { cls := .type "dict", data := .dict #[] } hx : (hp.push { cls := .type "dict", data := .dict #[] }).get? x = some _)
    refine hq h2 tk2 hp.objs.size (fun b o hb ho => ?_) (Nat.le_refl _) hxs.symm ?_ hn2
    · have z := hs2.2 b (Nat.ne_of_lt (Heap.lt_size ho))
      exact z.trans ((Heap.get?_update_ne _ _ _ _ hb).trans (Heap.get?_push_of_some _ ho))
    · have z := hs2.2 x hxs
      exact z.trans (Heap.get?_update_self _ up rfl)
theorem ld_loc {M : Model} {env : Env} {m : Str → Option Value} {x : Str} {pos : Pos} {v : Value} {Q : Value → Shared → Prop} (hn : s.heap.Ns env.locals m) (hv : m x = some v) (h : Q v s)
    (hk : env.scope.kind = .function) (hl : env.kindOf x = some .local) (hd : (x == ("__debug__" : Str)) = false) : wpAny M A (eval (.Name x pos) env) Q E s := wpAny_Name (wpAny_loadName_local hk hl hn hv h) hd
theorem init_runs (T : Txt prog K mg c C fI) {x t0 : Addr} {v : Value} (X : K.In s.heap) (hlim : s.heap.NoLimit) (G : s.heap.Ns mainGlobals mg) (B : s.heap.Ns builtinsNs mb) (hB : mb "super" = some (.type "super")) (hx : s.heap.get? x = some (HandSPX.excO C t0)) (hnx : K.lookup x = none) (hroom : A.depth < recursionLimit)
    (hq : ∀ h' tk dx, InitEnd s.heap h' x C dx v → R (.ok (.ret .none)) { s with heap := h', toks := tk }) :
    codeAny (model prog w) A (.call (.ref fI) ⟨[.ref x, v], []⟩) R s := by
  obtain ⟨qual, oc, od, doc, pm, ct, an, osl, p1, p2, q1, q2, q3, q4, q5, q6, q7, q8, q9, q10, cc, cda, ccl, cl, cdd, cld, ccs, csl, vs, file, tf, hfn, hcd, hcda, hvs, hfile, hcc, hline⟩ := T.fn
  obtain ⟨cd, hclsC, bm, hmro⟩ := cls_some T.ovr
  refine ks_codeAny_call_defAt (binds := [("self", .ref x), ("at", v)]) (body := iB q1 q2 q3 q4 q5 q6 q7 q8 q9 q10) hroom (X _ _ hfn) rfl hlim (codeRec_of X hcd) rfl (BindsTo.of_eq (by first | rfl | with_unfolding_all rfl)) (show ∀ y ∈ iS.names, y.2 ≠ .cell by decide)
    (fun y hy => by
      rcases List.mem_cons.mp hy with z | hy
      · rw [z]; rfl
      · rcases List.mem_cons.mp hy with z | hy
        · rw [z]; rfl
        · cases hy) (fun h₁ hn k₁ => ?_) rfl rfl rfl
  have X₁ : K.In h₁ := X.keeps k₁
  have hx₁ := k₁ _ _ hx
  generalize henv : callEnv (fnX "__init__" qual (iA p1 p2) (iB q1 q2 q3 q4 q5 q6 q7 q8 q9 q10) iS [("__class__", cc)] .none .none doc pm an (.ref cda) ct) s.heap.objs.size fI = env
  have eloc : env.locals = s.heap.objs.size := by rw [← henv]; rfl
  have esc : env.scope = iS := by rw [← henv]; rfl
  have eglo : env.globals = mainGlobals := by rw [← henv]; rfl
  have eblt : env.builtins = builtinsNs := by rw [← henv]; rfl
  have ecel : env.cells = [(("__class__" : Str), cc)] := by rw [← henv]; rfl
  have ekind : ∀ y, env.kindOf y = iS.names.lookup y := fun y => by rw [← henv]; rfl
  rw [← eloc] at hn
  have hself : (fun y => ([("self", Value.ref x), ("at", v)] : List (Str × Value)).reverse.lookup y) "self" = some (.ref x) := by first | rfl | (simp [List.lookup]; done)
  have hat : (fun y => ([("self", Value.ref x), ("at", v)] : List (Str × Value)).reverse.lookup y) "at" = some v := by first | rfl | (simp [List.lookup]; done)
  refine ks_wpAt_execs_cons (ks_wpAt_Expr_any (ks_wpAt_MethodCall (pl := plainOf (.Call (.Name "super" q1) [] [] q2) env) ?_ ?_) ?_ rfl)
  · refine ks_wpAt_super_base (by rw [ekind]; rfl) (by rw [ekind]; rfl) (by decide) (by rw [← henv]; rfl) (X₁ _ _ hfn) rfl rfl (by rw [← henv]; rfl) (X₁ _ _ hcda) rfl hvs hfile T.top ?_
    have kf : env.scope.kind = .function := by rw [esc]; rfl
    refine ks_loadName_global kf (by rw [ekind]; rfl) (loadGlobal_builtin (by rw [eglo]; exact G.keeps k₁) T.nosup (by rw [eblt]; exact B.keeps k₁) hB ⟨rfl, ?_⟩)
    refine wpAny_loadName_free kf (by rw [ekind]; rfl) (by rw [ecel]; rfl) ⟨_, X₁ _ _ hcc, rfl⟩ ?_
    refine wpAny_loadName_local kf (by rw [ekind]; rfl) hn hself ?_
    obtain ⟨oD, hD1, hD2⟩ : ∃ oD, h₁.get? C = some oD ∧ oD.data = .cls cd := by
      unfold clsIn at hclsC
      split at hclsC
      · rename_i c d cd' sl ho
        cases hclsC
        exact ⟨_, X₁ _ _ ho, rfl⟩
      · cases hclsC
    refine ks_wpAny_isType_cls hD1 hD2 ⟨rfl, ?_⟩
    refine ks_wpAny_call_super hD1 hD2 hx₁ rfl (fun c e => by cases e) (looks_mroIn X₁ T.sub) (fun h₂ e₂ k₂ => ?_)
    have X₂ : K.In h₂ := X₁.keeps k₂
    have hx₂ := k₂ _ _ hx₁
    have I₂ : InstAt h₂ x (HandSPX.excO C t0) C none := ⟨hx₂, rfl, rfl, trivial⟩
    have hal := T.alo
    unfold ks_superIn at hal
    rw [hclsC, Option.bind_some] at hal
    refine kxs_getMethod kxs_Exception e₂ (looks_opaque X₂ T.opq) (l₀ := cd.mro) ((looks_clsIn X₂ hclsC).andThen .now) rfl X₂ hal (I₂.type.andThen (looks_subIn X₂ T.exE)) (ks_ne X₂ I₂ hclsC) (by decide) ?_
    -- the bound __init__ is called with at
    have k₃ : ∀ b o, h₂.get? b = some o → (h₂.push (kxs_mw "Exception.__init__" x)).get? b = some o := fun b o e => Heap.get?_push_of_some _ e
    have hn₃ : (h₂.push (kxs_mw "Exception.__init__" x)).Ns env.locals (fun y => ([("self", Value.ref x), ("at", v)] : List (Str × Value)).reverse.lookup y) := (hn.keeps k₂).keeps k₃
    have hu : (h₂.push (kxs_mw "Exception.__init__" x)).get? h₂.objs.size = some (kxs_mw "Exception.__init__" x) := Heap.get?_push_at rfl rfl
    refine ESX.callWith_bound (x := x) (first := []) (Calls.spliced_cons ?_) rfl rfl
    refine ld_loc hn₃ hat (Calls.spliced_nil ⟨Heap.get?_push_at rfl rfl, ?_⟩) kf (by rw [ekind]; rfl) (by decide)
    have X₃ : K.In (h₂.push (kxs_mw "Exception.__init__" x)) := X₂.keeps k₃
    obtain ⟨nm, N, qn, bs, bm', hdct, sn, sub, ab, col, dd, k0, k1, k2, k3, k5, hC, hT⟩ := excInit_of X₃ T.ini
    refine ESX.call_bw hC (k₃ _ _ hx₂) hu (by rw [List.nil_append]; exact one_size v) (fun h₄ t1 k₄ hx₄ => ?_)
    -- self.at = at
    have X₄ : K.In h₄ := fun a o e => k₄ a o (fun z => by rw [z, hnx] at e; cases e) (X₃ _ _ e)
    have hn₄ : h₄.Ns env.locals (fun y => ([("self", Value.ref x), ("at", v)] : List (Str × Value)).reverse.lookup y) := hn₃.at' fun o e => k₄ _ o (fun z => by
      rw [eloc] at z
      exact absurd (Heap.lt_size hx) (by rw [← z]; exact Nat.lt_irrefl _)) e
    refine wpAt_of_wpAny (wpAny_execs_cons (plainObj_wpAny_Assign_Attribute ?_))
    refine ld_loc hn₄ hat (ld_loc hn₄ hself ?_ kf (by rw [ekind]; rfl) (by decide)) kf (by rw [ekind]; rfl) (by decide)
    refine set_plain X₄ (ox := HandSPX.excO C t1) (od := none) ⟨hx₄, rfl, rfl, trivial⟩ T.sa ?_
    have hdc : cd.hasDict = true := by
      have z := T.hd
      unfold hasDictIn at z
      rw [hclsC] at z
      exact z
    refine osa_at X₄ hx₄ T.ovr hclsC hdc T.tkr (fun h₅ tk₅ dx k₅ dn dne hx₅ hn₅ => ?_)
    show wpAny _ _ (execs _ _) _ _ _
    have big : s.heap.objs.size ≤ dx := by
      have z := hn₄.lt
      rw [eloc] at z
      exact Nat.le_of_lt (Nat.lt_of_lt_of_le z dn)
    exact wpAny_execs_nil (hq h₅ tk₅ dx ⟨fun b o hb e => k₅ b o hb (k₄ b o hb (k₃ b o (k₂ b o (k₁ b o e)))), ⟨t1, hx₅⟩, big, dne, hn₅⟩)
  · show (do
      let ov ← attributeBase (.Call (.Name "super" q1) [] [] q2) "__init__" env (eval (.Call (.Name "super" q1) [] [] q2) env)
      standAt q3.atName
      methodCall (.Call (.Name "super" q1) [] [] q2) "__init__" q3 q5 env ov 1 (backTo q5 (starEach [.Name "at" q4] env)) (backToKw q5 (keywordEach [] env))) = _
    have e : ∀ ov, methodCall (.Call (.Name "super" q1) [] [] q2) "__init__" q3 q5 env ov 1 (backTo q5 (starEach [.Name "at" q4] env)) (backToKw q5 (keywordEach [] env)) = (do
      let (f, first) ← holding [ov] (getMethod ov "__init__" (plainOf (.Call (.Name "super" q1) [] [] q2) env))
      callWith q5 f first (backTo q5 (starEach [.Name "at" q4] env)) (backToKw q5 (keywordEach [] env))) := fun ov => mcall_line rfl hline
    simp only [e]
    rfl
  · have kf : env.scope.kind = .function := by rw [esc]; rfl
    simp [interactive, kf]
/-- c(v): a new exception -/
theorem made (T : Txt prog K mg c C fI) {v : Value} (X : K.In s.heap) (hlim : s.heap.NoLimit) (G : s.heap.Ns mainGlobals mg) (B : s.heap.Ns builtinsNs mb) (hB : mb "super" = some (.type "super")) (hroom : A.depth + 1 < recursionLimit)
    (hq : ∀ h' tk e d, Made s.heap h' e C d v → R (.ok (.ret (.ref e))) { s with heap := h', toks := tk }) :
    codeAny (model prog w) A (.call (.ref C) ⟨[v], []⟩) R s := by
  obtain ⟨nm, N, qn, bs, bm, hdct, sn, sub, ab, col, dd, k0, k1, k2, k3, k5, hC, hT⟩ := excInit_of X T.ini
  obtain ⟨hp, g, dr, tk, os⟩ := s
  have k : ∀ b o, hp.get? b = some o → ((hp.push (kdv_tup [v])).push (HandSPX.excO C hp.objs.size)).get? b = some o := fun b o e => Heap.get?_push_of_some _ (Heap.get?_push_of_some _ e)
  have hget : ((hp.push (kdv_tup [v])).push (HandSPX.excO C hp.objs.size)).get? (hp.objs.size + 1) = some (HandSPX.excO C hp.objs.size) := by heap_get
  have hnx : K.lookup (hp.objs.size + 1) = none := by
    cases e : K.lookup (hp.objs.size + 1) with
    | none => rfl
    | some o => exact absurd (Nat.lt_of_succ_lt (Heap.lt_size (X _ _ e))) (Nat.lt_irrefl _)
  refine HandSPX.call_own PySem.F.excBase_Exception hT hC (looks_findIn X T.iC) (fun self => bind_fn X self T.tC) (one_size v) ?_
  refine init_runs (s := ⟨(hp.push (kdv_tup [v])).push (HandSPX.excO C hp.objs.size), g, dr, tk, os⟩) T (X.keeps k) (hlim.keeps k) (G.keeps k) (B.keeps k) hB hget hnx hroom fun h' tk' dx I => ?_
  have old : ∀ b o, hp.get? b = some o → h'.get? b = some o := fun b o e => I.keep b o (Nat.ne_of_lt (Nat.lt_succ_of_lt (Heap.lt_size e))) (k b o e)
  have z : hp.objs.size + 1 + 1 ≤ dx := by
    have z := I.dbig
    first
      | exact z
      | (rw [Heap.size_push, Heap.size_push] at z; exact z)
  obtain ⟨t1, ho⟩ := I.obj
  exact ⟨rfl, hq h' tk' (hp.objs.size + 1) dx ⟨old, Nat.le_succ _, ⟨_, _, ho, rfl, rfl, rfl, rfl⟩, Nat.le_trans (Nat.le_trans (Nat.le_succ _) (Nat.le_succ _)) z, I.dne, I.ns⟩⟩
end
end Er
theorem relO_at {v : V} {v' : Value} (r : RelV v v') (f : Str) : RelO (List.lookup f [(("at" : Str), v)]) (if f = "at" then some v' else none) := by
  by_cases hw : f = "at"
  · subst hw
    rw [if_pos rfl]
    have q : List.lookup ("at" : Str) [(("at" : Str), v)] = some v := by simp [List.lookup]
    rw [q]; exact r
  · rw [if_neg hw]
    have qw : (f == ("at" : Str)) = false := by simpa using hw
    have q2 : List.lookup f [(("at" : Str), v)] = none := by simp [List.lookup, qw]
    rw [q2]; trivial
section
variable {X : Cx} {c : Str} {C fI : Addr}
def tMk (C : Addr) (ta : TA) : L2.St → Hp → XK → Prop := fun σ H Q => ta σ H fun vs H1 => ∃ v, vs = [v] ∧ ∀ d, H1 d = none → Q (.ref C) (some d) (upd H1 d (.xd [(("at" : Str), v)]))
theorem pmk {a : Expr} {ta : TA} {p pos : Pos} {k : Nat} (T : Er.Txt X.prog X.K X.mg c C fI) (hr : Room k X.A) (ha : PA X [a] ta) (hg : Gl X c) (hd : (c == ("__debug__" : Str)) = false) (ns : notStar a = true) : PMk X (.Call (.Name c p) [a] [] pos) (tMk C ta) := by
  intro pins s σ H Q I h
  refine wpAny_Call_Name_kw (ld_glob I hg T.gC ?_ hd)
  refine PySem.W.callWith_K (h₀ := X.base) I.ok.mod.kin T.kC (thn (ha.run pos pins s σ H _ I h) fun us s1 hh => ?_) (star_cons ns) rfl
  obtain ⟨vs, H1, I1, r1, v, ev, q1⟩ := hh
  subst ev
  refine ⟨I1.kIn, ?_⟩
  cases r1 with
  | cons rv rn =>
    rename_i v' us'
    cases rn
    show wpAny _ _ (call (.ref C) [v']) _ _ _
    have hlim := I1.nolimit
    obtain ⟨mb, B, hB⟩ := I1.mod.blt
    have hsup : mb "super" = some (.type "super") := (hB "super" (by decide)).trans (by decide +kernel)
    have G := I1.mod.glob.keeps I1.bk
    have B' := B.keeps I1.bk
    have KX := I1.kIn
    obtain ⟨hp, g, dr, tk, os⟩ := s1
    refine wpAny_call (Er.made T KX hlim G B' hsup (by have := hr.dp; omega) fun h' tk' e d M => ?_)
    show MkP X pins σ Q (.ref e) ⟨h', g, dr, tk', os⟩
    obtain ⟨oe, fv, hoe, hc, hdd, hdat, h1⟩ := M.obj
    have hns := M.ns
    obtain ⟨G', g1, g2⟩ := restrict h' fun b => decide (b ≠ e)
    have gk : ∀ b, b ≠ e → G'.get? b = h'.get? b := fun b hb => g1 b (decide_eq_true hb)
    have ge : G'.get? e = none := g2 e (by simp)
    have old : ∀ b o, hp.get? b = some o → G'.get? b = some o := fun b o q => (gk b (Nat.ne_of_lt (Nat.lt_of_lt_of_le (Heap.lt_size q) M.new))).trans (M.keep b o q)
    have ob : ObjOk X.prog X.w (upd H1 d (.xd [(("at" : Str), v)])) G' d (.xd [(("at" : Str), v)]) := ⟨_, hns.at (fun o q => (gk d M.dne).trans q), fun f => relO_at rv f⟩
    have J : Inv X pins σ (upd H1 d (.xd [(("at" : Str), v)])) ⟨G', g, dr, tk', os⟩ := I1.laid (t' := tk') old M.dbig ob
    refine ⟨e, oe, fv, ⟨G', g, dr, tk', os⟩, _, .ref C, some d, rfl, J, fun b o q => ?_, ge, hoe, ⟨hc, hdd⟩, hdat, h1, ?_, rfl, I1.bare, raises_own T.exC T.tyC, q1 d (I1.hok.fresh M.dbig)⟩
    · by_cases hb : b = e
      · have q' : G'.get? b = some o := q
        rw [hb, ge] at q'; cases q'
      · exact (gk b hb).symm.trans q
    · rw [upd_ne (Ne.symm M.dne)]
      exact I1.hok.fresh M.new
/-- n.at, n the exception that the suite holds (at a; its class cls, its dict d) -/
def tBy (C : Addr) (a : Addr) (cls : Value) (d : Option Addr) (te : TE) : TE := fun σ H Q => te σ H fun x H1 => x = .ref a ∧ cls = .ref C ∧ ∃ (dd : Addr) (v : V), d = some dd ∧ H1 dd = some (.xd [(("at" : Str), v)]) ∧ Q v H1
theorem pe_by {a : Addr} {oe : Obj} {cls : Value} {d : Option Addr} {pn : List (Addr × Obj)} {e : Expr} {te : TE} {pos : Pos} (T : Er.Txt X.prog X.K X.mg c C fI) (hz : Zc cls d oe) (hf : ∃ vs, oe.data = .fields vs) (he : PE (X.suite a ((a, oe) :: pn)) e te)
    (hb : attributeBase e "at" X.env (eval e X.env) = eval e X.env) : PE (X.suite a ((a, oe) :: pn)) (.Attribute e "at" pos) (tBy C a cls d te) := by
  refine ⟨fun pins s σ H Q I h => ?_⟩
  refine attr_of hb (thn (he.run pins s σ H _ I h) fun u s1 hh => ?_)
  obtain ⟨x, H1, I1, rx, ex, ec, dd, v, ed, ea, q⟩ := hh
  subst ex
  obtain rfl : u = Value.ref a := rx
  subst ec
  subst ed
  obtain ⟨ha, _⟩ := I1.pin (a, oe) (List.mem_append_left _ List.mem_cons_self)
  obtain ⟨vs, hd⟩ := hf
  have hx : ObjOk X.prog X.w H1 s1.heap dd (.xd [(("at" : Str), v)]) := I1.hok dd _ ea
  obtain ⟨mA, hns, hr⟩ := hx
  obtain ⟨od, ho, hl⟩ := lookIn_ns hns
  have l : List.lookup ("at" : Str) [(("at" : Str), v)] = some v := by simp [List.lookup]
  obtain ⟨u, hu, ru⟩ := RelO.some_of (v := v) (o := mA "at") (by rw [← l]; exact hr "at")
  have J : PySem.W.InstAt s1.heap a oe C (some od) := ⟨ha, hz.1, by unfold PySem.W.notCls; rw [hd] <;> rfl, by rw [hz.2]; exact ho⟩
  exact HandSPX.exc_get I1.kIn J T.ga T.gg T.exC (PySem.W.findObj_own T.hd T.noN rfl (by rw [hl, hu])) (handed_of ru) ⟨v, H1, I1.tok _, ru, q⟩
end
section
variable {X : Cx} {cs : List (Addr × Addr)} {Wx : WX} {pos : Pos} {c : Str} {C fI : Addr}
theorem ds_raise (hc : X.calm = true) (tk : Takes X Wx) {k : Nat} (hr : Room k X.A) (T : Er.Txt X.prog X.K X.mg c C fI) {a : Expr} {p p2 : Pos} {f : En → R D} (ha : DE X cs Wx false a f) (hg : Gl X c) (hd : (c == ("__debug__" : Str)) = false) (ns : notStar a = true) :
    DS X cs Wx (.Raise (some (.Call (.Name c p) [a] [] p2)) none pos) (fun ρ => O.of ρ ((f ρ).bind fun d => (R.ok []).bind fun ds => R.ok (d :: ds)) fun ds => match ds with
    | [] => .ex c .non ρ
    | [d] => if flat d = true then .ex c d ρ else .bad
    | _ => .bad) := by
  refine ps_imp (ps_raise hc tk (pmk T hr (dl_cons ha dl_nil ns) hg hd ns)) fun D σ H ⟨A, C', ρ, k, r, p⟩ => ?_
  try dsimp only at p
  refine tL_of (W := ⟨H, A, C'⟩) k r (lets_of (fun _ h => h) k r p) fun ds H1 vs q e rv => ?_
  try dsimp only at q
  cases qf : f ρ with
  | bad => rw [qf] at q; cases q
  | ex c d => rw [qf] at q; cases q
  | ok d =>
    rw [qf] at q p
    cases q
    dsimp only [R.bind, O.of] at p
    obtain ⟨v, vs', rfl, rv1, rv2⟩ := rv
    obtain rfl : vs' = [] := rv2
    refine ⟨v, rfl, fun dd hdd => ?_⟩
    by_cases hf : flat d = true
    · rw [if_pos hf] at p
      have e2 : Ext cs H1 (upd H1 dd (.xd [(("at" : Str), v)])) := Ext.new hdd
      have e3 := e.trans e2
      exact p σ ⟨upd H1 dd (.xd [(("at" : Str), v)]), A, C'⟩ _ _ (Wd.Le.ext (W := ⟨H, A, C'⟩) e3 fun _ h => h) (k.ext e3) (r.ext e3) ⟨⟨C, T.gC, rfl⟩, hf, .inr ⟨dd, v, rfl, upd_same, rep_flat hf rv1⟩⟩
    · rw [if_neg hf] at p
      exact p.elim
/-- an exception that d tells, caught: its field -/
theorem exn_at {cls : Value} {dx : Option Addr} {H : Hp} {i : Int} (T : Er.Txt X.prog X.K X.mg c C fI) (h : Exn X.K X.mg c (.int i) cls dx H) : cls = .ref C ∧ ∃ dd, dx = some dd ∧ H dd = some (.xd [(("at" : Str), .int i)]) := by
  obtain ⟨⟨a, h1, rfl⟩, _, h2⟩ := h
  have : a = C := by
    have := h1.symm.trans T.gC
    cases this; rfl
  subst this
  refine ⟨rfl, ?_⟩
  rcases h2 with h2 | ⟨dd, v, h3, h4, h5⟩
  · cases h2
  · obtain rfl : v = V.int i := h5
    exact ⟨dd, h3, h4⟩
theorem ds_tryEq (hs : X.stack = X.env :: X.outer) (hf : X.env.frame = some X.env.locals) (hN : X.N.Nodup) (tk : Takes X Wx) (T : Er.Txt X.prog X.K X.mg c C fI) {i s : Nat} {n y : Str} (hi : X.N[i]? = some n) (hln : X.env.kindOf n = some .local) (hvn : Vis X.env.scope n) (hys : X.N[s]? = some y) (hvy : Vis X.env.scope y) (his : i ≠ s)
    (hdn : (n == ("__debug__" : Str)) = false) (hcn : (n == ("__classdict__" : Str)) = false) (hdy : (y == ("__debug__" : Str)) = false) (hcy : (y == ("__classdict__" : Str)) = false) (hc : Names X c (.ref C)) {body : List Stmt} {fb : En → O} {np pos' p1 p2 p3 p4 p5 : Pos}
    (hb : ∀ (W : WX) (pn : List (Addr × Obj)) (xe : Value → Shared → Prop), Takes (X.tr pn xe) W → PassesOwn (model X.prog X.w) X.A X.env xe → PSs (X.tr pn xe) body (tS X cs W fb)) :
    DS X cs Wx (.Try body [.ExceptHandler (some (.Name c np)) (some n) [.Return (some (.Compare (.Attribute (.Name n p1) "at" p2) [.Eq] [.Name y p3] p4)) p5] pos'] [] [] pos) (fun ρ => match fb ρ with
      | .ex c' d r => if c' = c then hd (.retEq s) i d r else .bad
      | o => o) := by
  refine ps_imp (ps_try_as (tb := fun W => tS X cs W fb) (ts := fun a cls d => tRet (tOp rEq (tBy C a cls d (tVar i)) (tVar s))) hs hf hN hi hln hc tk hb fun a oe cls d pn hz hfd => pss_one (ps_ret (pe_cmpR op_eq (pe_by T hz hfd (pe_var hi hvn hdn hcn) rfl) (pe_var hys hvy hdy hcy) (nomark _)))) fun D σ H ⟨A, C', ρ, k, r, p⟩ => ?_
  refine ⟨A, C', ρ, k, r, ?_⟩
  try dsimp only at p
  revert p
  cases fb ρ with
  | fl f => cases f <;> exact fun p => p
  | bad => exact fun p => p
  | ex c' d r' =>
    intro p σ' W' cls dx le ok env x
    dsimp only at p
    by_cases e : c' = c
    · subst e
      rw [if_pos rfl] at p
      unfold hd at p
      dsimp only at p
      have hlt0 : i < r'.length := by
        by_cases z : i < r'.length
        · exact z
        · rw [if_neg z] at p; exact p.elim
      rw [if_pos hlt0] at p
      have p1 := PostS.go le p
      cases q : get r' s with
      | bad => rw [q] at p1; exact p1.elim
      | ex c d => exact absurd q get_bad
      | ok z =>
        rw [q] at p1
        dsimp only [O.of] at p1
        cases d <;> first | exact (show False from p1).elim | skip
        cases z <;> first | exact (show False from p1).elim | skip
        rename_i u v
        dsimp only [asInt] at p1
        obtain ⟨rfl, dd, rfl, hdd⟩ := exn_at T x
        obtain ⟨vv, g1, g2⟩ := env.sh s _ (get_ok q)
        obtain rfl : vv = V.int v := g2
        have hlt : i < σ'.length := Nat.lt_of_lt_of_le hlt0 env.len
        refine ⟨true, T.te, fun _ a ha => ?_, fun z => nomatch z⟩
        refine ⟨.ref a, by rw [List.getElem?_set_self hlt], rfl, rfl, dd, .int u, rfl, hdd, .int v, by rw [List.getElem?_set_ne his]; exact g1, rfl, ?_⟩
        have := p1 (.bl (decide (u = v))) W' Wd.Le.refl ok rfl
        rw [dec_int, Bool.beq_eq_decide_eq]
        exact this
    · rw [if_neg e] at p
      exact p.elim
end
end Bk
end
section
set_option autoImplicit false
set_option linter.all false
set_option maxRecDepth 100000
/-! Looks at names. -/
namespace Bk
open PySem L2 RT

/-! ### looks at names -/
def visB (sc : Scope) (x : Str) : Bool := match sc.names.lookup x with
  | some .local => true
  | some .cell => true
  | some .free => true
  | _ => false
def glB (sc : Scope) (x : Str) : Bool := match sc.names.lookup x with
  | some .globalImplicit => true
  | _ => false
def locB (sc : Scope) (x : Str) : Bool := match sc.names.lookup x with
  | some .local => true
  | _ => false
/-- a name that may be stored to -/
def stB (sc : Scope) (af : Str → Bool) (x : Str) : Bool := match sc.names.lookup x with
  | some .local => true
  | some .cell => af x
  | _ => false
def odd (x : Str) : Bool := !(x == ("__debug__" : Str)) && !(x == ("__classdict__" : Str))
def atB (N : List Str) (i : Nat) (x : Str) : Bool := match N[i]? with
  | some y => decide (y = x)
  | none => false
theorem atB_ok {N : List Str} {i : Nat} {x : Str} (h : atB N i x = true) : N[i]? = some x := by
  unfold atB at h
  split at h
  · rename_i y q
    rw [q, of_decide_eq_true h]
  · cases h
theorem odd_ok {x : Str} (h : odd x = true) : (x == ("__debug__" : Str)) = false ∧ (x == ("__classdict__" : Str)) = false := by
  unfold odd at h
  rw [Bool.and_eq_true, Bool.not_eq_true', Bool.not_eq_true'] at h
  exact h
theorem visB_ok {sc : Scope} {x : Str} (h : visB sc x = true) : Vis sc x := by
  unfold visB at h
  split at h <;> first | exact .inl (by assumption) | exact .inr (.inl (by assumption)) | exact .inr (.inr (by assumption)) | cases h
theorem glB_ok {sc : Scope} {x : Str} (h : glB sc x = true) : sc.names.lookup x = some .globalImplicit := by
  unfold glB at h
  split at h <;> first | assumption | cases h
theorem locB_ok {sc : Scope} {x : Str} (h : locB sc x = true) : sc.names.lookup x = some .local := by
  unfold locB at h
  split at h <;> first | assumption | cases h
theorem stB_ok {sc : Scope} {af : Str → Bool} {x : Str} (h : stB sc af x = true) : Loc sc x ∧ (af x = true ∨ sc.names.lookup x = some .local) := by
  unfold stB at h
  split at h
  · exact ⟨.inl (by assumption), .inr (by assumption)⟩
  · exact ⟨.inr (by assumption), .inl h⟩
  · cases h
def kindB (sc : Scope) : Bool := match sc.kind with
  | .function => true
  | _ => false
theorem kindB_ok {sc : Scope} (h : kindB sc = true) : sc.kind = .function := by
  unfold kindB at h
  split at h <;> first | assumption | cases h
def notSet : Expr → Bool
  | .Set .. => false
  | _ => true
theorem fold_ok {e : Expr} {env : Env} (h : notSet e = true) : ∀ x, foldedSetIterable e env x = pure x := fun x => by
  cases e <;> first | rfl | cases h
/-- an expression whose test is its truth by the plain road -/
def tst : E → Bool
  | .ite .. => false
  | .and a b => tst a && tst b
  | .or a b => tst a && tst b
  | .not a => tst a
  | _ => true
def isBo : Expr → Bool
  | .BoolOp .. => true
  | _ => false
def mCst : D → Expr → Bool
  | .non, .Constant .none _ _ => true
  | .bl b, .Constant (.bool c) _ _ => b == c
  | .int i, .Constant (.int j) _ _ => decide (i = j)
  | .str x, .Constant (.str y) _ _ => decide (x = y)
  | _, _ => false
theorem ba {a b : Bool} (h : (a && b) = true) : a = true ∧ b = true := by rwa [Bool.and_eq_true] at h
theorem bn {a : Bool} (h : (!a) = true) : a = false := by cases a <;> first | rfl | cases h
end Bk
end
section
set_option autoImplicit false
set_option linter.all false
set_option maxRecDepth 100000
/-! Quiet expressions: no object is changed, no generator made. Values straight in the heap. -/
namespace Bk
open PySem L2 PySem.Spec PyProof.Rows
/-! ### data in the heap -/
section
variable (h : Heap)
mutual
def vrep : D → Value → Prop
  | .non, u => u = .none
  | .bl b, u => u = .bool b
  | .int i, u => ∃ t, u = .int i t
  | .str x, u => ∃ t, u = .str x t
  | .tup l, u => ∃ (a : Addr) (its : List Value), u = .ref a ∧ IsTup h a its.toArray ∧ l.length ≤ sizeLine ∧ vreps l its
  | .lst l, u => ∃ (a : Addr) (its : List Value), u = .ref a ∧ PlainL h a its.toArray ∧ l.length ≤ sizeLine ∧ vreps l its
  | .fn _, _ => False
  | .scr _, _ => False
def vreps : List D → List Value → Prop
  | [], us => us = []
  | d :: ds, us => ∃ v r, us = v :: r ∧ vrep d v ∧ vreps ds r
end
end
def Up (h h' : Heap) : Prop := ∀ b o, h.get? b = some o → h'.get? b = some o
theorem isTup_up {h h' : Heap} (k : Up h h') {a : Addr} {its : Array Value} (x : IsTup h a its) : IsTup h' a its := by
  obtain ⟨o, e, r⟩ := x
  exact ⟨o, k _ _ e, r⟩
theorem plainL_up {h h' : Heap} (k : Up h h') {a : Addr} {its : Array Value} (x : PlainL h a its) : PlainL h' a its := by
  obtain ⟨o, n, e, r⟩ := x
  exact ⟨o, n, k _ _ e, r⟩
mutual
theorem vrep_up {h h' : Heap} (k : Up h h') : ∀ (d : D) (u : Value), vrep h d u → vrep h' d u
  | .non, u, x => x
  | .bl b, u, x => x
  | .int i, u, x => x
  | .str s, u, x => x
  | .tup l, u, ⟨a, its, e, t, n, r⟩ => ⟨a, its, e, isTup_up k t, n, vreps_up k l its r⟩
  | .lst l, u, ⟨a, its, e, t, n, r⟩ => ⟨a, its, e, plainL_up k t, n, vreps_up k l its r⟩
  | .fn _, _, x => x.elim
  | .scr _, _, x => x.elim
theorem vreps_up {h h' : Heap} (k : Up h h') : ∀ (ds : List D) (us : List Value), vreps h ds us → vreps h' ds us
  | [], us, x => x
  | d :: ds, us, ⟨v, r, e, x, y⟩ => ⟨v, r, e, vrep_up k d v x, vreps_up k ds r y⟩
end
theorem vreps_len {h : Heap} : ∀ {ds : List D} {us : List Value}, vreps h ds us → us.length = ds.length
  | [], us, x => by cases (show us = [] from x); rfl
  | d :: ds, us, ⟨v, r, e, x, y⟩ => by subst e; simp [vreps_len y]
theorem vreps_at {h : Heap} : ∀ {ds : List D} {us : List Value} {i : Nat} {d : D}, vreps h ds us → ds[i]? = some d → ∃ u, us[i]? = some u ∧ vrep h d u
  | [], us, i, d, x, e => by simp at e
  | d :: ds, us, 0, d', ⟨v, r, e1, x, y⟩, e => by subst e1; simp at e; subst e; exact ⟨v, rfl, x⟩
  | d :: ds, us, i + 1, d', ⟨v, r, e1, x, y⟩, e => by
    subst e1
    obtain ⟨u, h1, h2⟩ := vreps_at (i := i) y (by simpa using e)
    exact ⟨u, by simpa using h1, h2⟩
/- from the layer's reading -/
section
variable {X : Cx} {pins : List (Addr × Obj)} {σ : L2.St} {H : Hp} {s : Shared} {Z : List Addr}
mutual
theorem vrep_of (I : Inv X pins σ H s) : ∀ (d : D) (v : V) (u : Value), plainD d = true → repB X.K X.mg Z H d v → RelV v u → vrep s.heap d u
  | .non, v, u, p, x, r => by cases (show v = .non from x); exact r
  | .bl b, v, u, p, x, r => by cases (show v = .bl b from x); exact r
  | .int i, v, u, p, x, r => by cases (show v = .int i from x); exact r
  | .str y, v, u, p, x, r => by cases (show v = .str y from x); exact r
  | .tup l, v, u, p, x, r => by
    obtain ⟨a, vs, rfl, hs, hr⟩ := x
    cases (show u = .ref a from r)
    obtain ⟨its, rv, ht, hl⟩ := I.tuple hs
    exact ⟨a, its, rfl, ht, by rw [← reps_len hr]; exact hl, vreps_of I l vs its p hr rv⟩
  | .lst l, v, u, p, x, r => by
    obtain ⟨a, vs, rfl, hs, hr⟩ := x
    cases (show u = .ref a from r)
    obtain ⟨its, rv, ht, hl⟩ := I.list (SqL.of (K := X.K) hs)
    exact ⟨a, its, rfl, ht, by rw [← reps_len hr]; exact hl, vreps_of I l vs its p hr rv⟩
  | .fn _, v, u, p, x, r => by cases p
  | .scr _, v, u, p, x, r => by cases p
theorem vreps_of (I : Inv X pins σ H s) : ∀ (ds : List D) (vs : List V) (us : List Value), plainDs ds = true → reps X.K X.mg Z H ds vs → Vals vs us → vreps s.heap ds us
  | [], vs, us, p, x, r => by
    cases (show vs = [] from x)
    cases r; rfl
  | d :: ds, vs, us, p, x, r => by
    obtain ⟨v, w, rfl, x1, x2⟩ := x
    cases r with
    | cons r1 r2 =>
      obtain ⟨p1, p2⟩ := ba (show (plainD d && plainDs ds) = true from p)
      exact ⟨_, _, rfl, vrep_of I d v _ p1 (repB_of x1) r1, vreps_of I ds w _ p2 x2 r2⟩
end
end
/-! ### frames -/
structure QV (env : Env) (h : Heap) (N : List Str) (ρ : En) : Prop where
  kind : env.scope.kind = .function
  glo : env.globals = mainGlobals
  blt : env.builtins = builtinsNs
  loc : ∃ m, h.Ns env.locals m ∧ ∀ (i : Nat) (d : D) (x : Str), (ρ[i]? = some (.sh d) ∨ ∃ l, ρ[i]? = some (.ow l) ∧ d = .lst l) → N[i]? = some x → Vis env.scope x → ∃ u, vrep h d u ∧ Look env h m x u
theorem QV.up {env : Env} {h h' : Heap} {N : List Str} {ρ : En} (q : QV env h N ρ) (k : Up h h') : QV env h' N ρ := by
  obtain ⟨m, hn, hl⟩ := q.loc
  refine ⟨q.kind, q.glo, q.blt, m, hn.keeps k, fun i d x h1 h2 h3 => ?_⟩
  obtain ⟨u, r, l⟩ := hl i d x h1 h2 h3
  refine ⟨u, vrep_up k d u r, ?_⟩
  rcases l with l | ⟨l1, c, l2, l3⟩
  · exact .inl l
  · exact .inr ⟨l1, c, l2, by obtain ⟨o, e, r⟩ := l3; exact ⟨o, k _ _ e, r⟩⟩
theorem keeps_up {s s' : Shared} (k : Keeps s s') : Up s.heap s'.heap := by
  obtain ⟨h', tk, rfl, k⟩ := k
  exact k
theorem keeps_trans {s s1 s2 : Shared} (a : Keeps s s1) (b : Keeps s1 s2) : Keeps s s2 := by
  obtain ⟨h1, t1, rfl, k1⟩ := a
  obtain ⟨h2, t2, rfl, k2⟩ := b
  exact ⟨h2, t2, rfl, fun b o e => k2 b o (k1 b o e)⟩
theorem keepsR (s : Shared) : Keeps s s := GxR.keeps_refl s
theorem keepsT (s : Shared) (t : Nat) : Keeps s { s with toks := t } := GxR.keeps_tok s t
section
variable (P : Program) (w : World) (K : PySem.W.Frag) (mg : Str → Option Value) (base : Heap)
/-- a def that runs quietly where it tells a value -/
structure QFn (k : Nat) (x : Str) (f : Fn) : Prop where
  ex : ∃ a, mg x = some (.ref a) ∧ PySem.W.keepIn K (.ref a) = true ∧ ∀ (_ : Mod K mg base) (A : Around) (s : Shared) (us : List Value) (ds : List D) (d : D), Room k A → Up base s.heap → vreps s.heap ds us → f ds = .ok d →
    codeAny (model P w) A (.call (.ref a) ⟨us, []⟩) (fun r s' => ∃ u, r = .ok (.ret u) ∧ vrep s'.heap d u ∧ Keeps s s') s
def QE (j : Nat) (N : List Str) (sc : Scope) (x : Expr) (f : En → R D) : Prop := ∀ (A : Around) (E : Value → Shared → Prop) (s : Shared) (env : Env) (ρ : En) (d : D), Room j A → Up base s.heap → env.scope = sc → QV env s.heap N ρ → f ρ = .ok d →
  wpAny (model P w) A (eval x env) (fun u s' => vrep s'.heap d u ∧ Keeps s s') E s
def QL (j : Nat) (N : List Str) (sc : Scope) (xs : List Expr) (f : En → R (List D)) : Prop := ∀ (pos : Pos) (A : Around) (E : Value → Shared → Prop) (s : Shared) (env : Env) (ρ : En) (ds : List D), Room j A → Up base s.heap → env.scope = sc → QV env s.heap N ρ → f ρ = .ok ds →
  wpAny (model P w) A (spliced (backTo pos (starEach xs env))) (fun us s' => vreps s'.heap ds us ∧ Keeps s s') E s
def QT (j : Nat) (N : List Str) (sc : Scope) (x : Expr) (f : En → R Bool) : Prop := ∀ (A : Around) (E : Value → Shared → Prop) (s : Shared) (env : Env) (ρ : En) (b : Bool) (whole : Sem Value), Room j A → Up base s.heap → env.scope = sc → QV env s.heap N ρ → f ρ = .ok b →
  (isBo x = false → whole = eval x env) → wpAny (model P w) A (isTrue x env whole) (fun c s' => c = b ∧ Keeps s s') E s
end
section
variable {P : Program} {w : World} {K : PySem.W.Frag} {mg : Str → Option Value} {base : Heap} {j : Nat} {N : List Str} {sc : Scope} {pos : Pos}
theorem qe_name {i : Nat} {x : Str} {p : Pos} (h1 : N[i]? = some x) (h2 : Vis sc x) (h3 : (x == ("__debug__" : Str)) = false) (h4 : (x == ("__classdict__" : Str)) = false) : QE P w base j N sc (.Name x p) (fun ρ => getB ρ i) := by
  intro A E s env ρ d hr hb he q hd
  subst he
  obtain ⟨m, hn, hl⟩ := q.loc
  obtain ⟨u, r, l⟩ := hl i d x (getB_ok hd) h1 h2
  rcases l with ⟨hk, hm⟩ | ⟨hk, c, hc, hcell⟩
  · exact wpAny_Name (wpAny_loadName_local q.kind hk hn hm ⟨r, keepsR s⟩) h3
  · rcases hk with hk | hk
    · exact wpAny_Name (wpAny_loadName_cell q.kind hk hc hcell ⟨r, keepsR s⟩) h3
    · exact wpAny_Name (wpAny_loadName_free q.kind hk hc hcell ⟨r, keepsR s⟩ h4) h3
theorem get_B {ρ : En} {i : Nat} {d : D} (h : get ρ i = .ok d) : getB ρ i = .ok d := by
  have := get_ok h
  unfold getB
  rw [this]
theorem qe_imp {x : Expr} {f g : En → R D} (h : QE P w base j N sc x f) (k : ∀ ρ d, g ρ = .ok d → f ρ = .ok d) : QE P w base j N sc x g := fun A E s env ρ d hr hb he q hd => h A E s env ρ d hr hb he q (k ρ d hd)
theorem bind_inv {α β : Type} {r : R α} {f : α → R β} {b : β} (h : r.bind f = .ok b) : ∃ a, r = .ok a ∧ f a = .ok b := by
  cases r with
  | ok a => exact ⟨a, rfl, h⟩
  | ex c d => cases h
  | bad => cases h
theorem qe_cst {d : D} {x : Expr} (h : mCst d x = true) : QE P w base j N sc x (fun _ => .ok d) := by
  intro A E s env ρ d' hr hb he q hd
  cases hd
  cases x <;> first | (cases d <;> (cases h; done)) | skip
  rename_i c k p
  cases d <;> cases c <;> first | (cases h; done) | skip
  · exact Constant_none ⟨rfl, keepsR s⟩
  · rename_i a b
    obtain rfl : a = b := eq_of_beq h
    exact Constant_bool ⟨rfl, keepsR s⟩
  · rename_i a b
    obtain rfl : a = b := of_decide_eq_true h
    exact wpAny_Constant_int ⟨⟨_, rfl⟩, keepsT s _⟩
  · rename_i a b
    obtain rfl : a = b := of_decide_eq_true h
    exact Calls.Constant_str ⟨⟨_, rfl⟩, keepsT s _⟩

/-- ints compared -/
theorem q_cmp {A : Around} {E : Value → Shared → Prop} {s : Shared} {o : BO} {op : CmpOp} {i k : Int} {t u : Tok} {d : D} (ho : cmpOf o = some op) (h : bo o (.int i) (.int k) = .ok d) :
    wpAny (model P w) A (compareOp op (.int i t) (.int k u)) (fun v s' => (∃ b, d = .bl b ∧ v = .bool b) ∧ s' = s) E s := by
  cases o <;> first | (cases ho; done) | skip
  · cases ho
    obtain ⟨_, rfl⟩ := gd_ok h
    exact eq_int ⟨⟨_, rfl, by show Value.bool (i == k) = .bool (decide (i = k)); rw [Bool.beq_eq_decide_eq]⟩, rfl⟩
  · cases ho
    obtain ⟨_, rfl⟩ := gd_ok h
    exact ne_int ⟨⟨_, rfl, by
      show Value.bool (i != k) = .bool (!decide (i = k))
      simp [bne, Bool.beq_eq_decide_eq]⟩, rfl⟩
  · cases ho; cases h; exact lt_int ⟨⟨_, rfl, rfl⟩, rfl⟩
  · cases ho; cases h; exact le_int ⟨⟨_, rfl, rfl⟩, rfl⟩
  · cases ho; cases h; exact gt_int ⟨⟨_, rfl, rfl⟩, rfl⟩
  · cases ho; cases h; exact ge_int ⟨⟨_, rfl, rfl⟩, rfl⟩
  · cases h
  · cases h
  · cases h
  · cases h
/-- where both parts of o are ints -/
def IntOp (o : BO) (fa fb : En → R D) : Prop := ∀ ρ x y d, fa ρ = .ok x → fb ρ = .ok y → bo o x y = .ok d → (∃ i, x = .int i) ∧ ∃ k, y = .int k
theorem thn2 {α : Type} {t : Sem α} {Q Q' : α → Shared → Prop} {M : Model} {A : Around} {E : Value → Shared → Prop} {s : Shared} (h : wpAny M A t Q E s) (hQ : ∀ a s, Q a s → Q' a s) : wpAny M A t Q' E s := L2.thn h hQ
theorem qe_cmp1 {o : BO} {op : CmpOp} {a b : Expr} {fa fb : En → R D} (ho : cmpOf o = some op) (hi : IntOp o fa fb) (ha : QE P w base j N sc a fa) (hb : QE P w base j N sc b fb) (hm : behindInMarks op b = false) :
    QE P w base j N sc (.Compare a [op] [b] pos) (fun ρ => (fa ρ).bind fun x => (fb ρ).bind fun y => bo o x y) := by
  intro A E s env ρ d hr hB he q hd
  obtain ⟨x, h1, hd⟩ := bind_inv hd
  obtain ⟨y, h2, hd⟩ := bind_inv hd
  obtain ⟨⟨i, rfl⟩, k, rfl⟩ := hi ρ x y d h1 h2 hd
  refine wpAny_Compare1 (L2.thn (ha A E s env ρ _ hr hB he q h1) fun u s1 ⟨r1, k1⟩ => L2.thn (hb A E s1 env ρ _ hr (fun b o e => keeps_up k1 b o (hB b o e)) he (q.up (keeps_up k1)) h2) fun v s2 ⟨r2, k2⟩ => ?_) hm
  obtain ⟨t, rfl⟩ := r1
  obtain ⟨t2, rfl⟩ := r2
  refine L2.thn (q_cmp ho hd) fun z s3 ⟨⟨b, e1, e2⟩, e3⟩ => ?_
  subst e1; subst e2; subst e3
  exact ⟨rfl, keeps_trans k1 k2⟩
theorem qe_cmp2 {o o2 : BO} {op op2 : CmpOp} {a b c : Expr} {fa fb fc : En → R D} (ho : cmpOf o = some op) (ho2 : cmpOf o2 = some op2) (hi : IntOp o fa fb) (hi2 : IntOp o2 fb fc) (ha : QE P w base j N sc a fa) (hb : QE P w base j N sc b fb) (hc : QE P w base j N sc c fc) (hm : lastMarks [op, op2] [b, c] = false) :
    QE P w base j N sc (.Compare a [op, op2] [b, c] pos) (fun ρ => (fa ρ).bind fun x => (fb ρ).bind fun y => (bo o x y).bind fun r => (asBl r).bind fun t => if t = true then (fc ρ).bind fun z => bo o2 y z else .ok (.bl false)) := by
  intro A E s env ρ d hr hB he q hd
  obtain ⟨x, h1, hd⟩ := bind_inv hd
  obtain ⟨y, h2, hd⟩ := bind_inv hd
  obtain ⟨r, h3, hd⟩ := bind_inv hd
  obtain ⟨t, h4, hdf⟩ := bind_inv hd
  obtain ⟨⟨i, rfl⟩, k, rfl⟩ := hi ρ x y r h1 h2 h3
  refine Compare_chain (L2.thn (ha A E s env ρ _ hr hB he q h1) fun u s1 ⟨r1, k1⟩ => chain_link (L2.thn (hb A E s1 env ρ _ hr (fun b o e => keeps_up k1 b o (hB b o e)) he (q.up (keeps_up k1)) h2) fun v s2 ⟨r2, k2⟩ => ?_)) hm
  obtain ⟨t1, rfl⟩ := r1
  obtain ⟨t2, rfl⟩ := r2
  refine L2.thn (q_cmp ho h3) fun z s3 ⟨⟨bb, e1, e2⟩, e3⟩ => ?_
  subst e1; subst e2; subst e3
  refine wpAny_truthy_bool ?_
  cases h4
  have k12 := keeps_trans k1 k2
  cases t with
  | false =>
    rw [if_neg Bool.false_ne_true] at hdf
    cases hdf
    exact ite_ff ⟨rfl, k12⟩
  | true =>
    rw [if_pos rfl] at hdf
    obtain ⟨z, h5, hdg⟩ := bind_inv hdf
    obtain ⟨⟨k', e6⟩, l, rfl⟩ := hi2 ρ _ z d h2 h5 hdg
    cases e6
    refine ite_tt (chain_last (L2.thn (hc A E s3 env ρ _ hr (fun b o e => keeps_up k12 b o (hB b o e)) he (q.up (keeps_up k12)) h5) fun v s4 ⟨r4, k4⟩ => ?_))
    obtain ⟨t4, rfl⟩ := r4
    refine L2.thn (q_cmp ho2 hdg) fun z s5 ⟨⟨bb, e1, e2⟩, e3⟩ => ?_
    subst e1; subst e2; subst e3
    exact ⟨rfl, keeps_trans k12 k4⟩
/-- a value's truth -/
theorem q_truth {A : Around} {E : Value → Shared → Prop} {s : Shared} {d : D} {u : Value} {t : Bool} (r : vrep s.heap d u) (h : truth d = .ok t) : wpAny (model P w) A (truthy u) (fun c s' => c = t ∧ ∃ k, s' = { s with toks := k }) E s := by
  have hl := line63
  have hs : sizeLine = 16777216 := sizeLine_eq
  cases d with
  | non =>
    cases (show u = .none from r); cases h
    exact truthy_none ⟨rfl, s.toks, rfl⟩
  | bl b =>
    cases (show u = .bool b from r); cases h
    exact wpAny_truthy_bool ⟨rfl, s.toks, rfl⟩
  | int i =>
    obtain ⟨k, rfl⟩ := (show ∃ t, u = .int i t from r)
    cases h
    exact PySem.P.truthy_int ⟨by
      show (i != 0) = decide (i ≠ 0)
      by_cases e : i = 0
      · subst e; rfl
      · simp [e], s.toks, rfl⟩
  | str x => cases h
  | tup l =>
    obtain ⟨a, its, rfl, ht, hz, hr⟩ := r
    cases h
    have hn := vreps_len hr
    refine truthy_tuple ht (by simp only [List.size_toArray]; omega) ⟨?_, _, rfl⟩
    cases l <;> cases its <;> first | rfl | simp at hn
  | lst l =>
    obtain ⟨a, its, rfl, ht, hz, hr⟩ := r
    cases h
    have hn := vreps_len hr
    refine wpAny_truthy_list ht.isList (by simp only [List.size_toArray]; omega) ⟨?_, _, rfl⟩
    cases l <;> cases its <;> first | rfl | simp at hn
  | fn _ => cases h
  | scr _ => cases h
theorem qe_and {a b : Expr} {rest : List Expr} {fa fb : En → R D} (ha : QE P w base j N sc a fa) (hb : QE P w base j N sc (.BoolOp .And (b :: rest) pos) fb) :
    QE P w base j N sc (.BoolOp .And (a :: b :: rest) pos) (fun ρ => (fa ρ).bind fun x => (truth x).bind fun t => if t = true then fb ρ else .ok x) := by
  intro A E s env ρ d hr hB he q hd
  obtain ⟨x, h1, hd⟩ := bind_inv hd
  obtain ⟨t, h2, hd⟩ := bind_inv hd
  refine BoolOp_and (L2.thn (ha A E s env ρ _ hr hB he q h1) fun u s1 ⟨r1, k1⟩ => L2.thn (q_truth r1 h2) fun c s2 ⟨e1, k, e2⟩ => ?_)
  subst e1; subst e2
  have k2 := keeps_trans k1 (keepsT s1 k)
  cases c with
  | false =>
    rw [if_neg Bool.false_ne_true] at hd
    cases hd
    exact ite_ff ⟨r1, k2⟩
  | true =>
    rw [if_pos rfl] at hd
    exact ite_tt (L2.thn (hb A E _ env ρ _ hr (fun b o e => keeps_up k2 b o (hB b o e)) he (q.up (keeps_up k2)) hd) fun v s3 ⟨r3, k3⟩ => ⟨r3, keeps_trans k2 k3⟩)
theorem qe_or {a b : Expr} {rest : List Expr} {fa fb : En → R D} (ha : QE P w base j N sc a fa) (hb : QE P w base j N sc (.BoolOp .Or (b :: rest) pos) fb) :
    QE P w base j N sc (.BoolOp .Or (a :: b :: rest) pos) (fun ρ => (fa ρ).bind fun x => (truth x).bind fun t => if t = true then .ok x else fb ρ) := by
  intro A E s env ρ d hr hB he q hd
  obtain ⟨x, h1, hd⟩ := bind_inv hd
  obtain ⟨t, h2, hd⟩ := bind_inv hd
  refine BoolOp_or (L2.thn (ha A E s env ρ _ hr hB he q h1) fun u s1 ⟨r1, k1⟩ => L2.thn (q_truth r1 h2) fun c s2 ⟨e1, k, e2⟩ => ?_)
  subst e1; subst e2
  have k2 := keeps_trans k1 (keepsT s1 k)
  cases c with
  | true =>
    rw [if_pos rfl] at hd
    cases hd
    exact ite_tt ⟨r1, k2⟩
  | false =>
    rw [if_neg Bool.false_ne_true] at hd
    exact ite_ff (L2.thn (hb A E _ env ρ _ hr (fun b o e => keeps_up k2 b o (hB b o e)) he (q.up (keeps_up k2)) hd) fun v s3 ⟨r3, k3⟩ => ⟨r3, keeps_trans k2 k3⟩)
theorem qe_one {op : BoolOp} {a : Expr} {f : En → R D} (ha : QE P w base j N sc a f) : QE P w base j N sc (.BoolOp op [a] pos) f := fun A E s env ρ d hr hB he q hd => BoolOp_one (ha A E s env ρ d hr hB he q hd)
theorem qe_not {a : Expr} {fa : En → R D} (ha : QE P w base j N sc a fa) : QE P w base j N sc (.UnaryOp .Not a pos) (fun ρ => (fa ρ).bind fun x => (truth x).bind fun b => .ok (.bl (!b))) := by
  intro A E s env ρ d hr hB he q hd
  obtain ⟨x, h1, hd⟩ := bind_inv hd
  obtain ⟨t, h2, hd⟩ := bind_inv hd
  cases hd
  refine UnaryOp_ (L2.thn (ha A E s env ρ _ hr hB he q h1) fun u s1 ⟨r1, k1⟩ => not_of (L2.thn (q_truth r1 h2) fun c s2 ⟨e1, k, e2⟩ => ?_))
  subst e1; subst e2
  exact ⟨rfl, keeps_trans k1 (keepsT s1 k)⟩
theorem ql_nil : QL P w base j N sc [] (fun _ => .ok []) := by
  intro pos A E s env ρ ds hr hB he q hd
  cases hd
  exact Calls.spliced_nil ⟨rfl, keepsR s⟩
theorem ql_cons {e : Expr} {es : List Expr} {f : En → R D} {g : En → R (List D)} (h : QE P w base j N sc e f) (hs : QL P w base j N sc es g) (ns : notStar e = true) : QL P w base j N sc (e :: es) (fun ρ => (f ρ).bind fun d => (g ρ).bind fun ds => .ok (d :: ds)) := by
  intro pos A E s env ρ ds hr hB he q hd
  obtain ⟨x, h1, hd⟩ := bind_inv hd
  obtain ⟨xs, h2, hd⟩ := bind_inv hd
  cases hd
  rw [star_cons ns]
  show wpAny _ _ (spliced ((false, eval e env) :: backTo pos (starEach es env))) _ _ s
  refine Calls.spliced_cons (L2.thn (h A E s env ρ _ hr hB he q h1) fun u s1 ⟨r1, k1⟩ => ?_)
  exact L2.thn (hs pos A E s1 env ρ _ hr (fun b o e => keeps_up k1 b o (hB b o e)) he (q.up (keeps_up k1)) h2) fun us s2 ⟨r2, k2⟩ => ⟨⟨u, us, rfl, vrep_up (keeps_up k2) _ _ r1, r2⟩, keeps_trans k1 k2⟩
/-- a call of a quiet def -/
theorem qe_call (hm : Mod K mg base) {x : Str} {f : Fn} (F : QFn P w K mg base j x f) (hg : sc.names.lookup x = some .globalImplicit) (hd : (x == ("__debug__" : Str)) = false) {p : Pos} {e : Expr} {es : List Expr} {fs : En → R (List D)} (h : QL P w base j N sc (e :: es) fs) (ns : noStars (e :: es) = true) :
    QE P w base j N sc (.Call (.Name x p) (e :: es) [] pos) (fun ρ => (fs ρ).bind f) := by
  intro A E s env ρ d hr hB he q hd2
  subst he
  obtain ⟨ds, h1, h2⟩ := bind_inv hd2
  obtain ⟨a, g1, g2, g3⟩ := F.ex
  have ns' : (notStar e && noStars es) = true := ns
  rw [Bool.and_eq_true] at ns'
  refine wpAny_Call_Name_kw (Calls.Name_function_global q.kind hg (Calls.loadGlobal_global (by rw [q.glo]; exact hm.glob.keeps hB) g1 ?_) hd)
  refine PySem.W.callWith_K (h₀ := base) hm.kin g2 (L2.thn (h pos A E s env ρ _ hr hB rfl q h1) fun us s1 ⟨r1, k1⟩ => ⟨hm.kin.keeps fun b o e => keeps_up k1 b o (hB b o e), ?_⟩) (star_cons ns'.1) (star_any ns'.2)
  refine wpAny_call (codeAny_mono (g3 hm A s1 us ds d hr (fun b o e => keeps_up k1 b o (hB b o e)) r1 h2) fun r s2 ⟨u, e1, r2, k2⟩ => ?_)
  subst e1
  exact ⟨r2, keeps_trans k1 k2⟩
/-- isinstance(a, T) -/
theorem q_kit {h : Heap} {d : D} {u : Value} {n : String} (r : vrep h d u) (e : dTy d = some n) : ∃ Z : Heap → Prop, PySem.W.KitX K u (.type n) Z ∧ Z h ∧ u ≠ .builtin "__main__.__loader__#opaque" := by
  cases d with
  | non => cases (show u = .none from r); cases e; exact ⟨_, PySem.W.kitx_none, True.intro, fun z => nomatch z⟩
  | bl b => cases (show u = .bool b from r); cases e; exact ⟨_, PySem.W.kitx_bool, True.intro, fun z => nomatch z⟩
  | int i => obtain ⟨t, rfl⟩ := (show ∃ t, u = .int i t from r); cases e; exact ⟨_, PySem.W.kitx_int, True.intro, fun z => nomatch z⟩
  | str x => obtain ⟨t, rfl⟩ := (show ∃ t, u = .str x t from r); cases e; exact ⟨_, PySem.W.kitx_str, True.intro, fun z => nomatch z⟩
  | tup l =>
    obtain ⟨a, its, rfl, ⟨o, h1, h2, _⟩, _⟩ := r
    cases e
    exact ⟨_, PySem.W.kitx_tuple, ⟨o, h1, h2⟩, fun z => nomatch z⟩
  | lst l =>
    obtain ⟨a, its, rfl, ⟨o, k, h1, h2, _⟩, _⟩ := r
    cases e
    exact ⟨_, PySem.W.kitx_list, ⟨o, h1, h2⟩, fun z => nomatch z⟩
  | fn _ => exact r.elim
  | scr _ => exact r.elim

theorem q_blt {A : Around} {E : Value → Shared → Prop} {s : Shared} {env : Env} {ρ : En} {x : Str} {u : Value} {p : Pos} {Q : Value → Shared → Prop} (hm : Mod K mg base) (hB : Up base s.heap) (q : QV env s.heap N ρ) (hg : env.scope.names.lookup x = some .globalImplicit) (hx : mg x = none) (hv : bootBuiltins x = some u) (h : Q u s) (hn : x ≠ "__name__") (hd : (x == ("__debug__" : Str)) = false) :
    wpAny (model P w) A (eval (.Name x p) env) Q E s := by
  obtain ⟨mb, h1, h2⟩ := hm.blt
  exact Calls.Name_function_global q.kind hg (Calls.loadGlobal_builtin (by rw [q.glo]; exact hm.glob.keeps hB) hx (by rw [q.blt]; exact h1.keeps hB) ((h2 x hn).trans hv) h) hd
theorem qe_isi (hm : Mod K mg base) (hb : ∀ x ∈ biNames, mg x = none) (t : Ty) {a : Expr} {fa : En → R D} {p pt : Pos} (hg : sc.names.lookup ("isinstance" : Str) = some .globalImplicit) (hgt : sc.names.lookup (tyS t) = some .globalImplicit) (ha : QE P w base j N sc a fa) (ns : notStar a = true) :
    QE P w base j N sc (.Call (.Name "isinstance" p) [a, .Name (tyS t) pt] [] pos) (fun ρ => (fa ρ).bind fun x => (ofO (isIs x [t])).bind fun b => .ok (.bl b)) := by
  intro A E s env ρ d hr hB he q hd
  subst he
  obtain ⟨x, h1, hd⟩ := bind_inv hd
  obtain ⟨b, h2, hd⟩ := bind_inv hd
  cases hd
  have h2 := ofO_ok h2
  refine wpAny_Call_Name_kw (q_blt (u := .builtin "isinstance") hm hB q hg (hb _ (by decide +kernel)) (by decide +kernel) ?_ (by decide) (by decide))
  refine callWith_builtin1 ?_ (star_cons ns) rfl
  rw [star_cons ns]
  show wpAny _ _ (spliced ((false, eval a env) :: (false, eval (.Name (tyS t) pt) env) :: [])) _ _ s
  refine Calls.spliced_cons (L2.thn (ha A E s env ρ _ hr hB rfl q h1) fun u s1 ⟨r1, k1⟩ => ?_)
  refine Calls.spliced_cons (q_blt hm (fun b o e => keeps_up k1 b o (hB b o e)) (q.up (keeps_up k1)) hgt (hb _ (ty_free t)) (ty_boot t) ?_ (ty_ne t).1 (ty_ne t).2)
  refine Calls.spliced_nil ?_
  obtain ⟨c, g1, g2⟩ := Option.bind_eq_some_iff.mp (show (isI x t).bind (fun b => if b = true then some true else isIs x []) = some b from h2)
  obtain ⟨n, e1, e2⟩ := kit_all x t c g1
  have ec : c = b := by
    cases c with
    | true => rw [if_pos rfl] at g2; exact Option.some.inj g2
    | false => rw [if_neg Bool.false_ne_true] at g2; exact Option.some.inj g2
  subst ec
  obtain ⟨Z, kz, hz, hn⟩ := q_kit (K := K) r1 e1
  exact PySem.W.kia_one kz (hm.kin.keeps fun b o e => keeps_up k1 b o (hB b o e)) hz (kit_ty e2) hn fun tk => ⟨rfl, keeps_trans k1 (keepsT s1 tk)⟩
end

/-! ### the matcher -/
def ordB : BO → Bool
  | .lt => true
  | .le => true
  | .gt => true
  | .ge => true
  | _ => false
def intE : E → Bool
  | .cst (.int _) => true
  | .neg _ => true
  | .bi .len _ => true
  | _ => false
section
variable (nm N : List Str)
mutual
def mQ : E → Scope → Expr → Bool
  | .var i, sc, .Name x _ => atB N i x && visB sc x && odd x
  | .cst d, _, e => mCst d e
  | .bin o a b, sc, .Compare x [op] [y] _ => decide (cmpOf o = some op) && (ordB o || (intE a && intE b)) && !behindInMarks op y && mQ a sc x && mQ b sc y
  | .not a, sc, .UnaryOp .Not x _ => mQ a sc x
  | .and a b, sc, .BoolOp .And (x :: y :: []) _ => mQ a sc x && mQ b sc y
  | .and a b, sc, .BoolOp .And (x :: y :: z :: r) p => mQ a sc x && mQ b sc (.BoolOp .And (y :: z :: r) p)
  | .or a b, sc, .BoolOp .Or (x :: y :: []) _ => mQ a sc x && mQ b sc y
  | .or a b, sc, .BoolOp .Or (x :: y :: z :: r) p => mQ a sc x && mQ b sc (.BoolOp .Or (y :: z :: r) p)
  | .chn o p a b c, sc, .Compare x [op, op2] [y, z] _ => decide (cmpOf o = some op) && decide (cmpOf p = some op2) && ordB o && ordB p && !lastMarks [op, op2] [y, z] && mQ a sc x && mQ b sc y && mQ c sc z
  | .isi a [t], sc, .Call (.Name f _) [x, .Name y _] [] _ => decide (f = ("isinstance" : Str)) && glB sc f && decide (y = tyS t) && glB sc y && notStar x && mQ a sc x
  | .call k es, sc, .Call (.Name x _) (y :: ys) [] _ => atB nm k x && glB sc x && odd x && noStars (y :: ys) && mQs es sc (y :: ys)
  | _, _, _ => false
def mQs : Es → Scope → List Expr → Bool
  | .nil, _, [] => true
  | .cons e es, sc, x :: xs => notStar x && mQ e sc x && mQs es sc xs
  | _, _, _ => false
end
end
theorem int_of {M : Md} {e : E} (h : intE e = true) {ρ : En} {d : D} (hd : bw ρ e (ev M e ρ) = .ok d) : ∃ i, d = .int i := by
  cases e <;> first | (cases h; done) | skip
  · rename_i c
    cases c <;> first | (cases h; done) | skip
    cases hd
    exact ⟨_, rfl⟩
  · obtain ⟨x, _, h2⟩ := bind_inv hd
    obtain ⟨i, _, h3⟩ := bind_inv h2
    cases h3
    exact ⟨_, rfl⟩
  · rename_i f es
    cases f <;> first | (cases h; done) | skip
    obtain ⟨ds, _, h2⟩ := bind_inv hd
    cases ds with
    | nil => cases h2
    | cons d ds =>
      cases ds with
      | cons _ _ => cases d <;> cases h2
      | nil =>
        cases d <;> first | (cases h2; done) | skip
        · obtain ⟨_, e⟩ := gd_ok h2
          exact ⟨_, e⟩
        · cases h2; exact ⟨_, rfl⟩
        · cases h2; exact ⟨_, rfl⟩
        · cases h2; exact ⟨_, rfl⟩
theorem ord_int {o : BO} (h : ordB o = true) {x y d : D} (hd : bo o x y = .ok d) : (∃ i, x = .int i) ∧ ∃ k, y = .int k := by
  cases o <;> first | (cases h; done) | skip
  all_goals (cases x <;> cases y <;> first | (cases hd; done) | exact ⟨⟨_, rfl⟩, _, rfl⟩)
section
variable {P : Program} {w : World} {K : PySem.W.Frag} {mg : Str → Option Value} {base : Heap} {j : Nat} {nm N : List Str} {M : Md}
structure Aq (P : Program) (w : World) (base : Heap) (j : Nat) (N : List Str) (sc : Scope) (M : Md) (e : E) (x : Expr) : Prop where
  q0 : QE P w base j N sc x (ev M e)
  qb : QE P w base j N sc x (fun ρ => bw ρ e (ev M e ρ))
theorem aq_of {sc : Scope} {e : E} {x : Expr} (h : QE P w base j N sc x (ev M e)) (hb : ∀ ρ r, bw ρ e r = r) : Aq P w base j N sc M e x := ⟨h, by
  have : (fun ρ => bw ρ e (ev M e ρ)) = ev M e := funext fun ρ => hb ρ _
  rw [this]; exact h⟩
mutual
theorem mQ_ok (hm : Mod K mg base) (hb : ∀ x ∈ biNames, mg x = none) (fl : nm.length ≤ M.fns.length) (fs : ∀ (k : Nat) (x : Str) (f : Fn), nm[k]? = some x → M.fns[k]? = some f → QFn P w K mg base j x f) : ∀ (e : E) (sc : Scope) (x : Expr), mQ nm N e sc x = true → Aq P w base j N sc M e x
  | .var i, sc, x, h => by
    cases x <;> first | (cases h; done) | skip
    rename_i x p
    obtain ⟨h1, h2⟩ := ba h
    obtain ⟨h1, h3⟩ := ba h1
    have z := qe_name (P := P) (w := w) (base := base) (j := j) (sc := sc) (p := p) (atB_ok h1) (visB_ok h3) (odd_ok h2).1 (odd_ok h2).2
    exact ⟨qe_imp z fun ρ d hd => get_B hd, z⟩
  | .cst d, sc, x, h => aq_of (qe_cst h) fun _ _ => rfl
  | .bin o a b, sc, x, h => by
    cases x <;> first | (cases h; done) | skip
    rename_i x ops ys p
    cases ops with
    | nil => cases h
    | cons op1 ops =>
      cases ops with
      | cons _ _ => cases h
      | nil =>
        cases ys with
        | nil => cases h
        | cons y ys =>
          cases ys with
          | cons _ _ => cases h
          | nil =>
            obtain ⟨h, h5⟩ := ba h
            obtain ⟨h, h4⟩ := ba h
            obtain ⟨h, h3⟩ := ba h
            obtain ⟨h1, h2⟩ := ba h
            have ha := mQ_ok hm hb fl fs a sc _ h4
            have hb' := mQ_ok hm hb fl fs b sc _ h5
            refine aq_of (qe_cmp1 (of_decide_eq_true h1) (fun ρ x y d e1 e2 e3 => ?_) ha.qb hb'.qb (bn h3)) fun _ _ => rfl
            rw [Bool.or_eq_true] at h2
            rcases h2 with h2 | h2
            · exact ord_int h2 e3
            · obtain ⟨g1, g2⟩ := ba h2
              exact ⟨int_of g1 e1, int_of g2 e2⟩
  | .not a, sc, x, h => by
    cases x <;> first | (cases h; done) | skip
    rename_i op x p
    cases op <;> first | (cases h; done) | skip
    exact aq_of (qe_not (mQ_ok hm hb fl fs a sc _ h).q0) fun _ _ => rfl
  | .and a b, sc, x, h => by
    cases x <;> first | (cases h; done) | skip
    rename_i op xs p
    cases op <;> first | (cases h; done) | skip
    cases xs with
    | nil => cases h
    | cons x xs =>
      cases xs with
      | nil => cases h
      | cons y ys =>
        cases ys with
        | nil =>
          obtain ⟨h1, h2⟩ := ba h
          exact aq_of (qe_and (mQ_ok hm hb fl fs a sc _ h1).q0 (qe_one (mQ_ok hm hb fl fs b sc _ h2).q0)) fun _ _ => rfl
        | cons z r =>
          obtain ⟨h1, h2⟩ := ba h
          exact aq_of (qe_and (mQ_ok hm hb fl fs a sc _ h1).q0 (mQ_ok hm hb fl fs b sc _ h2).q0) fun _ _ => rfl
  | .or a b, sc, x, h => by
    cases x <;> first | (cases h; done) | skip
    rename_i op xs p
    cases op <;> first | (cases h; done) | skip
    cases xs with
    | nil => cases h
    | cons x xs =>
      cases xs with
      | nil => cases h
      | cons y ys =>
        cases ys with
        | nil =>
          obtain ⟨h1, h2⟩ := ba h
          exact aq_of (qe_or (mQ_ok hm hb fl fs a sc _ h1).q0 (qe_one (mQ_ok hm hb fl fs b sc _ h2).q0)) fun _ _ => rfl
        | cons z r =>
          obtain ⟨h1, h2⟩ := ba h
          exact aq_of (qe_or (mQ_ok hm hb fl fs a sc _ h1).q0 (mQ_ok hm hb fl fs b sc _ h2).q0) fun _ _ => rfl
  | .chn o1 o2 a b c, sc, x, h => by
    cases x <;> first | (cases h; done) | skip
    rename_i x ops ys p
    cases ops with
    | nil => cases h
    | cons op1 ops =>
      cases ops with
      | nil => cases h
      | cons op2 ops =>
        cases ops with
        | cons _ _ => cases h
        | nil =>
          cases ys with
          | nil => cases h
          | cons y ys =>
            cases ys with
            | nil => cases h
            | cons z ys =>
              cases ys with
              | cons _ _ => cases h
              | nil =>
                obtain ⟨h, h8⟩ := ba h
                obtain ⟨h, h7⟩ := ba h
                obtain ⟨h, h6⟩ := ba h
                obtain ⟨h, h5⟩ := ba h
                obtain ⟨h, h4⟩ := ba h
                obtain ⟨h, h3⟩ := ba h
                obtain ⟨h1, h2⟩ := ba h
                exact aq_of (qe_cmp2 (of_decide_eq_true h1) (of_decide_eq_true h2) (fun ρ x y d e1 e2 e3 => ord_int h3 e3) (fun ρ x y d e1 e2 e3 => ord_int h4 e3) (mQ_ok hm hb fl fs a sc _ h6).qb (mQ_ok hm hb fl fs b sc _ h7).qb (mQ_ok hm hb fl fs c sc _ h8).qb (bn h5)) fun _ _ => rfl
  | .isi a ts, sc, x, h => by
    cases ts with
    | nil => cases x <;> (cases h; done)
    | cons t ts =>
      cases ts with
      | cons _ _ => cases x <;> (cases h; done)
      | nil =>
        cases x <;> first | (cases h; done) | skip
        rename_i f ys ks p
        cases f <;> first | (cases h; done) | skip
        cases ys with
        | nil => cases h
        | cons y ys =>
          cases ys with
          | nil => cases h
          | cons z ys =>
            cases ys with
            | cons _ _ => cases z <;> (cases h; done)
            | nil =>
              cases ks with
              | cons _ _ => cases z <;> (cases h; done)
              | nil =>
                cases z <;> first | (cases h; done) | skip
                obtain ⟨h, h6⟩ := ba h
                obtain ⟨h, h5⟩ := ba h
                obtain ⟨h, h4⟩ := ba h
                obtain ⟨h, h3⟩ := ba h
                obtain ⟨h1, h2⟩ := ba h
                obtain rfl := of_decide_eq_true h1
                obtain rfl := of_decide_eq_true h3
                exact aq_of (qe_isi hm hb t (glB_ok h2) (glB_ok h4) (mQ_ok hm hb fl fs a sc _ h6).qb h5) fun _ _ => rfl
  | .call k es, sc, x, h => by
    cases x <;> first | (cases h; done) | skip
    rename_i f ys ks p
    cases f <;> first | (cases h; done) | skip
    cases ys with
    | nil => cases h
    | cons y ys =>
      cases ks with
      | cons _ _ => cases h
      | nil =>
        obtain ⟨h, h5⟩ := ba h
        obtain ⟨h, h4⟩ := ba h
        obtain ⟨h, h3⟩ := ba h
        obtain ⟨h1, h2⟩ := ba h
        have g := mQs_ok hm hb fl fs es sc _ h5
        refine aq_of ?_ fun _ _ => rfl
        show QE P w base j N sc _ (fun ρ => (evs M es ρ).bind fun ds => (ofO M.fns[k]?).bind fun f => f ds)
        cases q : M.fns[k]? with
        | some f => exact qe_call hm (fs k _ f (atB_ok h1) q) (glB_ok h2) (odd_ok h3).1 g h4
        | none =>
          exfalso
          have h1' := List.getElem?_eq_none_iff.mp q
          have h2' := (List.getElem?_eq_some_iff.mp (atB_ok h1)).1
          omega
  | .glb _, _, x, h => by cases x <;> (cases h; done)
  | .neg _, _, x, h => by cases x <;> (cases h; done)
  | .ite _ _ _, _, x, h => by cases x <;> (cases h; done)
  | .tup _, _, x, h => by cases x <;> (cases h; done)
  | .lst _, _, x, h => by cases x <;> (cases h; done)
  | .idx _ _, _, x, h => by cases x <;> (cases h; done)
  | .slc _ _ _, _, x, h => by cases x <;> (cases h; done)
  | .rvs _, _, x, h => by cases x <;> (cases h; done)
  | .cll _ _, _, x, h => by cases x <;> (cases h; done)
  | .bi _ _, _, x, h => by cases x <;> (cases h; done)
  | .lc _ _ _ _, _, x, h => by cases x <;> (cases h; done)
  | .allc _ _ _ _, _, x, h => by cases x <;> (cases h; done)
theorem mQs_ok (hm : Mod K mg base) (hb : ∀ x ∈ biNames, mg x = none) (fl : nm.length ≤ M.fns.length) (fs : ∀ (k : Nat) (x : Str) (f : Fn), nm[k]? = some x → M.fns[k]? = some f → QFn P w K mg base j x f) : ∀ (es : Es) (sc : Scope) (xs : List Expr), mQs nm N es sc xs = true → QL P w base j N sc xs (evs M es)
  | .nil, sc, xs, h => by
    cases xs with
    | nil => exact ql_nil
    | cons _ _ => cases h
  | .cons e es, sc, xs, h => by
    cases xs with
    | nil => cases h
    | cons x xs =>
      obtain ⟨h, h3⟩ := ba h
      obtain ⟨h1, h2⟩ := ba h
      exact ql_cons (mQ_ok hm hb fl fs e sc _ h2).q0 (mQs_ok hm hb fl fs es sc _ h3) h1
end
end
end Bk
end
section
set_option autoImplicit false
set_option linter.all false
set_option maxRecDepth 100000
/-! all, any of a generator expression over a tuple or a list, its element quiet. -/
namespace Bk
open PySem L2 PySem.Spec PyProof.Rows GxR
/-- up to objects without a class (tables) -/
def UpC (h h' : Heap) : Prop := ∀ b o, h.get? b = some o → o.cls ≠ .none → h'.get? b = some o
theorem isTup_upC {h h' : Heap} (k : UpC h h') {a : Addr} {its : Array Value} (x : IsTup h a its) : IsTup h' a its := by
  obtain ⟨o, e, c, r⟩ := x
  exact ⟨o, k _ _ e (by rw [c]; intro z; cases z), c, r⟩
theorem plainL_upC {h h' : Heap} (k : UpC h h') {a : Addr} {its : Array Value} (x : PlainL h a its) : PlainL h' a its := by
  obtain ⟨o, n, e, c, r⟩ := x
  exact ⟨o, n, k _ _ e (by rw [c]; intro z; cases z), c, r⟩
mutual
theorem vrep_upC {h h' : Heap} (k : UpC h h') : ∀ (d : D) (u : Value), vrep h d u → vrep h' d u
  | .non, u, x => x
  | .bl b, u, x => x
  | .int i, u, x => x
  | .str s, u, x => x
  | .tup l, u, ⟨a, its, e, t, n, r⟩ => ⟨a, its, e, isTup_upC k t, n, vreps_upC k l its r⟩
  | .lst l, u, ⟨a, its, e, t, n, r⟩ => ⟨a, its, e, plainL_upC k t, n, vreps_upC k l its r⟩
  | .fn _, _, x => x.elim
  | .scr _, _, x => x.elim
theorem vreps_upC {h h' : Heap} (k : UpC h h') : ∀ (ds : List D) (us : List Value), vreps h ds us → vreps h' ds us
  | [], us, x => x
  | d :: ds, us, ⟨v, r, e, x, y⟩ => ⟨v, r, e, vrep_upC k d v x, vreps_upC k ds r y⟩
end
/-- the walk over a tuple, a list -/
theorem iter_seq {P : Program} {w : World} {A : Around} {E : Value → Shared → Prop} {s : Shared} {d : D} {u : Value} {ds : List D} {Q : Value → Shared → Prop} (r : vrep s.heap d u) (hs : seqOf d = some ds)
    (hQ : ∀ (o : Obj) (St : Nat → Heap → Prop) (fp wr : List Addr) (its : List Value), vreps s.heap ds its → wr = [s.heap.objs.size] → (∀ b ∈ fp, b ≤ s.heap.objs.size) → (∀ A' : Around, A'.handled = none → Walks P w A' s.heap.objs.size fp wr its.length (fun i v => its[i]? = some v) St) → St 0 (s.heap.push o) →
      (∀ h', (∀ b ∈ fp, ∀ o', (s.heap.push o).get? b = some o' → o'.cls ≠ .none → h'.get? b = some o') → St 0 h') → Q (.ref s.heap.objs.size) { s with heap := s.heap.push o }) : wpAny (model P w) A (pyIter u) Q E s := by
  cases d <;> first | (cases hs; done) | skip
  · cases hs
    obtain ⟨a, its, rfl, ht, hz, hr⟩ := r
    have hlt : a < s.heap.objs.size := by
      obtain ⟨o, e, _⟩ := ht
      exact Heap.lt_size e
    have ht' : s.heap.IsTuple a its.toArray := by
      obtain ⟨o, e, c, n, q⟩ := ht
      exact ⟨o, e, c, n, q⟩
    refine wpAny_pyIter_tuple ht' (hQ _ (fun i h => h.IsTupleIter s.heap.objs.size a i ∧ h.IsTuple a its.toArray) [s.heap.objs.size, a] [s.heap.objs.size] its hr rfl (fun b hb => ?_) (fun A' hA => ?_) ⟨⟨_, Heap.get?_push_size _ rfl, rfl, rfl⟩, ?_⟩ fun h' hk => ?_)
    · rcases List.mem_cons.mp hb with z | z
      · rw [z]; exact Nat.le_refl _
      · rw [List.mem_singleton.mp z]; exact Nat.le_of_lt hlt
    · have W := Walks.tuple (prog := P) (w := w) hA s.heap.objs.size a (Nat.ne_of_lt hlt) its.toArray
      simpa using W
    · obtain ⟨o, e, r⟩ := ht'
      exact ⟨o, Heap.get?_push_of_some _ e, r⟩
    · refine ⟨⟨_, hk _ (List.mem_cons_self ..) _ (Heap.get?_push_size _ rfl) (fun z => by cases z), rfl, rfl⟩, ?_⟩
      obtain ⟨o, e, c, r⟩ := ht'
      exact ⟨o, hk a (List.mem_cons_of_mem _ (List.mem_singleton.mpr rfl)) o (Heap.get?_push_of_some _ e) (by rw [c]; intro z; cases z), c, r⟩
  · cases hs
    obtain ⟨a, its, rfl, ht, hz, hr⟩ := r
    have hlt : a < s.heap.objs.size := by
      obtain ⟨o, n, e, _⟩ := ht
      exact Heap.lt_size e
    have ht' : s.heap.IsList a its.toArray := ht.isList
    have hcl : ∀ o, s.heap.get? a = some o → o.cls = .type "list" := fun o e => by
      obtain ⟨o', n, e', c, _⟩ := ht
      rw [e] at e'; cases e'; exact c
    refine wpAny_pyIter_list ht' (hQ _ (fun i h => h.IsListIter s.heap.objs.size a i ∧ h.IsList a its.toArray) [s.heap.objs.size, a] [s.heap.objs.size] its hr rfl (fun b hb => ?_) (fun A' hA => ?_) ⟨⟨_, Heap.get?_push_size _ rfl, rfl, rfl⟩, ?_⟩ fun h' hk => ?_)
    · rcases List.mem_cons.mp hb with z | z
      · rw [z]; exact Nat.le_refl _
      · rw [List.mem_singleton.mp z]; exact Nat.le_of_lt hlt
    · have W := Walks.list (prog := P) (w := w) hA s.heap.objs.size a (Nat.ne_of_lt hlt) its.toArray
      simpa using W
    · obtain ⟨o, e, r⟩ := ht'
      exact ⟨o, Heap.get?_push_of_some _ e, r⟩
    · refine ⟨⟨_, hk _ (List.mem_cons_self ..) _ (Heap.get?_push_size _ rfl) (fun z => by cases z), rfl, rfl⟩, ?_⟩
      obtain ⟨o, e, r⟩ := ht'
      exact ⟨o, hk a (List.mem_cons_of_mem _ (List.mem_singleton.mpr rfl)) o (Heap.get?_push_of_some _ e) (by rw [hcl o e]; intro z; cases z), r⟩
end Bk
namespace Bk
open PySem L2 PySem.Spec PyProof.Rows GxR
def genPlain : Expr → Bool
  | .Set .. => false
  | .List .. => false
  | _ => true
theorem genFold_ok {e : Expr} {env : Env} (h : genPlain e = true) : ∀ x, genFold e env x = pure x := fun x => by
  cases e <;> first | rfl | cases h
theorem clo_look {cells : List (Str × Addr)} {names : List (Str × NameKind)} {x : Str} {c : Addr} (h : (x, NameKind.free) ∈ names) (hc : cells.lookup x = some c) : (cloFrom cells names []).lookup x = some c := by
  obtain ⟨c', hc'⟩ := mem_lookup (cloFrom_has (cells := cells) (acc := []) h)
  rcases cloFrom_mem (PySem.mem_of_lookup hc') with z | ⟨_, z⟩
  · cases z
  · rw [hc', z, hc]; rfl
/-- the generator expression's scope: y its one name -/
def genSB (scope : Scope) (y : Str) : Bool := kindB scope && !scope.isCoroutine && scope.names.all (fun q => !decide (q.2 = .cell)) && decide (scope.names.lookup (".0" : Str) = some .local) && decide (scope.names.lookup y = some .local)
structure GenOk (scope : Scope) (y : Str) : Prop where
  kind : scope.kind = .function
  co : scope.isCoroutine = false
  cell : ∀ q ∈ scope.names, q.2 ≠ .cell
  dot : scope.names.lookup (".0" : Str) = some .local
  loc : scope.names.lookup y = some .local
theorem genSB_ok {scope : Scope} {y : Str} (h : genSB scope y = true) : GenOk scope y := by
  unfold genSB at h
  obtain ⟨h, h5⟩ := ba h
  obtain ⟨h, h4⟩ := ba h
  obtain ⟨h, h3⟩ := ba h
  obtain ⟨h1, h2⟩ := ba h
  refine ⟨kindB_ok h1, bn h2, fun q hq => ?_, of_decide_eq_true h4, of_decide_eq_true h5⟩
  have := List.all_eq_true.mp h3 q hq
  simpa using this
theorem boolsR_at {f : D → R Bool} : ∀ {ds : List D} {bs : List Bool}, boolsR f ds = .ok bs → bs.length = ds.length ∧ ∀ (i : Nat) (d : D), ds[i]? = some d → ∃ b, bs[i]? = some b ∧ f d = .ok b
  | [], bs, h => by cases h; exact ⟨rfl, fun i d e => by simp at e⟩
  | d :: ds, bs, h => by
    obtain ⟨b, h1, h⟩ := bind_inv h
    obtain ⟨r, h2, h⟩ := bind_inv h
    cases h
    obtain ⟨l, g⟩ := boolsR_at h2
    refine ⟨by simp [l], fun i e he => ?_⟩
    cases i with
    | zero => simp at he; subst he; exact ⟨b, rfl, h1⟩
    | succ i => exact g i e (by simpa using he)
theorem calm_ok {α : Type} {r : R α} {a : α} (h : r.calm = .ok a) : r = .ok a := by
  cases r <;> first | exact h | cases h
/-- the tests at the places -/
def trB (bs : List Bool) (i : Nat) : Bool := bs[i]?.getD false
theorem all_trB (bs : List Bool) : (List.range bs.length).all (trB bs) = bs.all id := by
  rw [Bool.eq_iff_iff, List.all_eq_true, List.all_eq_true]
  constructor
  · intro h b hb
    obtain ⟨i, hi, e⟩ := List.getElem_of_mem hb
    have := h i (List.mem_range.mpr hi)
    unfold trB at this
    rw [List.getElem?_eq_getElem hi, e] at this
    exact this
  · intro h i hi
    have hi := List.mem_range.mp hi
    unfold trB
    rw [List.getElem?_eq_getElem hi]
    exact h _ (List.getElem_mem hi)
theorem any_trB (bs : List Bool) : (List.range bs.length).any (trB bs) = bs.any id := by
  rw [Bool.eq_iff_iff, List.any_eq_true, List.any_eq_true]
  constructor
  · intro ⟨i, hi, h⟩
    have hi := List.mem_range.mp hi
    unfold trB at h
    rw [List.getElem?_eq_getElem hi] at h
    exact ⟨_, List.getElem_mem hi, h⟩
  · intro ⟨b, hb, h⟩
    obtain ⟨i, hi, e⟩ := List.getElem_of_mem hb
    refine ⟨i, List.mem_range.mpr hi, ?_⟩
    unfold trB
    rw [List.getElem?_eq_getElem hi, e]
    exact h
section
variable {X : Cx} {cs : List (Addr × Addr)} {Wx : WX} {fr : Bool} {pos : Pos}
theorem mask_sh {ρ : En} {i : Nat} {d : D} (h : (mask ρ)[i]? = some (.sh d)) : ρ[i]? = some (.sh d) ∧ plainD d = true := by
  unfold mask at h
  rw [List.getElem?_map, Option.map_eq_some_iff] at h
  obtain ⟨s, h1, h2⟩ := h
  cases s with
  | un => cases h2
  | sh e =>
    dsimp only at h2
    by_cases q : plainD e = true
    · rw [if_pos q] at h2; cases h2; exact ⟨h1, q⟩
    · rw [if_neg q] at h2; cases h2
  | ow l =>
    dsimp only at h2
    by_cases q : plainDs l = true
    · rw [if_pos q] at h2; cases h2
    · rw [if_neg q] at h2; cases h2
theorem mask_ow {ρ : En} {i : Nat} {l : List D} (h : (mask ρ)[i]? = some (.ow l)) : ρ[i]? = some (.ow l) ∧ plainDs l = true := by
  unfold mask at h
  rw [List.getElem?_map, Option.map_eq_some_iff] at h
  obtain ⟨s, h1, h2⟩ := h
  cases s with
  | un => cases h2
  | sh e =>
    dsimp only at h2
    by_cases q : plainD e = true
    · rw [if_pos q] at h2; cases h2
    · rw [if_neg q] at h2; cases h2
  | ow l' =>
    dsimp only at h2
    by_cases q : plainDs l' = true
    · rw [if_pos q] at h2; cases h2; exact ⟨h1, q⟩
    · rw [if_neg q] at h2; cases h2
/-- what a generator's frame sees -/
theorem gen_qv {pins : List (Addr × Obj)} {σ : L2.St} {H1 : Hp} {A C : List Addr} {s1 s2 : Shared} {ρ : En} {Pt : Addr} {ps : Array Value} {scope : Scope} {y : Str} {t : Nat} {d : D} {v code : Value} {L : Addr} {m2 : Str → Option Value}
    (I1 : Inv X pins σ H1 s1) (re : EnvR X.K X.mg ⟨H1, A, C⟩ σ ρ) (nd : X.N.Nodup) (hP : s1.heap.get? Pt = some { cls := .none, data := .fields ps }) (G : GenOk scope y) (ok : BlkOk X.N X.env.scope scope [(y, t)]) (hyt : X.N[t]? = some y)
    (hup : ∀ b o, b ≠ Pt → s1.heap.get? b = some o → s2.heap.get? b = some o) (hn : s2.heap.Ns L m2) (hy : m2 y = some v) (hd : vrep s2.heap d v) :
    QV (genEnv scope (cloFrom X.env.cells scope.names []) L code builtinsNs X.env) s2.heap X.N ((mask ρ).set t (.sh d)) := by
  have upC : UpC s1.heap s2.heap := fun b o e c => hup b o (fun z => by rw [z, hP] at e; cases e; exact c rfl) e
  obtain ⟨m, hm, hl⟩ := I1.loc
  refine ⟨G.kind, I1.ok.glob, rfl, m2, hn, fun i d' x h1 h2 h3 => ?_⟩
  by_cases e : t = i
  · subst e
    have ex : x = y := Option.some.inj (h2.symm.trans hyt)
    subst ex
    have hlt : t < (mask ρ).length := by
      rcases Nat.lt_or_ge t (mask ρ).length with z | z
      · exact z
      · rcases h1 with h1 | ⟨l, h1, _⟩ <;> (rw [List.getElem?_eq_none (by simpa using z)] at h1; cases h1)
    rw [List.getElem?_set_self hlt] at h1
    rcases h1 with h1 | ⟨l, h1, _⟩
    · cases h1
      exact ⟨v, hd, .inl ⟨G.loc, hy⟩⟩
    · cases h1
  · rw [List.getElem?_set_ne e] at h1
    have hxn : x ≠ y := fun z => by
      subst z
      obtain ⟨a1, a2⟩ := List.getElem?_eq_some_iff.mp hyt
      obtain ⟨b1, b2⟩ := List.getElem?_eq_some_iff.mp h2
      exact e ((List.getElem_inj nd).mp (a2.trans b2.symm))
    have hfree : scope.names.lookup x = some .free := by
      rcases h3 with h3 | h3 | h3
      · have hmem := PySem.mem_of_lookup h3
        rcases ok.own _ hmem (.inl rfl) with z | z
        · simp at z; exact absurd z hxn
        · exact absurd (List.mem_of_getElem? h2) z
      · exact absurd rfl (G.cell _ (PySem.mem_of_lookup h3))
      · exact h3
    have hmem := PySem.mem_of_lookup hfree
    have hout := ok.free _ hmem rfl
    have fin : ∀ (w : V), X.N[i]? = some x → σ[i]? = some (some w) → plainD d' = true → repB X.K X.mg (A ++ C) H1 d' w → ∃ u, vrep s2.heap d' u ∧ Look (genEnv scope (cloFrom X.env.cells scope.names []) L code builtinsNs X.env) s2.heap m2 x u := fun w g1 g2 g3 g4 => by
      obtain ⟨u, ru, lk⟩ := hl i x w g1 g2 (by rcases hout with z | z; exact .inr (.inl z); exact .inr (.inr z))
      refine ⟨u, vrep_upC upC d' u (vrep_of I1 d' w u g3 g4 ru), .inr ⟨.inr hfree, ?_⟩⟩
      rcases lk with ⟨z, _⟩ | ⟨_, c, hc, hcell⟩
      · have z : X.env.scope.names.lookup x = some .local := z
        rcases hout with q | q <;> (rw [z] at q; cases q)
      · refine ⟨c, clo_look hmem hc, ?_⟩
        obtain ⟨o, ho, hd2⟩ := hcell
        exact ⟨o, hup c o (fun z => by rw [z, hP] at ho; cases ho; cases hd2) ho, hd2⟩
    rcases h1 with h1 | ⟨l, h1, rfl⟩
    · obtain ⟨g1, g2⟩ := mask_sh h1
      obtain ⟨w, w1, w2⟩ := re.sh i d' g1
      exact fin w h2 w1 g2 (repB_of w2)
    · obtain ⟨g1, g2⟩ := mask_ow h1
      obtain ⟨a, vs, w1, w2, w3, w4⟩ := re.ow i l g1
      exact fin _ h2 w1 g2 ⟨a, vs, rfl, w3, w4⟩

theorem post_inv {α : Type} {W : Wd} {σ : L2.St} {r : R α} {g : α → R D} {Q : VK} (p : PostE X cs W σ Wx fr (r.bind g) Q) (h : ∀ c e, r ≠ .ex c e) : ∃ a, r = .ok a ∧ PostE X cs W σ Wx fr (g a) Q := by
  cases r with
  | ok a => exact ⟨a, rfl, p⟩
  | ex c e => exact absurd rfl (h c e)
  | bad => exact p.elim
theorem gd_nex {α : Type} {b : Bool} {a : α} : ∀ c e, gd b a ≠ .ex c e := fun c e h => by unfold gd at h; split at h <;> cases h
theorem ofO_nex {α : Type} {o : Option α} : ∀ c e, ofO o ≠ .ex c e := fun c e h => by cases o <;> cases h
theorem boolsR_nex {f : D → R Bool} : ∀ {ds : List D} (c : Str) (e : D), boolsR (fun d => (f d).calm) ds ≠ .ex c e
  | [], c, e, h => by cases h
  | d :: ds, c, e, h => by
    have h : ((f d).calm.bind fun b => (boolsR (fun d => (f d).calm) ds).bind fun bs => .ok (b :: bs)) = .ex c e := h
    cases q : f d with
    | ok b =>
      rw [q] at h
      have h : ((boolsR (fun d => (f d).calm) ds).bind fun bs => .ok (b :: bs)) = .ex c e := h
      cases q2 : boolsR (fun d => (f d).calm) ds with
      | ok bs => rw [q2] at h; cases h
      | ex c' e' => exact boolsR_nex c' e' q2
      | bad => rw [q2] at h; cases h
    | ex _ _ => rw [q] at h; cases h
    | bad => rw [q] at h; cases h
theorem tab_ext {Pt : Addr} {H1 H2 : Hp} {ps : Array Value} (hP : H1 Pt = some (.tbl ps)) (T : Tabbed Pt H1 H2) : Ext cs H1 H2 := by
  obtain ⟨t, keep⟩ := T
  refine ⟨fun a o h => ?_, fun q hq h => ?_⟩
  · by_cases e : a = Pt
    · subst e
      rw [hP] at h
      cases h
      obtain ⟨ps', h1, _⟩ := t
      exact ⟨_, h1, fun n => absurd rfl (n ps)⟩
    · exact ⟨o, by rw [keep a e]; exact h, fun _ => rfl⟩
  · by_cases e : q.2 = Pt
    · rw [e]; exact t
    · obtain ⟨ps', h1, h2⟩ := h
      exact ⟨ps', by rw [keep _ e]; exact h1, h2⟩
/-- all(elt for y in it), any(..) -/
theorem de_gen {c Pt : Addr} {j : Nat} (hc : X.calm = true) (nd : X.N.Nodup) (hr : Room (j + 1) X.A) (bi : ∀ x ∈ biNames, X.mg x = none) (hcode : X.env.code = .ref c) (TB : TabB X.base X.mg c Pt) (hcs : (c, Pt) ∈ cs) {elt iter : Expr} {y nm : Str} {py p gpos : Pos} {scope : Scope} {t : Nat} {fi fe : En → R D} (al : Bool)
    (hnm : nm = if al = true then "all" else "any") (hg : Gl X nm) (G : GenOk scope y) (ok : BlkOk X.N X.env.scope scope [(y, t)]) (hi : DB X cs Wx iter fi) (hel : Mod X.K X.mg X.base → QE X.prog X.w X.base j X.N scope elt fe) (hs : genPlain iter = true) :
    DE X cs Wx fr (.Call (.Name nm p) [.GeneratorExp elt [⟨.Name y py, iter, [], 0⟩] scope gpos] [] pos) (fun ρ => (fi ρ).bind fun x => (gd (plainD x) ()).bind fun _ => (ofO (seqOf x)).bind fun ds =>
      (boolsR (fun d => ((fe ((mask ρ).set t (.sh d))).bind asBl).calm) ds).bind fun bs => .ok (.bl (if al = true then bs.all id else bs.any id))) := by
  have hyt : X.N[t]? = some y := ok.ix (y, t) (List.mem_singleton.mpr rfl)
  refine ⟨fun pins s σ H Q I h0 => ?_⟩
  obtain ⟨A, C, ρ, k, re, pp⟩ := h0
  try dsimp only at pp
  have hbn : nm ∈ biNames := by
    rw [hnm]
    cases al <;> decide +kernel
  have hv : bootBuiltins nm = some (.builtin (if al = true then "all" else "any")) := by
    rw [hnm]
    cases al <;> decide +kernel
  have hn2 : nm ≠ "__name__" := by
    rw [hnm]
    cases al <;> decide
  have hd2 : (nm == ("__debug__" : Str)) = false := by
    rw [hnm]
    cases al <;> decide
  have he : starEach [.GeneratorExp elt [⟨.Name y py, iter, [], 0⟩] scope gpos] X.env = (false, eval (.GeneratorExp elt [⟨.Name y py, iter, [], 0⟩] scope gpos) X.env) :: starEach [] X.env := rfl
  refine wpAny_Call_Name_kw (ld_blt I hg (bi _ hbn) hv ?_ hn2 hd2)
  refine PyProof.Rows.callWith_builtin1 ?_ he (by rfl)
  rw [he]
  show wpAny _ _ (spliced ((false, eval (.GeneratorExp elt [⟨.Name y py, iter, [], 0⟩] scope gpos) X.env) :: backTo pos (starEach [] X.env))) _ _ s
  refine Calls.spliced_cons ?_
  have hfree : ∀ q ∈ scope.names, q.2 = .free → ∃ c, X.env.cells.lookup q.1 = some c := fun q hq e => by
    rcases ok.free q hq e with z | z
    · exact I.ok.has _ (.inl z)
    · exact I.ok.has _ (.inr z)
  refine wpAny_GeneratorExp_walksQD hr.hd G.co (closure_ok hfree) G.cell G.dot G.loc G.kind (by have := hr.dp; omega) ?_ (genFold_ok hs)
  refine L2.thn (hi.run pins s σ H (fun v H1 => ∃ d, fi ρ = .ok d ∧ Ext cs H H1 ∧ repB X.K X.mg (A ++ C) H1 d v) I (tB_of (W := ⟨H, A, C⟩) k re pp.lets fun d H1 v q1 e1 r1 => ⟨d, q1, e1, r1⟩)) fun xv s1 ⟨v, H1, I1, rv, d, q1, e1, r1⟩ => ?_
  have p0 := PostE.go (W := ⟨H, A, C⟩) (H1 := H1) e1 pp
  obtain ⟨d', q1', p1⟩ := post_inv (g := fun x => (gd (plainD x) ()).bind fun _ => (ofO (seqOf x)).bind fun ds => (boolsR (fun d => ((fe ((mask ρ).set t (.sh d))).bind asBl).calm) ds).bind fun bs => .ok (.bl (if al = true then bs.all id else bs.any id))) p0 (fun c e z => by rw [q1] at z; cases z)
  obtain rfl : d = d' := by rw [q1] at q1'; cases q1'; rfl
  obtain ⟨_, q2, p2⟩ := post_inv p1 gd_nex
  obtain ⟨ds, q3, p3⟩ := post_inv p2 ofO_nex
  obtain ⟨bs, q4, p4⟩ := post_inv p3 boolsR_nex
  have hpl : plainD d = true := (gd_ok q2).1
  have hds := ofO_ok q3
  obtain ⟨hlen, hbs⟩ := boolsR_at q4
  have hQ : ∀ H', Ext cs H1 H' → Q (.bl (if al = true then bs.all id else bs.any id)) H' := fun H' e => p4 H' _ e ⟨rfl, fun _ l z => by cases z⟩
  have vr := vrep_of I1 d v xv hpl r1 rv
  refine iter_seq vr hds fun o St fp wr its hits hwr hfp W hst hfr => ?_
  obtain ⟨ps, hP, ht⟩ := (k.ext e1).tabs (c, Pt) hcs
  have hP : H1 Pt = some (.tbl ps) := hP
  have hPs : s1.heap.get? Pt = some { cls := .none, data := .fields ps } := I1.hok Pt _ hP
  have hPlt : Pt < s1.heap.objs.size := Heap.lt_size hPs
  have hP2 : (s1.heap.push o).get? Pt = some { cls := .none, data := .fields ps } := Heap.get?_push_of_some _ hPs
  have cd : PySem.W.CodeHd (s1.heap.push o) c Pt := TB.code.keeps fun b u e => Heap.get?_push_of_some _ (I1.bk b u e)
  have lim2 : (s1.heap.push o).NoLimit := I1.nolimit.push o
  have sz2 : (s1.heap.push o).objs.size = s1.heap.objs.size + 1 := Heap.size_push ..
  have hn0 : its.length = ds.length := vreps_len hits
  have cont : ∀ (code : Value) (h3 : Heap) (tk : Nat) (ps' : Array Value), Heap.ExtBut Pt (s1.heap.push o) h3 → (s1.heap.push o).objs.size ≤ h3.objs.size → h3.get? Pt = some { cls := .none, data := .fields ps' } → (∃ more, ps' = ps ++ more) → TriplesOk ps'.toList →
      wpAny (model X.prog X.w) X.A (builtinsFor X.env.globals X.env.builtins) (fun bi s₄ =>
        ∃ Ia fp wr n₀ Pf St₀ pz F, Value.ref s1.heap.objs.size = .ref Ia ∧ (∀ A' : Around, A'.handled = none → Walks X.prog X.w A' Ia fp wr n₀ Pf St₀) ∧ St₀ 0 s₄.heap ∧ (∀ b ∈ fp, b < s₄.heap.objs.size) ∧ s₄.heap.NoLimit ∧ cStatics ∉ wr ∧
          (∀ href : Heap, (∀ b o, s₄.heap.get? b = some o → href.get? b = some o) →
            QuietGenD X.prog X.w (genEnv scope (cloFrom X.env.cells scope.names []) s₄.heap.objs.size code bi X.env) y [] elt (List.range s₄.heap.objs.size) wr Pf pz F href (X.A.depth + 1) (X.A.units + 8)) ∧
          (∀ a h₅ tk gs, gs.bare = true → s₄.heap.objs.size < a → h₅.objs.size = a + 1 → (∀ b o, s₄.heap.get? b = some o → h₅.get? b = some o) →
            WalksS X.prog X.w X.A.in4 a (a :: s₄.heap.objs.size :: List.range s₄.heap.objs.size) (s₄.heap.objs.size :: wr) (GenOnlyQ s₄.gens.size) (passing pz n₀ 0).length
              (fun j y => ∃ i, (passing pz n₀ 0)[j]? = some i ∧ F i y) (GenAt X.prog X.w X.A.in4 a s₄.gens.size s₄.heap.objs.size (List.range s₄.heap.objs.size) wr pz n₀ F) →
            GenAt X.prog X.w X.A.in4 a s₄.gens.size s₄.heap.objs.size (List.range s₄.heap.objs.size) wr pz n₀ F 0 { s₄ with gens := s₄.gens.push gs, toks := tk, heap := h₅ } →
            wpAny (model X.prog X.w) X.A (spliced (backTo pos (starEach [] X.env))) (fun vs => wpAny (model X.prog X.w) X.A (call (.builtin (if al = true then "all" else "any")) (Value.ref a :: vs)) (EP X pins σ Q) X.xe) X.xe { s₄ with gens := s₄.gens.push gs, toks := tk, heap := h₅ })) X.xe { s1 with heap := h3, toks := tk } := by
    intro code h3 tk ps' hx hsz hP3 hmore ht3
    obtain ⟨bm, ob, e1', e2', e3', e4', e5', e6', e7', e8'⟩ := TB.bm
    have hcP : cStatics ≠ Pt := fun e => by
      obtain ⟨_, hns, _⟩ := I1.nolimit
      obtain ⟨o', es, ep, ho, hd, _⟩ := hns
      rw [e, hPs] at ho
      cases ho
      cases hd
    have hcl : cStatics < s1.heap.objs.size := let ⟨_, hns, _⟩ := I1.nolimit; hns.lt
    have keep3 : ∀ b u, b ≠ Pt → s1.heap.get? b = some u → h3.get? b = some u := fun b u hb e => hx b u hb (Heap.get?_push_of_some _ e)
    refine wpAny_builtinsFor (m := X.mg) (by rw [I1.ok.glob]; exact ((I1.mod.glob.keeps I1.bk).push o).extBut hx TB.gP) e1' e2' (keep3 _ _ e4' (I1.bk _ _ e5')) e6' e7' e8' ?_
    have hne : ∀ b (u : Obj), (s1.heap.push o).get? b = some u → u.cls ≠ .none → b ≠ Pt := fun b u e cn z => by
      rw [z, hP2] at e
      cases e
      exact cn rfl
    refine ⟨s1.heap.objs.size, fp, wr, its.length, (fun i v => its[i]? = some v), St, (fun _ => true), (fun i y => ∃ b, bs[i]? = some b ∧ y = .bool b), rfl, W, ?_, ?_, lim2.extBut hx hcP, ?_, ?_, ?_⟩
    · exact hfr h3 fun b hb u e cn => hx b u (hne b u e cn) e
    · intro b hb
      exact Nat.lt_of_le_of_lt (hfp b hb) (Nat.lt_of_lt_of_le (by rw [sz2]; exact Nat.lt_succ_self _) hsz)
    · rw [hwr]
      intro z
      rcases List.mem_cons.mp z with z | z
      · exact Nat.ne_of_lt hcl z
      · cases z
    · intro href hhref
      refine ⟨fun A' E' i v s₂ m₂ hA _ _ hPv hn hm hk => ?_, fun A' E' i v s₂ m₂ hA hdp hun hPv hp hn hm hk => ?_⟩
      · simp only [List.forIn_nil]
        exact wpAny_pure ⟨rfl, keepsR s₂⟩
      · have hPv : its[i]? = some v := hPv
        have hi0 : i < ds.length := by
          rw [← hn0]
          exact (List.getElem?_eq_some_iff.mp hPv).1
        have hdi : ds[i]? = some ds[i] := List.getElem?_eq_getElem hi0
        obtain ⟨b, hb1, hb2⟩ := hbs i _ hdi
        have hb2 := calm_ok hb2
        obtain ⟨z, hz1, hz2⟩ := bind_inv hb2
        obtain rfl : z = .bl b := by
          cases z <;> first | (cases hz2; done) | (cases hz2; rfl)
        obtain ⟨v', hv1, hv2⟩ := vreps_at hits hdi
        obtain rfl : v = v' := by rw [hPv] at hv1; cases hv1; rfl
        have up2 : ∀ b' o', b' ≠ Pt → s1.heap.get? b' = some o' → s₂.heap.get? b' = some o' := fun b' o' hb' e => by
          have hlt := Heap.lt_size e
          refine hk b' (List.mem_range.mpr ?_) ?_ o' (hhref b' o' (keep3 b' o' hb' e))
          · exact Nat.lt_of_lt_of_le hlt (Nat.le_trans (by rw [sz2]; exact Nat.le_succ _) hsz)
          · rw [hwr]
            intro z
            exact Nat.ne_of_lt hlt (List.mem_singleton.mp z)
        have upC : UpC s1.heap s₂.heap := fun b' o' e cn => up2 b' o' (fun z => by rw [z, hPs] at e; cases e; exact cn rfl) e
        have baseUp : Up X.base s₂.heap := fun b' o' e => by
          obtain ⟨g1, g2⟩ := I1.bs b' o' e
          exact up2 b' o' (fun z => by rw [z, hP] at g2; cases g2) g1
        have Rm : Room j A' := ⟨hA, by have := hr.dp; omega, by have := hr.un; omega⟩
        have qv := gen_qv (code := code) I1 (re.ext e1) nd hPs G ok hyt up2 hn hm (vrep_upC upC _ _ hv2)
        refine wpAny_mono (hel I1.ok.mod A' E' s₂ _ _ _ Rm baseUp rfl qv hz1) (fun u s₃ r => ⟨⟨b, hb1, r.1⟩, r.2⟩) fun _ _ e => e
    · intro g h5 tk5 gs hgb hag hsz5 hk5 W5 hat
      simp only [GxR.passing_true, List.length_range] at W5
      refine Calls.spliced_nil ?_
      have Wg := W5.in4_1
      have htr : TruthOf X.prog X.w X.A.in1 (fun j y => ∃ i, (List.range its.length)[j]? = some i ∧ ∃ b, bs[i]? = some b ∧ y = .bool b) (trB bs) := by
        intro jj yy sj Qj Ej hy hQj
        obtain ⟨i, hij, b, hb, rfl⟩ := hy
        obtain ⟨hj, ej⟩ := List.getElem?_eq_some_iff.mp hij
        rw [List.getElem_range] at ej
        subst ej
        have hQ2 : Qj (trB bs jj) sj := hQj
        unfold trB at hQ2
        rw [hb] at hQ2
        exact wpAny_truthy_bool hQ2
      have hend : ∀ s', Moved (h3.objs.size :: wr) (GenOnlyQ s1.gens.size) { s1 with gens := s1.gens.push gs, toks := tk5, heap := h5 } s' → ∃ H2, Tabbed Pt H1 H2 ∧ Inv X pins σ H2 s' := by
        intro s' hmv
        obtain ⟨more, em⟩ := hmore
        have nwr : ∀ b u, s1.heap.get? b = some u → b ∉ h3.objs.size :: wr := fun b u e hb => by
          have hl := Heap.lt_size e
          rw [hwr] at hb
          rcases List.mem_cons.mp hb with z | z
          · rw [z] at hl
            have h9 : (h3.objs.size : Nat) < s1.heap.objs.size := hl
            omega
          · rw [List.mem_singleton.mp z] at hl
            exact Nat.lt_irrefl _ hl
        have J := inv_tab (more := more) (h' := s'.heap) (g' := s'.gens) (d' := s'.drawn) (t' := s'.toks) I1 hP (fun b u hb e => hmv.heap b u (nwr b u e) (hk5 b u (keep3 b u hb e)))
          (by rw [← em]; exact hmv.heap Pt _ (nwr Pt _ hPs) (hk5 Pt _ hP3)) (AllBare.movedS (I1.bare.push hgb) hmv)
        rw [sh_eta s1 s' hmv.os] at J
        exact ⟨upd H1 Pt (.tbl (ps ++ more)), ⟨⟨ps ++ more, upd_same, by rw [← em]; exact ht3⟩, fun b hb => upd_ne hb⟩, J⟩
      have hext : ∀ H2, Tabbed Pt H1 H2 → Ext cs H1 H2 := fun H2 T => tab_ext (cs := cs) hP T
      have hnb : bs.length = its.length := by rw [hlen, hn0]
      cases al with
      | true =>
        refine call_all_walkS (Wg.self 0 _ _ _ hat ⟨g, _, _, _, _, _, _, _, rfl, Wg, hat, htr, fun s' hmv => ?_⟩)
        obtain ⟨H2, hT, J⟩ := hend s' hmv
        refine ⟨.bl _, H2, J, rfl, ?_⟩
        rw [← hnb, all_trB bs]
        exact hQ H2 (hext H2 hT)
      | false =>
        refine call_any_walkS (Wg.self 0 _ _ _ hat ⟨g, _, _, _, _, _, _, _, rfl, Wg, hat, htr, fun s' hmv => ?_⟩)
        obtain ⟨H2, hT, J⟩ := hend s' hmv
        refine ⟨.bl _, H2, J, rfl, ?_⟩
        rw [← hnb, any_trB bs]
        exact hQ H2 (hext H2 hT)
  refine ⟨lim2, ?_⟩
  cases hf : codeAmong gpos ps.toList with
  | none =>
    refine wpAny_genexprCodeX hcode (cd.code hP2 ht) (cd.tab hP2) hf fun c' h' tk hx hge hlt hco' _ htab' _ => ?_
    obtain ⟨o1, vs, f1, tf, fl, tg, inF, tx, tt, op, _, _, _, _, _, _, _, _, _, htr, _⟩ := hco'
    exact cont _ h' tk _ hx (Nat.le_trans hge (Nat.le_of_lt hlt)) htab'.2 ⟨_, rfl⟩ htr
  | some cv =>
    refine wpAny_genexprCode_hit hcode (cd.code hP2 ht) hf ?_
    exact cont cv (s1.heap.push o) s1.toks ps (Heap.ExtBut.refl _ _) (Nat.le_refl _) hP2 ⟨#[], by simp⟩ ht
end
end Bk
end
section
set_option autoImplicit false
set_option linter.all false
set_option maxRecDepth 100000
/-! The matcher: my syntax against the text's, by a kernel check; what it says holds. -/
namespace Bk
open PySem L2 RT
def mTgs (N : List Str) (sc : Scope) (af : Str → Bool) : List Nat → List Expr → Bool
  | [], [] => true
  | i :: is, .Name x _ :: es => atB N i x && stB sc af x && mTgs N sc af is es
  | _, _ => false
def mTg (N : List Str) (sc : Scope) (af : Str → Bool) : Tg → Expr → Bool
  | .nm i, .Name x _ => atB N i x && stB sc af x
  | .tp is, .Tuple es _ _ => mTgs N sc af is es
  | _, _ => false
def nmsOf (N : List Str) : List Nat → List (Str × Nat)
  | [] => []
  | i :: is => (N[i]?.getD "", i) :: nmsOf N is
theorem nms_snd (N : List Str) : ∀ is : List Nat, (nmsOf N is).map (·.2) = is
  | [] => rfl
  | i :: is => by unfold nmsOf; rw [List.map_cons, nms_snd N is]
def blkF (scope : Scope) : Str → Bool := fun x => scope.names.lookup x == some .cell
section
variable (nm gn N : List Str)
mutual
def mE : E → Scope → (Str → Bool) → Expr → Bool
  | .var i, sc, _, .Name x _ => atB N i x && visB sc x && odd x
  | .cst d, _, _, e => mCst d e
  | .glb k, sc, _, .Name x _ => atB gn k x && glB sc x && odd x
  | .bin o a b, sc, af, .BinOp x op y _ => decide (binOf o = some op) && mE a sc af x && mE b sc af y
  | .bin o a b, sc, af, .Compare x [op] [y] _ => decide (cmpOf o = some op) && !behindInMarks op y && mE a sc af x && mE b sc af y
  | .neg a, sc, af, .UnaryOp .USub x _ => mE a sc af x
  | .not a, sc, af, .UnaryOp .Not x _ => mE a sc af x
  | .and a b, sc, af, .BoolOp .And (x :: y :: []) _ => mE a sc af x && mE b sc af y
  | .and a b, sc, af, .BoolOp .And (x :: y :: z :: r) p => mE a sc af x && mE b sc af (.BoolOp .And (y :: z :: r) p)
  | .or a b, sc, af, .BoolOp .Or (x :: y :: []) _ => mE a sc af x && mE b sc af y
  | .or a b, sc, af, .BoolOp .Or (x :: y :: z :: r) p => mE a sc af x && mE b sc af (.BoolOp .Or (y :: z :: r) p)
  | .ite c a b, sc, af, .IfExp x y z _ => tst c && mE c sc af x && mE a sc af y && mE b sc af z
  | .chn o p a b c, sc, af, .Compare x [op, op2] [y, z] _ => decide (cmpOf o = some op) && decide (cmpOf p = some op2) && !lastMarks [op, op2] [y, z] && mE a sc af x && mE b sc af y && mE c sc af z
  | .tup es, sc, af, .Tuple xs _ _ => mEs es sc af xs
  | .lst es, sc, af, .List xs _ => mEs es sc af xs
  | .idx a i, sc, af, .Subscript x y _ => notSlice y && mE a sc af x && mE i sc af y
  | .slc a lo hi, sc, af, .Subscript x (.Slice l h none _) _ => mE a sc af x && mEo lo sc af l && mEo hi sc af h
  | .rvs a, sc, af, .Subscript x (.Slice none none (some (.UnaryOp .USub (.Constant (.int 1) _ _) _)) _) _ => mE a sc af x
  | .call k es, sc, af, .Call (.Name x _) (y :: ys) [] _ => atB nm k x && glB sc x && odd x && noStars (y :: ys) && mEs es sc af (y :: ys)
  | .cll i es, sc, af, .Call (.Name x _) (y :: ys) [] _ => atB N i x && visB sc x && odd x && noStars (y :: ys) && mEs es sc af (y :: ys)
  | .bi f es, sc, af, .Call (.Name x _) (y :: ys) [] _ => decide (x = biName f) && glB sc x && noStars (y :: ys) && mEs es sc af (y :: ys)
  | .isi a [t], sc, af, .Call (.Name f _) [x, .Name y _] [] _ => decide (f = ("isinstance" : Str)) && glB sc f && decide (y = tyS t) && glB sc y && notStar x && mE a sc af x
  | .isi a ts, sc, af, .Call (.Name f _) [x, .Tuple es _ _] [] _ => decide (f = ("isinstance" : Str)) && glB sc f && decide (ts.length ≤ 8) && !ts.isEmpty && tysM ts es && ts.all (fun t => glB sc (tyS t)) && notStar x && mE a sc af x
  | .allc al e t it, sc, af, .Call (.Name x _) [.GeneratorExp ex [⟨.Name y _, ix, [], n⟩] scope _] [] _ => decide (n = 0) && decide (x = if al = true then ("all" : Str) else "any") && glB sc x && genPlain ix && genSB scope y && blkC N sc scope [(y, t)] && mE it sc af ix && mQ nm N e scope ex
  | .lc e t it c, sc, af, .ListComp x [⟨tg, ix, ifs, n⟩] scope _ => decide (n = 0) && notSet ix && blkC N sc scope (nmsOf N (tgSlots t)) && mTg N (relS scope sc) (blkF scope) t tg && mIt it sc af ix && mC c (relS scope sc) (blkF scope) ifs && mE e (relS scope sc) (blkF scope) x
  | _, _, _, _ => false
def mEs : Es → Scope → (Str → Bool) → List Expr → Bool
  | .nil, _, _, [] => true
  | .cons e es, sc, af, x :: xs => notStar x && mE e sc af x && mEs es sc af xs
  | _, _, _, _ => false
def mEo : Eo → Scope → (Str → Bool) → Option Expr → Bool
  | .no, _, _, none => true
  | .so e, sc, af, some x => mE e sc af x
  | _, _, _, _ => false
def mC : Eo → Scope → (Str → Bool) → List Expr → Bool
  | .no, _, _, [] => true
  | .so e, sc, af, [x] => tst e && mE e sc af x
  | _, _, _, _ => false
def mIt : It → Scope → (Str → Bool) → Expr → Bool
  | .seq e, sc, af, x => mE e sc af x
  | .rng e, sc, af, .Call (.Name x _) [y] [] _ => decide (x = ("range" : Str)) && glB sc x && notStar y && mE e sc af y
  | .rng2 a b, sc, af, .Call (.Name x _) [y, z] [] _ => decide (x = ("range" : Str)) && glB sc x && notStar y && notStar z && mE a sc af y && mE b sc af z
  | .rev e, sc, af, .Call (.Name x _) [y] [] _ => decide (x = ("reversed" : Str)) && glB sc x && notStar y && mE e sc af y
  | _, _, _, _ => false
end
end
/-! ### what it says -/
structure Ok (X : Cx) (cs : List (Addr × Addr)) (j : Nat) (M : Md) (nm gn N : List Str) (sc : Scope) (af : Str → Bool) : Prop where
  good : Good X cs j M nm gn
  hN : X.N = N
  hsc : X.env.scope = sc
  haf : ∀ x, af x = true → X.fn x = true
  fl : nm.length ≤ M.fns.length
  gen : M.ac = true → ∃ (j0 : Nat) (c Pt : Addr), j0 + 1 ≤ j ∧ X.env.code = .ref c ∧ (c, Pt) ∈ cs ∧ GxR.TabB X.base X.mg c Pt ∧ nm.length ≤ M.qfn.length ∧ (∀ (k : Nat) (x : Str) (f : Fn), nm[k]? = some x → M.qfn[k]? = some f → QFn X.prog X.w X.K X.mg X.base j0 x f)
section
variable {X : Cx} {cs : List (Addr × Addr)} {Wx : WX} {pos : Pos} {j : Nat} {M : Md} {nm gn N : List Str} {sc : Scope} {af : Str → Bool}
theorem Ok.hu (o : Ok X cs j M nm gn N sc af) : X.A.units + 65 < cLine := by
  have := o.good.room.un
  omega
theorem Ok.at (o : Ok X cs j M nm gn N sc af) {i : Nat} {x : Str} (h : atB N i x = true) : X.N[i]? = some x := by rw [o.hN]; exact atB_ok h
theorem Ok.vis (o : Ok X cs j M nm gn N sc af) {x : Str} (h : visB sc x = true) : Vis X.env.scope x := by rw [o.hsc]; exact visB_ok h
theorem Ok.gl (o : Ok X cs j M nm gn N sc af) {x : Str} (h : glB sc x = true) : Gl X x := by
  show X.env.scope.names.lookup x = _
  rw [o.hsc]; exact glB_ok h
theorem Ok.st (o : Ok X cs j M nm gn N sc af) {x : Str} (h : stB sc af x = true) : Loc X.env.scope x ∧ (X.fn x = true ∨ X.env.scope.names.lookup x = some .local) := by
  rw [o.hsc]
  obtain ⟨h1, h2⟩ := stB_ok h
  exact ⟨h1, h2.imp (o.haf x) id⟩
theorem Ok.blk (o : Ok X cs j M nm gn N sc af) (s : Shared) (H : Hp) (scope : Scope) (cl : List (Str × Addr)) (C : Addr) (fp : List Addr) : Ok (X.blk s H scope (compEnvC scope cl C X.env) fp) cs j M nm gn N (relS scope sc) (blkF scope) := by
  obtain ⟨g, rfl, rfl, h, fl, gn⟩ := o
  exact ⟨g.blk s H scope _ fp, rfl, rfl, fun x hx => hx, fl, gn⟩
theorem Ok.tr (o : Ok X cs j M nm gn N sc af) (pn : List (Addr × Obj)) (xe : Value → Shared → Prop) : Ok (X.tr pn xe) cs j M nm gn N sc af :=
  ⟨o.good.tr pn xe, o.hN, o.hsc, o.haf, o.fl, o.gen⟩
theorem mTgs_ok (o : Ok X cs j M nm gn N sc af) : ∀ (is : List Nat) (es : List Expr), mTgs N sc af is es = true → DGs X es is
  | [], [], _ => .nil
  | [], _ :: _, h => by cases h
  | _ :: _, [], h => by cases h
  | i :: is, e :: es, h => by
    cases e <;> first | (cases h; done) | skip
    rename_i x p
    have h' : (atB N i x && stB sc af x && mTgs N sc af is es) = true := h
    simp only [Bool.and_eq_true] at h'
    obtain ⟨⟨h1, h2⟩, h3⟩ := h'
    exact .cons (o.at h1) (o.st h2).1 (o.st h2).2 (mTgs_ok o is es h3)
theorem mTg_ok (o : Ok X cs j M nm gn N sc af) {t : Tg} {e : Expr} (h : mTg N sc af t e = true) : DG X e t := by
  cases t with
  | nm i =>
    cases e <;> first | (cases h; done) | skip
    rename_i x p
    have h' : (atB N i x && stB sc af x) = true := h
    rw [Bool.and_eq_true] at h'
    exact dg_nm o.good.nd (o.at h'.1) (o.st h'.2).1 (o.st h'.2).2
  | tp is =>
    cases e <;> first | (cases h; done) | skip
    exact dg_tp o.good.calm o.good.nd (mTgs_ok o is _ h)
end
/-- all that a matched expression gives -/
structure Al (X : Cx) (cs : List (Addr × Addr)) (Wx : WX) (M : Md) (e : E) (x : Expr) : Prop where
  d0 : DE X cs Wx false x (ev M e)
  d1 : fresh e = true → DE X cs Wx true x (ev M e)
  db : DB X cs Wx x (fun ρ => bw ρ e (ev M e ρ))
  dt : tst e = true → DT X cs Wx x (fun ρ => (ev M e ρ).bind truth)
section
variable {X : Cx} {cs : List (Addr × Addr)} {Wx : WX} {pos : Pos} {j : Nat} {M : Md} {nm gn N : List Str} {sc : Scope} {af : Str → Bool}
theorem Al.df {e : E} {x : Expr} (a : Al X cs Wx M e x) (b : Bool) : DF X cs Wx b x (fun ρ => bwf b ρ e (ev M e ρ)) := by
  unfold DF
  cases b with
  | true => rw [if_pos rfl]; exact a.db
  | false => rw [if_neg Bool.false_ne_true]; exact a.d0
/-- by any freshness, a test by the plain road -/
theorem al_of {e : E} {x : Expr} (h : ∀ fr, DE X cs Wx fr x (ev M e)) (hb : ∀ ρ r, bw ρ e r = r) (he : ∀ whole, isTrue x X.env whole = (do let v ← whole; standAt x.pos; holding [v] (truthy v))) : Al X cs Wx M e x :=
  ⟨h false, fun _ => h true, by
    have : (fun ρ => bw ρ e (ev M e ρ)) = ev M e := funext fun ρ => hb ρ _
    rw [this]; exact db_of (h false), fun _ => dt_of (h false) he⟩
theorem al_old {e : E} {x : Expr} (h : DE X cs Wx false x (ev M e)) (hf : fresh e = false) (hb : ∀ ρ r, bw ρ e r = r) (he : ∀ whole, isTrue x X.env whole = (do let v ← whole; standAt x.pos; holding [v] (truthy v))) : Al X cs Wx M e x :=
  ⟨h, (fun z => by rw [hf] at z; cases z), by
    have : (fun ρ => bw ρ e (ev M e ρ)) = ev M e := funext fun ρ => hb ρ _
    rw [this]; exact db_of h, fun _ => dt_of h he⟩
theorem dt_cmp {o : BO} {op : CmpOp} (ho : cmpOf o = some op) (hu : X.A.units + 65 < cLine) {a b : Expr} {fa fb : En → R D} (ha : DB X cs Wx a fa) (hb : DB X cs Wx b fb) (hm : behindInMarks op b = false) :
    DT X cs Wx (.Compare a [op] [b] pos) (fun ρ => ((fa ρ).bind fun x => (fb ρ).bind fun y => bo o x y).bind truth) := by
  obtain ⟨r, h1, h2⟩ := od_all (cs := cs) hu o
  rw [cmpOf_sem ho] at h1
  refine pt_imp (pt_cmpR h1 ha hb hm) fun σ H Q h => ?_
  obtain ⟨A, C, ρ, k, re, p⟩ := h
  try dsimp only at p
  refine tOp_of (fun W σ dx dy x y Q => h2 W σ Wx false dx dy x y Q) (tE_of (W := ⟨H, A, C⟩) k re p.lets fun d H1 v q1 e1 r1 => ?_)
  rw [q1] at p
  have p1 := PostT.go (H1 := H1) e1 p
  dsimp only [R.bind] at p1
  have hb : ∃ b, d = .bl b := by
    cases ea : fa ρ with
    | ok x =>
      rw [ea] at q1
      cases eb : fb ρ with
      | ok y =>
        rw [eb] at q1
        exact bo_cmp ho x y d q1
      | ex c e => rw [eb] at q1; cases q1
      | bad => rw [eb] at q1; cases q1
    | ex c e => rw [ea] at q1; cases q1
    | bad => rw [ea] at q1; cases q1
  obtain ⟨b, rfl⟩ := hb
  obtain rfl : v = V.bl b := r1.val
  exact ⟨b, rfl, p1 H1 Ext.refl⟩
end
theorem truth_and {a : R D} {f : R D} : ((a.bind fun x => (truth x).bind fun t => if t = true then f else .ok x).bind truth) = (a.bind truth).bind fun t => if t = true then f.bind truth else .ok false := by
  cases a with
  | ok x =>
    show ((truth x).bind fun t => if t = true then f else .ok x).bind truth = (truth x).bind fun t => if t = true then f.bind truth else .ok false
    cases q : truth x with
    | ok t =>
      cases t
      · show truth x = _
        rw [q]; rfl
      · rfl
    | ex c d => rfl
    | bad => rfl
  | ex c d => rfl
  | bad => rfl
theorem truth_or {a : R D} {f : R D} : ((a.bind fun x => (truth x).bind fun t => if t = true then .ok x else f).bind truth) = (a.bind truth).bind fun t => if t = true then .ok true else f.bind truth := by
  cases a with
  | ok x =>
    show ((truth x).bind fun t => if t = true then .ok x else f).bind truth = (truth x).bind fun t => if t = true then .ok true else f.bind truth
    cases q : truth x with
    | ok t =>
      cases t
      · rfl
      · show truth x = _
        rw [q]; rfl
    | ex c d => rfl
    | bad => rfl
  | ex c d => rfl
  | bad => rfl
theorem truth_not {a : R D} : ((a.bind fun x => (truth x).bind fun b => .ok (D.bl (!b))).bind truth) = (a.bind truth).bind fun b => .ok (!b) := by
  cases a with
  | ok x =>
    show (((truth x).bind fun b => R.ok (D.bl (!b))).bind truth) = (truth x).bind fun b => .ok (!b)
    cases q : truth x <;> rfl
  | ex c d => rfl
  | bad => rfl
/-- the last operand of and, or: as it stands -/
structure AlW (X : Cx) (cs : List (Addr × Addr)) (Wx : WX) (M : Md) (e : E) (x : Expr) : Prop extends Al X cs Wx M e x where
  dw : tst e = true → DW X cs Wx x (fun ρ => (ev M e ρ).bind truth)
section
variable {X : Cx} {cs : List (Addr × Addr)} {Wx : WX} {pos : Pos} {M : Md}
theorem nbw {e : E} (h : ∀ i, e ≠ .var i) : ∀ ρ r, bw ρ e r = r := fun ρ r => by
  cases e <;> first | rfl | exact absurd rfl (h _)
theorem al_and {a b : E} {x y : Expr} {r : List Expr} (ha : Al X cs Wx M a x) (hb0 : DE X cs Wx false (.BoolOp .And (y :: r) pos) (ev M b)) (hbw : tst b = true → DW X cs Wx (.BoolOp .And (y :: r) pos) (fun ρ => (ev M b ρ).bind truth)) :
    Al X cs Wx M (.and a b) (.BoolOp .And (x :: y :: r) pos) ∧ (tst (.and a b) = true → DW X cs Wx (.BoolOp .And (x :: y :: r) pos) (fun ρ => (ev M (.and a b) ρ).bind truth)) := by
  have d := de_and ha.d0 hb0
  have w : tst (.and a b) = true → DW X cs Wx (.BoolOp .And (x :: y :: r) pos) (fun ρ => (ev M (.and a b) ρ).bind truth) := fun t => by
    obtain ⟨t1, t2⟩ := ba (show (tst a && tst b) = true from t)
    have e : (fun ρ => (ev M (.and a b) ρ).bind truth) = (fun ρ => ((ev M a ρ).bind truth).bind fun t => if t = true then (ev M b ρ).bind truth else .ok false) := funext fun ρ => truth_and
    rw [e]
    exact dw_and (ha.dt t1) (hbw t2)
  refine ⟨⟨d, (fun z => nomatch z), ?_, fun t => (w t).pt⟩, w⟩
  have : (fun ρ => bw ρ (.and a b) (ev M (.and a b) ρ)) = ev M (.and a b) := rfl
  exact db_of d
theorem al_or {a b : E} {x y : Expr} {r : List Expr} (ha : Al X cs Wx M a x) (hb0 : DE X cs Wx false (.BoolOp .Or (y :: r) pos) (ev M b)) (hbw : tst b = true → DW X cs Wx (.BoolOp .Or (y :: r) pos) (fun ρ => (ev M b ρ).bind truth)) :
    Al X cs Wx M (.or a b) (.BoolOp .Or (x :: y :: r) pos) ∧ (tst (.or a b) = true → DW X cs Wx (.BoolOp .Or (x :: y :: r) pos) (fun ρ => (ev M (.or a b) ρ).bind truth)) := by
  have d := de_or ha.d0 hb0
  have w : tst (.or a b) = true → DW X cs Wx (.BoolOp .Or (x :: y :: r) pos) (fun ρ => (ev M (.or a b) ρ).bind truth) := fun t => by
    obtain ⟨t1, t2⟩ := ba (show (tst a && tst b) = true from t)
    have e : (fun ρ => (ev M (.or a b) ρ).bind truth) = (fun ρ => ((ev M a ρ).bind truth).bind fun t => if t = true then .ok true else (ev M b ρ).bind truth) := funext fun ρ => truth_or
    rw [e]
    exact dw_or (ha.dt t1) (hbw t2)
  exact ⟨⟨d, (fun z => nomatch z), db_of d, fun t => (w t).pt⟩, w⟩
end
end Bk
end
section
set_option autoImplicit false
set_option linter.all false
set_option maxRecDepth 100000
namespace Bk
open PySem L2 RT
structure Am (X : Cx) (cs : List (Addr × Addr)) (Wx : WX) (M : Md) (e : E) (x : Expr) : Prop extends Al X cs Wx M e x where
  dw : isBo x = true → tst e = true → DW X cs Wx x (fun ρ => (ev M e ρ).bind truth)
theorem Al.am {X : Cx} {cs : List (Addr × Addr)} {Wx : WX} {M : Md} {e : E} {x : Expr} (a : Al X cs Wx M e x) (h : isBo x = false) : Am X cs Wx M e x := ⟨a, fun z => by rw [h] at z; cases z⟩
theorem tC_rep {X : Cx} {cs : List (Addr × Addr)} {Wx : WX} {M : Md} {d : D} {x : Expr} (h : mCst d x = true) : Am X cs Wx M (.cst d) x := by
  have go : ∀ {v : V}, PE X x (tC v) → (∀ Z H, rep X.K X.mg Z H d v) → (∀ l, d ≠ .lst l) → (∀ whole, isTrue x X.env whole = (do let v ← whole; standAt x.pos; holding [v] (truthy v))) → isBo x = false → Am X cs Wx M (.cst d) x := fun hp hr hn he hi =>
    (al_of (fun fr => de_cst hp hr hn) (fun _ _ => rfl) he).am hi
  cases x <;> first | (cases d <;> (cases h; done)) | skip
  rename_i c k p
  cases d <;> cases c <;> first | (cases h; done) | skip
  · exact go pe_non (fun _ _ => rfl) (fun _ => by simp) (fun _ => rfl) rfl
  · rename_i a b
    obtain rfl : a = b := eq_of_beq h
    exact go pe_bl (fun _ _ => rfl) (fun _ => by simp) (fun _ => rfl) rfl
  · rename_i a b
    obtain rfl : a = b := of_decide_eq_true h
    exact go pe_int (fun _ _ => rfl) (fun _ => by simp) (fun _ => rfl) rfl
  · rename_i a b
    obtain rfl : a = b := of_decide_eq_true h
    exact go pe_str (fun _ _ => rfl) (fun _ => by simp) (fun _ => rfl) rfl
section
variable {cs : List (Addr × Addr)} {j : Nat} {M : Md} {nm gn N : List Str}
theorem fns_some {k : Nat} {x : Str} {X : Cx} {sc : Scope} {af : Str → Bool} (o : Ok X cs j M nm gn N sc af) (h : atB nm k x = true) {f : Fn} (hf : M.fns[k]? = some f) : FnF X.prog X.w X.K X.mg X.base cs j x f := o.good.fns k x f (atB_ok h) hf
theorem de_callM {X : Cx} {Wx : WX} {sc : Scope} {af : Str → Bool} (o : Ok X cs j M nm gn N sc af) (tk : Takes X Wx) {k : Nat} {x : Str} (h : atB nm k x = true) {p pos : Pos} (hg : Gl X x) (hd : (x == ("__debug__" : Str)) = false) {e : Expr} {es : List Expr} {fs : En → R (List D)} (hl : DL X cs Wx (e :: es) fs) (ns : noStars (e :: es) = true) :
    DE X cs Wx false (.Call (.Name x p) (e :: es) [] pos) (fun ρ => (fs ρ).bind fun ds => (ofO M.fns[k]?).bind fun f => f ds) := by
  cases q : M.fns[k]? with
  | some f => exact de_call (fns_some o h q) o.good.room tk hg hd hl ns
  | none =>
    exfalso
    have h1 := List.getElem?_eq_none_iff.mp q
    have h2 := (List.getElem?_eq_some_iff.mp (atB_ok h)).1
    have := o.fl
    omega
theorem de_glb {X : Cx} {Wx : WX} {sc : Scope} {af : Str → Bool} (o : Ok X cs j M nm gn N sc af) {k : Nat} {x : Str} (h : atB gn k x = true) {p : Pos} (hg : Gl X x) (hd : (x == ("__debug__" : Str)) = false) :
    DE X cs Wx false (.Name x p) (fun _ => ofO M.gls[k]?) := by
  cases q : M.gls[k]? with
  | none => exact ⟨fun pins s σ H Q I h0 => by obtain ⟨A, C, ρ, k', re, p⟩ := h0; exact p.elim⟩
  | some d =>
    obtain ⟨u, v, h1, h2, h3⟩ := o.good.gls k x d (atB_ok h) q
    exact pe_imp (pe_glob hg h1 h2 hd) fun σ H Q ⟨A, C, ρ, k, r, p⟩ => p H v Ext.refl ⟨h3 _ _, fun z => nomatch z⟩
theorem pts_imp {X : Cx} {es : List Expr} {t t' : TT} (h : PTs X es t) (k : ∀ σ H Q, t' σ H Q → t σ H Q) : PTs X es t' := ⟨fun pins s σ H Q I q => h.run pins s σ H Q I (k _ _ _ q)⟩
mutual
theorem mE_ok : ∀ (e : E) (sc : Scope) (af : Str → Bool) (x : Expr), mE nm gn N e sc af x = true → ∀ (X : Cx) (Wx : WX), Ok X cs j M nm gn N sc af → Takes X Wx → Am X cs Wx M e x
  | .var i, sc, af, x, h, X, Wx, o, tk => by
    cases x <;> first | (cases h; done) | skip
    rename_i x p
    obtain ⟨h1, h2⟩ := ba h
    obtain ⟨h1, h3⟩ := ba h1
    have hN := o.at h1
    have hv := o.vis h3
    obtain ⟨hd, hc⟩ := odd_ok h2
    have d : DE X cs Wx false (.Name x p) (fun ρ => get ρ i) := de_var hN hv hd hc
    exact Al.am ⟨d, (fun z => nomatch z), db_var hN hv hd hc, fun _ => dt_of d fun _ => rfl⟩ rfl
  | .cst d, sc, af, x, h, X, Wx, o, tk => tC_rep h
  | .glb k, sc, af, x, h, X, Wx, o, tk => by
    cases x <;> first | (cases h; done) | skip
    obtain ⟨h1, h2⟩ := ba h
    obtain ⟨h1, h3⟩ := ba h1
    obtain ⟨hd, hc⟩ := odd_ok h2
    exact (al_old (de_glb o h1 (o.gl h3) hd) rfl (fun _ _ => rfl) fun _ => rfl).am rfl
  | .bin op a b, sc, af, x, h, X, Wx, o, tk => by
    cases x <;> first | (cases h; done) | skip
    · rename_i x op1 y p
      obtain ⟨h1, h2⟩ := ba h
      obtain ⟨h1, h3⟩ := ba h1
      have ha := mE_ok a sc af _ h3 X Wx o tk
      have hb := mE_ok b sc af _ h2 X Wx o tk
      have d : ∀ fr, DE X cs Wx fr (.BinOp x op1 y p) (ev M (.bin op a b)) := fun fr => de_bin (of_decide_eq_true h1) o.hu ha.db hb.db
      exact (al_of d (fun _ _ => rfl) fun _ => rfl).am rfl
    · rename_i x ops ys p
      cases ops with
      | nil => cases h
      | cons op1 ops =>
        cases ops with
        | cons _ _ => cases h
        | nil =>
          cases ys with
          | nil => cases h
          | cons y ys =>
            cases ys with
            | cons _ _ => cases h
            | nil =>
              obtain ⟨h1, h2⟩ := ba h
              obtain ⟨h1, h3⟩ := ba h1
              obtain ⟨h1, h4⟩ := ba h1
              have ha := mE_ok a sc af _ h3 X Wx o tk
              have hb := mE_ok b sc af _ h2 X Wx o tk
              have ho := of_decide_eq_true h1
              have hm := bn h4
              have d : ∀ fr, DE X cs Wx fr (.Compare x [op1] [y] p) (ev M (.bin op a b)) := fun fr => de_cmp ho o.hu ha.db hb.db hm
              exact Al.am ⟨d false, fun _ => d true, db_of (d false), fun _ => dt_cmp ho o.hu ha.db hb.db hm⟩ rfl
  | .neg a, sc, af, x, h, X, Wx, o, tk => by
    cases x <;> first | (cases h; done) | skip
    rename_i op x p
    cases op <;> first | (cases h; done) | skip
    have ha := mE_ok a sc af _ h X Wx o tk
    exact (al_of (fun fr => de_neg ha.d0) (fun _ _ => rfl) fun _ => rfl).am rfl
  | .not a, sc, af, x, h, X, Wx, o, tk => by
    cases x <;> first | (cases h; done) | skip
    rename_i op x p
    cases op <;> first | (cases h; done) | skip
    have ha := mE_ok a sc af _ h X Wx o tk
    have d : ∀ fr, DE X cs Wx fr (.UnaryOp .Not x p) (ev M (.not a)) := fun fr => de_not ha.d0
    refine Al.am ⟨d false, fun _ => d true, db_of (d false), fun t => ?_⟩ rfl
    have e : (fun ρ => (ev M (.not a) ρ).bind truth) = (fun ρ => ((ev M a ρ).bind truth).bind fun b => .ok (!b)) := funext fun ρ => truth_not
    rw [e]
    exact dt_not (ha.dt t)
  | .and a b, sc, af, x, h, X, Wx, o, tk => by
    cases x <;> first | (cases h; done) | skip
    rename_i op xs p
    cases op <;> first | (cases h; done) | skip
    cases xs with
    | nil => cases h
    | cons x xs =>
      cases xs with
      | nil => cases h
      | cons y ys =>
        cases ys with
        | nil =>
          obtain ⟨h1, h2⟩ := ba h
          have ha := mE_ok a sc af _ h1 X Wx o tk
          have hb := mE_ok b sc af _ h2 X Wx o tk
          obtain ⟨g1, g2⟩ := al_and (pos := p) (r := []) ha.toAl (pe_one hb.d0) fun t => pw_and1 (hb.dt t)
          exact ⟨g1, fun _ => g2⟩
        | cons z r =>
          obtain ⟨h1, h2⟩ := ba h
          have ha := mE_ok a sc af _ h1 X Wx o tk
          have hb := mE_ok b sc af _ h2 X Wx o tk
          obtain ⟨g1, g2⟩ := al_and (pos := p) ha.toAl hb.d0 fun t => hb.dw rfl t
          exact ⟨g1, fun _ => g2⟩
  | .or a b, sc, af, x, h, X, Wx, o, tk => by
    cases x <;> first | (cases h; done) | skip
    rename_i op xs p
    cases op <;> first | (cases h; done) | skip
    cases xs with
    | nil => cases h
    | cons x xs =>
      cases xs with
      | nil => cases h
      | cons y ys =>
        cases ys with
        | nil =>
          obtain ⟨h1, h2⟩ := ba h
          have ha := mE_ok a sc af _ h1 X Wx o tk
          have hb := mE_ok b sc af _ h2 X Wx o tk
          obtain ⟨g1, g2⟩ := al_or (pos := p) (r := []) ha.toAl (pe_one hb.d0) fun t => pw_or1 (hb.dt t)
          exact ⟨g1, fun _ => g2⟩
        | cons z r =>
          obtain ⟨h1, h2⟩ := ba h
          have ha := mE_ok a sc af _ h1 X Wx o tk
          have hb := mE_ok b sc af _ h2 X Wx o tk
          obtain ⟨g1, g2⟩ := al_or (pos := p) ha.toAl hb.d0 fun t => hb.dw rfl t
          exact ⟨g1, fun _ => g2⟩
  | .ite c a b, sc, af, x, h, X, Wx, o, tk => by
    cases x <;> first | (cases h; done) | skip
    rename_i x y z p
    obtain ⟨h1, h4⟩ := ba h
    obtain ⟨h1, h3⟩ := ba h1
    obtain ⟨h1, h2⟩ := ba h1
    have hc := mE_ok c sc af _ h2 X Wx o tk
    have ha := mE_ok a sc af _ h3 X Wx o tk
    have hb := mE_ok b sc af _ h4 X Wx o tk
    have e : ev M (.ite c a b) = fun ρ => ((ev M c ρ).bind truth).bind fun t => if t = true then ev M a ρ else ev M b ρ := funext fun ρ => by
      show (ev M c ρ).bind _ = _
      cases ev M c ρ <;> rfl
    have d0 : DE X cs Wx false (.IfExp x y z p) (ev M (.ite c a b)) := by rw [e]; exact de_ite (hc.dt h1) ha.d0 hb.d0
    exact Al.am ⟨d0, fun z => by
      obtain ⟨z1, z2⟩ := ba (show (fresh a && fresh b) = true from z)
      rw [e]; exact de_ite (hc.dt h1) (ha.d1 z1) (hb.d1 z2), db_of d0, (fun z => nomatch z)⟩ rfl
  | .chn o1 o2 a b c, sc, af, x, h, X, Wx, o, tk => by
    cases x <;> first | (cases h; done) | skip
    rename_i x ops ys p
    cases ops with
    | nil => cases h
    | cons op1 ops =>
      cases ops with
      | nil =>
        cases ys with
        | nil => cases h
        | cons y ys =>
          cases ys <;> cases h
      | cons op2 ops =>
        cases ops with
        | cons _ _ => cases h
        | nil =>
          cases ys with
          | nil => cases h
          | cons y ys =>
            cases ys with
            | nil => cases h
            | cons z ys =>
              cases ys with
              | cons _ _ => cases h
              | nil =>
                obtain ⟨h, h6⟩ := ba h
                obtain ⟨h, h5⟩ := ba h
                obtain ⟨h, h4⟩ := ba h
                obtain ⟨h, h3⟩ := ba h
                obtain ⟨h1, h2⟩ := ba h
                have ha := mE_ok a sc af _ h4 X Wx o tk
                have hb := mE_ok b sc af _ h5 X Wx o tk
                have hc := mE_ok c sc af _ h6 X Wx o tk
                have g1 := of_decide_eq_true h1
                have g2 := of_decide_eq_true h2
                have hm := bn h3
                have d : ∀ fr, DE X cs Wx fr (.Compare x [op1, op2] [y, z] p) (ev M (.chn o1 o2 a b c)) := fun fr => de_chn g1 g2 o.hu ha.db hb.db hc.db hm
                exact Al.am ⟨d false, fun _ => d true, db_of (d false), fun _ => dt_chn g1 g2 o.hu ha.db hb.db hc.db hm⟩ rfl
  | .tup es, sc, af, x, h, X, Wx, o, tk => by
    cases x <;> first | (cases h; done) | skip
    obtain ⟨h1, h2, h3⟩ := mEs_ok es sc af _ h X Wx o tk
    exact (al_of (fun fr => de_tup h1) (fun _ _ => rfl) fun _ => rfl).am rfl
  | .lst es, sc, af, x, h, X, Wx, o, tk => by
    cases x <;> first | (cases h; done) | skip
    obtain ⟨h1, h2, h3⟩ := mEs_ok es sc af _ h X Wx o tk
    exact (al_of (fun fr => de_lst h1) (fun _ _ => rfl) fun _ => rfl).am rfl
  | .idx a i, sc, af, x, h, X, Wx, o, tk => by
    cases x <;> first | (cases h; done) | skip
    rename_i x y p
    have h' : (notSlice y && mE nm gn N a sc af x && mE nm gn N i sc af y) = true := by
      cases y <;> first | exact h | (cases h; done)
    obtain ⟨h, h3⟩ := ba h'
    obtain ⟨h1, h2⟩ := ba h
    have ha := mE_ok a sc af _ h2 X Wx o tk
    have hi := mE_ok i sc af _ h3 X Wx o tk
    exact (al_old (de_idx ha.db hi.d0 h1) rfl (fun _ _ => rfl) fun _ => rfl).am rfl
  | .slc a lo hi, sc, af, x, h, X, Wx, o, tk => by
    cases x <;> first | (cases h; done) | skip
    rename_i x y p
    cases y <;> first | (cases h; done) | skip
    rename_i l u st p2
    cases st <;> first | (cases h; done) | skip
    obtain ⟨h, h3⟩ := ba h
    obtain ⟨h1, h2⟩ := ba h
    have ha := mE_ok a sc af _ h1 X Wx o tk
    have hl := mEo_ok lo sc af _ h2 X Wx o tk
    have hh := mEo_ok hi sc af _ h3 X Wx o tk
    exact (al_of (fun fr => de_slc ha.db hl hh) (fun _ _ => rfl) fun _ => rfl).am rfl
  | .rvs a, sc, af, x, h, X, Wx, o, tk => by
    cases x <;> first | (cases h; done) | skip
    rename_i x y p
    cases y <;> first | (cases h; done) | skip
    rename_i l u st p2
    cases l <;> first | (cases h; done) | skip
    cases u <;> first | (cases h; done) | skip
    cases st <;> first | (cases h; done) | skip
    rename_i st
    cases st <;> first | (cases h; done) | skip
    rename_i op c p3
    cases op <;> first | (cases h; done) | skip
    cases c <;> first | (cases h; done) | skip
    rename_i v kk p4
    cases v <;> first | (cases h; done) | skip
    rename_i n
    have hn : n = 1 := by
      by_cases e : n = 1
      · exact e
      · exfalso
        simp [mE, e] at h
    subst hn
    have ha := mE_ok a sc af x (by exact h) X Wx o tk
    exact (al_of (fun fr => de_rvs ha.db) (fun _ _ => rfl) fun _ => rfl).am rfl
  | .call k es, sc, af, x, h, X, Wx, o, tk => by
    cases x <;> first | (cases h; done) | skip
    rename_i f ys ks p
    cases f <;> first | (cases h; done) | skip
    cases ys with
    | nil => cases h
    | cons y ys =>
      cases ks with
      | cons _ _ => cases h
      | nil =>
        obtain ⟨h, h5⟩ := ba h
        obtain ⟨h, h4⟩ := ba h
        obtain ⟨h, h3⟩ := ba h
        obtain ⟨h1, h2⟩ := ba h
        obtain ⟨g1, g2, g3⟩ := mEs_ok es sc af _ h5 X Wx o tk
        exact (al_old (de_callM o tk h1 (o.gl h2) (odd_ok h3).1 g1 h4) rfl (fun _ _ => rfl) fun _ => rfl).am rfl
  | .cll i es, sc, af, x, h, X, Wx, o, tk => by
    cases x <;> first | (cases h; done) | skip
    rename_i f ys ks p
    cases f <;> first | (cases h; done) | skip
    cases ys with
    | nil => cases h
    | cons y ys =>
      cases ks with
      | cons _ _ => cases h
      | nil =>
        obtain ⟨h, h5⟩ := ba h
        obtain ⟨h, h4⟩ := ba h
        obtain ⟨h, h3⟩ := ba h
        obtain ⟨h1, h2⟩ := ba h
        obtain ⟨g1, g2, g3⟩ := mEs_ok es sc af _ h5 X Wx o tk
        exact (al_old (de_cll o.good tk (o.at h1) (o.vis h2) (odd_ok h3).1 (odd_ok h3).2 g1 h4) rfl (fun _ _ => rfl) fun _ => rfl).am rfl
  | .bi f es, sc, af, x, h, X, Wx, o, tk => by
    cases x <;> first | (cases h; done) | skip
    rename_i g ys ks p
    cases g <;> first | (cases h; done) | skip
    cases ys with
    | nil => cases h
    | cons y ys =>
      cases ks with
      | cons _ _ => cases h
      | nil =>
        obtain ⟨h, h4⟩ := ba h
        obtain ⟨h, h3⟩ := ba h
        obtain ⟨h1, h2⟩ := ba h
        obtain ⟨g1, g2, g3⟩ := mEs_ok es sc af _ h4 X Wx o tk
        exact (al_of (fun fr => de_bi o.good f (of_decide_eq_true h1) (o.gl h2) g2 h3) (fun _ _ => rfl) fun _ => rfl).am rfl
  | .isi a ts, sc, af, x, h, X, Wx, o, tk => by
    cases x <;> first | (cases ts <;> first | (cases h; done) | (rename_i tl; cases tl <;> (cases h; done))) | skip
    rename_i f ys ks p
    have go : ∀ {x : Expr} {es : List Expr} {fx : Str} {p1 p2 : Pos} {kk : Nat}, (decide (fx = ("isinstance" : Str)) && glB sc fx && decide (ts.length ≤ 8) && !ts.isEmpty && tysM ts es && ts.all (fun t => glB sc (tyS t)) && notStar x && mE nm gn N a sc af x) = true → Am X cs Wx M (.isi a ts) (.Call (.Name fx p1) [x, .Tuple es kk p2] [] p) := fun {x es fx p1 p2 kk} h => by
      obtain ⟨h, h8⟩ := ba h
      obtain ⟨h, h7⟩ := ba h
      obtain ⟨h, h6⟩ := ba h
      obtain ⟨h, h5⟩ := ba h
      obtain ⟨h, h4⟩ := ba h
      obtain ⟨h, h3⟩ := ba h
      obtain ⟨h1, h2⟩ := ba h
      obtain rfl := of_decide_eq_true h1
      have ha := mE_ok a sc af _ h8 X Wx o tk
      have hne : ts ≠ [] := fun z => by rw [z] at h4; cases h4
      exact (al_of (fun fr => de_isi o.good.bi ts (of_decide_eq_true h3) hne (o.gl h2) h5 (fun t ht => o.gl (List.all_eq_true.mp h6 t ht)) ha.db h7) (fun _ _ => rfl) fun _ => rfl).am rfl
    have go1 : ∀ {x : Expr} {t : Ty} {fx y : Str} {p1 p2 : Pos}, ts = [t] → (decide (fx = ("isinstance" : Str)) && glB sc fx && decide (y = tyS t) && glB sc y && notStar x && mE nm gn N a sc af x) = true → Am X cs Wx M (.isi a ts) (.Call (.Name fx p1) [x, .Name y p2] [] p) := fun {x t fx y p1 p2} e hh => by
      subst e
      obtain ⟨h, h6⟩ := ba hh
      obtain ⟨h, h5⟩ := ba h
      obtain ⟨h, h4⟩ := ba h
      obtain ⟨h, h3⟩ := ba h
      obtain ⟨h1, h2⟩ := ba h
      obtain rfl := of_decide_eq_true h1
      obtain rfl := of_decide_eq_true h3
      have ha := mE_ok a sc af _ h6 X Wx o tk
      exact (al_of (fun fr => de_isi1 o.good.bi t (o.gl h2) (o.gl h4) ha.db h5) (fun _ _ => rfl) fun _ => rfl).am rfl
    cases f <;> first | (cases ts <;> first | (cases h; done) | (rename_i tl; cases tl <;> (cases h; done))) | skip
    cases ys with
    | nil => cases ts <;> first | (cases h; done) | (rename_i tl; cases tl <;> (cases h; done))
    | cons y ys =>
      cases ys with
      | nil => cases ts <;> first | (cases h; done) | (rename_i tl; cases tl <;> (cases h; done))
      | cons z ys =>
        cases ys with
        | cons _ _ => cases z <;> (cases ts <;> first | (cases h; done) | (rename_i tl; cases tl <;> (cases h; done)))
        | nil =>
          cases ks with
          | cons _ _ => cases z <;> (cases ts <;> first | (cases h; done) | (rename_i tl; cases tl <;> (cases h; done)))
          | nil =>
            cases z <;> first | (cases ts <;> first | (cases h; done) | (rename_i tl; cases tl <;> (cases h; done))) | skip
            · cases ts with
              | nil => cases h
              | cons t tl =>
                cases tl with
                | cons _ _ => cases h
                | nil => exact go1 rfl h
            · cases ts with
              | nil => exact go h
              | cons t tl =>
                cases tl with
                | cons _ _ => exact go h
                | nil => exact go h
  | .lc e t it c, sc, af, x, h, X, Wx, o, tk => by
    cases x <;> first | (cases h; done) | skip
    rename_i x gens scope p
    cases gens with
    | nil => cases h
    | cons g gs =>
      cases gs with
      | cons _ _ => obtain ⟨g1, g2, g3, g4⟩ := g; cases h
      | nil =>
        obtain ⟨tg, ix, ifs, n⟩ := g
        obtain ⟨h, h6⟩ := ba h
        obtain ⟨h, h5⟩ := ba h
        obtain ⟨h, h4⟩ := ba h
        obtain ⟨h, h3⟩ := ba h
        obtain ⟨h, h2⟩ := ba h
        obtain ⟨h0, h1⟩ := ba h
        obtain rfl := of_decide_eq_true h0
        have d : ∀ fr, DE X cs Wx fr (.ListComp x [⟨tg, ix, ifs, 0⟩] scope p) (ev M (.lc e t it c)) := fun fr =>
          de_lc o.good.calm o.good.nd (mIt_ok it sc af ix h4 X Wx o tk true tg) (by rw [o.hN, o.hsc]; exact blkOk_by h2) (nms_snd N (tgSlots t))
            (fun s H C cl fp => mTg_ok (o.blk s H scope cl C fp) h3)
            (fun s H C cl fp => mC_ok c _ _ ifs h5 _ _ (o.blk s H scope cl C fp) takes0)
            (fun s H C cl fp => (mE_ok e _ _ x h6 _ _ (o.blk s H scope cl C fp) takes0).d0) (fold_ok h1)
        exact (al_of d (fun _ _ => rfl) fun _ => rfl).am rfl
  | .allc al e t it, sc, af, x, h, X, Wx, o, tk => by
    cases x <;> first | (cases h; done) | skip
    rename_i f ys ks p
    cases f <;> first | (cases h; done) | skip
    cases ys with
    | nil => cases h
    | cons y ys =>
      cases y <;> first | (cases h; done) | skip
      rename_i elt gens scope gp
      cases gens with
      | nil => cases h
      | cons g gs =>
        obtain ⟨tg, ix, ifs, n⟩ := g
        cases tg <;> first | (cases h; done) | skip
        cases ifs with
        | cons _ _ => cases h
        | nil =>
          cases gs with
          | cons _ _ => cases h
          | nil =>
            cases ys with
            | cons _ _ => cases h
            | nil =>
              cases ks with
              | cons _ _ => cases h
              | nil =>
                obtain ⟨h, h8⟩ := ba h
                obtain ⟨h, h7⟩ := ba h
                obtain ⟨h, h6⟩ := ba h
                obtain ⟨h, h5⟩ := ba h
                obtain ⟨h, h4⟩ := ba h
                obtain ⟨h, h3⟩ := ba h
                obtain ⟨h1, h2⟩ := ba h
                obtain rfl := of_decide_eq_true h1
                have hi := mE_ok it sc af ix h7 X Wx o tk
                have hnm := of_decide_eq_true h2
                cases ac : M.ac with
                | false =>
                  have bad : ∀ ρ, ev M (.allc al e t it) ρ = .bad := fun ρ => by
                    show (if M.ac = false then R.bad else _) = _
                    rw [if_pos ac]
                  refine (al_of (fun fr => ⟨fun pins s σ H Q I h0 => ?_⟩) (fun _ _ => rfl) fun _ => rfl).am rfl
                  obtain ⟨A, C, ρ, k, re, pp⟩ := h0
                  rw [bad ρ] at pp
                  exact pp.elim
                | true =>
                  obtain ⟨j0, c, Pt, g1, g2, g3, g4, g5, g6⟩ := o.gen ac
                  have e2 : ev M (.allc al e t it) = fun ρ => (bw ρ it (ev M it ρ)).bind fun x => (gd (plainD x) ()).bind fun _ => (ofO (seqOf x)).bind fun ds =>
                      (boolsR (fun d => ((ev { M with fns := M.qfn } e ((mask ρ).set t (.sh d))).bind asBl).calm) ds).bind fun bs => .ok (.bl (if al = true then bs.all id else bs.any id)) := funext fun ρ => by
                    show (if M.ac = false then R.bad else _) = _
                    rw [if_neg (by rw [ac]; simp)]
                  refine (al_of (fun fr => ?_) (fun _ _ => rfl) fun _ => rfl).am rfl
                  rw [e2]
                  exact de_gen o.good.calm o.good.nd (o.good.room.mono g1) o.good.bi g2 g4 g3 al (by rw [hnm]; cases al <;> rfl) (o.gl h3) (genSB_ok h5) (by rw [o.hN, o.hsc]; exact blkOk_by h6) hi.db
                      (fun hm => by rw [o.hN]; exact (mQ_ok (M := { M with fns := M.qfn }) hm o.good.bi g5 g6 e scope elt h8).q0) h4
theorem mEs_ok : ∀ (es : Es) (sc : Scope) (af : Str → Bool) (xs : List Expr), mEs nm gn N es sc af xs = true → ∀ (X : Cx) (Wx : WX), Ok X cs j M nm gn N sc af → Takes X Wx → DL X cs Wx xs (evs M es) ∧ DBs X cs Wx xs (evsB M es) ∧ noStars xs = true
  | .nil, sc, af, xs, h, X, Wx, o, tk => by
    cases xs with
    | nil => exact ⟨dl_nil, dbs_nil, rfl⟩
    | cons _ _ => cases h
  | .cons e es, sc, af, xs, h, X, Wx, o, tk => by
    cases xs with
    | nil => cases h
    | cons x xs =>
      obtain ⟨h, h3⟩ := ba h
      obtain ⟨h1, h2⟩ := ba h
      have a := mE_ok e sc af _ h2 X Wx o tk
      obtain ⟨b1, b2, b3⟩ := mEs_ok es sc af _ h3 X Wx o tk
      exact ⟨dl_cons a.d0 b1 h1, dbs_cons a.db b2 h1, by show (notStar x && noStars xs) = true; rw [h1, b3]; rfl⟩
theorem mEo_ok : ∀ (eo : Eo) (sc : Scope) (af : Str → Bool) (x : Option Expr), mEo nm gn N eo sc af x = true → ∀ (X : Cx) (Wx : WX), Ok X cs j M nm gn N sc af → Takes X Wx → PO X x (tO X cs Wx (evo M eo))
  | .no, sc, af, x, h, X, Wx, o, tk => by
    cases x with
    | none => exact do_no
    | some _ => cases h
  | .so e, sc, af, x, h, X, Wx, o, tk => by
    cases x with
    | none => cases h
    | some x => exact do_so (mE_ok e sc af _ h X Wx o tk).d0
theorem mC_ok : ∀ (eo : Eo) (sc : Scope) (af : Str → Bool) (xs : List Expr), mC nm gn N eo sc af xs = true → ∀ (X : Cx) (Wx : WX), Ok X cs j M nm gn N sc af → Takes X Wx → PTs X xs (tT X cs Wx (evC M eo))
  | .no, sc, af, xs, h, X, Wx, o, tk => by
    cases xs with
    | nil => exact pts_imp pts_nil fun σ H Q ⟨A, C, ρ, k, r, p⟩ => p H Ext.refl
    | cons _ _ => cases h
  | .so e, sc, af, xs, h, X, Wx, o, tk => by
    cases xs with
    | nil => cases h
    | cons x xs =>
      cases xs with
      | cons _ _ => cases h
      | nil =>
        obtain ⟨h1, h2⟩ := ba h
        exact pts_one ((mE_ok e sc af x h2 X Wx o tk).dt h1)
theorem mIt_ok : ∀ (it : It) (sc : Scope) (af : Str → Bool) (x : Expr), mIt nm gn N it sc af x = true → ∀ (X : Cx) (Wx : WX), Ok X cs j M nm gn N sc af → Takes X Wx → ∀ (b : Bool) (tg : Expr), DI X cs Wx b tg x (evIt M b it)
  | .seq e, sc, af, x, h, X, Wx, o, tk => fun b tg => by
    exact di_seq ((mE_ok e sc af _ h X Wx o tk).df b)
  | .rng e, sc, af, x, h, X, Wx, o, tk => fun b tg => by
    cases x <;> first | (cases h; done) | skip
    rename_i f ys ks p
    cases f <;> first | (cases h; done) | skip
    cases ys with
    | nil => cases h
    | cons y ys =>
      cases ys with
      | cons _ _ => cases h
      | nil =>
        cases ks with
        | cons _ _ => cases h
        | nil =>
          obtain ⟨h, h4⟩ := ba h
          obtain ⟨h, h3⟩ := ba h
          obtain ⟨h1, h2⟩ := ba h
          obtain rfl := of_decide_eq_true h1
          exact di_rng o.good.bi (o.gl h2) (mE_ok e sc af _ h4 X Wx o tk).d0 h3
  | .rng2 a c, sc, af, x, h, X, Wx, o, tk => fun b tg => by
    cases x <;> first | (cases h; done) | skip
    rename_i f ys ks p
    cases f <;> first | (cases h; done) | skip
    cases ys with
    | nil => cases h
    | cons y ys =>
      cases ys with
      | nil => cases h
      | cons z ys =>
        cases ys with
        | cons _ _ => cases h
        | nil =>
          cases ks with
          | cons _ _ => cases h
          | nil =>
            obtain ⟨h, h6⟩ := ba h
            obtain ⟨h, h5⟩ := ba h
            obtain ⟨h, h4⟩ := ba h
            obtain ⟨h, h3⟩ := ba h
            obtain ⟨h1, h2⟩ := ba h
            obtain rfl := of_decide_eq_true h1
            exact di_rng2 o.good.bi (o.gl h2) (mE_ok a sc af _ h5 X Wx o tk).d0 (mE_ok c sc af _ h6 X Wx o tk).d0 h3 h4
  | .rev e, sc, af, x, h, X, Wx, o, tk => fun b tg => by
    cases x <;> first | (cases h; done) | skip
    rename_i f ys ks p
    cases f <;> first | (cases h; done) | skip
    cases ys with
    | nil => cases h
    | cons y ys =>
      cases ys with
      | cons _ _ => cases h
      | nil =>
        cases ks with
        | cons _ _ => cases h
        | nil =>
          obtain ⟨h, h4⟩ := ba h
          obtain ⟨h, h3⟩ := ba h
          obtain ⟨h1, h2⟩ := ba h
          obtain rfl := of_decide_eq_true h1
          exact di_rev o.good.bi (o.gl h2) ((mE_ok e sc af _ h4 X Wx o tk).df b) h3
  | .enum e, sc, af, x, h, X, Wx, o, tk => by
    cases x <;> (cases h; done)
  | .zip a b, sc, af, x, h, X, Wx, o, tk => by
    cases x <;> (cases h; done)
end
end
end Bk
end
section
set_option autoImplicit false
set_option linter.all false
set_option maxRecDepth 100000
/-! Statements: the matcher, and what it says. -/
namespace Bk
open PySem L2 RT
def notTup : Expr → Bool
  | .Tuple .. => false
  | _ => true
def isLc : E → Bool
  | .lc .. => true
  | _ => false
def ipB : BO → Operator → Bool
  | .add, .Add => true
  | .sub, .Sub => true
  | _, _ => false
/-- except c as n: return n.at == y -/
def mHd (N er : List Str) (c : Str) (i : Nat) : Hd → Scope → List ExceptHandler → Bool
  | .retEq s, sc, [.ExceptHandler (some (.Name x _)) (some n) [.Return (some (.Compare (.Attribute (.Name n2 _) at_ _) [.Eq] [.Name y _] _)) _] _] =>
      decide (x = c) && glB sc x && odd x && decide (c ∈ er) && decide (n2 = n) && decide (at_ = ("at" : Str)) && atB N i n && locB sc n && odd n && atB N s y && visB sc y && odd y && decide (i ≠ s)
  | _, _, _ => false
theorem mHd_eq {N er : List Str} {c : Str} {i : Nat} {h : Hd} {sc : Scope} {hs : List ExceptHandler} (q : mHd N er c i h sc hs = true) : ∃ (s : Nat) (n y : Str) (np p1 p2 p3 p4 p5 p6 : Pos), h = .retEq s ∧ hs = [.ExceptHandler (some (.Name c np)) (some n) [.Return (some (.Compare (.Attribute (.Name n p1) "at" p2) [.Eq] [.Name y p3] p4)) p5] p6] ∧
    (glB sc c = true ∧ odd c = true ∧ c ∈ er ∧ atB N i n = true ∧ locB sc n = true ∧ odd n = true ∧ atB N s y = true ∧ visB sc y = true ∧ odd y = true ∧ i ≠ s) := by
  unfold mHd at q
  split at q
  · obtain ⟨q, h13⟩ := ba q
    obtain ⟨q, h12⟩ := ba q
    obtain ⟨q, h11⟩ := ba q
    obtain ⟨q, h10⟩ := ba q
    obtain ⟨q, h9⟩ := ba q
    obtain ⟨q, h8⟩ := ba q
    obtain ⟨q, h7⟩ := ba q
    obtain ⟨q, h6⟩ := ba q
    obtain ⟨q, h5⟩ := ba q
    obtain ⟨q, h4⟩ := ba q
    obtain ⟨q, h3⟩ := ba q
    obtain ⟨h1, h2⟩ := ba q
    obtain rfl := of_decide_eq_true h1
    obtain rfl := of_decide_eq_true h5
    obtain rfl := of_decide_eq_true h6
    exact ⟨_, _, _, _, _, _, _, _, _, _, rfl, rfl, h2, h3, of_decide_eq_true h4, h7, h8, h9, h10, h11, h12, of_decide_eq_true h13⟩
  · cases q
section
variable (nm gn N er : List Str)
mutual
def mS : S → Scope → (Str → Bool) → Stmt → Bool
  | .asg i e g, sc, af, .Assign [.Name x _] ex _ => kindB sc && (noComp ex || isLc e) && atB N i x && stB sc af x && mE nm gn N e sc af ex
  | .asgT is e g, sc, af, .Assign [.Tuple es _ _] ex _ => notTup ex && mTgs N sc af is es && mE nm gn N e sc af ex
  | .asg2 i j a b g, sc, af, .Assign [.Tuple [.Name x px, .Name y py] _ _] (.Tuple [ea, eb] _ _) _ =>
      kindB sc && atB N i x && atB N j y && decide (i ≠ j) && locB sc x && locB sc y && decide (x ≠ y) && decide (px.line = py.line) && !([ea, eb].all (foldedForSure 8)) && !([ea, eb].all (constantsAlone 8)) && notStar ea && notStar eb &&
      mE nm gn N a sc af ea && mE nm gn N b sc af eb
  | .set i k e g, sc, af, .Assign [.Subscript (.Name x _) kx _] ex _ => atB N i x && visB sc x && odd x && notSlice kx && mE nm gn N k sc af kx && mE nm gn N e sc af ex
  | .aug i o e, sc, af, .AugAssign (.Name x _) op ex _ => atB N i x && stB sc af x && ipB o op && mE nm gn N e sc af ex
  | .app i e g, sc, af, .Expr (.Call (.Attribute (.Name x _) m p2) [ex] [] p3) _ => decide (m = ("append" : Str)) && atB N i x && visB sc x && odd x && notStar ex && (p2.endLine == p3.line) && mE nm gn N e sc af ex
  | .rvs i, sc, af, .Expr (.Call (.Attribute (.Name x _) m p2) [] [] p3) _ => decide (m = ("reverse" : Str)) && atB N i x && visB sc x && odd x && (p2.endLine == p3.line)
  | .expr e, sc, af, .Expr ex _ => noComp ex && mE nm gn N e sc af ex
  | .ite c a b, sc, af, .If cx as bs _ => tst c && mE nm gn N c sc af cx && mSs a sc af as && mSs b sc af bs
  | .for_ t it b g, sc, af, .For tg ix body [] _ => notSet ix && mTg N sc af t tg && mIt nm gn N it sc af ix && mSs b sc af body
  | .whl n c b, sc, af, .While cx body [] _ => tst c && mE nm gn N c sc af cx && mSs b sc af body
  | .ret e, sc, af, .Return (some ex) _ => mE nm gn N e sc af ex
  | .ret (.cst .non), sc, af, .Return none _ => true
  | .raise c (.cons a .nil), sc, af, .Raise (some (.Call (.Name x _) [ax] [] _)) none _ => decide (x = c) && glB sc x && odd x && decide (c ∈ er) && notStar ax && mE nm gn N a sc af ax
  | .try_ b c i h, sc, af, .Try body hs [] [] _ => mHd N er c i h sc hs && mSs b sc af body
  | .pass, _, _, .Pass _ => true
  | .brk, _, _, .Break _ => true
  | .cnt, _, _, .Continue _ => true
  | _, _, _, _ => false
def mSs : Ss → Scope → (Str → Bool) → List Stmt → Bool
  | .nil, _, _, [] => true
  | .cons s ss, sc, af, x :: xs => mS s sc af x && mSs ss sc af xs
  | _, _, _, _ => false
end
end
/-- the errors' classes -/
def Ers (P : Program) (K : PySem.W.Frag) (mg : Str → Option Value) (er : List Str) : Prop := ∀ c ∈ er, ∃ C fI, Er.Txt P K mg c C fI
structure OkS (X : Cx) (cs : List (Addr × Addr)) (j : Nat) (M : Md) (nm gn N er : List Str) (sc : Scope) (af : Str → Bool) : Prop extends Ok X cs j M nm gn N sc af where
  stk : X.stack = X.env :: X.outer
  fr : X.env.frame = some X.env.locals
  own : PassesOwn (model X.prog X.w) X.A X.env X.xe
  ers : Ers X.prog X.K X.mg er
section
variable {X : Cx} {cs : List (Addr × Addr)} {Wx : WX} {pos : Pos} {j : Nat} {M : Md} {nm gn N er : List Str} {sc : Scope} {af : Str → Bool}
theorem OkS.tr (o : OkS X cs j M nm gn N er sc af) (pn : List (Addr × Obj)) (xe : Value → Shared → Prop) (h : PassesOwn (model X.prog X.w) X.A X.env xe) : OkS (X.tr pn xe) cs j M nm gn N er sc af :=
  ⟨o.toOk.tr pn xe, o.stk, o.fr, h, o.ers⟩
theorem sw_lc {elt : Expr} {gens : List Comprehension} {scope : Scope} {p px : Pos} {x : Str} {ln : Nat} (hk : X.env.scope.kind = .function) :
    swapsWith (.ListComp elt gens scope p) (some (.Name x px)) ln X.env = pure (X.env.kindOf x == some .local && px.line == p.line && !(scope.names.any fun (n, k) => n == x && (k == .local || k == .cell))) := by
  have e : X.env.blockKind = .function := by
    unfold Env.blockKind
    rw [hk]; rfl
  show (pure _ : Sem Bool) = _
  rw [e]
  rfl
theorem ds_lcM (o : OkS X cs j M nm gn N er sc af) (tk : Takes X Wx) {i : Nat} {x : Str} {px : Pos} {e : E} {t : Tg} {it : It} {c : Eo} {ex : Expr} {g : List Nat} (hk : kindB sc = true) (h1 : atB N i x = true) (hn2 : ¬ noComp ex = true) (h3 : mE nm gn N (.lc e t it c) sc af ex = true)
    (plain : swapsWith ex (some (.Name x px)) pos.line X.env = pure false → DS X cs Wx (.Assign [.Name x px] ex pos) (run M (.asg i (.lc e t it c) g))) :
    DS X cs Wx (.Assign [.Name x px] ex pos) (run M (.asg i (.lc e t it c) g)) := by
  cases ex <;> first | exact absurd rfl hn2 | (cases h3; done) | skip
  rename_i x1 gens scope p
  have hkX : X.env.scope.kind = .function := by rw [o.hsc]; exact kindB_ok hk
  have sw := sw_lc (X := X) (elt := x1) (gens := gens) (scope := scope) (p := p) (px := px) (x := x) (ln := pos.line) hkX
  cases hb : (X.env.kindOf x == some .local && px.line == p.line && !(scope.names.any fun (n, k) => n == x && (k == .local || k == .cell))) with
  | false => exact plain (by rw [sw, hb])
  | true =>
    have hx : X.env.scope.names.lookup x = some .local := by
      obtain ⟨h4, _⟩ := ba hb
      obtain ⟨h4, _⟩ := ba h4
      exact eq_of_beq h4
    rw [hb] at sw
    have e6 : ∃ tg ix ifs, gens = [⟨tg, ix, ifs, 0⟩] := by
      cases gens with
      | nil => cases h3
      | cons g gs =>
        obtain ⟨tg, ix, ifs, n⟩ := g
        cases gs with
        | cons _ _ => cases h3
        | nil =>
          have h4 := h3
          obtain ⟨h4, _⟩ := ba h4
          obtain ⟨h4, _⟩ := ba h4
          obtain ⟨h4, _⟩ := ba h4
          obtain ⟨h4, _⟩ := ba h4
          obtain ⟨h4, _⟩ := ba h4
          obtain ⟨h4, _⟩ := ba h4
          obtain rfl := of_decide_eq_true h4
          exact ⟨tg, ix, ifs, rfl⟩
    obtain ⟨tg, ix, ifs, rfl⟩ := e6
    obtain ⟨h, g6⟩ := ba h3
    obtain ⟨h, g5⟩ := ba h
    obtain ⟨h, g4⟩ := ba h
    obtain ⟨h, g3⟩ := ba h
    obtain ⟨h, g2⟩ := ba h
    obtain ⟨_, g1⟩ := ba h
    exact ds_asgLc o.good.calm o.good.nd (o.at h1) hx g sw (mIt_ok it sc af ix g4 X Wx o.toOk tk true tg) (by rw [o.hN, o.hsc]; exact blkOk_by g2) (nms_snd N (tgSlots t))
      (fun s H C cl fp => mTg_ok (o.toOk.blk s H scope cl C fp) g3)
      (fun s H C cl fp => mC_ok c _ _ ifs g5 _ _ (o.toOk.blk s H scope cl C fp) takes0)
      (fun s H C cl fp => (mE_ok e _ _ x1 g6 _ _ (o.toOk.blk s H scope cl C fp) takes0).d0) (fold_ok g1)
theorem ds_asgM (o : OkS X cs j M nm gn N er sc af) (tk : Takes X Wx) {i : Nat} {x : Str} {px : Pos} {e : E} {ex : Expr} {g : List Nat} (h : (kindB sc && (noComp ex || isLc e) && atB N i x && stB sc af x && mE nm gn N e sc af ex) = true) :
    DS X cs Wx (.Assign [.Name x px] ex pos) (run M (.asg i e g)) := by
  obtain ⟨h, h3⟩ := ba h
  obtain ⟨h, h2⟩ := ba h
  obtain ⟨h, h1⟩ := ba h
  obtain ⟨hk, hn⟩ := ba h
  have a := mE_ok e sc af ex h3 X Wx o.toOk tk
  have d : DE X cs Wx (fresh e) ex (ev M e) := by
    cases q : fresh e with
    | true => exact a.d1 q
    | false => exact a.d0
  obtain ⟨st1, st2⟩ := o.st h2
  have plain : swapsWith ex (some (.Name x px)) pos.line X.env = pure false → DS X cs Wx (.Assign [.Name x px] ex pos) (run M (.asg i e g)) := fun hs => ds_asg o.good.nd (o.at h1) st1 st2 g d hs
  by_cases hn2 : noComp ex = true
  · exact plain (sw_no hn2)
  · have hl : isLc e = true := by
      rw [Bool.or_eq_true] at hn
      exact hn.resolve_left hn2
    cases e with
    | lc e t it c => exact ds_lcM o tk hk h1 hn2 h3 plain
    | _ => cases hl
theorem ds_asg2M (o : OkS X cs j M nm gn N er sc af) (tk : Takes X Wx) {i k : Nat} {x y : Str} {px py p1 p2 : Pos} {k1 k2 : Nat} {a b : E} {ea eb : Expr} {g : List Nat}
    (h : (kindB sc && atB N i x && atB N k y && decide (i ≠ k) && locB sc x && locB sc y && decide (x ≠ y) && decide (px.line = py.line) && !([ea, eb].all (foldedForSure 8)) && !([ea, eb].all (constantsAlone 8)) && notStar ea && notStar eb && mE nm gn N a sc af ea && mE nm gn N b sc af eb) = true) :
    DS X cs Wx (.Assign [.Tuple [.Name x px, .Name y py] k1 p1] (.Tuple [ea, eb] k2 p2) pos) (run M (.asg2 i k a b g)) := by
  obtain ⟨h, h14⟩ := ba h
  obtain ⟨h, h13⟩ := ba h
  obtain ⟨h, h12⟩ := ba h
  obtain ⟨h, h11⟩ := ba h
  obtain ⟨h, h10⟩ := ba h
  obtain ⟨h, h9⟩ := ba h
  obtain ⟨h, h8⟩ := ba h
  obtain ⟨h, h7⟩ := ba h
  obtain ⟨h, h6⟩ := ba h
  obtain ⟨h, h5⟩ := ba h
  obtain ⟨h, h4⟩ := ba h
  obtain ⟨h, h3⟩ := ba h
  obtain ⟨h1, h2⟩ := ba h
  have hx : X.env.scope.names.lookup x = some .local := by rw [o.hsc]; exact locB_ok h5
  have hy : X.env.scope.names.lookup y = some .local := by rw [o.hsc]; exact locB_ok h6
  have hkX : X.env.scope.kind = .function := by rw [o.hsc]; exact kindB_ok h1
  have hxy : x ≠ y := of_decide_eq_true h7
  have hl : px.line = py.line := of_decide_eq_true h8
  refine ds_asg2 o.good.calm o.good.nd g (o.at h2) (o.at h3) (of_decide_eq_true h4) hx hy (mE_ok a sc af _ h13 X Wx o.toOk tk).d0 (mE_ok b sc af _ h14 X Wx o.toOk tk).d0 h11 h12 ?_
  have eb1 : X.env.blockKind = .function := by
    unfold Env.blockKind
    rw [hkX]; rfl
  have kx : X.env.kindOf x = some .local := hx
  have ky : X.env.kindOf y = some .local := hy
  have s1 : ([ea, eb].any fun | .Starred .. => true | _ => false) = false := by
    cases ea <;> first | (cases h11; done) | (cases eb <;> first | (cases h12; done) | rfl)
  have n9 := bn h9
  have n10 := bn h10
  have hed : ([x, y] : List Str).eraseDups.length = 2 := by
    have : (y == x) = false := by simpa using hxy.symm
    simp [List.eraseDups, List.eraseDupsBy, List.eraseDupsBy.loop, this]
  unfold swappedStores
  have e1 : (([Expr.Name x px, Expr.Name y py] : List Expr).filterMap fun
    | .Name id pos => if X.env.kindOf id == some .local && pos.line == ((([Expr.Name x px, Expr.Name y py] : List Expr).head?.map (·.pos.line)).getD 0) then some id else none
    | _ => none) = [x, y] := by
    simp [kx, ky, hl, Expr.pos]
  simp only [eb1]
  refine (if_neg (fun z => by cases z)).trans ((if_neg (fun z => absurd (s1.symm.trans z) Bool.false_ne_true)).trans ((if_neg (fun z => ?_)).trans ((if_neg (fun z => ?_)).trans ((if_neg (fun z => ?_)).trans ?_))))
  · simp [kx, ky, hl, Expr.pos, hed] at z
  · exact absurd (n9.symm.trans z) Bool.false_ne_true
  · exact absurd (n10.symm.trans z) Bool.false_ne_true
  · simp [kx, ky, hl, Expr.pos]
end
section
variable {cs : List (Addr × Addr)} {j : Nat} {M : Md} {nm gn N er : List Str}
mutual
theorem mS_ok : ∀ (s : S) (sc : Scope) (af : Str → Bool) (x : Stmt), mS nm gn N er s sc af x = true → ∀ (X : Cx) (Wx : WX), OkS X cs j M nm gn N er sc af → Takes X Wx → DS X cs Wx x (run M s)
  | .asg i e g, sc, af, x, h, X, Wx, o, tk => by
    cases x <;> first | (cases h; done) | skip
    rename_i ts ex p
    cases ts with
    | nil => cases h
    | cons t ts =>
      cases ts with
      | cons _ _ => cases t <;> (cases h; done)
      | nil =>
        cases t <;> first | (cases h; done) | skip
        exact ds_asgM o tk h
  | .asgT is e g, sc, af, x, h, X, Wx, o, tk => by
    cases x <;> first | (cases h; done) | skip
    rename_i ts ex p
    cases ts with
    | nil => cases h
    | cons t ts =>
      cases ts with
      | cons _ _ => cases t <;> (cases h; done)
      | nil =>
        cases t <;> first | (cases h; done) | skip
        obtain ⟨h, h3⟩ := ba h
        obtain ⟨h1, h2⟩ := ba h
        exact ds_asgT o.good.calm o.good.nd (mTgs_ok o.toOk is _ h2) g (mE_ok e sc af _ h3 X Wx o.toOk tk).d0 fun vs k p z => by rw [z] at h1; cases h1
  | .asg2 i k a b g, sc, af, x, h, X, Wx, o, tk => by
    cases x <;> first | (cases h; done) | skip
    rename_i ts ex p
    cases ts with
    | nil => cases h
    | cons t ts =>
      cases ts with
      | cons _ _ => cases t <;> first | (cases h; done) | (rename_i es _ _; cases es with
          | nil => cases h
          | cons e1 es => cases e1 <;> first | (cases h; done) | (cases es with
            | nil => cases h
            | cons e2 es => cases e2 <;> first | (cases h; done) | (cases es <;> (cases h; done))))
      | nil =>
        cases t <;> first | (cases h; done) | skip
        rename_i es k1 p1
        cases es with
        | nil => cases h
        | cons e1 es =>
          cases e1 <;> first | (cases h; done) | skip
          cases es with
          | nil => cases h
          | cons e2 es =>
            cases e2 <;> first | (cases h; done) | skip
            cases es with
            | cons _ _ => cases h
            | nil =>
              cases ex <;> first | (cases h; done) | skip
              rename_i vs k2 p2
              cases vs with
              | nil => cases h
              | cons v1 vs =>
                cases vs with
                | nil => cases h
                | cons v2 vs =>
                  cases vs with
                  | cons _ _ => cases h
                  | nil => exact ds_asg2M o tk h
  | .set i k e g, sc, af, x, h, X, Wx, o, tk => by
    cases x <;> first | (cases h; done) | skip
    rename_i ts ex p
    cases ts with
    | nil => cases h
    | cons t ts =>
      cases ts with
      | cons _ _ => cases t <;> first | (cases h; done) | (rename_i o1 _ _; cases o1 <;> (cases h; done))
      | nil =>
        cases t <;> first | (cases h; done) | skip
        rename_i t1 kx p2
        cases t1 <;> first | (cases h; done) | skip
        obtain ⟨h, h6⟩ := ba h
        obtain ⟨h, h5⟩ := ba h
        obtain ⟨h, h4⟩ := ba h
        obtain ⟨h, h3⟩ := ba h
        obtain ⟨h1, h2⟩ := ba h
        exact ds_set (o.at h1) (o.vis h2) (odd_ok h3).1 (odd_ok h3).2 g (mE_ok k sc af _ h5 X Wx o.toOk tk).d0 (mE_ok e sc af _ h6 X Wx o.toOk tk).d0 h4
  | .aug i op e, sc, af, x, h, X, Wx, o, tk => by
    cases x <;> first | (cases h; done) | skip
    rename_i t op1 ex p
    cases t <;> first | (cases h; done) | skip
    obtain ⟨h, h4⟩ := ba h
    obtain ⟨h, h3⟩ := ba h
    obtain ⟨h1, h2⟩ := ba h
    have he := (mE_ok e sc af _ h4 X Wx o.toOk tk).d0
    cases op <;> cases op1 <;> first
      | (cases h3; done)
      | exact ds_aug o.good.nd (o.at h1) (o.st h2).1 (o.st h2).2 (o := .add) rfl he
      | exact ds_aug o.good.nd (o.at h1) (o.st h2).1 (o.st h2).2 (o := .sub) rfl he
  | .augs i k op e, sc, af, x, h, X, Wx, o, tk => by
    cases x <;> (cases h; done)
  | .app i e g, sc, af, x, h, X, Wx, o, tk => by
    cases x <;> first | (cases h; done) | skip
    rename_i ex p
    cases ex <;> first | (cases h; done) | skip
    rename_i f ys ks p3
    cases f <;> first | (cases h; done) | skip
    rename_i ob m p2
    cases ob <;> first | (cases h; done) | skip
    cases ys with
    | nil => cases h
    | cons y ys =>
      cases ys with
      | cons _ _ => cases h
      | nil =>
        cases ks with
        | cons _ _ => cases h
        | nil =>
          obtain ⟨h, h7⟩ := ba h
          obtain ⟨h, h6⟩ := ba h
          obtain ⟨h, h5⟩ := ba h
          obtain ⟨h, h4⟩ := ba h
          obtain ⟨h, h3⟩ := ba h
          obtain ⟨h1, h2⟩ := ba h
          obtain rfl := of_decide_eq_true h1
          exact ds_app (o.at h2) (o.vis h3) (odd_ok h4).1 (odd_ok h4).2 g (mE_ok e sc af _ h7 X Wx o.toOk tk).d0 h5 h6
  | .ext i e, sc, af, x, h, X, Wx, o, tk => by
    cases x <;> (cases h; done)
  | .rvs i, sc, af, x, h, X, Wx, o, tk => by
    cases x <;> first | (cases h; done) | skip
    rename_i ex p
    cases ex <;> first | (cases h; done) | skip
    rename_i f ys ks p3
    cases f <;> first | (cases h; done) | skip
    rename_i ob m p2
    cases ob <;> first | (cases h; done) | skip
    cases ys with
    | cons _ _ => cases h
    | nil =>
      cases ks with
      | cons _ _ => cases h
      | nil =>
        obtain ⟨h, h5⟩ := ba h
        obtain ⟨h, h4⟩ := ba h
        obtain ⟨h, h3⟩ := ba h
        obtain ⟨h1, h2⟩ := ba h
        obtain rfl := of_decide_eq_true h1
        exact ds_rvs (o.at h2) (o.vis h3) (odd_ok h4).1 (odd_ok h4).2 h5
  | .expr e, sc, af, x, h, X, Wx, o, tk => by
    cases x <;> first | (cases h; done) | skip
    obtain ⟨h1, h2⟩ := ba h
    exact ds_expr (mE_ok e sc af _ h2 X Wx o.toOk tk).d0 h1
  | .ite c a b, sc, af, x, h, X, Wx, o, tk => by
    cases x <;> first | (cases h; done) | skip
    obtain ⟨h, h4⟩ := ba h
    obtain ⟨h, h3⟩ := ba h
    obtain ⟨h1, h2⟩ := ba h
    exact ds_ite ((mE_ok c sc af _ h2 X Wx o.toOk tk).dt h1) (mSs_ok a sc af _ h3 X Wx o tk) (mSs_ok b sc af _ h4 X Wx o tk)
  | .for_ t it b g, sc, af, x, h, X, Wx, o, tk => by
    cases x <;> first | (cases h; done) | skip
    rename_i tg ix body oe p
    cases oe with
    | cons _ _ => cases h
    | nil =>
      obtain ⟨h, h4⟩ := ba h
      obtain ⟨h, h3⟩ := ba h
      obtain ⟨h1, h2⟩ := ba h
      exact ds_for o.own o.good.calm g (mIt_ok it sc af _ h3 X Wx o.toOk tk false tg) (mTg_ok o.toOk h2) (mSs_ok b sc af _ h4 X Wx o tk) (fold_ok h1)
  | .whl n c b, sc, af, x, h, X, Wx, o, tk => by
    cases x <;> first | (cases h; done) | skip
    rename_i cx body oe p
    cases oe with
    | cons _ _ => cases h
    | nil =>
      obtain ⟨h, h3⟩ := ba h
      obtain ⟨h1, h2⟩ := ba h
      exact ds_whl o.own n ((mE_ok c sc af _ h2 X Wx o.toOk tk).dt h1) (mSs_ok b sc af _ h3 X Wx o tk)
  | .ret e, sc, af, x, h, X, Wx, o, tk => by
    cases x <;> first | (cases e <;> first | (cases h; done) | (rename_i d; cases d <;> (cases h; done))) | skip
    rename_i ex p
    cases ex with
    | some ex => exact ds_ret (mE_ok e sc af _ (by cases e <;> first | exact h | (rename_i d; cases d <;> exact h)) X Wx o.toOk tk).d0
    | none =>
      cases e <;> first | (cases h; done) | skip
      rename_i d
      cases d <;> first | (cases h; done) | skip
      exact ds_retN
  | .raise c es, sc, af, x, h, X, Wx, o, tk => by
    cases es with
    | nil => cases x <;> (cases h; done)
    | cons a es =>
      cases es with
      | cons _ _ => cases x <;> (cases h; done)
      | nil =>
        cases x <;> first | (cases h; done) | skip
        rename_i ex ca p
        cases ex with
        | none => cases h
        | some ex =>
          cases ex <;> first | (cases h; done) | skip
          rename_i f ys ks p3
          cases f <;> first | (cases h; done) | skip
          cases ys with
          | nil => cases h
          | cons y ys =>
            cases ys with
            | cons _ _ => cases h
            | nil =>
              cases ks with
              | cons _ _ => cases h
              | nil =>
                cases ca with
                | some _ => cases h
                | none =>
                  obtain ⟨h, h6⟩ := ba h
                  obtain ⟨h, h5⟩ := ba h
                  obtain ⟨h, h4⟩ := ba h
                  obtain ⟨h, h3⟩ := ba h
                  obtain ⟨h1, h2⟩ := ba h
                  obtain rfl := of_decide_eq_true h1
                  obtain ⟨C, fI, T⟩ := o.ers _ (of_decide_eq_true h4)
                  exact ds_raise o.good.calm tk o.good.room T (mE_ok a sc af _ h6 X Wx o.toOk tk).d0 (o.gl h2) (odd_ok h3).1 h5
  | .try_ b c i hd, sc, af, x, h, X, Wx, o, tk => by
    cases x <;> first | (cases h; done) | skip
    rename_i body hs oe fb p
    cases oe with
    | cons _ _ => cases h
    | nil =>
      cases fb with
      | cons _ _ => cases h
      | nil =>
        obtain ⟨h1, h2⟩ := ba h
        obtain ⟨s, n, y, np, p1, p2, p3, p4, p5, p6, rfl, rfl, g1, g2, g3, g4, g5, g6, g7, g8, g9, g10⟩ := mHd_eq h1
        obtain ⟨C, fI, T⟩ := o.ers _ g3
        have ln : X.env.kindOf n = some .local := by
          show X.env.scope.names.lookup n = _
          rw [o.hsc]; exact locB_ok g5
        exact ds_tryEq o.stk o.fr o.good.nd tk T (o.at g4) ln (.inl ln) (o.at g7) (o.vis g8) g10 (odd_ok g6).1 (odd_ok g6).2 (odd_ok g9).1 (odd_ok g9).2 ⟨o.gl g1, (odd_ok g2).1, .inl T.gC⟩
          fun W pn xe tk2 own => mSs_ok b sc af _ h2 (X.tr pn xe) W (o.tr pn xe own) tk2
  | .pass, sc, af, x, h, X, Wx, o, tk => by
    cases x <;> first | (cases h; done) | skip
    exact ds_pass
  | .brk, sc, af, x, h, X, Wx, o, tk => by
    cases x <;> first | (cases h; done) | skip
    exact ds_brk
  | .cnt, sc, af, x, h, X, Wx, o, tk => by
    cases x <;> first | (cases h; done) | skip
    exact ds_cnt
theorem mSs_ok : ∀ (ss : Ss) (sc : Scope) (af : Str → Bool) (xs : List Stmt), mSs nm gn N er ss sc af xs = true → ∀ (X : Cx) (Wx : WX), OkS X cs j M nm gn N er sc af → Takes X Wx → DSs X cs Wx xs (runs M ss)
  | .nil, sc, af, xs, h, X, Wx, o, tk => by
    cases xs with
    | nil => exact dss_nil
    | cons _ _ => cases h
  | .cons s ss, sc, af, xs, h, X, Wx, o, tk => by
    cases xs with
    | nil => cases h
    | cons x xs =>
      obtain ⟨h1, h2⟩ := ba h
      exact dss_cons (mS_ok s sc af x h1 X Wx o tk) (mSs_ok ss sc af xs h2 X Wx o tk)
end
end
end Bk
end
section
set_option autoImplicit false
set_option linter.all false
set_option maxRecDepth 100000
/-! A def by its matched body. -/
namespace Bk
open PySem L2 RT
/-! ### binding -/
theorem zip_lookup : ∀ {ps : List Str} {us : List Value} {x : Str}, us.length = ps.length → x ∈ ps → ∃ v, (ps.zip us).lookup x = some v
  | [], _, _, _, h => by cases h
  | p :: ps, [], _, h, _ => by cases h
  | p :: ps, u :: us, x, hl, h => by
    rw [List.zip_cons_cons, List.lookup_cons]
    cases e : x == p with
    | true => exact ⟨u, rfl⟩
    | false =>
      rcases List.mem_cons.mp h with z | z
      · subst z; simp at e
      · exact zip_lookup (by simpa using hl) z
theorem zip_self : ∀ {ps : List Str} {us : List Value} {l : List (Str × Value)}, us.length = ps.length → ps.Nodup → (∀ x ∈ ps, ∀ v, l.lookup x = some v ↔ (ps.zip us).lookup x = some v) → ps.filterMap (fun n => (l.lookup n).map (n, ·)) = ps.zip us
  | [], _, _, _, _, _ => by simp
  | p :: ps, [], _, h, _, _ => by cases h
  | p :: ps, u :: us, l, hl, nd, h => by
    have h0 : l.lookup p = some u := (h p (List.mem_cons_self ..) u).mpr (by rw [List.zip_cons_cons, List.lookup_cons]; simp)
    rw [List.filterMap_cons, h0, List.zip_cons_cons]
    show (p, u) :: _ = _
    rw [zip_self (us := us) (by simpa using hl) (List.nodup_cons.mp nd).2 fun x hx v => ?_]
    rw [h x (List.mem_cons_of_mem _ hx) v, List.zip_cons_cons, List.lookup_cons]
    have : (x == p) = false := by
      have : x ≠ p := fun z => (List.nodup_cons.mp nd).1 (z ▸ hx)
      simpa using this
    rw [this]
/-- parameters by their names alone -/
def plainP (pa : Arguments) (ps : List Str) : Bool := match pa with
  | ⟨[], as, none, [], [], none, []⟩ => decide (as.map (·.arg) = ps)
  | _ => false
theorem bind_plain {x qual : Str} {pa : Arguments} {body : List Stmt} {scope : Scope} {kV doc pm : Value} {an : Option Addr} {cdv ct : Value} {ps : List Str} {us : List Value} (h : plainP pa ps = true) (nd : ps.Nodup) (hl : us.length = ps.length) :
    bindArgs (PySem.W.fnOf x qual pa body scope .none kV doc pm an cdv ct) ⟨us, []⟩ = pure (ps.zip us) := by
  unfold plainP at h
  split at h
  · rename_i as
    obtain rfl := of_decide_eq_true h
    have hl2 : us.length = as.length := by simpa using hl
    unfold bindArgs
    have z1 : (((as.map (·.arg)).take (as.map (·.arg)).length).filter fun n => (((as.map (·.arg)).zip us).lookup n).isNone) = [] := by
      rw [List.take_length, List.filter_eq_nil_iff]
      intro a ha
      obtain ⟨v, hv⟩ := zip_lookup hl ha
      rw [hv]; simp
    have z2 := zip_self (l := (as.map (·.arg)).zip us) hl nd fun _ _ _ => Iff.rfl
    simp [PySem.W.fnOf, seqItems?, hl2, z2]
    have e1 : notAStandIn Value.none = pure () := rfl
    rw [e1]
    simp only [List.map_nil, List.nil_append, List.drop_nil, List.length_nil, Nat.sub_zero, z1, pure_bind, List.isEmpty_nil, Bool.not_true, Bool.false_eq_true, if_false]
    rw [← List.filterMap_map, z2]
  · cases h

/-! ### quiet defs -/
theorem QFn.mono {P : Program} {w : World} {K : PySem.W.Frag} {mg : Str → Option Value} {base : Heap} {i j : Nat} {x : Str} {f : Fn} (F : QFn P w K mg base i x f) (h : i ≤ j) : QFn P w K mg base j x f := by
  obtain ⟨a, h1, h2, h3⟩ := F.ex
  exact ⟨a, h1, h2, fun hm A s us ds d hr => h3 hm A s us ds d (hr.mono h)⟩
theorem zip_rev_lookup {ps : List Str} {us : List Value} (nd : ps.Nodup) : ∀ {i : Nat} {x : Str} {u : Value}, ps[i]? = some x → us[i]? = some u → (ps.zip us).reverse.lookup x = some u := by
  intro i x u h1 h2
  have hm : (x, u) ∈ ps.zip us := by
    rw [List.mem_iff_getElem?]
    exact ⟨i, by rw [List.getElem?_zip_eq_some]; exact ⟨h1, h2⟩⟩
  have hm2 : (x, u) ∈ (ps.zip us).reverse := List.mem_reverse.mpr hm
  obtain ⟨u', hu'⟩ := mem_lookup hm2
  rw [hu']
  have hm3 := List.mem_reverse.mp (PySem.mem_of_lookup hu')
  rw [List.mem_iff_getElem?] at hm3
  obtain ⟨k, hk⟩ := hm3
  rw [List.getElem?_zip_eq_some] at hk
  obtain ⟨g1, g2⟩ := hk
  obtain ⟨a1, a2⟩ := List.getElem?_eq_some_iff.mp h1
  obtain ⟨b1, b2⟩ := List.getElem?_eq_some_iff.mp g1
  have : i = k := (List.getElem_inj nd).mp (a2.trans b2.symm)
  subst this
  rw [h2] at g2
  exact g2.symm
/-- return e -/
def quB (nm N : List Str) (np : Nat) (b : Ss) (st : Stmt) : Bool := match b, defBody st with
  | .cons (.ret e) .nil, [.Return (some x) _] => mQ nm N e (defScope st) x && plainP (defArgs st) (N.take np) && decide (N.take np).Nodup && decide (np ≤ N.length) && kindB (defScope st) && !(defScope st).isCoroutine && !(defScope st).isGenerator && (defScope st).names.all (fun q => !decide (q.2 = .cell)) && (N.take np).all (fun x => locB (defScope st) x) &&
      (N.drop np).all (fun x => !visB (defScope st) x)
  | _, _ => false
theorem vreps_get {h : Heap} {ds : List D} {us : List Value} {i : Nat} {d : D} (r : vreps h ds us) (e : ds[i]? = some d) : ∃ u, us[i]? = some u ∧ vrep h d u := vreps_at r e
theorem qfn_by {P : Program} {w : World} {K : PySem.W.Frag} {mg : Str → Option Value} {base : Heap} {x qual : Str} {st : Stmt} {f : Addr} {fd : FuncData} {N nm : List Str} {np k : Nat} {M : Md} {b : Ss} (hb : ∀ x ∈ biNames, mg x = none) (F : FunD K x qual (defArgs st) (defBody st) (defScope st) [] [] f fd) (hmg : mg x = some (.ref f))
    (q : quB nm N np b st = true) (fl : nm.length ≤ M.fns.length) (fs : ∀ (i : Nat) (y : Str) (g : Fn), nm[i]? = some y → M.fns[i]? = some g → QFn P w K mg base k y g) : QFn P w K mg base (k + 1) x (fnD M np N.length b) := by
  unfold quB at q
  split at q
  · rename_i e ex p hbody
    obtain ⟨q, h10⟩ := ba q
    obtain ⟨q, h9⟩ := ba q
    obtain ⟨q, h8⟩ := ba q
    obtain ⟨q, h7⟩ := ba q
    obtain ⟨q, h6⟩ := ba q
    obtain ⟨q, h5⟩ := ba q
    obtain ⟨q, h4⟩ := ba q
    obtain ⟨q, h3⟩ := ba q
    obtain ⟨h1, h2⟩ := ba q
    have nd := of_decide_eq_true h3
    have hnp : (N.take np).length = np := by
      rw [List.length_take]
      exact Nat.min_eq_left (of_decide_eq_true h4)
    obtain ⟨oc, od, dV, kV, doc, pm, an, cdv, ct, osl, rfl, lk, hcd, hD, hK⟩ := F.ex
    have hdV : dV = .none := by
      rcases hD with ⟨_, z⟩ | ⟨z, _⟩
      · exact z
      · exact absurd rfl z
    subst hdV
    refine ⟨f, hmg, F.kp, fun hm A s us ds d hr hB vr hd => ?_⟩
    have aq := mQ_ok (P := P) (w := w) (K := K) (mg := mg) (base := base) (j := k) (M := M) hm hb fl fs e (defScope st) ex h1
    have KX : K.In s.heap := hm.kin.keeps hB
    have hds : ds.length = np := by
      by_cases z : ds.length = np
      · exact z
      · unfold fnD at hd
        rw [if_neg z] at hd
        cases hd
    have hl : us.length = (N.take np).length := by rw [vreps_len vr, hds, hnp]
    refine ks_codeAny_call_defAt (binds := (N.take np).zip us) (by have := hr.dp; omega) (KX _ _ lk) rfl (hm.nolimit.keeps hB) (PySem.W.codeRec_of KX hcd) (body := defBody st) rfl (BindsTo.of_eq (bind_plain h2 nd hl)) (fun y hy => ?_) (fun y hy => ?_) (fun h₁ hn k₁ => ?_) (bn h6) (bn h7) (kindB_ok h5)
    · have := List.all_eq_true.mp h8 y hy
      simpa using this
    · exact locB_ok (List.all_eq_true.mp h9 y.1 (List.of_mem_zip hy).1)
    · rw [hbody]
      generalize henv : callEnv _ s.heap.objs.size f = env
      have eloc : env.locals = s.heap.objs.size := by rw [← henv]; rfl
      have esc : env.scope = defScope st := by rw [← henv]; rfl
      have eglo : env.globals = mainGlobals := by rw [← henv]; rfl
      have eblt : env.builtins = builtinsNs := by rw [← henv]; rfl
      rw [← eloc] at hn
      unfold fnD at hd
      rw [if_pos hds] at hd
      have hev : ev M e (all1 (ds.map Slot.sh ++ List.replicate (N.length - np) Slot.un)) = .ok d := by
        cases z : ev M e (all1 (ds.map Slot.sh ++ List.replicate (N.length - np) Slot.un)) with
        | ok d' =>
          have : runs M (.cons (.ret e) .nil) (ds.map Slot.sh ++ List.replicate (N.length - np) Slot.un) = .fl (.rt d') := by
            show (O.of _ (ev M e (all1 _)) fun d => .fl (.rt d)).next _ = _
            rw [z]; rfl
          rw [this] at hd
          cases hd; rfl
        | ex c d' =>
          have : runs M (.cons (.ret e) .nil) (ds.map Slot.sh ++ List.replicate (N.length - np) Slot.un) = .ex c d' (ds.map Slot.sh ++ List.replicate (N.length - np) Slot.un) := by
            show (O.of _ (ev M e (all1 _)) fun d => .fl (.rt d)).next _ = _
            rw [z]; rfl
          rw [this] at hd
          cases hd
        | bad =>
          have : runs M (.cons (.ret e) .nil) (ds.map Slot.sh ++ List.replicate (N.length - np) Slot.un) = .bad := by
            show (O.of _ (ev M e (all1 _)) fun d => .fl (.rt d)).next _ = _
            rw [z]; rfl
          rw [this] at hd
          cases hd
      have qv : QV env h₁ N (all1 (ds.map Slot.sh ++ List.replicate (N.length - np) Slot.un)) := by
        refine ⟨by rw [esc]; exact kindB_ok h5, eglo, eblt, _, hn, fun i d' y g1 g2 g3 => ?_⟩
        have shape : ∀ (i : Nat) (z : Slot), (all1 (ds.map Slot.sh ++ List.replicate (N.length - np) Slot.un))[i]? = some z → (∃ e, ds[i]? = some e ∧ z = .sh e) ∨ z = .un := fun i z g => by
          unfold all1 at g
          rw [List.getElem?_map, Option.map_eq_some_iff] at g
          obtain ⟨y, g, rfl⟩ := g
          rcases Nat.lt_or_ge i ds.length with hi | hi
          · rw [List.getElem?_append_left (by simpa using hi), List.getElem?_map, List.getElem?_eq_getElem hi] at g
            cases g
            exact .inl ⟨_, List.getElem?_eq_getElem hi, rfl⟩
          · rw [List.getElem?_append_right (by simpa using hi), List.getElem?_replicate] at g
            split at g <;> cases g
            exact .inr rfl
        rcases g1 with g1 | ⟨l, g1, _⟩
        · rcases shape i _ g1 with ⟨e', h1', h2'⟩ | z
          · cases h2'
            obtain ⟨u, u1, u2⟩ := vreps_get vr h1'
            have hi : i < np := by rw [← hds]; exact (List.getElem?_eq_some_iff.mp h1').1
            have g2' : (N.take np)[i]? = some y := by rw [List.getElem?_take_of_lt hi]; exact g2
            refine ⟨u, vrep_up k₁ _ _ u2, .inl ⟨?_, zip_rev_lookup nd g2' u1⟩⟩
            show env.scope.names.lookup y = _
            rw [esc]
            exact locB_ok (List.all_eq_true.mp h9 y (List.mem_of_getElem? g2'))
          · cases z
        · rcases shape i _ g1 with ⟨e', h1', h2'⟩ | z
          · cases h2'
          · cases z
      refine wpAt_of_wpAny (wpAny_execs_cons (wpAny_Return_some (L2.thn (aq.q0 _ _ _ env _ d (hr.deeper env) (fun b o e => k₁ b o (hB b o e)) esc qv hev) fun u s2 ⟨r1, k2⟩ => ?_)))
      refine ⟨u, rfl, r1, ?_⟩
      exact keeps_trans ⟨h₁, _, rfl, k₁⟩ k2
  · cases q
theorem qfn_bad {P : Program} {w : World} {K : PySem.W.Frag} {mg : Str → Option Value} {base : Heap} {x : Str} {a : Addr} (k : Nat) (hm : mg x = some (.ref a)) (hk : PySem.W.keepIn K (.ref a) = true) : QFn P w K mg base k x (fun _ => .bad) :=
  ⟨a, hm, hk, fun _ A s us ds d hr hB vr hd => nomatch hd⟩
/-! ### the rule -/
theorem start_env {K : PySem.W.Frag} {mg : Str → Option Value} {H : Hp} {C : List Addr} {N : List Str} {ds : List D} {vs : List V} {m : Nat} (h : reps K mg C H ds vs) (hm : m = N.length - vs.length) : EnvR K mg ⟨H, [], C⟩ (L2.start N vs) (ds.map Slot.sh ++ List.replicate m Slot.un) := by
  subst hm
  have hl := reps_len h
  have no : ∀ (i : Nat) (l : List D), (ds.map Slot.sh ++ List.replicate (N.length - vs.length) Slot.un)[i]? ≠ some (.ow l) := fun i l z => by
    rcases Nat.lt_or_ge i ds.length with hi | hi
    · rw [List.getElem?_append_left (by simpa using hi), List.getElem?_map, List.getElem?_eq_getElem hi] at z
      cases z
    · rw [List.getElem?_append_right (by simpa using hi), List.getElem?_replicate] at z
      split at z <;> cases z
  refine ⟨?_, fun i d z => ?_, fun i l z => absurd z (no i l), fun i j l l' a z _ _ _ => absurd z (no i l)⟩
  · unfold L2.start
    simp [hl]
  · rcases Nat.lt_or_ge i ds.length with hi | hi
    · rw [List.getElem?_append_left (by simpa using hi), List.getElem?_map, List.getElem?_eq_getElem hi] at z
      have : d = ds[i] := by cases z; rfl
      subst this
      obtain ⟨v, h1, h2⟩ := reps_at h (List.getElem?_eq_getElem hi)
      refine ⟨v, ?_, h2⟩
      unfold L2.start
      rw [List.getElem?_append_left (by rw [List.length_map, hl]; exact hi), List.getElem?_map, h1]; rfl
    · rw [List.getElem?_append_right (by simpa using hi), List.getElem?_replicate] at z
      split at z <;> cases z
theorem le_ext {cs : List (Addr × Addr)} {H : Hp} {C : List Addr} {W : Wd} (l : Wd.Le cs ⟨H, [], C⟩ W) (k : Wd.Ok cs ⟨H, [], C⟩) (k2 : W.Ok cs) : Ext cs H W.H :=
  ⟨fun a o h => l.keep a o h (fun z => nomatch z), fun p hp _ => k2.tabs p hp⟩
section
variable {P : Program} {w : World} {K : PySem.W.Frag} {mg : Str → Option Value} {base : Heap} {cs : List (Addr × Addr)}
theorem fn_run {x qual : Str} {pa : Arguments} {body : List Stmt} {scope : Scope} {kws : List (Str × V)} {f : Addr} {fd : FuncData} {N ps nm gn er : List Str} {k : Nat} {M : Md} {b : Ss} (F : FunD K x qual pa body scope [] kws f fd) (S : FnScope N ps scope) (ndN : N.Nodup)
    (m : mSs nm gn N er b scope (fun _ => true) body = true)
    (bi : ∀ x ∈ biNames, mg x = none) (fl : nm.length ≤ M.fns.length)
    (fns : ∀ (i : Nat) (y : Str) (g : Fn), nm[i]? = some y → M.fns[i]? = some g → FnF P w K mg base cs k y g) (val : ∀ (y : Str) (g : Fn), M.val y = some g → FnF P w K mg base cs k y g)
    (gls : ∀ (i : Nat) (y : Str) (d : D), gn[i]? = some y → M.gls[i]? = some d → ∃ u v, mg y = some u ∧ RelV v u ∧ ∀ Z H, rep K mg Z H d v) (ers : Ers P K mg er)
    (gen : M.ac = true → f = He.fAd K (x, none) ∧ ∃ j0, j0 + 1 ≤ k ∧ He.cT K (x, none) ∈ cs ∧ GxR.TabB base mg (He.cT K (x, none)).1 (He.cT K (x, none)).2 ∧ nm.length ≤ M.qfn.length ∧ ∀ (i : Nat) (y : Str) (g : Fn), nm[i]? = some y → M.qfn[i]? = some g → QFn P w K mg base j0 y g) :
    FnOk P w K mg base (L2.CX P w) (k + 1) f fd ps (spD K mg cs (fnD M ps.length N.length b)) := by
  have len : ∀ vs H Q E, spD K mg cs (fnD M ps.length N.length b) vs H Q E → vs.length = ps.length := fun vs H Q E ⟨C, ds, h1, h2, h3⟩ => by
    rw [reps_len h2]
    by_cases e : ds.length = ps.length
    · exact e
    · unfold fnD at h3
      rw [if_neg e] at h3
      exact h3.elim
  obtain ⟨oc, od, dV, kV, doc, pm, an, cdv, ct, osl, rfl, lk, hcd, _, _⟩ := F.ex
  refine fn_of lk hcd S len fun A outer s H vs Q E hr hsp => ?_
  refine ⟨_, mSs_ok b scope _ body m (cxOf (L2.CX P w) P w K mg base N qual scope f cdv A outer s H E) (fun cls d _ H' => E cls d H')
    ⟨⟨⟨rfl, ndN, hr, bi, fns, val, gls⟩, rfl, rfl, fun _ _ => rfl, fl, fun ac => ?_⟩, rfl, rfl, passes_of rfl, ers⟩ (takes_of rfl rfl rfl rfl), ?_⟩
  · obtain ⟨rfl, j0, g1, g2, g3, g4, g5⟩ := gen ac
    obtain ⟨c, rfl⟩ := He.codeIn_ref hcd
    have e : He.codeOf K (x, none) = c := He.codeOf_eq lk rfl
    refine ⟨j0, c, (He.cT K (x, none)).2, g1, rfl, ?_, ?_, g4, g5⟩
    · have : (c, (He.cT K (x, none)).2) = He.cT K (x, none) := by rw [← e]; rfl
      rw [this]; exact g2
    · have : c = (He.cT K (x, none)).1 := e.symm
      rw [this]; exact g3
  have hlen := len vs H Q E hsp
  obtain ⟨C, ds, h1, h2, h3⟩ := hsp
  have hds : ds.length = ps.length := (reps_len h2).symm.trans hlen
  unfold fnD at h3
  rw [if_pos hds] at h3
  refine ⟨[], C, _, h1, start_env h2 (m := N.length - ps.length) (by rw [hlen]), ?_⟩
  revert h3
  cases runs M b (ds.map Slot.sh ++ List.replicate (N.length - ps.length) Slot.un) with
  | fl fl =>
    cases fl with
    | nx ρ => exact fun h3 σ' W' l k2 r => h3 W'.H .non (le_ext l h1 k2) rfl
    | rt d => exact fun h3 v W' l k2 r => h3 W'.H v (le_ext l h1 k2) r
    | bk ρ => exact fun h3 => h3.elim
    | ct ρ => exact fun h3 => h3.elim
  | ex c d ρ => exact fun h3 σ' W' cls dx l k2 r x => h3 W'.H cls dx (le_ext l h1 k2) x
  | bad => exact fun h3 => h3.elim
theorem fn_ok {x qual : Str} {pa : Arguments} {body : List Stmt} {scope : Scope} {kws : List (Str × V)} {f : Addr} {fd : FuncData} {N ps nm gn er : List Str} {k : Nat} {M : Md} {b : Ss} (F : FunD K x qual pa body scope [] kws f fd) (S : FnScope N ps scope) (hpl : plainP pa ps = true) (nd : ps.Nodup) (ndN : N.Nodup)
    (hm : mg x = some (.ref f)) (m : mSs nm gn N er b scope (fun _ => true) body = true)
    (bi : ∀ x ∈ biNames, mg x = none) (fl : nm.length ≤ M.fns.length)
    (fns : ∀ (i : Nat) (y : Str) (g : Fn), nm[i]? = some y → M.fns[i]? = some g → FnF P w K mg base cs k y g) (val : ∀ (y : Str) (g : Fn), M.val y = some g → FnF P w K mg base cs k y g)
    (gls : ∀ (i : Nat) (y : Str) (d : D), gn[i]? = some y → M.gls[i]? = some d → ∃ u v, mg y = some u ∧ RelV v u ∧ ∀ Z H, rep K mg Z H d v) (ers : Ers P K mg er)
    (gen : M.ac = true → f = He.fAd K (x, none) ∧ ∃ j0, j0 + 1 ≤ k ∧ He.cT K (x, none) ∈ cs ∧ GxR.TabB base mg (He.cT K (x, none)).1 (He.cT K (x, none)).2 ∧ nm.length ≤ M.qfn.length ∧ ∀ (i : Nat) (y : Str) (g : Fn), nm[i]? = some y → M.qfn[i]? = some g → QFn P w K mg base j0 y g) :
    FnF P w K mg base cs (k + 1) x (fnD M ps.length N.length b) := by
  exact ⟨f, fd, ps, hm, fn_run F S ndN m bi fl fns val gls ers gen, F.kp, F.bindsN fun kV doc pm an cdv ct us hl => bind_plain hpl nd hl⟩
end
end Bk
end
section
set_option autoImplicit false
set_option linter.all false
set_option maxRecDepth 100000
/-! The head: what a kernel check of the program's top tells. -/
namespace Bk
open PySem L2 PySem.W
abbrev ini0 : Str × Option Str → Str := fun _ => "__init__"
def scopeB (sc : Scope) : Bool := match sc with
  | ⟨.function, [(n1, .local), (n2, .local), (n3, .free), (n4, .globalImplicit)], false, false, []⟩ => decide (n1 = ("self" : Str)) && decide (n2 = ("at" : Str)) && decide (n3 = ("__class__" : Str)) && decide (n4 = ("super" : Str))
  | _ => false
theorem scopeB_ok {sc : Scope} (h : scopeB sc = true) : sc = Er.iS := by
  unfold scopeB at h
  split at h
  · obtain ⟨h, h4⟩ := Bk.ba h
    obtain ⟨h, h3⟩ := Bk.ba h
    obtain ⟨h1, h2⟩ := Bk.ba h
    rw [of_decide_eq_true h1, of_decide_eq_true h2, of_decide_eq_true h3, of_decide_eq_true h4]
    rfl
  · cases h
def parB (pa : Arguments) : Bool := match pa with
  | ⟨[], [⟨a, none, _⟩, ⟨b, none, _⟩], none, [], [], none, []⟩ => decide (a = ("self" : Str)) && decide (b = ("at" : Str))
  | _ => false
theorem parB_ok {pa : Arguments} (h : parB pa = true) : ∃ p1 p2, pa = Er.iA p1 p2 := by
  unfold parB at h
  split at h
  · obtain ⟨h1, h2⟩ := Bk.ba h
    rw [of_decide_eq_true h1, of_decide_eq_true h2]
    exact ⟨_, _, rfl⟩
  · cases h
def bodyB (b : List Stmt) : Bool := match b with
  | [.Expr (.Call (.Attribute (.Call (.Name s1 _) [] [] _) s2 q3) [.Name s3 _] [] q5) _, .Assign [.Attribute (.Name s4 _) s5 _] (.Name s6 _) _] =>
    decide (s1 = ("super" : Str)) && decide (s2 = ("__init__" : Str)) && decide (s3 = ("at" : Str)) && decide (s4 = ("self" : Str)) && decide (s5 = ("at" : Str)) && decide (s6 = ("at" : Str)) && (q3.endLine == q5.line)
  | _ => false
theorem bodyB_ok {b : List Stmt} (h : bodyB b = true) : ∃ q1 q2 q3 q4 q5 q6 q7 q8 q9 q10, b = Er.iB q1 q2 q3 q4 q5 q6 q7 q8 q9 q10 ∧ (q3.endLine == q5.line) = true := by
  unfold bodyB at h
  split at h
  · obtain ⟨h, h7⟩ := Bk.ba h
    obtain ⟨h, h6⟩ := Bk.ba h
    obtain ⟨h, h5⟩ := Bk.ba h
    obtain ⟨h, h4⟩ := Bk.ba h
    obtain ⟨h, h3⟩ := Bk.ba h
    obtain ⟨h1, h2⟩ := Bk.ba h
    rw [of_decide_eq_true h1, of_decide_eq_true h2, of_decide_eq_true h3, of_decide_eq_true h4, of_decide_eq_true h5, of_decide_eq_true h6]
    exact ⟨_, _, _, _, _, _, _, _, _, _, rfl, h7⟩
  · cases h
def iniB (K : Frag) (C fI : Addr) (pf : Str) : Bool := match K.lookup fI with
  | some ⟨_, _, .func ⟨nm, qual, pa, .stmts body, sc, gl, [(cn, cc)], .none, .none, _, _, _, .ref cda, _, bl⟩, _⟩ =>
    decide (nm = ("__init__" : Str)) && parB pa && bodyB body && scopeB sc && decide (gl = mainGlobals) && decide (bl = builtinsNs) && decide (cn = ("__class__" : Str)) && codeIn K (.ref cda) qual &&
    (match K.lookup cda with
      | some ⟨_, _, .fields vs, _⟩ => (match (vs[2]? : Option Value) with
        | some (Value.str file _) => pf == file
        | _ => false)
      | _ => false) &&
    (match K.lookup cc with
      | some ⟨_, _, .cell (some (.ref D)), _⟩ => decide (D = C)
      | _ => false)
  | _ => false
theorem iniB_ok {K : Frag} {C fI : Addr} {pf : Str} (h : iniB K C fI pf = true) : ∃ (qual : Str) (oc : Value) (od : Option Addr) (doc pm ct : Value) (an : Option Addr) (osl : Array (Option Value)) (p1 p2 q1 q2 q3 q4 q5 q6 q7 q8 q9 q10 : Pos) (cc cda : Addr) (ccl cl : Value) (cdd cld : Option Addr) (ccs csl : Array (Option Value)) (vs : Array Value) (file : Str) (tf : Tok),
    K.lookup fI = some ⟨oc, od, .func (fnX "__init__" qual (Er.iA p1 p2) (Er.iB q1 q2 q3 q4 q5 q6 q7 q8 q9 q10) Er.iS [("__class__", cc)] .none .none doc pm an (.ref cda) ct), osl⟩ ∧ codeIn K (.ref cda) qual = true ∧
    K.lookup cda = some ⟨ccl, cdd, .fields vs, ccs⟩ ∧ vs[2]? = some (.str file tf) ∧ (pf == file) = true ∧
    K.lookup cc = some ⟨cl, cld, .cell (some (.ref C)), csl⟩ ∧ (q3.endLine == q5.line) = true := by
  unfold iniB at h
  split at h
  · rename_i oc od nm qual pa body sc gl cn cc doc pm an cda ct bl osl hK
    obtain ⟨h, h10⟩ := Bk.ba h
    obtain ⟨h, h9⟩ := Bk.ba h
    obtain ⟨h, h8⟩ := Bk.ba h
    obtain ⟨h, h7⟩ := Bk.ba h
    obtain ⟨h, h6⟩ := Bk.ba h
    obtain ⟨h, h5⟩ := Bk.ba h
    obtain ⟨h, h4⟩ := Bk.ba h
    obtain ⟨h, h3⟩ := Bk.ba h
    obtain ⟨h1, h2⟩ := Bk.ba h
    obtain ⟨p1, p2, rfl⟩ := parB_ok h2
    obtain ⟨q1, q2, q3, q4, q5, q6, q7, q8, q9, q10, rfl, hl⟩ := bodyB_ok h3
    obtain rfl := scopeB_ok h4
    rw [of_decide_eq_true h1, of_decide_eq_true h5, of_decide_eq_true h6, of_decide_eq_true h7] at hK
    split at h9
    · rename_i ccl cdd vs ccs hcd
      split at h9
      · rename_i file tf hv
        split at h10
        · rename_i cl cld D csl hcc
          rw [of_decide_eq_true h10] at hcc
          exact ⟨_, _, _, _, _, _, _, _, _, _, _, _, _, _, _, _, _, _, _, _, _, _, _, _, _, _, _, _, _, _, _, hK, h8, hcd, hv, h9, hcc, hl⟩
        · cases h10
      · cases h9
    · cases h9
  · cases h
/-- the class c is an error of the package -/
def badB (K : Frag) (c pf : Str) : Bool :=
  excInitIn K (He.ga K c) Er.exB "Exception.__new__" && excOver K (He.ga K c) Er.exB && decide (findIn K (.ref (He.ga K c)) "__setattr__" = some (some (.builtin "object.__setattr__"))) &&
  decide (findIn K (.ref (He.ga K c)) "__getattribute__" = some (some (.builtin "BaseException.__getattribute__"))) && decide (findIn K (.ref (He.ga K c)) "__getattr__" = some none) &&
  decide (takerIn K (He.ga K c) "at" = some none) && decide (findIn K (.ref (He.ga K c)) "at" = some none) && hasDictIn K (He.ga K c) && decide (findIn K (.ref (He.ga K c)) "__init__" = some (some (.ref (He.fAd K (c, some "__init__"))))) &&
  decide (typeIn K (.ref (He.fAd K (c, some "__init__"))) = some (.type "function")) && keepIn K (.ref (He.ga K c)) && decide (subIn K (.ref (He.ga K c)) (.type "BaseException") = some true) && decide (subIn K (.ref (He.ga K c)) (.type "Exception") = some true) &&
  decide (typeIn K (.ref (He.ga K c)) = some (.type "type")) && decide (exmOne K (.ref (He.ga K c)) (.ref (He.ga K c)) = some true) && decide (nsIn K cStatics "thirdparty.any" = some none) &&
  decide (ks_superIn K (He.ga K c) (He.ga K c) "__init__" = some (some (.builtin "Exception.__init__"))) && decide (mroIn K (He.ga K c) (.ref (He.ga K c)) = some true) && iniB K (He.ga K c) (He.fAd K (c, some "__init__")) pf
theorem bad_txt {prog : Program} {K : Frag} {mg : Str → Option Value} {c : Str} (h : badB K c prog.main.file = true) (g : mg c = some (.ref (He.ga K c))) (ns : mg "super" = none) (top : (prog.main.scope.names.lookup ("super" : Str)).isSome = false) :
    Er.Txt prog K mg c (He.ga K c) (He.fAd K (c, some "__init__")) := by
  unfold badB at h
  obtain ⟨h, h19⟩ := Bk.ba h
  obtain ⟨h, h18⟩ := Bk.ba h
  obtain ⟨h, h17⟩ := Bk.ba h
  obtain ⟨h, h16⟩ := Bk.ba h
  obtain ⟨h, h15⟩ := Bk.ba h
  obtain ⟨h, h14⟩ := Bk.ba h
  obtain ⟨h, h13⟩ := Bk.ba h
  obtain ⟨h, h12⟩ := Bk.ba h
  obtain ⟨h, h11⟩ := Bk.ba h
  obtain ⟨h, h10⟩ := Bk.ba h
  obtain ⟨h, h9⟩ := Bk.ba h
  obtain ⟨h, h8⟩ := Bk.ba h
  obtain ⟨h, h7⟩ := Bk.ba h
  obtain ⟨h, h6⟩ := Bk.ba h
  obtain ⟨h, h5⟩ := Bk.ba h
  obtain ⟨h, h4⟩ := Bk.ba h
  obtain ⟨h, h3⟩ := Bk.ba h
  obtain ⟨h1, h2⟩ := Bk.ba h
  exact ⟨g, h1, h2, of_decide_eq_true h3, of_decide_eq_true h4, of_decide_eq_true h5, of_decide_eq_true h6, of_decide_eq_true h7, h8, of_decide_eq_true h9, of_decide_eq_true h10, h11, of_decide_eq_true h12, of_decide_eq_true h13, of_decide_eq_true h14, of_decide_eq_true h15, ns, of_decide_eq_true h16, of_decide_eq_true h17, of_decide_eq_true h18, top, iniB_ok h19⟩

/-! ### the Hook: the globals, and the model's own dict of statics -/
def asC (g : Addr → Option Obj) (n : Nat) : List Addr := cStatics :: He.asD g n
structure SaysC (fa : List He.Fa) (fn : List He.DefD) (tf : List He.Defn) (ex : Frag → Bool) (h : Heap) (K : Frag) : Prop where
  t : He.SaysD fa fn K
  more : ex K = true
  hd : ∀ p ∈ tf, codeHdIn K (He.cT K p).1 (He.cT K p).2 = true
  out : ∀ p ∈ tf, K.lookup (He.cT K p).2 = none
  empty : ∀ p ∈ tf, h.get? (He.cT K p).2 = some { cls := .none, data := .fields #[] }
abbrev AlC : Type := He.AlD × Bool
def obsC (n : Nat) (fa : List He.Fa) (fn : List He.DefD) (tf : List He.Defn) (ex : Frag → Bool) (g : Addr → Option Obj) : AlC := (He.obsD fa fn (He.frT g (asC g n)), ex (He.frT g (asC g n)) && He.tabsB g tf (He.frT g (asC g n)))
theorem saysC_of {n : Nat} {fa : List He.Fa} {fn : List He.DefD} {tf : List He.Defn} {ex : Frag → Bool} {h : Heap} (e : obsC n fa fn tf ex h.get? = (He.valD fn, true)) : SaysC fa fn tf ex h (He.frT h.get? (asC h.get? n)) := by
  have e1 : He.obsD fa fn (He.frT h.get? (asC h.get? n)) = He.valD fn := congrArg (fun z : AlC => z.1) e
  have e2 : (ex (He.frT h.get? (asC h.get? n)) && He.tabsB h.get? tf (He.frT h.get? (asC h.get? n))) = true := congrArg (fun z : AlC => z.2) e
  obtain ⟨h1, h2⟩ := Bk.ba e2
  have key : ∀ p ∈ tf, codeHdIn (He.frT h.get? (asC h.get? n)) (He.cT (He.frT h.get? (asC h.get? n)) p).1 (He.cT (He.frT h.get? (asC h.get? n)) p).2 = true ∧ ∃ o, h.get? (He.cT (He.frT h.get? (asC h.get? n)) p).2 = some o ∧ He.emptyTab o = true := fun p hp => by
    obtain ⟨h3, h4⟩ := Bk.ba (List.all_eq_true.mp h2 p hp)
    refine ⟨h3, ?_⟩
    cases q : h.get? (He.cT (He.frT h.get? (asC h.get? n)) p).2 with
    | none => rw [q] at h4; cases h4
    | some o => rw [q] at h4; exact ⟨o, rfl, h4⟩
  refine ⟨e1, h1, fun p hp => (key p hp).1, fun p hp => ?_, fun p hp => ?_⟩
  · obtain ⟨_, o, q, z⟩ := key p hp
    exact He.frT_none q z
  · obtain ⟨_, o, q, z⟩ := key p hp
    rw [q, He.emptyTab_eq z]
def hookC (n : Nat) (fa : List He.Fa) (fn : List He.DefD) (tf : List He.Defn) (ex : Frag → Bool) : Hook where
  α := AlC
  obs := fun s => obsC n fa fn tf ex s.heap.get?
  val := fun _ => (He.valD fn, true)
  says := fun _ h => ∃ K : Frag, K.In h ∧ SaysC fa fn tf ex h K
  of := fun _ _ e => ⟨_, He.frT_in, saysC_of e⟩
  keeps := fun _ _ _ ⟨K, hK, c⟩ k => ⟨K, Frag.In.keeps hK k, ⟨c.t, c.more, c.hd, c.out, fun p hp => k _ _ (c.empty p hp)⟩⟩
theorem obsC_eq {n : Nat} {fa : List He.Fa} {fn : List He.DefD} {tf : List He.Defn} {ex : Frag → Bool} {g : Addr → Option Obj} {s : Shared} (h : ∀ a, g a = s.heap.get? a) : obsC n fa fn tf ex g = (hookC n fa fn tf ex).obs s := by
  have e : g = s.heap.get? := funext h
  rw [e] <;> rfl

/-! ### what the walk takes -/
def top (P : Program) (i : Nat) : Stmt := P.main.body.getD i (.Pass ⟨0, 0, 0, 0⟩)
def defD (P : Program) (p : Str × Nat) : He.DefD := ⟨(p.1, none), p.1, p.1, defArgs (top P p.2), defBody (top P p.2), defScope (top P p.2), [], []⟩
/-- the program's defs, by name and place; its errors -/
structure Pg where
  prog : Program
  defs : List (Str × Nat)
  errs : List Str
  tabs : List Str
def Pg.fa (p : Pg) : List He.Fa := (p.defs.map fun d => .glo d.1) ++ (p.errs.map .glo) ++ (((("super" : Str) :: biNames)).map .free)
def Pg.fn (p : Pg) : List He.DefD := p.defs.map (defD p.prog)
def Pg.tf (p : Pg) : List He.Defn := p.tabs.map fun x => (x, none)
def Pg.ex (p : Pg) (K : Frag) : Bool := p.errs.all fun c => badB K c p.prog.main.file
/-- where the walk runs -/
structure Gm (p : Pg) (w : World) (K : Frag) (mg : Str → Option Value) (base : Heap) : Prop where
  fn : ∀ d ∈ p.defs, ∃ fd, FunD K d.1 d.1 (defArgs (top p.prog d.2)) (defBody (top p.prog d.2)) (defScope (top p.prog d.2)) [] [] (He.fAd K (d.1, none)) fd ∧ mg d.1 = some (.ref (He.fAd K (d.1, none)))
  bi : ∀ x ∈ biNames, mg x = none
  ers : Ers p.prog K mg p.errs
  tb : ∀ x ∈ p.tabs, GxR.TabB base mg (He.cT K (x, none)).1 (He.cT K (x, none)).2
def Pg.cs (p : Pg) (K : Frag) : List (Addr × Addr) := p.tf.map (He.cT K)
theorem gm_of {p : Pg} {w : World} {K : Frag} {mg : Str → Option Value} {h base : Heap} (X : K.In h) (G : h.Ns mainGlobals mg) (c : SaysC p.fa p.fn p.tf p.ex h K) (htop : (p.prog.main.scope.names.lookup ("super" : Str)).isSome = false) (tb : ∀ q ∈ p.cs K, GxR.TabB base mg q.1 q.2) : Gm p w K mg base := by
  have gl : ∀ {f : He.Fa}, f ∈ p.fa → f.ok K = true := fun {f} hf => by
    obtain ⟨i, hi, e⟩ := List.mem_iff_getElem.mp hf
    exact c.t.fact i (f := f) (by rw [List.getElem?_eq_getElem hi, e])
  have free : ∀ x ∈ ((("super" : Str) :: biNames)), mg x = none := fun x hx => He.free_ok X G (gl (List.mem_append_right _ (List.mem_map_of_mem hx)))
  refine ⟨fun d hd => ?_, fun x hx => free x (List.mem_cons_of_mem _ hx), fun x hx => ?_, fun x hx => ?_⟩
  · have hm : defD p.prog d ∈ p.fn := List.mem_map_of_mem hd
    obtain ⟨i, hi, e⟩ := List.mem_iff_getElem.mp hm
    obtain ⟨fd, F⟩ := c.t.def_ i (d := defD p.prog d) (by rw [List.getElem?_eq_getElem hi, e])
    refine ⟨fd, F, ?_⟩
    exact He.glo_ok X G (gl (List.mem_append_left _ (List.mem_append_left _ (List.mem_map_of_mem hd))))
  · have hg := He.glo_ok X G (gl (List.mem_append_left _ (List.mem_append_right _ (List.mem_map_of_mem hx))))
    exact ⟨_, _, bad_txt (List.all_eq_true.mp c.more x hx) hg (free _ (List.mem_cons_self ..)) htop⟩
  · exact tb _ (List.mem_map.mpr ⟨(x, none), List.mem_map_of_mem hx, rfl⟩)
end Bk
end
section
set_option autoImplicit false
set_option linter.all false
set_option maxRecDepth 100000
/-! From the defs' checks to the law. -/
namespace Bk
open PySem L2 PySem.W
abbrev FF (p : Pg) (w : World) (K : Frag) (mg : Str → Option Value) (base : Heap) (k : Nat) (x : Str) (f : Fn) : Prop := FnF p.prog w K mg base (p.cs K) k x f
section
variable {p : Pg} {w : World} {K : Frag} {mg : Str → Option Value} {base : Heap} {k : Nat}
inductive Fs (p : Pg) (w : World) (K : Frag) (mg : Str → Option Value) (base : Heap) (k : Nat) : List Str → List Fn → Prop where
  | nil : Fs p w K mg base k [] []
  | cons {x : Str} {f : Fn} {xs : List Str} {fs : List Fn} {j : Nat} (h : FF p w K mg base j x f) (hj : Nat.ble j k = true) (t : Fs p w K mg base k xs fs) : Fs p w K mg base k (x :: xs) (f :: fs)
theorem Fs.len {xs : List Str} {fs : List Fn} (h : Fs p w K mg base k xs fs) : xs.length = fs.length := by
  induction h with
  | nil => rfl
  | cons h hj t ih => simp [ih]
theorem Fs.at {xs : List Str} {fs : List Fn} (h : Fs p w K mg base k xs fs) : ∀ (i : Nat) (y : Str) (g : Fn), xs[i]? = some y → fs[i]? = some g → FF p w K mg base k y g := by
  induction h with
  | nil => intro i y g h; simp at h
  | cons h hj t ih =>
    intro i y g h1 h2
    cases i with
    | zero =>
      simp at h1 h2
      subst h1; subst h2
      exact h.mono (Nat.le_of_ble_eq_true hj)
    | succ i => exact ih i y g (by simpa using h1) (by simpa using h2)
/-- defs as values -/
def valOf (xs : List Str) (fs : List Fn) : Str → Option Fn := fun y => (xs.zip fs).lookup y
theorem lookup_zip {y : Str} {g : Fn} : ∀ {xs : List Str} {fs : List Fn}, (xs.zip fs).lookup y = some g → ∃ i : Nat, xs[i]? = some y ∧ fs[i]? = some g
  | [], _, h => by simp at h
  | _ :: _, [], h => by simp at h
  | x :: xs, f :: fs, h => by
    rw [List.zip_cons_cons, List.lookup_cons] at h
    cases e : y == x with
    | true =>
      rw [e] at h
      have : y = x := by simpa using e
      subst this
      exact ⟨0, rfl, by simpa using h⟩
    | false =>
      rw [e] at h
      obtain ⟨i, h1, h2⟩ := lookup_zip (xs := xs) (fs := fs) h
      exact ⟨i + 1, by simpa using h1, by simpa using h2⟩
theorem Fs.val {xs : List Str} {fs : List Fn} (h : Fs p w K mg base k xs fs) : ∀ (y : Str) (g : Fn), valOf xs fs y = some g → FF p w K mg base k y g := fun y g e => by
  obtain ⟨i, h1, h2⟩ := lookup_zip (xs := xs) (fs := fs) e
  exact h.at i y g h1 h2
/-- constants by name -/
inductive Gs (mg : Str → Option Value) (K : Frag) : List Str → List D → Prop where
  | nil : Gs mg K [] []
  | cons {x : Str} {d : D} {xs : List Str} {ds : List D} (h : ∃ u v, mg x = some u ∧ RelV v u ∧ ∀ Z H, rep K mg Z H d v) (t : Gs mg K xs ds) : Gs mg K (x :: xs) (d :: ds)
theorem Gs.at {xs : List Str} {ds : List D} (h : Gs mg K xs ds) : ∀ (i : Nat) (y : Str) (d : D), xs[i]? = some y → ds[i]? = some d → ∃ u v, mg y = some u ∧ RelV v u ∧ ∀ Z H, rep K mg Z H d v := by
  induction h with
  | nil => intro i y g h; simp at h
  | cons h t ih =>
    intro i y g h1 h2
    cases i with
    | zero =>
      simp at h1 h2
      subst h1; subst h2
      exact h
    | succ i => exact ih i y g (by simpa using h1) (by simpa using h2)
theorem gl_fn (G : Gm p w K mg base) {x : Str} {i : Nat} (h : (x, i) ∈ p.defs) : ∃ u v, mg x = some u ∧ RelV v u ∧ ∀ Z H, rep K mg Z H (.fn x) v := by
  obtain ⟨fd, F, hm⟩ := G.fn _ h
  exact ⟨_, .ref _, hm, rfl, fun Z H => ⟨_, rfl, hm⟩⟩
/-- quiet defs -/
abbrev QQ (p : Pg) (w : World) (K : Frag) (mg : Str → Option Value) (base : Heap) (k : Nat) (x : Str) (f : Fn) : Prop := QFn p.prog w K mg base k x f
inductive Qs (p : Pg) (w : World) (K : Frag) (mg : Str → Option Value) (base : Heap) (k : Nat) : List Str → List Fn → Prop where
  | nil : Qs p w K mg base k [] []
  | cons {x : Str} {f : Fn} {xs : List Str} {fs : List Fn} {j : Nat} (h : QQ p w K mg base j x f) (hj : Nat.ble j k = true) (t : Qs p w K mg base k xs fs) : Qs p w K mg base k (x :: xs) (f :: fs)
theorem Qs.len {xs : List Str} {fs : List Fn} (h : Qs p w K mg base k xs fs) : xs.length = fs.length := by
  induction h with
  | nil => rfl
  | cons h hj t ih => simp [ih]
theorem Qs.at {xs : List Str} {fs : List Fn} (h : Qs p w K mg base k xs fs) : ∀ (i : Nat) (y : Str) (g : Fn), xs[i]? = some y → fs[i]? = some g → QQ p w K mg base k y g := by
  induction h with
  | nil => intro i y g h; simp at h
  | cons h hj t ih =>
    intro i y g h1 h2
    cases i with
    | zero =>
      simp at h1 h2
      subst h1; subst h2
      exact h.mono (Nat.le_of_ble_eq_true hj)
    | succ i => exact ih i y g (by simpa using h1) (by simpa using h2)
/-- a def that says nothing -/
theorem qq_bad (G : Gm p w K mg base) {x : Str} {i : Nat} (h : (x, i) ∈ p.defs) : QQ p w K mg base 0 x (fun _ => .bad) := by
  obtain ⟨fd, F, hm⟩ := G.fn _ h
  exact qfn_bad 0 hm F.kp
theorem ff_bad (G : Gm p w K mg base) {x : Str} {i : Nat} (h : (x, i) ∈ p.defs) (hp : ∃ ps : List Str, plainP (defArgs (top p.prog i)) ps = true ∧ ps.Nodup) : FF p w K mg base 0 x (fun _ => .bad) := by
  obtain ⟨fd, F, hm⟩ := G.fn _ h
  obtain ⟨ps, h1, h2⟩ := hp
  refine ⟨_, fd, ps, hm, ⟨fun vs H Q E ⟨C, ds, _, _, z⟩ => z.elim, fun A outer s H args us vs Q E _ _ _ _ ⟨C, ds, _, _, z⟩ => z.elim⟩, F.kp, F.bindsN fun kV doc pm an cdv ct us hl => bind_plain h1 h2 hl⟩
/-- the look at one def -/
def chk (N : List Str) (np : Nat) (nm gn er : List Str) (b : Ss) (st : Stmt) : Bool :=
  plainP (defArgs st) (N.take np) && C8.scC N (N.take np) (defScope st) && decide (N.take np).Nodup && decide (np ≤ N.length) && mSs nm gn N er b (defScope st) (fun _ => true) (defBody st)
theorem chk_of {N : List Str} {np : Nat} {nm gn er : List Str} {b : Ss} {st : Stmt} (h : chk N np nm gn er b st = true) : plainP (defArgs st) (N.take np) = true ∧ FnScope N (N.take np) (defScope st) ∧ (N.take np).Nodup ∧ N.Nodup ∧ (N.take np).length = np ∧ mSs nm gn N er b (defScope st) (fun _ => true) (defBody st) = true := by
  unfold chk at h
  obtain ⟨h, h5⟩ := Bk.ba h
  obtain ⟨h, h4⟩ := Bk.ba h
  obtain ⟨h, h3⟩ := Bk.ba h
  obtain ⟨h1, h2⟩ := Bk.ba h
  have S := C8.fnScope_by h2
  refine ⟨h1, S, of_decide_eq_true h3, S.nd, ?_, h5⟩
  rw [List.length_take]
  exact Nat.min_eq_left (of_decide_eq_true h4)
theorem fn_by (G : Gm p w K mg base) {x : Str} {i : Nat} (hx : (x, i) ∈ p.defs) {N : List Str} {np : Nat} {nm gn : List Str} {M : Md} {b : Ss} (c : chk N np nm gn p.errs b (top p.prog i) = true) (fs : Fs p w K mg base k nm M.fns) (vs : ∀ (y : Str) (g : Fn), M.val y = some g → FF p w K mg base k y g) (gs : Gs mg K gn M.gls) (qs : M.ac = true → x ∈ p.tabs ∧ ∃ j0, j0 + 1 ≤ k ∧ Qs p w K mg base j0 nm M.qfn) :
    FF p w K mg base (k + 1) x (fnD M np N.length b) := by
  obtain ⟨h1, S, h3, h4, h5, h6⟩ := chk_of c
  obtain ⟨fd, F, hm⟩ := G.fn _ hx
  have z := fn_ok (P := p.prog) (w := w) (mg := mg) (base := base) (cs := p.cs K) F S h1 h3 h4 hm h6 G.bi (Nat.le_of_eq fs.len) fs.at vs gs.at G.ers (fun ac => by
    obtain ⟨g1, j0, g2, g3⟩ := qs ac
    exact ⟨rfl, j0, g2, List.mem_map.mpr ⟨(x, none), List.mem_map_of_mem g1, rfl⟩, G.tb x g1, Nat.le_of_eq g3.len, g3.at⟩)
  rw [h5] at z
  exact z
/-- a quiet def by its look -/
theorem q_by (G : Gm p w K mg base) {x : Str} {i : Nat} (hx : (x, i) ∈ p.defs) {N : List Str} {np : Nat} {nm : List Str} {M : Md} {b : Ss} (c : quB nm N np b (top p.prog i) = true) (fs : Qs p w K mg base k nm M.fns) : QQ p w K mg base (k + 1) x (fnD M np N.length b) := by
  obtain ⟨fd, F, hm⟩ := G.fn _ hx
  exact qfn_by G.bi F hm c (Nat.le_of_eq fs.len) fs.at
/-- the law's own def: its function object told ahead -/
theorem law_by (G : Gm p w K mg base) {x : Str} {i : Nat} {f : Addr} {fd : FuncData} (F : FunD K x x (defArgs (top p.prog i)) (defBody (top p.prog i)) (defScope (top p.prog i)) [] [] f fd) {N : List Str} {np : Nat} {nm gn : List Str} {M : Md} {b : Ss} (c : chk N np nm gn p.errs b (top p.prog i) = true) (fs : Fs p w K mg base k nm M.fns) (vs : ∀ (y : Str) (g : Fn), M.val y = some g → FF p w K mg base k y g) (gs : Gs mg K gn M.gls) (nac : M.ac = false) :
    FnOk p.prog w K mg base (L2.CX p.prog w) (k + 1) f fd (N.take np) (spD K mg (p.cs K) (fnD M np N.length b)) := by
  obtain ⟨h1, S, h3, h4, h5, h6⟩ := chk_of c
  have z := fn_run (P := p.prog) (w := w) (mg := mg) (base := base) (cs := p.cs K) F S h4 h6 G.bi (Nat.le_of_eq fs.len) fs.at vs gs.at G.ers (fun ac => by rw [nac] at ac; cases ac)
  rw [h5] at z
  exact z
end
theorem cx_no {P : Program} {w : World} {H : Hp} {s : Shared} {e : Value} {s' : Shared} (h : L2.CX P w [] H s (fun _ _ _ => False) e s') : False := by
  obtain ⟨_, _, _, _, _, _, _, _, _, _, _, _, z⟩ := h
  exact z.elim
/-- the law at the head's heap -/
theorem lawAt {p : Pg} {l : OpenLaw} {w : World} {K : Frag} {mg : Str → Option Value} {fa : Addr} {h : Heap} {k n i : Nat} {f : Fn} (hp : l.prog = p.prog) (X : K.In h) (G : h.Ns mainGlobals mg) (c : SaysC p.fa p.fn p.tf p.ex h K) (htop : (p.prog.main.scope.names.lookup ("super" : Str)).isSome = false) (hmg : mg "law" = some (.ref fa))
    (hi : (("law" : Str), i) ∈ p.defs) (hpl : plainP (defArgs (top p.prog i)) ["script"] = true)
    (hF : ∀ (base : Heap) (f' : Addr) (fd : FuncData), Gm p w K mg base → FunD K "law" "law" (defArgs (top p.prog i)) (defBody (top p.prog i)) (defScope (top p.prog i)) [] [] f' fd → FnOk p.prog w K mg base (L2.CX p.prog w) k f' fd ["script"] (spD K mg (p.cs K) f))
    (hlaw : ∀ ns : List Int, ns.length ≤ n → (∀ z ∈ ns, Builtin.Int.intBits z ≤ 1048576) → f [.scr ns] = .ok (.bl true)) : LamX.LawAtS l w K (L2.CX l.prog w) k n "script" mg fa h := by
  have G0 : ∀ base : Heap, K.In base → base.Ns mainGlobals mg → (∀ q ∈ p.cs K, GxR.TabB base mg q.1 q.2) → Gm p w K mg base := fun base Xb Gb tb => gm_of (h := h) X G c htop tb
  have hm : defD p.prog ("law", i) ∈ p.fn := List.mem_map_of_mem hi
  obtain ⟨j, hj, e⟩ := List.mem_iff_getElem.mp hm
  obtain ⟨fd, F⟩ := c.t.def_ j (d := defD p.prog ("law", i)) (by rw [List.getElem?_eq_getElem hj, e])
  have gl : mg "law" = some (.ref (He.fAd K ("law", none))) := by
    have hf : He.Fa.glo "law" ∈ p.fa := List.mem_append_left _ (List.mem_append_left _ (List.mem_map.mpr ⟨_, hi, rfl⟩))
    obtain ⟨j, hj, e⟩ := List.mem_iff_getElem.mp hf
    exact He.glo_ok X G (c.t.fact j (f := .glo "law") (by rw [List.getElem?_eq_getElem hj, e]))
  have efa : fa = He.fAd K ("law", none) := by
    have := hmg.symm.trans gl
    cases this; rfl
  subst efa
  rw [hp]
  refine ⟨fd, p.cs K, spD K mg (p.cs K) f, fun q hq => ?_, fun q hq => ?_, fun q hq => ?_, fun s u => ?_, fun H a ns hn hb hT hS => ?_, fun base Xb Gb tb => by
    rw [hp]
    exact hF base _ fd (G0 base Xb Gb fun q hq => ⟨(tb q hq).code, (tb q hq).bm, (tb q hq).gP⟩) F⟩
  · obtain ⟨t, ht, rfl⟩ := List.mem_map.mp hq
    exact c.empty t ht
  · obtain ⟨t, ht, rfl⟩ := List.mem_map.mp hq
    exact c.out t ht
  · obtain ⟨t, ht, rfl⟩ := List.mem_map.mp hq
    exact codeHd_of_K X (c.hd t ht)
  · exact F.bindsA (ps := ["script"]) (fun kV doc pm an cdv ct us hl => bind_plain hpl (by decide) hl) s [u] rfl
  · have ok : Wd.Ok (p.cs K) ⟨H, [], []⟩ := ⟨fun a h => (nomatch h), fun a h => (nomatch h), fun q hq => ⟨#[], hT q hq, trivial⟩⟩
    have hr : rep K mg [] H (.scr ns) (.ref a) := by
      refine ⟨a, rfl, ?_⟩
      rcases hS with hS | hS
      · rcases hS with hS | ⟨o, hS⟩
        · exact .inl ⟨(fun z => nomatch z), hS⟩
        · exact .inr (.inl ⟨o, hS⟩)
      · exact .inr (.inr (.inr hS))
    refine ⟨[], [.scr ns], ok, ⟨_, [], rfl, hr, rfl⟩, ?_⟩
    rw [hlaw ns hn hb]
    exact fun H' v _ r => r
end Bk
end
section
set_option autoImplicit false
set_option linter.all false
set_option maxRecDepth 100000
/-! Plain reasoning over the interpreter. -/
namespace Bk
/-! ### lists of whole numbers -/
def intL (l : List Int) : List D := l.map D.int
theorem intsOf_intL : ∀ l : List Int, intsOf (intL l) = some l
  | [] => rfl
  | i :: l => by
    show (intsOf (intL l)).map (i :: ·) = _
    rw [intsOf_intL l]; rfl
theorem intL_len (l : List Int) : (intL l).length = l.length := by simp [intL]
mutual
theorem isData_plain : ∀ d : D, isData d = true → plainD d = true
  | .non, _ => rfl
  | .bl _, _ => rfl
  | .int _, _ => rfl
  | .str _, _ => rfl
  | .tup l, h => areData_plain l h
  | .lst l, h => areData_plain l h
  | .fn _, h => h
  | .scr _, h => h
theorem areData_plain : ∀ l : List D, areData l = true → plainDs l = true
  | [], _ => rfl
  | d :: ds, h => by
    obtain ⟨h1, h2⟩ := ba (show (isData d && areData ds) = true from h)
    show (plainD d && plainDs ds) = true
    rw [isData_plain d h1, areData_plain ds h2]; rfl
end
theorem plain_intL : ∀ l : List Int, plainDs (intL l) = true
  | [] => rfl
  | i :: l => plain_intL l
theorem eqOk_int (i j : Int) : eqOk (.int i) (.int j) = true := rfl
/-! ### loops -/
theorem loop_nil (t : Tg) (f : En → O) (ρ : En) : loop t f [] ρ = .fl (.nx ρ) := rfl
theorem loop_inv {t : Tg} {f : En → O} (Inv : Nat → En → Prop) : ∀ {ds : List D} {ρ : En} (k : Nat), Inv k ρ →
    (∀ i d ρ, ds[i]? = some d → Inv (k + i) ρ → ∃ ρ1, bindT t d ρ = .ok ρ1 ∧ ∃ ρ2, (f ρ1 = .fl (.nx ρ2) ∨ f ρ1 = .fl (.ct ρ2)) ∧ Inv (k + i + 1) ρ2) → ∃ ρ', loop t f ds ρ = .fl (.nx ρ') ∧ Inv (k + ds.length) ρ'
  | [], ρ, k, h0, _ => ⟨ρ, rfl, h0⟩
  | d :: ds, ρ, k, h0, hs => by
    obtain ⟨ρ1, h1, ρ2, h2, h3⟩ := hs 0 d ρ rfl h0
    obtain ⟨ρ', h4, h5⟩ := loop_inv Inv (ds := ds) (ρ := ρ2) (k + 1) h3 fun i d ρ hi hI => by
      have e : k + 1 + i = k + (i + 1) := by omega
      rw [e] at hI ⊢
      exact hs (i + 1) d ρ (by simpa using hi) hI
    refine ⟨ρ', ?_, by rw [List.length_cons]; have e : k + (ds.length + 1) = k + 1 + ds.length := by omega
                       rw [e]; exact h5⟩
    unfold loop
    rw [h1]
    dsimp only [O.of]
    rcases h2 with h2 | h2 <;> rw [h2] <;> exact h4
/-- the state by the items: E of the state is the env ahead of each turn -/
theorem loop_fold {α : Type} {t : Tg} {f : En → O} (E : α → En) (step : α → D → α) : ∀ (ds : List D) (a : α),
    (∀ d ∈ ds, ∀ a, ∃ ρ1, bindT t d (E a) = .ok ρ1 ∧ (f ρ1 = .fl (.nx (E (step a d))) ∨ f ρ1 = .fl (.ct (E (step a d))))) → loop t f ds (E a) = .fl (.nx (E (ds.foldl step a)))
  | [], a, _ => rfl
  | d :: ds, a, h => by
    obtain ⟨ρ1, h1, h2⟩ := h d (List.mem_cons_self ..) a
    unfold loop
    rw [h1]
    dsimp only [O.of]
    have ih := loop_fold E step ds (step a d) fun d' hd a => h d' (List.mem_cons_of_mem _ hd) a
    rcases h2 with h2 | h2 <;> rw [h2] <;> exact ih
/-- comprehensions -/
theorem comp_map {f : D → R (Option D)} {g : D → D} : ∀ {ds : List D}, (∀ d ∈ ds, f d = .ok (some (g d))) → comp f ds = .ok (ds.map g)
  | [], _ => rfl
  | d :: ds, h => by
    unfold comp
    rw [h d (List.mem_cons_self ..), comp_map fun d' hd => h d' (List.mem_cons_of_mem _ hd)]; rfl
theorem comp_filterMap {f : D → R (Option D)} {g : D → Option D} : ∀ {ds : List D}, (∀ d ∈ ds, f d = .ok (g d)) → comp f ds = .ok (ds.filterMap g)
  | [], _ => rfl
  | d :: ds, h => by
    unfold comp
    rw [h d (List.mem_cons_self ..), comp_filterMap fun d' hd => h d' (List.mem_cons_of_mem _ hd)]
    show R.ok (match g d with | some x => x :: ds.filterMap g | none => ds.filterMap g) = _
    rw [List.filterMap_cons]
    cases g d <;> rfl
theorem boolsR_map {f : D → R Bool} {g : D → Bool} : ∀ {ds : List D}, (∀ d ∈ ds, f d = .ok (g d)) → boolsR f ds = .ok (ds.map g)
  | [], _ => rfl
  | d :: ds, h => by
    unfold boolsR
    rw [h d (List.mem_cons_self ..), boolsR_map fun d' hd => h d' (List.mem_cons_of_mem _ hd)]; rfl

def rvD : D → R D
  | .tup l => .ok (.tup l.reverse)
  | .lst l => .ok (.lst l.reverse)
  | _ => .bad
@[simp] theorem rvD_tup (l : List D) : rvD (.tup l) = .ok (.tup l.reverse) := rfl
@[simp] theorem rvD_lst (l : List D) : rvD (.lst l) = .ok (.lst l.reverse) := rfl
theorem bo_mulT {x : List D} {n : Nat} (h : 1 ≤ n ∧ n ≤ 1000) (hx : x ≠ []) (hl : x.length ≤ 1000) : bo .mul (.tup x) (.int (n : Int)) = .ok (.tup (List.replicate n x).flatten) := by
  show (if (n : Int) = 1 then R.ok (D.tup x) else gd (decide (2 ≤ (n : Int)) && decide ((n : Int) ≤ 1000) && decide (x.length ≤ 1000) && !x.isEmpty) (.tup (List.replicate (n : Int).toNat x).flatten)) = _
  by_cases c : n = 1
  · subst c
    simp
  · rw [if_neg (by omega), decide_eq_true (by omega), decide_eq_true (by omega), decide_eq_true hl]
    have : x.isEmpty = false := by
      cases x with
      | nil => exact absurd rfl hx
      | cons _ _ => rfl
    rw [this, Int.toNat_natCast]
    rfl
/-! ### the interpreter's equations -/
section
variable {M : Md} {ρ : En}
@[simp] theorem bind_ok {α β : Type} (a : α) (f : α → R β) : (R.ok a).bind f = f a := id rfl
@[simp] theorem bind_ex {α β : Type} (c : Str) (d : D) (f : α → R β) : (R.ex c d : R α).bind f = R.ex c d := id rfl
@[simp] theorem bind_bad {α β : Type} (f : α → R β) : (R.bad : R α).bind f = R.bad := id rfl
@[simp] theorem ev_var (i : Nat) : ev M (.var i) ρ = Bk.get ρ i := id rfl
@[simp] theorem ev_cst (d : D) : ev M (.cst d) ρ = .ok d := id rfl
@[simp] theorem ev_glb (k : Nat) : ev M (.glb k) ρ = ofO M.gls[k]? := id rfl
@[simp] theorem ev_bin (o : BO) (a b : E) : ev M (.bin o a b) ρ = (bw ρ a (ev M a ρ)).bind fun x => (bw ρ b (ev M b ρ)).bind fun y => bo o x y := id rfl
@[simp] theorem ev_neg (a : E) : ev M (.neg a) ρ = (ev M a ρ).bind fun x => (asInt x).bind fun i => .ok (.int (-i)) := id rfl
@[simp] theorem ev_not (a : E) : ev M (.not a) ρ = (ev M a ρ).bind fun x => (truth x).bind fun b => .ok (.bl (!b)) := id rfl
@[simp] theorem ev_and (a b : E) : ev M (.and a b) ρ = (ev M a ρ).bind fun x => (truth x).bind fun t => if t = true then ev M b ρ else .ok x := id rfl
@[simp] theorem ev_or (a b : E) : ev M (.or a b) ρ = (ev M a ρ).bind fun x => (truth x).bind fun t => if t = true then .ok x else ev M b ρ := id rfl
@[simp] theorem ev_ite (c a b : E) : ev M (.ite c a b) ρ = (ev M c ρ).bind fun x => (truth x).bind fun t => if t = true then ev M a ρ else ev M b ρ := id rfl
@[simp] theorem ev_chn (o p : BO) (a b c : E) : ev M (.chn o p a b c) ρ = (bw ρ a (ev M a ρ)).bind fun x => (bw ρ b (ev M b ρ)).bind fun y => (bo o x y).bind fun r => (asBl r).bind fun t =>
      if t = true then (bw ρ c (ev M c ρ)).bind fun z => bo p y z else .ok (.bl false) := id rfl
@[simp] theorem ev_tup (es : Es) : ev M (.tup es) ρ = (evs M es ρ).bind mkT := id rfl
@[simp] theorem ev_lst (es : Es) : ev M (.lst es) ρ = (evs M es ρ).bind mkL := id rfl
@[simp] theorem ev_idx (a i : E) : ev M (.idx a i) ρ = (bw ρ a (ev M a ρ)).bind fun x => (ev M i ρ).bind fun y => ix x y := id rfl
@[simp] theorem ev_slc (a : E) (lo hi : Eo) : ev M (.slc a lo hi) ρ = (bw ρ a (ev M a ρ)).bind fun x => (evo M lo ρ).bind fun l => (evo M hi ρ).bind fun h => sl x l h := id rfl
@[simp] theorem ev_call (k : Nat) (es : Es) : ev M (.call k es) ρ = (evs M es ρ).bind fun ds => (ofO M.fns[k]?).bind fun f => f ds := id rfl
@[simp] theorem ev_cll (i : Nat) (es : Es) : ev M (.cll i es) ρ = (Bk.get ρ i).bind fun g => match g with
    | .fn x => (ofO (M.val x)).bind fun f => (evs M es ρ).bind f
    | _ => .bad := id rfl
@[simp] theorem ev_bi (f : BI) (es : Es) : ev M (.bi f es) ρ = (evsB M es ρ).bind (bi f) := id rfl
@[simp] theorem ev_isi (a : E) (ts : List Ty) : ev M (.isi a ts) ρ = (bw ρ a (ev M a ρ)).bind fun x => (ofO (isIs x ts)).bind fun b => .ok (.bl b) := id rfl
@[simp] theorem ev_lc (e : E) (t : Tg) (it : It) (c : Eo) : ev M (.lc e t it c) ρ = (evIt M true it ρ).bind fun ds => (comp (fun d => ((bindT t d (unT t ρ)).bind fun ρ' => (evC M c ρ').bind fun b =>
      if b = true then (ev M e ρ').bind fun x => .ok (some x) else .ok none).calm) ds).bind mkL := id rfl
@[simp] theorem evs_nil : evs M .nil ρ = .ok [] := id rfl
@[simp] theorem evs_cons (e : E) (es : Es) : evs M (.cons e es) ρ = (ev M e ρ).bind fun d => (evs M es ρ).bind fun ds => .ok (d :: ds) := id rfl
@[simp] theorem evsB_nil : evsB M .nil ρ = .ok [] := id rfl
@[simp] theorem evsB_cons (e : E) (es : Es) : evsB M (.cons e es) ρ = (bw ρ e (ev M e ρ)).bind fun d => (evsB M es ρ).bind fun ds => .ok (d :: ds) := id rfl
@[simp] theorem evo_no : evo M .no ρ = .ok none := id rfl
@[simp] theorem evo_so (e : E) : evo M (.so e) ρ = (ev M e ρ).bind fun d => (asInt d).bind fun i => .ok (some i) := id rfl
@[simp] theorem evC_no : evC M .no ρ = .ok true := id rfl
@[simp] theorem evC_so (e : E) : evC M (.so e) ρ = (ev M e ρ).bind truth := id rfl
@[simp] theorem evIt_seq (b : Bool) (e : E) : evIt M b (.seq e) ρ = (bwf b ρ e (ev M e ρ)).bind fun d => ofO (seqOf d) := id rfl
@[simp] theorem evIt_rng (b : Bool) (e : E) : evIt M b (.rng e) ρ = (ev M e ρ).bind fun d => (asInt d).bind fun i => rngD 0 i := id rfl
@[simp] theorem evIt_rng2 (b : Bool) (a c : E) : evIt M b (.rng2 a c) ρ = (ev M a ρ).bind fun d => (ev M c ρ).bind fun d' => (asInt d).bind fun i => (asInt d').bind fun j => rngD i j := id rfl
@[simp] theorem evIt_rev (b : Bool) (e : E) : evIt M b (.rev e) ρ = (bwf b ρ e (ev M e ρ)).bind fun d => (ofO (seqOf d)).bind fun l => .ok l.reverse := id rfl
@[simp] theorem bw_var (i : Nat) (r : R D) : bw ρ (.var i) r = getB ρ i := id rfl
@[simp] theorem bw_bin (o : BO) (a b : E) (r : R D) : bw ρ (.bin o a b) r = r := id rfl
@[simp] theorem bw_cst (d : D) (r : R D) : bw ρ (.cst d) r = r := id rfl
@[simp] theorem bw_glb (k : Nat) (r : R D) : bw ρ (.glb k) r = r := id rfl
@[simp] theorem bw_neg (a : E) (r : R D) : bw ρ (.neg a) r = r := id rfl
@[simp] theorem bw_not (a : E) (r : R D) : bw ρ (.not a) r = r := id rfl
@[simp] theorem bw_and (a b : E) (r : R D) : bw ρ (.and a b) r = r := id rfl
@[simp] theorem bw_or (a b : E) (r : R D) : bw ρ (.or a b) r = r := id rfl
@[simp] theorem bw_ite (c a b : E) (r : R D) : bw ρ (.ite c a b) r = r := id rfl
@[simp] theorem bw_chn (o p : BO) (a b c : E) (r : R D) : bw ρ (.chn o p a b c) r = r := id rfl
@[simp] theorem bw_tup (es : Es) (r : R D) : bw ρ (.tup es) r = r := id rfl
@[simp] theorem bw_lst (es : Es) (r : R D) : bw ρ (.lst es) r = r := id rfl
@[simp] theorem bw_idx (a i : E) (r : R D) : bw ρ (.idx a i) r = r := id rfl
@[simp] theorem bw_slc (a : E) (l h : Eo) (r : R D) : bw ρ (.slc a l h) r = r := id rfl
@[simp] theorem ev_rvs (a : E) : ev M (.rvs a) ρ = (bw ρ a (ev M a ρ)).bind rvD := by
  show ((bw ρ a (ev M a ρ)).bind fun x => match x with
    | D.tup l => R.ok (D.tup l.reverse)
    | D.lst l => R.ok (D.lst l.reverse)
    | _ => R.bad) = _
  congr 1
@[simp] theorem bw_rvs (a : E) (r : R D) : bw ρ (.rvs a) r = r := id rfl
@[simp] theorem bw_call (k : Nat) (es : Es) (r : R D) : bw ρ (.call k es) r = r := id rfl
@[simp] theorem bw_cll (k : Nat) (es : Es) (r : R D) : bw ρ (.cll k es) r = r := id rfl
@[simp] theorem bw_bi (f : BI) (es : Es) (r : R D) : bw ρ (.bi f es) r = r := id rfl
@[simp] theorem bw_isi (a : E) (ts : List Ty) (r : R D) : bw ρ (.isi a ts) r = r := id rfl
@[simp] theorem bw_lc (e : E) (t : Tg) (it : It) (c : Eo) (r : R D) : bw ρ (.lc e t it c) r = r := id rfl
@[simp] theorem bw_allc (al : Bool) (e : E) (t : Nat) (it : E) (r : R D) : bw ρ (.allc al e t it) r = r := id rfl
@[simp] theorem bwf_true (e : E) (r : R D) : bwf true ρ e r = bw ρ e r := id rfl
@[simp] theorem bwf_false (e : E) (r : R D) : bwf false ρ e r = r := id rfl
@[simp] theorem get_zero (d : D) : Bk.get (.sh d :: ρ) 0 = .ok d := id rfl
@[simp] theorem get_succ (s : Slot) (i : Nat) : Bk.get (s :: ρ) (i + 1) = Bk.get ρ i := id rfl
@[simp] theorem getB_zero (d : D) : getB (.sh d :: ρ) 0 = .ok d := id rfl
@[simp] theorem getB_zow (l : List D) : getB (.ow l :: ρ) 0 = .ok (.lst l) := id rfl
@[simp] theorem getB_succ (s : Slot) (i : Nat) : getB (s :: ρ) (i + 1) = getB ρ i := id rfl
@[simp] theorem getO_zero (l : List D) : getO (.ow l :: ρ) 0 = .ok l := id rfl
@[simp] theorem getO_succ (s : Slot) (i : Nat) : getO (s :: ρ) (i + 1) = getO ρ i := id rfl
@[simp] theorem all1_nil : all1 [] = [] := id rfl
@[simp] theorem all1_cons (s : Slot) : all1 (s :: ρ) = frz1 s :: all1 ρ := id rfl
@[simp] theorem frz1_sh (d : D) : frz1 (.sh d) = .sh d := id rfl
@[simp] theorem frz1_un : frz1 .un = .un := id rfl
@[simp] theorem frz1_ow (l : List D) : frz1 (.ow l) = .sh (.lst l) := id rfl
@[simp] theorem frz_nil : frz [] ρ = ρ := id rfl
@[simp] theorem run_asg (i : Nat) (e : E) (g : List Nat) : run M (.asg i e g) ρ = O.of (frz g ρ) (ev M e (frz g ρ)) fun d => .fl (.nx ((keep d ρ (frz g ρ)).set i (slotOf (fresh e) d))) := id rfl
@[simp] theorem run_asgT (is : List Nat) (e : E) (g : List Nat) : run M (.asgT is e g) ρ = O.of (frz g ρ) (ev M e (frz g ρ)) fun d => O.of (frz g ρ) (bindT (.tp is) d (keep d ρ (frz g ρ))) fun r => .fl (.nx r) := id rfl
@[simp] theorem run_asg2 (i j : Nat) (a b : E) (g : List Nat) : run M (.asg2 i j a b g) ρ = O.of (frz g ρ) (ev M a (frz g ρ)) fun x => O.of (frz g ρ) (ev M b (frz g ρ)) fun y => .fl (.nx (((frz g ρ).set i (.sh x)).set j (.sh y))) := id rfl
@[simp] theorem run_aug (i : Nat) (o : BO) (e : E) : run M (.aug i o e) ρ = O.of ρ (Bk.get ρ i) fun x => O.of ρ (ev M e ρ) fun y => O.of ρ (asInt x) fun _ => O.of ρ (bo o x y) fun r => .fl (.nx (ρ.set i (.sh r))) := id rfl
@[simp] theorem run_app (i : Nat) (e : E) (g : List Nat) : run M (.app i e g) ρ = O.of ρ (getO (frz g ρ) i) fun l => O.of (frz g ρ) (ev M e (frz g ρ)) fun d => O.of ρ (mkL (l ++ [d])) fun _ => .fl (.nx ((keep d ρ (frz g ρ)).set i (.ow (l ++ [d])))) := id rfl
@[simp] theorem run_rvs (i : Nat) : run M (.rvs i) ρ = O.of ρ (getO ρ i) fun l => .fl (.nx (ρ.set i (.ow l.reverse))) := id rfl
@[simp] theorem run_expr (e : E) : run M (.expr e) ρ = O.of ρ (ev M e (all1 ρ)) fun _ => .fl (.nx ρ) := id rfl
@[simp] theorem run_ite (c : E) (a b : Ss) : run M (.ite c a b) ρ = O.of ρ ((ev M c (all1 ρ)).bind truth) fun t => if t = true then runs M a ρ else runs M b ρ := id rfl
@[simp] theorem run_for (t : Tg) (it : It) (b : Ss) (g : List Nat) : run M (.for_ t it b g) ρ = O.of (frz g ρ) (evIt M false it (frz g ρ)) fun ds => loop t (runs M b) ds (frz g ρ) := id rfl
@[simp] theorem run_whl (n : Nat) (c : E) (b : Ss) : run M (.whl n c b) ρ = wloop (fun r => (ev M c (all1 r)).bind truth) (runs M b) n ρ := id rfl
@[simp] theorem run_ret (e : E) : run M (.ret e) ρ = O.of ρ (ev M e (all1 ρ)) fun d => .fl (.rt d) := id rfl
@[simp] theorem run_raise (c : Str) (es : Es) : run M (.raise c es) ρ = O.of ρ (evs M es ρ) fun ds => match ds with
    | [] => .ex c .non ρ
    | [d] => if flat d = true then .ex c d ρ else .bad
    | _ => .bad := id rfl
@[simp] theorem run_try (b : Ss) (c : Str) (i : Nat) (h : Hd) : run M (.try_ b c i h) ρ = match runs M b ρ with
    | .ex c' d r => if c' = c then hd h i d r else .bad
    | o => o := id rfl
@[simp] theorem run_pass : run M .pass ρ = .fl (.nx ρ) := id rfl
@[simp] theorem runs_nil : runs M .nil ρ = .fl (.nx ρ) := id rfl
@[simp] theorem runs_cons (s : S) (ss : Ss) : runs M (.cons s ss) ρ = (run M s ρ).next (runs M ss) := id rfl
@[simp] theorem slotOf_int (b : Bool) (i : Int) : slotOf b (.int i) = .sh (.int i) := id rfl
@[simp] theorem slotOf_bl (b c : Bool) : slotOf b (.bl c) = .sh (.bl c) := id rfl
@[simp] theorem slotOf_non (b : Bool) : slotOf b .non = .sh .non := id rfl
@[simp] theorem slotOf_str (b : Bool) (x : Str) : slotOf b (.str x) = .sh (.str x) := id rfl
@[simp] theorem slotOf_tup (b : Bool) (l : List D) : slotOf b (.tup l) = .sh (.tup l) := id rfl
@[simp] theorem slotOf_fn (b : Bool) (x : Str) : slotOf b (.fn x) = .sh (.fn x) := id rfl
@[simp] theorem slotOf_lst (l : List D) : slotOf true (.lst l) = .ow l := id rfl
@[simp] theorem slotOf_old (l : List D) : slotOf false (.lst l) = .sh (.lst l) := id rfl
@[simp] theorem keep_int (i : Int) (r : En) : keep (.int i) ρ r = ρ := id rfl
@[simp] theorem keep_bl (i : Bool) (r : En) : keep (.bl i) ρ r = ρ := id rfl
@[simp] theorem keep_non (r : En) : keep .non ρ r = ρ := id rfl
@[simp] theorem keep_str (x : Str) (r : En) : keep (.str x) ρ r = ρ := id rfl
@[simp] theorem keep_tup (l : List D) (r : En) : keep (.tup l) ρ r = r := id rfl
@[simp] theorem keep_lst (l : List D) (r : En) : keep (.lst l) ρ r = r := id rfl
@[simp] theorem bindT_nm (i : Nat) (d : D) : bindT (.nm i) d ρ = .ok (ρ.set i (.sh d)) := id rfl
@[simp] theorem bindT_tp (is : List Nat) (ds : List D) : bindT (.tp is) (.tup ds) ρ = setT is ds ρ := id rfl
@[simp] theorem setT_nil : setT [] [] ρ = .ok ρ := id rfl
@[simp] theorem setT_cons (i : Nat) (is : List Nat) (d : D) (ds : List D) : setT (i :: is) (d :: ds) ρ = setT is ds (ρ.set i (.sh d)) := id rfl
@[simp] theorem unT_nm (i : Nat) : unT (.nm i) ρ = ρ.set i .un := id rfl
@[simp] theorem unT_tp (is : List Nat) : unT (.tp is) ρ = wipeE ρ is := id rfl
@[simp] theorem wipeE_nil : wipeE ρ [] = ρ := id rfl
@[simp] theorem wipeE_cons (v : Nat) (vs : List Nat) : wipeE ρ (v :: vs) = (wipeE ρ vs).set v .un := id rfl
@[simp] theorem bo_add (i j : Int) : bo .add (.int i) (.int j) = .ok (.int (i + j)) := id rfl
@[simp] theorem bo_sub (i j : Int) : bo .sub (.int i) (.int j) = .ok (.int (i - j)) := id rfl
@[simp] theorem bo_lt (i j : Int) : bo .lt (.int i) (.int j) = .ok (.bl (decide (i < j))) := id rfl
@[simp] theorem bo_le (i j : Int) : bo .le (.int i) (.int j) = .ok (.bl (decide (i ≤ j))) := id rfl
@[simp] theorem bo_gt (i j : Int) : bo .gt (.int i) (.int j) = .ok (.bl (decide (j < i))) := id rfl
@[simp] theorem bo_ge (i j : Int) : bo .ge (.int i) (.int j) = .ok (.bl (decide (j ≤ i))) := id rfl
@[simp] theorem bo_eqI (i j : Int) : bo .eq (.int i) (.int j) = .ok (.bl (decide (i = j))) := id rfl
@[simp] theorem bo_neI (i j : Int) : bo .ne (.int i) (.int j) = .ok (.bl (!decide (i = j))) := id rfl
theorem bo_mul {i j : Int} (h : i.natAbs.log2 + j.natAbs.log2 < 100000000) : bo .mul (.int i) (.int j) = .ok (.int (i * j)) := gd_of (decide_eq_true h)
theorem bo_mod {i j : Int} (h : 0 < j) : bo .mod (.int i) (.int j) = .ok (.int (i % j)) := gd_of (decide_eq_true h)
theorem bo_fdiv {i j : Int} (h : 0 < j) (h2 : j.natAbs.log2 < 9000) : bo .fdiv (.int i) (.int j) = .ok (.int (i / j)) := gd_of (by rw [Bool.and_eq_true]; exact ⟨decide_eq_true h, decide_eq_true h2⟩)
@[simp] theorem bo_isN (d : D) : bo .is_ d .non = .ok (.bl (match d with | .non => true | _ => false)) := by cases d <;> rfl
@[simp] theorem bo_isnN (d : D) : bo .isn d .non = .ok (.bl (match d with | .non => false | _ => true)) := by cases d <;> rfl
@[simp] theorem asInt_i (i : Int) : asInt (.int i) = .ok i := id rfl
@[simp] theorem asBl_b (b : Bool) : asBl (.bl b) = .ok b := id rfl
@[simp] theorem truth_b (b : Bool) : truth (.bl b) = .ok b := id rfl
@[simp] theorem truth_i (i : Int) : truth (.int i) = .ok (decide (i ≠ 0)) := id rfl
@[simp] theorem ofO_s {α : Type} (a : α) : ofO (some a) = .ok a := id rfl
@[simp] theorem seqOf_tup (l : List D) : seqOf (.tup l) = some l := id rfl
@[simp] theorem seqOf_lst (l : List D) : seqOf (.lst l) = some l := id rfl
theorem mkL_le {l : List D} (h : l.length ≤ 16777216) : mkL l = .ok (.lst l) := mkL_ok h
theorem mkT_le {l : List D} (h : l.length ≤ 16777216) : mkT l = .ok (.tup l) := mkT_ok h
theorem rngD_le {a b : Int} (h : -1000000000 ≤ a ∧ a ≤ 1000000000 ∧ -1000000000 ≤ b ∧ b ≤ 1000000000) : rngD a b = .ok ((List.range (b - a).toNat).map fun i => .int (a + (i : Nat))) := by
  unfold rngD
  exact gd_of (by simp [h])
end
/-- a def's run, by its body's end -/
theorem fnD_rt {M : Md} {np n : Nat} {b : Ss} {ds : List D} {d : D} (hl : ds.length = np) (h : runs M b (ds.map Slot.sh ++ List.replicate (n - np) Slot.un) = .fl (.rt d)) : fnD M np n b ds = .ok d := by
  unfold fnD; rw [if_pos hl, h]
theorem fnD_nx {M : Md} {np n : Nat} {b : Ss} {ds : List D} {ρ : En} (hl : ds.length = np) (h : runs M b (ds.map Slot.sh ++ List.replicate (n - np) Slot.un) = .fl (.nx ρ)) : fnD M np n b ds = .ok .non := by
  unfold fnD; rw [if_pos hl, h]
theorem fnD_ex {M : Md} {np n : Nat} {b : Ss} {ds : List D} {ρ : En} {c : Str} {d : D} (hl : ds.length = np) (h : runs M b (ds.map Slot.sh ++ List.replicate (n - np) Slot.un) = .ex c d ρ) : fnD M np n b ds = .ex c d := by
  unfold fnD; rw [if_pos hl, h]

theorem ev_allc {M : Md} (hac : M.ac = true) {al : Bool} {e it : E} {t : Nat} {ρ : En} {x : D} {ds : List D} {g : D → Bool} (h1 : bw ρ it (ev M it ρ) = .ok x) (h2 : plainD x = true) (h3 : seqOf x = some ds) (h4 : ∀ d ∈ ds, ev { M with fns := M.qfn } e ((mask ρ).set t (.sh d)) = .ok (.bl (g d))) :
    ev M (.allc al e t it) ρ = .ok (.bl (if al = true then (ds.map g).all id else (ds.map g).any id)) := by
  show (if M.ac = false then R.bad else _) = _
  rw [if_neg (by rw [hac]; simp), h1, bind_ok, h2]
  show ((ofO (seqOf x)).bind fun ds => _) = _
  rw [h3]
  show (boolsR _ ds).bind _ = _
  rw [boolsR_map (g := g) fun d hd => by rw [h4 d hd]; rfl]
  rfl
theorem memI {w : List Int} {d : D} (h : d ∈ intL w) : ∃ i, i ∈ w ∧ d = .int i := by
  obtain ⟨i, h1, h2⟩ := List.mem_map.mp h
  exact ⟨i, h1, h2.symm⟩
@[simp] theorem eqD_int (i j : Int) : eqD (.int i) (.int j) = decide (i = j) := id rfl
@[simp] theorem bo_eqB (a b : Bool) : bo .eq (.bl a) (.bl b) = .ok (.bl (a == b)) := id rfl
@[simp] theorem bo_neB (a b : Bool) : bo .ne (.bl a) (.bl b) = .ok (.bl (!(a == b))) := id rfl
@[simp] theorem bi_lenT (l : List D) : bi .len [.tup l] = .ok (.int l.length) := id rfl
@[simp] theorem bi_lenL (l : List D) : bi .len [.lst l] = .ok (.int l.length) := id rfl
@[simp] theorem bi_lenS (l : List Int) : bi .len [.scr l] = .ok (.int l.length) := id rfl
@[simp] theorem bi_tupT (l : List D) : bi .tuple [.tup l] = .ok (.tup l) := id rfl
@[simp] theorem bi_tupL (l : List D) : bi .tuple [.lst l] = .ok (.tup l) := id rfl
@[simp] theorem bi_lstT (l : List D) : bi .list [.tup l] = .ok (.lst l) := id rfl
@[simp] theorem bi_lstL (l : List D) : bi .list [.lst l] = .ok (.lst l) := id rfl
@[simp] theorem bi_intI (i : Int) : bi .int [.int i] = .ok (.int i) := id rfl
@[simp] theorem bi_mx2 (i j : Int) : bi .max2 [.int i, .int j] = .ok (.int (if j > i then j else i)) := id rfl
@[simp] theorem bi_mn2 (i j : Int) : bi .min2 [.int i, .int j] = .ok (.int (if j < i then j else i)) := id rfl
@[simp] theorem bi_sumL (w : List Int) : bi .sum [.lst (intL w)] = .ok (.int w.sum) := by
  show (ofO (intsOf (intL w))).bind _ = _
  rw [intsOf_intL]; rfl
@[simp] theorem bi_sumT (w : List Int) : bi .sum [.tup (intL w)] = .ok (.int w.sum) := by
  show (ofO (intsOf (intL w))).bind _ = _
  rw [intsOf_intL]; rfl
theorem bi_maxL (n : Int) (w : List Int) : bi .max1 [.lst (intL (n :: w))] = .ok (.int (maxL n w)) := by
  show (ofO (intsOf (intL (n :: w)))).bind _ = _
  rw [intsOf_intL]; rfl
theorem bi_minL (n : Int) (w : List Int) : bi .min1 [.lst (intL (n :: w))] = .ok (.int (minL n w)) := by
  show (ofO (intsOf (intL (n :: w)))).bind _ = _
  rw [intsOf_intL]; rfl

/-! ### more on loops and subscripts -/
theorem loop_cons (t : Tg) (f : En → O) (d : D) (ds : List D) (ρ : En) : loop t f (d :: ds) ρ = O.of ρ (bindT t d ρ) fun ρ' => match f ρ' with
    | .fl (.nx r) => loop t f ds r
    | .fl (.ct r) => loop t f ds r
    | .fl (.bk r) => .fl (.nx r)
    | o => o := rfl
/-- running values -/
def scan (g : Int → Int → Int) : Int → List Int → List Int
  | x, [] => [x]
  | x, w :: l => x :: scan g (g x w) l
theorem scan_len (g : Int → Int → Int) : ∀ (l : List Int) (x : Int), (scan g x l).length = l.length + 1
  | [], _ => rfl
  | w :: l, x => by show (scan g _ l).length + 1 = _; rw [scan_len g l]; rfl
theorem scan_snoc (g : Int → Int → Int) : ∀ (l : List Int) (x w : Int), ∃ r y, scan g x l = r ++ [y] ∧ scan g x (l ++ [w]) = r ++ [y, g y w]
  | [], x, w => ⟨[], x, rfl, rfl⟩
  | a :: l, x, w => by
    obtain ⟨r, y, h1, h2⟩ := scan_snoc g l (g x a) w
    refine ⟨x :: r, y, ?_, ?_⟩
    · show x :: scan g (g x a) l = _
      rw [h1]; rfl
    · show x :: scan g (g x a) (l ++ [w]) = _
      rw [h2]; rfl
/-- a row that grows by its last -/
theorem loop_scan {f : En → O} {t : Tg} (E : List D → Slot → En) (g : Int → Int → Int)
    (hs : ∀ (r : List Int) (x w : Int) (s : Slot), r.length ≤ 1000 → ∃ ρ1, bindT t (.int w) (E (intL (r ++ [x])) s) = .ok ρ1 ∧ f ρ1 = .fl (.nx (E (intL (r ++ [x, g x w])) (.sh (.int w))))) :
    ∀ (l r : List Int) (x : Int) (s : Slot), r.length + l.length ≤ 1000 → ∃ s', loop t f (intL l) (E (intL (r ++ [x])) s) = .fl (.nx (E (intL (r ++ scan g x l)) s'))
  | [], r, x, s, _ => ⟨s, rfl⟩
  | w :: l, r, x, s, hl => by
    rw [List.length_cons] at hl
    obtain ⟨ρ1, h1, h2⟩ := hs r x w s (by omega)
    have e : r ++ [x, g x w] = (r ++ [x]) ++ [g x w] := by simp
    rw [e] at h2
    obtain ⟨s', ih⟩ := loop_scan E g hs l (r ++ [x]) (g x w) (.sh (.int w)) (by rw [List.length_append, List.length_singleton]; omega)
    refine ⟨s', ?_⟩
    show loop t f (.int w :: intL l) _ = _
    rw [loop_cons, h1]
    dsimp only [O.of]
    rw [h2]
    dsimp only
    rw [ih]
    have e2 : r ++ [x] ++ scan g (g x w) l = r ++ scan g x (w :: l) := by simp [scan]
    rw [e2]
/-- every turn keeps Inv, or returns -/
theorem loop_ret {t : Tg} {f : En → O} (r : D → Option D) (Inv : En → Prop) : ∀ {ds : List D} {ρ : En},
    (∀ d ∈ ds, ∀ ρ, Inv ρ → ∃ ρ1, bindT t d ρ = .ok ρ1 ∧ ((∃ v, r d = some v ∧ f ρ1 = .fl (.rt v)) ∨ (r d = none ∧ ∃ ρ2, (f ρ1 = .fl (.nx ρ2) ∨ f ρ1 = .fl (.ct ρ2)) ∧ Inv ρ2))) → Inv ρ →
    (∃ v, ds.findSome? r = some v ∧ loop t f ds ρ = .fl (.rt v)) ∨ (ds.findSome? r = none ∧ ∃ ρ', loop t f ds ρ = .fl (.nx ρ') ∧ Inv ρ')
  | [], ρ, _, h => .inr ⟨rfl, ρ, rfl, h⟩
  | d :: ds, ρ, hs, h => by
    obtain ⟨ρ1, h1, h2⟩ := hs d (List.mem_cons_self ..) ρ h
    unfold loop
    rw [h1]
    dsimp only [O.of]
    rw [List.findSome?_cons]
    rcases h2 with ⟨v, h3, h4⟩ | ⟨h3, ρ2, h4, h5⟩
    · rw [h3, h4]
      exact .inl ⟨v, rfl, rfl⟩
    · rw [h3]
      have ih := loop_ret r Inv (ds := ds) (ρ := ρ2) (fun d' hd => hs d' (List.mem_cons_of_mem _ hd)) h5
      rcases h4 with h4 | h4 <;> rw [h4] <;> exact ih
/-- a loop that hands back c where a check fails -/
theorem loop_chk {t : Tg} {f : En → O} (c : D) (Inv : Nat → En → Prop) (p : Nat → Bool) : ∀ {ds : List D} {ρ : En} (k : Nat), Inv k ρ →
    (∀ i d ρ, ds[i]? = some d → Inv (k + i) ρ → ∃ ρ1, bindT t d ρ = .ok ρ1 ∧ ((p (k + i) = false ∧ f ρ1 = .fl (.rt c)) ∨ (p (k + i) = true ∧ ∃ ρ2, (f ρ1 = .fl (.nx ρ2) ∨ f ρ1 = .fl (.ct ρ2)) ∧ Inv (k + i + 1) ρ2))) →
    (((List.range ds.length).all fun i => p (k + i)) = false ∧ loop t f ds ρ = .fl (.rt c)) ∨ (((List.range ds.length).all fun i => p (k + i)) = true ∧ ∃ ρ', loop t f ds ρ = .fl (.nx ρ') ∧ Inv (k + ds.length) ρ')
  | [], ρ, k, h0, _ => .inr ⟨rfl, ρ, rfl, h0⟩
  | d :: ds, ρ, k, h0, hs => by
    have hr : ((List.range (d :: ds).length).all fun i => p (k + i)) = (p k && (List.range ds.length).all fun i => p (k + 1 + i)) := by
      rw [List.length_cons, List.range_succ_eq_map, List.all_cons, List.all_map]
      congr 1
      congr 1
      funext i
      show p (k + (i + 1)) = _
      congr 1; omega
    rw [hr]
    obtain ⟨ρ1, h1, h2⟩ := hs 0 d ρ rfl h0
    rw [Nat.add_zero] at h2
    rcases h2 with ⟨h2, h3⟩ | ⟨h2, ρ2, h3, h4⟩
    · refine .inl ⟨by rw [h2, Bool.false_and], ?_⟩
      unfold loop
      rw [h1]
      dsimp only [O.of]
      rw [h3]
    · have ih := loop_chk c Inv p (ds := ds) (ρ := ρ2) (k + 1) h4 fun i d ρ hi hI => by
        have e : k + 1 + i = k + (i + 1) := by omega
        rw [e] at hI ⊢
        exact hs (i + 1) d ρ (by simpa using hi) hI
      rw [h2, Bool.true_and]
      have e : k + (d :: ds).length = k + 1 + ds.length := by rw [List.length_cons]; omega
      rw [e]
      unfold loop
      rw [h1]
      dsimp only [O.of]
      rcases h3 with h3 | h3 <;> rw [h3] <;> exact ih
/-- every turn keeps Inv -/
theorem loop_keep {t : Tg} {f : En → O} (Inv : En → Prop) {ds : List D} {ρ : En} (h : Inv ρ) (hs : ∀ d ∈ ds, ∀ ρ, Inv ρ → ∃ ρ1, bindT t d ρ = .ok ρ1 ∧ ∃ ρ2, (f ρ1 = .fl (.nx ρ2) ∨ f ρ1 = .fl (.ct ρ2)) ∧ Inv ρ2) :
    ∃ ρ', loop t f ds ρ = .fl (.nx ρ') ∧ Inv ρ' := by
  have := loop_ret (t := t) (f := f) (fun _ => none) Inv (ds := ds) (ρ := ρ) (fun d hd ρ hI => by
    obtain ⟨ρ1, h1, h2⟩ := hs d hd ρ hI
    exact ⟨ρ1, h1, .inr ⟨rfl, h2⟩⟩) h
  rcases this with ⟨v, h1, _⟩ | ⟨_, h2⟩
  · have : ∀ l : List D, l.findSome? (fun _ => (none : Option D)) = none := fun l => by induction l <;> simp_all
    rw [this] at h1
    cases h1
  · exact h2
theorem atI_nat {α : Type} {l : List α} {i : Nat} {a : α} (h : l[i]? = some a) : Bk.atI l (i : Int) = some a := by
  obtain ⟨hi, e⟩ := List.getElem?_eq_some_iff.mp h
  unfold Bk.atI Bk.ixN
  rw [if_pos (Int.natCast_nonneg i), if_pos (Int.ofNat_lt.mpr hi)]
  show l[((i : Nat) : Int).toNat]? = _
  rw [Int.toNat_natCast]; exact h
theorem atI_last {α : Type} {l : List α} {a : α} : Bk.atI (l ++ [a]) (-1) = some a := by
  unfold Bk.atI Bk.ixN
  rw [if_neg (by decide), if_pos (by simp; omega)]
  show (l ++ [a])[((-1 : Int) + ((l ++ [a]).length : Nat)).toNat]? = _
  have : ((-1 : Int) + ((l ++ [a]).length : Nat)).toNat = l.length := by
    rw [List.length_append]
    simp
    omega
  rw [this]
  simp
theorem ix_lst {l : List D} {i : Int} {d : D} (h : Bk.atI l i = some d) : ix (.lst l) (.int i) = .ok d := by
  show ofO (Bk.atI l i) = _
  rw [h]; rfl
theorem ix_tup {l : List D} {i : Int} {d : D} (h : Bk.atI l i = some d) : ix (.tup l) (.int i) = .ok d := by
  show ofO (Bk.atI l i) = _
  rw [h]; rfl
theorem intL_get {w : List Int} {i : Nat} {x : Int} (h : w[i]? = some x) : (intL w)[i]? = some (.int x) := by
  unfold intL
  rw [List.getElem?_map, h]; rfl
/-- the range's items -/
theorem memR {a : Int} {n : Nat} {d : D} (h : d ∈ (List.range n).map fun (i : Nat) => D.int (a + (i : Nat))) : ∃ i : Nat, i < n ∧ d = .int (a + (i : Nat)) := by
  obtain ⟨i, h1, h2⟩ := List.mem_map.mp h
  exact ⟨i, List.mem_range.mp h1, h2.symm⟩

theorem log_lt {i : Int} (h : -1000000000000 ≤ i ∧ i ≤ 1000000000000) : i.natAbs.log2 < 64 := by
  refine PySem.Flt.log2_lt_of (by decide) ?_
  have : i.natAbs ≤ 1000000000000 := by omega
  exact Nat.lt_of_le_of_lt this (by decide)
theorem bo_mulS {i j : Int} (hi : -1000000000000 ≤ i ∧ i ≤ 1000000000000) (hj : -1000000000000 ≤ j ∧ j ≤ 1000000000000) : bo .mul (.int i) (.int j) = .ok (.int (i * j)) := by
  refine bo_mul ?_
  have h1 := log_lt hi
  have h2 := log_lt hj
  omega
theorem sl_tup (l : List D) (a b : Nat) (ha : a ≤ l.length) (hb : b ≤ l.length) : sl (.tup l) (some (a : Int)) (some (b : Int)) = .ok (.tup ((l.drop a).take (b - a))) := by
  have e : ∀ n d k : Nat, k ≤ n → sIx n d (some (k : Int)) = k := fun n d k hk => by
    unfold sIx
    dsimp only
    rw [if_neg (by omega), Int.toNat_natCast]
    exact Nat.min_eq_left hk
  show R.ok (D.tup (cut l (some (a : Int)) (some (b : Int)))) = _
  unfold cut
  rw [e _ _ _ ha, e _ _ _ hb]
theorem sl_lst (l : List D) (a b : Nat) (ha : a ≤ l.length) (hb : b ≤ l.length) : sl (.lst l) (some (a : Int)) (some (b : Int)) = .ok (.lst ((l.drop a).take (b - a))) := by
  have e : ∀ n d k : Nat, k ≤ n → sIx n d (some (k : Int)) = k := fun n d k hk => by
    unfold sIx
    dsimp only
    rw [if_neg (by omega), Int.toNat_natCast]
    exact Nat.min_eq_left hk
  show R.ok (D.lst (cut l (some (a : Int)) (some (b : Int)))) = _
  unfold cut
  rw [e _ _ _ ha, e _ _ _ hb]
theorem sl_tupH (l : List D) (b : Nat) (hb : b ≤ l.length) : sl (.tup l) none (some (b : Int)) = .ok (.tup (l.take b)) := by
  show R.ok (D.tup (cut l none (some (b : Int)))) = _
  unfold cut
  have e : sIx l.length l.length (some (b : Int)) = b := by
    unfold sIx
    dsimp only
    rw [if_neg (by omega), Int.toNat_natCast]
    exact Nat.min_eq_left hb
  rw [e]
  show R.ok (D.tup ((l.drop 0).take (b - 0))) = _
  simp
theorem sl_lstH (l : List D) (b : Nat) (hb : b ≤ l.length) : sl (.lst l) none (some (b : Int)) = .ok (.lst (l.take b)) := by
  show R.ok (D.lst (cut l none (some (b : Int)))) = _
  unfold cut
  have e : sIx l.length l.length (some (b : Int)) = b := by
    unfold sIx
    dsimp only
    rw [if_neg (by omega), Int.toNat_natCast]
    exact Nat.min_eq_left hb
  rw [e]
  show R.ok (D.lst ((l.drop 0).take (b - 0))) = _
  simp
theorem intL_drop (l : List Int) (a : Nat) : (intL l).drop a = intL (l.drop a) := by simp [intL]
theorem intL_take (l : List Int) (a : Nat) : (intL l).take a = intL (l.take a) := by simp [intL]
theorem intL_app (a b : List Int) : intL (a ++ b) = intL a ++ intL b := by simp [intL]
theorem intL_rev (l : List Int) : (intL l).reverse = intL l.reverse := by simp [intL]
theorem intL_getD {w : List Int} {i : Nat} (h : i < w.length) : (intL w)[i]? = some (.int (w.getD i 0)) := by
  rw [List.getD_eq_getElem?_getD, List.getElem?_eq_getElem h]
  exact intL_get (List.getElem?_eq_getElem h)

theorem rng0 {n : Nat} (h : n ≤ 1000000) : rngD 0 (n : Int) = .ok ((List.range n).map fun i => .int ((i : Nat) : Int)) := by
  rw [rngD_le (by omega)]
  have e : ((n : Int) - 0).toNat = n := by omega
  rw [e]
  congr 1
  exact List.map_congr_left fun i _ => by rw [Int.zero_add]
theorem rngAB {a b : Nat} (h : b ≤ 1000000) (hab : a ≤ b) : rngD (a : Int) (b : Int) = .ok ((List.range (b - a)).map fun i => .int ((a + i : Nat) : Int)) := by
  rw [rngD_le (by omega)]
  have e : ((b : Int) - (a : Int)).toNat = b - a := by omega
  rw [e]
  congr 1

theorem wloop_go {c : En → R Bool} {f : En → O} (E : Nat → En) (m : Nat) (hm : c (E m) = .ok false) : ∀ (fuel k : Nat), k ≤ m → m - k < fuel → (∀ i, k ≤ i → i < m → c (E i) = .ok true ∧ f (E i) = .fl (.nx (E (i + 1)))) → wloop c f fuel (E k) = .fl (.nx (E m))
  | 0, k, _, h, _ => absurd h (Nat.not_lt_zero _)
  | n + 1, k, hk, hf, h => by
    unfold wloop
    rcases Nat.eq_or_lt_of_le hk with e | e
    · subst e
      rw [hm]; rfl
    · obtain ⟨h1, h2⟩ := h k (Nat.le_refl _) e
      rw [h1]
      dsimp only [O.of]
      rw [if_pos rfl, h2]
      exact wloop_go E m hm n (k + 1) e (by omega) fun i hi => h i (by omega)
end Bk
end
section
set_option Elab.async false
set_option linter.all false
set_option maxRecDepth 100000
set_option maxHeartbeats 0
namespace T10
open PySem PySem.W PySem.Calls PyProof.Rows Bk
/-! printed by gen.py -/
def pg : Pg where
  prog := PySem.Challenge.pw_banktold_k10_van_and_shelf
  defs := [("_law_numbers", 26), ("_law_wants", 27), ("_law_fetchings", 28), ("_law_bad_days", 29), ("is_seq", 5), ("is_int", 4), ("is_in", 6), ("clean_wants", 7), ("_need_wants", 9), ("_need_size", 10), ("_need_all", 11), ("_want_more", 14), ("_least_pair", 15), ("_fetched", 13), ("_low_stocks", 12), ("can_fill", 19), ("_law_same", 23), ("_law_int", 22), ("_law_is_fetching", 30), ("_law_so", 31), ("_is_fetching", 16), ("fill_holds", 20), ("_law_listed", 24), ("is_fetching", 17), ("stock", 18), ("_law_refused", 25), ("law", 32)]
  errs := (["BadValue"] : List PySem.Str)
  tabs := (["clean_wants", "_is_fetching", "stock"] : List PySem.Str)

-- _law_numbers
def N__law_numbers : List PySem.Str := (["script", "place", "many", "cell", "numbers", "rest", "k", "twice"] : List PySem.Str)
def b__law_numbers : Ss := (.cons (.asg 3 (.ite (.bin .lt (.var 1) (.bi .len (.cons (.var 0) .nil))) (.idx (.var 0) (.var 1)) (.cst (.int 0))) [])
  (.cons (.asg 4 (.lst .nil) [])
  (.cons (.asg 5 (.var 3) [])
  (.cons (.for_ (.nm 6) (.rng (.var 2))
  (.cons (.ite (.bin .ge (.var 3) (.bin .pow (.cst (.int 10)) (.cst (.int 18))))
  (.cons (.app 4 (.bin .mod (.bi .int (.cons (.var 5) .nil)) (.bin .pow (.cst (.int 10)) (.cst (.int 9)))) [])
  (.cons (.asg 5 (.bin .fdiv (.var 5) (.bin .pow (.cst (.int 10)) (.cst (.int 9)))) [])
  .nil))
  (.cons (.asg 7 (.bin .mod (.bi .int (.cons (.bin .add (.bin .add (.bin .mul (.var 3) (.cst (.int 48271))) (.bin .mul (.bin .add (.var 6) (.cst (.int 1))) (.cst (.int 69621)))) (.var 1)) .nil)) (.cst (.int 2147483647))) [])
  (.cons (.app 4 (.bin .mod (.bin .mod (.bi .int (.cons (.bin .add (.bin .mul (.var 7) (.cst (.int 16807))) (.bin .mul (.bin .add (.var 6) (.cst (.int 3))) (.cst (.int 40692)))) .nil)) (.cst (.int 2147483399))) (.bin .pow (.cst (.int 10)) (.cst (.int 9)))) [])
  .nil)))
  .nil) [])
  (.cons (.ret (.var 4))
  .nil)))))
def M__law_numbers : Md := { fns := [] }
def f__law_numbers : Fn := fnD M__law_numbers 3 8 b__law_numbers
theorem c__law_numbers : chk N__law_numbers 3 ([] : List PySem.Str) ([] : List PySem.Str) pg.errs b__law_numbers (Bk.top pg.prog 26) = true := by decide +kernel

-- _law_wants
def N__law_wants : List PySem.Str := (["numbers", "number"] : List PySem.Str)
def b__law_wants : Ss := (.cons (.ret (.bi .tuple (.cons (.lc (.ite (.bin .eq (.bin .mod (.bi .int (.cons (.var 1) .nil)) (.cst (.int 4))) (.cst (.int 0))) (.cst (.int 0)) (.bin .mod (.bi .int (.cons (.bin .fdiv (.var 1) (.cst (.int 4))) .nil)) (.cst (.int 7)))) (.nm 1) (.seq (.var 0)) .no) .nil)))
  .nil)
def M__law_wants : Md := { fns := [] }
def f__law_wants : Fn := fnD M__law_wants 1 2 b__law_wants
theorem c__law_wants : chk N__law_wants 1 ([] : List PySem.Str) ([] : List PySem.Str) pg.errs b__law_wants (Bk.top pg.prog 27) = true := by decide +kernel

-- _law_fetchings
def N__law_fetchings : List PySem.Str := (["wants", "van", "shelf", "rows", "want", "longer", "row", "left", "f"] : List PySem.Str)
def b__law_fetchings : Ss := (.cons (.asg 3 (.lst (.cons (.tup (.cons (.tup .nil) (.cons (.cst (.int 0)) .nil))) .nil)) [])
  (.cons (.for_ (.nm 4) (.seq (.var 0))
  (.cons (.asg 5 (.lst .nil) [])
  (.cons (.for_ (.tp [6, 7]) (.seq (.var 3))
  (.cons (.asg 5 (.bin .add (.var 5) (.lc (.tup (.cons (.bin .add (.var 6) (.tup (.cons (.var 8) .nil))) (.cons (.bin .sub (.bin .add (.var 7) (.var 8)) (.var 4)) .nil))) (.nm 8) (.rng (.bin .add (.var 1) (.cst (.int 1)))) (.so (.and (.bin .ge (.bin .sub (.bin .add (.var 7) (.var 8)) (.var 4)) (.cst (.int 0))) (.bin .le (.bin .sub (.bin .add (.var 7) (.var 8)) (.var 4)) (.var 2)))))) [])
  .nil) [3])
  (.cons (.asg 3 (.slc (.var 5) .no (.so (.cst (.int 4000)))) [])
  .nil))) [])
  (.cons (.ret (.lc (.var 6) (.tp [6, 7]) (.seq (.var 3)) .no))
  .nil)))
def M__law_fetchings : Md := { fns := [] }
def f__law_fetchings : Fn := fnD M__law_fetchings 3 9 b__law_fetchings
theorem c__law_fetchings : chk N__law_fetchings 3 ([] : List PySem.Str) ([] : List PySem.Str) pg.errs b__law_fetchings (Bk.top pg.prog 28) = true := by decide +kernel

-- _law_bad_days
def N__law_bad_days : List PySem.Str := (["wants", "van", "shelf", "found", "a", "b"] : List PySem.Str)
def b__law_bad_days : Ss := (.cons (.asg 3 (.lst .nil) [])
  (.cons (.for_ (.nm 4) (.rng (.bi .len (.cons (.var 0) .nil)))
  (.cons (.for_ (.nm 5) (.rng2 (.var 4) (.bi .len (.cons (.var 0) .nil)))
  (.cons (.ite (.bin .gt (.bi .sum (.cons (.slc (.var 0) (.so (.var 4)) (.so (.bin .add (.var 5) (.cst (.int 1))))) .nil)) (.bin .add (.bin .mul (.var 1) (.bin .add (.bin .sub (.var 5) (.var 4)) (.cst (.int 1)))) (.ite (.bin .gt (.var 4) (.cst (.int 0))) (.var 2) (.cst (.int 0)))))
  (.cons (.app 3 (.tup (.cons (.var 4) (.cons (.var 5) .nil))) [])
  .nil)
  .nil)
  .nil) [])
  .nil) [])
  (.cons (.ret (.var 3))
  .nil)))
def M__law_bad_days : Md := { fns := [] }
def f__law_bad_days : Fn := fnD M__law_bad_days 3 6 b__law_bad_days
theorem c__law_bad_days : chk N__law_bad_days 3 ([] : List PySem.Str) ([] : List PySem.Str) pg.errs b__law_bad_days (Bk.top pg.prog 29) = true := by decide +kernel

-- is_seq
def N_is_seq : List PySem.Str := (["value"] : List PySem.Str)
def b_is_seq : Ss := (.cons (.ret (.or (.isi (.var 0) [.tuple]) (.isi (.var 0) [.list])))
  .nil)
def M_is_seq : Md := { fns := [] }
def f_is_seq : Fn := fnD M_is_seq 1 1 b_is_seq
theorem c_is_seq : chk N_is_seq 1 ([] : List PySem.Str) ([] : List PySem.Str) pg.errs b_is_seq (Bk.top pg.prog 5) = true := by decide +kernel

-- is_int
def N_is_int : List PySem.Str := (["value"] : List PySem.Str)
def b_is_int : Ss := (.cons (.ret (.and (.isi (.var 0) [.int]) (.not (.isi (.var 0) [.bool]))))
  .nil)
def M_is_int : Md := { fns := [] }
def f_is_int : Fn := fnD M_is_int 1 1 b_is_int
theorem c_is_int : chk N_is_int 1 ([] : List PySem.Str) ([] : List PySem.Str) pg.errs b_is_int (Bk.top pg.prog 4) = true := by decide +kernel
theorem k_is_int : quB ([] : List PySem.Str) N_is_int 1 b_is_int (Bk.top pg.prog 4) = true := by decide +kernel

-- is_in
def N_is_in : List PySem.Str := (["value", "low", "high"] : List PySem.Str)
def b_is_in : Ss := (.cons (.ret (.and (.call 0 (.cons (.var 0) .nil)) (.chn .le .le (.var 1) (.var 0) (.var 2))))
  .nil)
def M_is_in : Md := { fns := [f_is_int] }
def f_is_in : Fn := fnD M_is_in 3 3 b_is_in
theorem c_is_in : chk N_is_in 3 (["is_int"] : List PySem.Str) ([] : List PySem.Str) pg.errs b_is_in (Bk.top pg.prog 6) = true := by decide +kernel
theorem k_is_in : quB (["is_int"] : List PySem.Str) N_is_in 3 b_is_in (Bk.top pg.prog 6) = true := by decide +kernel

-- clean_wants
def N_clean_wants : List PySem.Str := (["value", "member"] : List PySem.Str)
def b_clean_wants : Ss := (.cons (.ite (.or (.not (.call 0 (.cons (.var 0) .nil))) (.not (.chn .le .le (.cst (.int 1)) (.bi .len (.cons (.var 0) .nil)) (.cst (.int 14)))))
  (.cons (.ret (.cst .non))
  .nil)
  .nil)
  (.cons (.ite (.not (.allc true (.call 1 (.cons (.var 1) (.cons (.cst (.int 0)) (.cons (.cst (.int 20)) .nil)))) 1 (.var 0)))
  (.cons (.ret (.cst .non))
  .nil)
  .nil)
  (.cons (.ret (.bi .tuple (.cons (.var 0) .nil)))
  .nil)))
def M_clean_wants : Md := { fns := [f_is_seq, f_is_in], ac := true, qfn := [fun _ => .bad, f_is_in] }
def f_clean_wants : Fn := fnD M_clean_wants 1 2 b_clean_wants
theorem c_clean_wants : chk N_clean_wants 1 (["is_seq", "is_in"] : List PySem.Str) ([] : List PySem.Str) pg.errs b_clean_wants (Bk.top pg.prog 7) = true := by decide +kernel

-- _need_wants
def N__need_wants : List PySem.Str := (["wants", "known"] : List PySem.Str)
def b__need_wants : Ss := (.cons (.asg 1 (.call 0 (.cons (.var 0) .nil)) [])
  (.cons (.ite (.bin .is_ (.var 1) (.cst .non))
  (.cons (.raise "BadValue" (.cons (.cst (.int 1)) .nil))
  .nil)
  .nil)
  (.cons (.ret (.var 1))
  .nil)))
def M__need_wants : Md := { fns := [f_clean_wants] }
def f__need_wants : Fn := fnD M__need_wants 1 2 b__need_wants
theorem c__need_wants : chk N__need_wants 1 (["clean_wants"] : List PySem.Str) ([] : List PySem.Str) pg.errs b__need_wants (Bk.top pg.prog 9) = true := by decide +kernel

-- _need_size
def N__need_size : List PySem.Str := (["size", "at"] : List PySem.Str)
def b__need_size : Ss := (.cons (.ite (.not (.call 0 (.cons (.var 0) (.cons (.cst (.int 0)) (.cons (.cst (.int 99)) .nil)))))
  (.cons (.raise "BadValue" (.cons (.var 1) .nil))
  .nil)
  .nil)
  .nil)
def M__need_size : Md := { fns := [f_is_in] }
def f__need_size : Fn := fnD M__need_size 2 2 b__need_size
theorem c__need_size : chk N__need_size 2 (["is_in"] : List PySem.Str) ([] : List PySem.Str) pg.errs b__need_size (Bk.top pg.prog 10) = true := by decide +kernel

-- _need_all
def N__need_all : List PySem.Str := (["wants", "van", "shelf", "known"] : List PySem.Str)
def b__need_all : Ss := (.cons (.asg 3 (.call 0 (.cons (.var 0) .nil)) [])
  (.cons (.expr (.call 1 (.cons (.var 1) (.cons (.cst (.int 2)) .nil))))
  (.cons (.expr (.call 1 (.cons (.var 2) (.cons (.cst (.int 3)) .nil))))
  (.cons (.ret (.var 3))
  .nil))))
def M__need_all : Md := { fns := [f__need_wants, f__need_size] }
def f__need_all : Fn := fnD M__need_all 3 4 b__need_all
theorem c__need_all : chk N__need_all 3 (["_need_wants", "_need_size"] : List PySem.Str) ([] : List PySem.Str) pg.errs b__need_all (Bk.top pg.prog 11) = true := by decide +kernel

-- _want_more
def N__want_more : List PySem.Str := (["wants", "van", "shelf", "first", "last", "room"] : List PySem.Str)
def b__want_more : Ss := (.cons (.asg 5 (.bin .mul (.var 1) (.bin .sub (.bin .add (.var 4) (.cst (.int 1))) (.var 3))) [])
  (.cons (.ite (.bin .ne (.var 3) (.cst (.int 0)))
  (.cons (.aug 5 .add (.var 2))
  .nil)
  .nil)
  (.cons (.ret (.bin .gt (.bi .sum (.cons (.slc (.var 0) (.so (.var 3)) (.so (.bin .add (.var 4) (.cst (.int 1))))) .nil)) (.var 5)))
  .nil)))
def M__want_more : Md := { fns := [] }
def f__want_more : Fn := fnD M__want_more 5 6 b__want_more
theorem c__want_more : chk N__want_more 5 ([] : List PySem.Str) ([] : List PySem.Str) pg.errs b__want_more (Bk.top pg.prog 14) = true := by decide +kernel

-- _least_pair
def N__least_pair : List PySem.Str := (["wants", "van", "shelf", "first", "last"] : List PySem.Str)
def b__least_pair : Ss := (.cons (.for_ (.nm 3) (.rng (.bi .len (.cons (.var 0) .nil)))
  (.cons (.for_ (.nm 4) (.rng2 (.var 3) (.bi .len (.cons (.var 0) .nil)))
  (.cons (.ite (.call 0 (.cons (.var 0) (.cons (.var 1) (.cons (.var 2) (.cons (.var 3) (.cons (.var 4) .nil))))))
  (.cons (.ret (.tup (.cons (.var 3) (.cons (.var 4) .nil))))
  .nil)
  .nil)
  .nil) [])
  .nil) [])
  (.cons (.ret (.cst .non))
  .nil))
def M__least_pair : Md := { fns := [f__want_more] }
def f__least_pair : Fn := fnD M__least_pair 3 5 b__least_pair
theorem c__least_pair : chk N__least_pair 3 (["_want_more"] : List PySem.Str) ([] : List PySem.Str) pg.errs b__least_pair (Bk.top pg.prog 15) = true := by decide +kernel

-- _fetched
def N__fetched : List PySem.Str := (["wants", "row", "day"] : List PySem.Str)
def b__fetched : Ss := (.cons (.ret (.bi .tuple (.cons (.lc (.bin .sub (.bin .add (.idx (.var 1) (.bin .add (.var 2) (.cst (.int 1)))) (.idx (.var 0) (.var 2))) (.idx (.var 1) (.var 2))) (.nm 2) (.rng (.bi .len (.cons (.var 0) .nil))) .no) .nil)))
  .nil)
def M__fetched : Md := { fns := [] }
def f__fetched : Fn := fnD M__fetched 2 3 b__fetched
theorem c__fetched : chk N__fetched 2 ([] : List PySem.Str) ([] : List PySem.Str) pg.errs b__fetched (Bk.top pg.prog 13) = true := by decide +kernel

-- _low_stocks
def N__low_stocks : List PySem.Str := (["wants", "van", "row", "want"] : List PySem.Str)
def b__low_stocks : Ss := (.cons (.asg 2 (.lst (.cons (.cst (.int 0)) .nil)) [])
  (.cons (.for_ (.nm 3) (.rev (.var 0))
  (.cons (.app 2 (.bi .max2 (.cons (.cst (.int 0)) (.cons (.bin .sub (.bin .add (.idx (.var 2) (.neg (.cst (.int 1)))) (.var 3)) (.var 1)) .nil))) [])
  .nil) [])
  (.cons (.rvs 2)
  (.cons (.ret (.var 2))
  .nil))))
def M__low_stocks : Md := { fns := [] }
def f__low_stocks : Fn := fnD M__low_stocks 2 4 b__low_stocks
theorem c__low_stocks : chk N__low_stocks 2 ([] : List PySem.Str) ([] : List PySem.Str) pg.errs b__low_stocks (Bk.top pg.prog 12) = true := by decide +kernel

-- can_fill
def N_can_fill : List PySem.Str := (["wants", "van", "shelf", "known", "pair"] : List PySem.Str)
def b_can_fill : Ss := (.cons (.asg 3 (.call 0 (.cons (.var 0) (.cons (.var 1) (.cons (.var 2) .nil)))) [])
  (.cons (.asg 4 (.call 1 (.cons (.var 3) (.cons (.var 1) (.cons (.var 2) .nil)))) [])
  (.cons (.ite (.bin .isn (.var 4) (.cst .non))
  (.cons (.ret (.tup (.cons (.cst (.str "days")) (.cons (.idx (.var 4) (.cst (.int 0))) (.cons (.idx (.var 4) (.cst (.int 1))) .nil)))))
  .nil)
  .nil)
  (.cons (.ret (.tup (.cons (.cst (.str "fetch")) (.cons (.call 2 (.cons (.var 3) (.cons (.call 3 (.cons (.var 3) (.cons (.var 1) .nil))) .nil))) .nil))))
  .nil))))
def M_can_fill : Md := { fns := [f__need_all, f__least_pair, f__fetched, f__low_stocks] }
def f_can_fill : Fn := fnD M_can_fill 3 5 b_can_fill
theorem c_can_fill : chk N_can_fill 3 (["_need_all", "_least_pair", "_fetched", "_low_stocks"] : List PySem.Str) ([] : List PySem.Str) pg.errs b_can_fill (Bk.top pg.prog 19) = true := by decide +kernel

-- _law_same
def N__law_same : List PySem.Str := (["one", "other", "k"] : List PySem.Str)
def b__law_same : Ss := (.cons (.ite (.or (.isi (.var 1) [.tuple]) (.isi (.var 0) [.tuple]))
  (.cons (.ite (.or (.not (.isi (.var 0) [.tuple])) (.or (.not (.isi (.var 1) [.tuple])) (.bin .ne (.bi .len (.cons (.var 0) .nil)) (.bi .len (.cons (.var 1) .nil)))))
  (.cons (.ret (.cst (.bl false)))
  .nil)
  .nil)
  (.cons (.for_ (.nm 2) (.rng (.bi .len (.cons (.var 1) .nil)))
  (.cons (.ite (.not (.call 0 (.cons (.idx (.var 0) (.var 2)) (.cons (.idx (.var 1) (.var 2)) .nil))))
  (.cons (.ret (.cst (.bl false)))
  .nil)
  .nil)
  .nil) [])
  (.cons (.ret (.cst (.bl true)))
  .nil)))
  .nil)
  (.cons (.ite (.or (.bin .is_ (.var 0) (.cst .non)) (.bin .is_ (.var 1) (.cst .non)))
  (.cons (.ret (.and (.bin .is_ (.var 0) (.cst .non)) (.bin .is_ (.var 1) (.cst .non))))
  .nil)
  .nil)
  (.cons (.ite (.or (.bin .ne (.isi (.var 0) [.bool]) (.isi (.var 1) [.bool])) (.bin .ne (.isi (.var 0) [.str]) (.isi (.var 1) [.str])))
  (.cons (.ret (.cst (.bl false)))
  .nil)
  .nil)
  (.cons (.ret (.and (.isi (.var 0) [.int, .str]) (.bin .eq (.var 0) (.var 1))))
  .nil))))
def M__law_same (self : Fn) : Md := { fns := [self] }
def f__law_same : Nat → Fn
  | 0 => fun _ => .bad
  | k + 1 => fnD (M__law_same (f__law_same k)) 2 3 b__law_same
theorem c__law_same : chk N__law_same 2 (["_law_same"] : List PySem.Str) ([] : List PySem.Str) pg.errs b__law_same (Bk.top pg.prog 23) = true := by decide +kernel

-- _law_int
def N__law_int : List PySem.Str := (["value"] : List PySem.Str)
def b__law_int : Ss := (.cons (.ret (.and (.isi (.var 0) [.int]) (.not (.isi (.var 0) [.bool]))))
  .nil)
def M__law_int : Md := { fns := [] }
def f__law_int : Fn := fnD M__law_int 1 1 b__law_int
theorem c__law_int : chk N__law_int 1 ([] : List PySem.Str) ([] : List PySem.Str) pg.errs b__law_int (Bk.top pg.prog 22) = true := by decide +kernel

-- _law_is_fetching
def N__law_is_fetching : List PySem.Str := (["wants", "van", "shelf", "value", "stocks", "d", "left", "f"] : List PySem.Str)
def b__law_is_fetching : Ss := (.cons (.ite (.or (.not (.isi (.var 3) [.tuple])) (.or (.bin .ne (.bi .len (.cons (.var 3) .nil)) (.bi .len (.cons (.var 0) .nil))) (.bin .ne (.lc (.var 7) (.nm 7) (.seq (.var 3)) (.so (.or (.not (.call 0 (.cons (.var 7) .nil))) (.or (.bin .lt (.var 7) (.cst (.int 0))) (.bin .gt (.var 7) (.var 1)))))) (.lst .nil))))
  (.cons (.ret (.cst (.bl false)))
  .nil)
  .nil)
  (.cons (.asg 4 (.lc (.bin .sub (.bi .sum (.cons (.slc (.var 3) .no (.so (.bin .add (.var 5) (.cst (.int 1))))) .nil)) (.bi .sum (.cons (.slc (.var 0) .no (.so (.bin .add (.var 5) (.cst (.int 1))))) .nil))) (.nm 5) (.rng (.bi .len (.cons (.var 0) .nil))) .no) [])
  (.cons (.ret (.bin .eq (.lc (.var 6) (.nm 6) (.seq (.var 4)) (.so (.or (.bin .lt (.var 6) (.cst (.int 0))) (.bin .gt (.var 6) (.var 2))))) (.lst .nil)))
  .nil)))
def M__law_is_fetching : Md := { fns := [f__law_int] }
def f__law_is_fetching : Fn := fnD M__law_is_fetching 4 8 b__law_is_fetching
theorem c__law_is_fetching : chk N__law_is_fetching 4 (["_law_int"] : List PySem.Str) ([] : List PySem.Str) pg.errs b__law_is_fetching (Bk.top pg.prog 30) = true := by decide +kernel

-- _law_so
def N__law_so : List PySem.Str := (["wants", "van", "shelf", "answer", "k"] : List PySem.Str)
def b__law_so : Ss := (.cons (.ite (.and (.bin .eq (.idx (.var 3) (.cst (.int 0))) (.cst (.str "fetch"))) (.bin .eq (.bi .len (.cons (.var 3) .nil)) (.cst (.int 2))))
  (.cons (.ret (.call 0 (.cons (.var 0) (.cons (.var 1) (.cons (.var 2) (.cons (.idx (.var 3) (.cst (.int 1))) .nil))))))
  .nil)
  .nil)
  (.cons (.ite (.or (.bin .ne (.idx (.var 3) (.cst (.int 0))) (.cst (.str "days"))) (.or (.bin .ne (.bi .len (.cons (.var 3) .nil)) (.cst (.int 3))) (.bin .ne (.lc (.var 4) (.nm 4) (.seq (.slc (.var 3) (.so (.cst (.int 1))) .no)) (.so (.not (.call 1 (.cons (.var 4) .nil))))) (.lst .nil))))
  (.cons (.ret (.cst (.bl false)))
  .nil)
  .nil)
  (.cons (.ret (.bin .in_ (.slc (.var 3) (.so (.cst (.int 1))) .no) (.call 2 (.cons (.var 0) (.cons (.var 1) (.cons (.var 2) .nil))))))
  .nil)))
def M__law_so : Md := { fns := [f__law_is_fetching, f__law_int, f__law_bad_days] }
def f__law_so : Fn := fnD M__law_so 4 5 b__law_so
theorem c__law_so : chk N__law_so 4 (["_law_is_fetching", "_law_int", "_law_bad_days"] : List PySem.Str) ([] : List PySem.Str) pg.errs b__law_so (Bk.top pg.prog 31) = true := by decide +kernel

-- _is_fetching
def N__is_fetching : List PySem.Str := (["wants", "van", "shelf", "value", "there", "day", "crates"] : List PySem.Str)
def b__is_fetching : Ss := (.cons (.ite (.or (.not (.call 0 (.cons (.var 3) .nil))) (.bin .ne (.bi .len (.cons (.var 3) .nil)) (.bi .len (.cons (.var 0) .nil))))
  (.cons (.ret (.cst (.bl false)))
  .nil)
  .nil)
  (.cons (.ite (.not (.allc true (.call 1 (.cons (.var 6) (.cons (.cst (.int 0)) (.cons (.var 1) .nil)))) 6 (.var 3)))
  (.cons (.ret (.cst (.bl false)))
  .nil)
  .nil)
  (.cons (.asg 4 (.cst (.int 0)) [])
  (.cons (.for_ (.nm 5) (.rng (.bi .len (.cons (.var 0) .nil)))
  (.cons (.aug 4 .add (.bin .sub (.idx (.var 3) (.var 5)) (.idx (.var 0) (.var 5))))
  (.cons (.ite (.not (.chn .le .le (.cst (.int 0)) (.var 4) (.var 2)))
  (.cons (.ret (.cst (.bl false)))
  .nil)
  .nil)
  .nil)) [])
  (.cons (.ret (.cst (.bl true)))
  .nil)))))
def M__is_fetching : Md := { fns := [f_is_seq, f_is_in], ac := true, qfn := [fun _ => .bad, f_is_in] }
def f__is_fetching : Fn := fnD M__is_fetching 4 7 b__is_fetching
theorem c__is_fetching : chk N__is_fetching 4 (["is_seq", "is_in"] : List PySem.Str) ([] : List PySem.Str) pg.errs b__is_fetching (Bk.top pg.prog 16) = true := by decide +kernel

-- fill_holds
def N_fill_holds : List PySem.Str := (["wants", "van", "shelf", "answer", "known"] : List PySem.Str)
def b_fill_holds : Ss := (.cons (.asg 4 (.call 0 (.cons (.var 0) (.cons (.var 1) (.cons (.var 2) .nil)))) [])
  (.cons (.ite (.or (.not (.call 1 (.cons (.var 3) .nil))) (.or (.bin .lt (.bi .len (.cons (.var 3) .nil)) (.cst (.int 2))) (.not (.isi (.idx (.var 3) (.cst (.int 0))) [.str]))))
  (.cons (.ret (.cst (.bl false)))
  .nil)
  .nil)
  (.cons (.ite (.bin .eq (.idx (.var 3) (.cst (.int 0))) (.cst (.str "fetch")))
  (.cons (.ret (.and (.bin .eq (.bi .len (.cons (.var 3) .nil)) (.cst (.int 2))) (.call 2 (.cons (.var 4) (.cons (.var 1) (.cons (.var 2) (.cons (.idx (.var 3) (.cst (.int 1))) .nil)))))))
  .nil)
  .nil)
  (.cons (.ite (.or (.bin .ne (.idx (.var 3) (.cst (.int 0))) (.cst (.str "days"))) (.bin .ne (.bi .len (.cons (.var 3) .nil)) (.cst (.int 3))))
  (.cons (.ret (.cst (.bl false)))
  .nil)
  .nil)
  (.cons (.ite (.or (.not (.call 3 (.cons (.idx (.var 3) (.cst (.int 1))) (.cons (.cst (.int 0)) (.cons (.bin .sub (.bi .len (.cons (.var 4) .nil)) (.cst (.int 1))) .nil))))) (.not (.call 3 (.cons (.idx (.var 3) (.cst (.int 2))) (.cons (.idx (.var 3) (.cst (.int 1))) (.cons (.bin .sub (.bi .len (.cons (.var 4) .nil)) (.cst (.int 1))) .nil))))))
  (.cons (.ret (.cst (.bl false)))
  .nil)
  .nil)
  (.cons (.ret (.call 4 (.cons (.var 4) (.cons (.var 1) (.cons (.var 2) (.cons (.idx (.var 3) (.cst (.int 1))) (.cons (.idx (.var 3) (.cst (.int 2))) .nil)))))))
  .nil))))))
def M_fill_holds : Md := { fns := [f__need_all, f_is_seq, f__is_fetching, f_is_in, f__want_more] }
def f_fill_holds : Fn := fnD M_fill_holds 4 5 b_fill_holds
theorem c_fill_holds : chk N_fill_holds 4 (["_need_all", "is_seq", "_is_fetching", "is_in", "_want_more"] : List PySem.Str) ([] : List PySem.Str) pg.errs b_fill_holds (Bk.top pg.prog 20) = true := by decide +kernel

-- _law_listed
def N__law_listed : List PySem.Str := (["value", "part"] : List PySem.Str)
def b__law_listed : Ss := (.cons (.ite (.isi (.var 0) [.tuple])
  (.cons (.ret (.lc (.call 0 (.cons (.var 1) .nil)) (.nm 1) (.seq (.var 0)) .no))
  .nil)
  .nil)
  (.cons (.ret (.var 0))
  .nil))
def M__law_listed (self : Fn) : Md := { fns := [self] }
def f__law_listed : Nat → Fn
  | 0 => fun _ => .bad
  | k + 1 => fnD (M__law_listed (f__law_listed k)) 1 2 b__law_listed
theorem c__law_listed : chk N__law_listed 1 (["_law_listed"] : List PySem.Str) ([] : List PySem.Str) pg.errs b__law_listed (Bk.top pg.prog 24) = true := by decide +kernel

-- is_fetching
def N_is_fetching : List PySem.Str := (["wants", "van", "shelf", "value"] : List PySem.Str)
def b_is_fetching : Ss := (.cons (.ret (.call 0 (.cons (.call 1 (.cons (.var 0) (.cons (.var 1) (.cons (.var 2) .nil)))) (.cons (.var 1) (.cons (.var 2) (.cons (.var 3) .nil))))))
  .nil)
def M_is_fetching : Md := { fns := [f__is_fetching, f__need_all] }
def f_is_fetching : Fn := fnD M_is_fetching 4 4 b_is_fetching
theorem c_is_fetching : chk N_is_fetching 4 (["_is_fetching", "_need_all"] : List PySem.Str) ([] : List PySem.Str) pg.errs b_is_fetching (Bk.top pg.prog 17) = true := by decide +kernel

-- stock
def N_stock : List PySem.Str := (["wants", "value", "known", "told", "there", "day", "crates"] : List PySem.Str)
def b_stock : Ss := (.cons (.asg 2 (.call 0 (.cons (.var 0) .nil)) [])
  (.cons (.ite (.or (.not (.call 1 (.cons (.var 1) .nil))) (.bin .ne (.bi .len (.cons (.var 1) .nil)) (.bi .len (.cons (.var 2) .nil))))
  (.cons (.raise "BadValue" (.cons (.cst (.int 2)) .nil))
  .nil)
  .nil)
  (.cons (.ite (.not (.allc true (.call 2 (.cons (.var 6) (.cons (.cst (.int 0)) (.cons (.cst (.int 99)) .nil)))) 6 (.var 1)))
  (.cons (.raise "BadValue" (.cons (.cst (.int 2)) .nil))
  .nil)
  .nil)
  (.cons (.asg 3 (.lst .nil) [])
  (.cons (.asg 4 (.cst (.int 0)) [])
  (.cons (.for_ (.nm 5) (.rng (.bi .len (.cons (.var 2) .nil)))
  (.cons (.aug 4 .add (.bin .sub (.idx (.var 1) (.var 5)) (.idx (.var 2) (.var 5))))
  (.cons (.app 3 (.var 4) [])
  .nil)) [])
  (.cons (.ret (.bi .tuple (.cons (.var 3) .nil)))
  .nil)))))))
def M_stock : Md := { fns := [f__need_wants, f_is_seq, f_is_in], ac := true, qfn := [fun _ => .bad, fun _ => .bad, f_is_in] }
def f_stock : Fn := fnD M_stock 2 7 b_stock
theorem c_stock : chk N_stock 2 (["_need_wants", "is_seq", "is_in"] : List PySem.Str) ([] : List PySem.Str) pg.errs b_stock (Bk.top pg.prog 18) = true := by decide +kernel

-- _law_refused
def N__law_refused : List PySem.Str := (["call", "parts", "spot", "refused"] : List PySem.Str)
def b__law_refused : Ss := (.cons (.try_ (.cons (.ite (.bin .eq (.bi .len (.cons (.var 1) .nil)) (.cst (.int 1)))
  (.cons (.expr (.cll 0 (.cons (.idx (.var 1) (.cst (.int 0))) .nil)))
  .nil)
  (.cons (.ite (.bin .eq (.bi .len (.cons (.var 1) .nil)) (.cst (.int 2)))
  (.cons (.expr (.cll 0 (.cons (.idx (.var 1) (.cst (.int 0))) (.cons (.idx (.var 1) (.cst (.int 1))) .nil))))
  .nil)
  (.cons (.ite (.bin .eq (.bi .len (.cons (.var 1) .nil)) (.cst (.int 3)))
  (.cons (.expr (.cll 0 (.cons (.idx (.var 1) (.cst (.int 0))) (.cons (.idx (.var 1) (.cst (.int 1))) (.cons (.idx (.var 1) (.cst (.int 2))) .nil)))))
  .nil)
  (.cons (.ite (.bin .eq (.bi .len (.cons (.var 1) .nil)) (.cst (.int 4)))
  (.cons (.expr (.cll 0 (.cons (.idx (.var 1) (.cst (.int 0))) (.cons (.idx (.var 1) (.cst (.int 1))) (.cons (.idx (.var 1) (.cst (.int 2))) (.cons (.idx (.var 1) (.cst (.int 3))) .nil))))))
  .nil)
  (.cons (.ite (.bin .eq (.bi .len (.cons (.var 1) .nil)) (.cst (.int 5)))
  (.cons (.expr (.cll 0 (.cons (.idx (.var 1) (.cst (.int 0))) (.cons (.idx (.var 1) (.cst (.int 1))) (.cons (.idx (.var 1) (.cst (.int 2))) (.cons (.idx (.var 1) (.cst (.int 3))) (.cons (.idx (.var 1) (.cst (.int 4))) .nil)))))))
  .nil)
  (.cons (.expr (.cll 0 (.cons (.idx (.var 1) (.cst (.int 0))) (.cons (.idx (.var 1) (.cst (.int 1))) (.cons (.idx (.var 1) (.cst (.int 2))) (.cons (.idx (.var 1) (.cst (.int 3))) (.cons (.idx (.var 1) (.cst (.int 4))) (.cons (.idx (.var 1) (.cst (.int 5))) .nil))))))))
  .nil))
  .nil))
  .nil))
  .nil))
  .nil))
  .nil) "BadValue" 3 (.retEq 2))
  (.cons (.ret (.cst (.bl false)))
  .nil))
def M__law_refused : Md := { fns := [], val := valOf (["stock", "can_fill"] : List PySem.Str) [f_stock, f_can_fill] }
def f__law_refused : Fn := fnD M__law_refused 3 4 b__law_refused
theorem c__law_refused : chk N__law_refused 3 ([] : List PySem.Str) ([] : List PySem.Str) pg.errs b__law_refused (Bk.top pg.prog 25) = true := by decide +kernel

-- law
def N_law : List PySem.Str := (["script", "numbers", "wants", "more", "far", "bad", "held", "told", "wrong", "van", "shelf", "rows", "tries", "a", "answer", "row", "b", "d"] : List PySem.Str)
def b_law : Ss := (.cons (.asg 1 (.call 0 (.cons (.var 0) (.cons (.cst (.int 0)) (.cons (.cst (.int 9)) .nil)))) [])
  (.cons (.asg 2 (.call 1 (.cons (.slc (.var 1) .no (.so (.bin .add (.cst (.int 1)) (.bin .mod (.bi .int (.cons (.idx (.var 1) (.cst (.int 7))) .nil)) (.cst (.int 5)))))) .nil)) [])
  (.cons (.asg2 9 10 (.bin .mod (.bi .int (.cons (.idx (.var 1) (.cst (.int 8))) .nil)) (.cst (.int 6))) (.bin .mod (.bi .int (.cons (.bin .fdiv (.idx (.var 1) (.cst (.int 8))) (.cst (.int 6))) .nil)) (.cst (.int 5))) [])
  (.cons (.for_ (.nm 3) (.seq (.lst (.cons (.cst (.int 0)) (.cons (.cst (.int 1)) (.cons (.cst (.int 2)) .nil)))))
  (.cons (.asg 11 (.call 2 (.cons (.var 2) (.cons (.bin .add (.var 9) (.var 3)) (.cons (.var 10) .nil)))) [])
  (.cons (.asg 5 (.call 3 (.cons (.var 2) (.cons (.bin .add (.var 9) (.var 3)) (.cons (.var 10) .nil)))) [])
  (.cons (.ite (.bin .ne (.bin .eq (.var 11) (.lst .nil)) (.bin .ne (.var 5) (.lst .nil)))
  (.cons (.ret (.cst (.bl false)))
  .nil)
  .nil)
  (.cons (.asg 7 (.call 4 (.cons (.bi .list (.cons (.var 2) .nil)) (.cons (.bin .add (.var 9) (.var 3)) (.cons (.var 10) .nil)))) [])
  (.cons (.ite (.not (.call 5 (.cons (.var 7) (.cons (.ite (.bin .ne (.var 11) (.lst .nil)) (.tup (.cons (.cst (.str "fetch")) (.cons (.idx (.var 11) (.cst (.int 0))) .nil))) (.bin .add (.tup (.cons (.cst (.str "days")) .nil)) (.idx (.var 5) (.cst (.int 0))))) .nil))))
  (.cons (.ret (.cst (.bl false)))
  .nil)
  .nil)
  (.cons (.asg 12 (.bin .add (.lc (.tup (.cons (.cst (.str "fetch")) (.cons (.var 15) .nil))) (.nm 15) (.seq (.bin .add (.slc (.var 11) .no (.so (.cst (.int 3)))) (.slc (.var 11) (.so (.neg (.cst (.int 3)))) .no))) .no) (.lst (.cons (.tup (.cons (.cst (.str "fetch")) (.cons (.var 2) .nil))) (.cons (.tup (.cons (.cst (.str "fetch")) (.cons (.bin .mul (.tup (.cons (.cst (.int 0)) .nil)) (.bi .len (.cons (.var 2) .nil))) .nil))) (.cons (.tup (.cons (.cst (.str "days")) (.cons (.cst (.int 0)) (.cons (.cst (.int 0)) .nil)))) (.cons (.tup (.cons (.cst (.str "days")) (.cons (.cst (.int 1)) (.cons (.cst (.int 0)) .nil)))) (.cons (.tup (.cons (.cst (.str "days")) (.cons (.cst (.int 0)) (.cons (.cst (.int 99)) .nil)))) .nil))))))) [])
  (.cons (.for_ (.nm 13) (.rng (.bi .len (.cons (.var 2) .nil)))
  (.cons (.asg 12 (.bin .add (.var 12) (.lc (.tup (.cons (.cst (.str "days")) (.cons (.var 13) (.cons (.var 16) .nil)))) (.nm 16) (.rng2 (.var 13) (.bi .len (.cons (.var 2) .nil))) .no)) [])
  .nil) [])
  (.cons (.for_ (.nm 14) (.seq (.var 12))
  (.cons (.ite (.not (.call 5 (.cons (.call 7 (.cons (.bi .list (.cons (.var 2) .nil)) (.cons (.bin .add (.var 9) (.var 3)) (.cons (.var 10) (.cons (.call 8 (.cons (.var 14) .nil)) .nil))))) (.cons (.call 6 (.cons (.var 2) (.cons (.bin .add (.var 9) (.var 3)) (.cons (.var 10) (.cons (.var 14) .nil))))) .nil))))
  (.cons (.ret (.cst (.bl false)))
  .nil)
  .nil)
  .nil) [12])
  (.cons (.for_ (.nm 8) (.seq (.lst (.cons (.cst .non) (.cons (.tup .nil) (.cons (.tup (.cons (.cst (.str "fetch")) .nil)) (.cons (.tup (.cons (.cst (.str "some")) (.cons (.cst (.int 0)) (.cons (.cst (.int 0)) .nil)))) (.cons (.tup (.cons (.cst (.str "days")) (.cons (.cst (.int 0)) .nil))) (.cons (.tup (.cons (.cst (.str "fetch")) (.cons (.cst .non) .nil))) (.cons (.tup (.cons (.cst (.str "days")) (.cons (.cst .non) (.cons (.cst (.int 0)) .nil)))) (.cons (.tup (.cons (.cst (.str "days")) (.cons (.cst (.bl true)) (.cons (.cst (.bl true)) .nil)))) .nil))))))))))
  (.cons (.ite (.not (.call 5 (.cons (.call 7 (.cons (.var 2) (.cons (.bin .add (.var 9) (.var 3)) (.cons (.var 10) (.cons (.var 8) .nil))))) (.cons (.cst (.bl false)) .nil))))
  (.cons (.ret (.cst (.bl false)))
  .nil)
  .nil)
  .nil) [])
  (.cons (.for_ (.nm 15) (.seq (.bin .add (.slc (.var 11) .no (.so (.cst (.int 3)))) (.lst (.cons (.var 2) (.cons (.rvs (.var 2)) (.cons (.bin .mul (.tup (.cons (.bin .add (.var 9) (.var 3)) .nil)) (.bi .len (.cons (.var 2) .nil))) (.cons (.bin .mul (.tup (.cons (.cst (.int 99)) .nil)) (.bi .len (.cons (.var 2) .nil))) (.cons (.slc (.var 2) (.so (.cst (.int 1))) .no) .nil))))))))
  (.cons (.ite (.not (.call 5 (.cons (.call 10 (.cons (.bi .list (.cons (.var 2) .nil)) (.cons (.bin .add (.var 9) (.var 3)) (.cons (.var 10) (.cons (.bi .list (.cons (.var 15) .nil)) .nil))))) (.cons (.call 9 (.cons (.var 2) (.cons (.bin .add (.var 9) (.var 3)) (.cons (.var 10) (.cons (.var 15) .nil))))) .nil))))
  (.cons (.ret (.cst (.bl false)))
  .nil)
  .nil)
  (.cons (.ite (.and (.bin .eq (.bi .len (.cons (.var 15) .nil)) (.bi .len (.cons (.var 2) .nil))) (.not (.call 5 (.cons (.call 11 (.cons (.bi .list (.cons (.var 2) .nil)) (.cons (.bi .list (.cons (.var 15) .nil)) .nil))) (.cons (.bi .tuple (.cons (.lc (.bin .sub (.bi .sum (.cons (.slc (.var 15) .no (.so (.bin .add (.var 17) (.cst (.int 1))))) .nil)) (.bi .sum (.cons (.slc (.var 2) .no (.so (.bin .add (.var 17) (.cst (.int 1))))) .nil))) (.nm 17) (.rng (.bi .len (.cons (.var 2) .nil))) .no) .nil)) .nil)))))
  (.cons (.ret (.cst (.bl false)))
  .nil)
  .nil)
  .nil)) [])
  .nil)))))))))) [])
  (.cons (.asg 4 (.slc (.bin .mul (.var 2) (.cst (.int 14))) .no (.so (.cst (.int 14)))) [])
  (.cons (.asg 5 (.call 3 (.cons (.var 4) (.cons (.var 9) (.cons (.var 10) .nil)))) [4])
  (.cons (.asg 6 (.bi .list (.cons (.var 4) .nil)) [])
  (.cons (.asg 7 (.call 4 (.cons (.var 6) (.cons (.var 9) (.cons (.var 10) .nil)))) [6])
  (.cons (.ite (.or (.bin .ne (.var 6) (.bi .list (.cons (.var 4) .nil))) (.or (.not (.call 6 (.cons (.var 4) (.cons (.var 9) (.cons (.var 10) (.cons (.var 7) .nil)))))) (.and (.bin .ne (.var 5) (.lst .nil)) (.not (.call 5 (.cons (.var 7) (.cons (.bin .add (.tup (.cons (.cst (.str "days")) .nil)) (.idx (.var 5) (.cst (.int 0)))) .nil)))))))
  (.cons (.ret (.cst (.bl false)))
  .nil)
  .nil)
  (.cons (.for_ (.nm 8) (.seq (.lst (.cons (.cst .non) (.cons (.tup .nil) (.cons (.tup (.cons (.cst (.int 21)) .nil)) (.cons (.tup (.cons (.neg (.cst (.int 1))) .nil)) (.cons (.tup (.cons (.cst (.bl true)) .nil)) (.cons (.bin .mul (.tup (.cons (.cst (.int 1)) .nil)) (.cst (.int 15))) (.cons (.tup (.cons (.cst (.int 1)) (.cons (.cst (.int 21)) .nil))) (.cons (.tup (.cons (.cst (.int 1)) (.cons (.cst (.int 0)) (.cons (.cst .non) .nil)))) .nil))))))))))
  (.cons (.ite (.or (.not (.call 12 (.cons (.glb 1) (.cons (.lst (.cons (.var 8) (.cons (.cst (.int 1)) (.cons (.cst (.int 1)) .nil)))) (.cons (.cst (.int 1)) .nil))))) (.not (.call 12 (.cons (.glb 0) (.cons (.lst (.cons (.var 8) (.cons (.tup .nil) .nil))) (.cons (.cst (.int 1)) .nil))))))
  (.cons (.ret (.cst (.bl false)))
  .nil)
  .nil)
  .nil) [])
  (.cons (.for_ (.nm 8) (.seq (.lst (.cons (.cst (.int 100)) (.cons (.neg (.cst (.int 1))) (.cons (.cst .non) (.cons (.cst (.bl true)) .nil))))))
  (.cons (.ite (.or (.not (.call 12 (.cons (.glb 1) (.cons (.lst (.cons (.var 2) (.cons (.var 8) (.cons (.cst (.int 1)) .nil)))) (.cons (.cst (.int 2)) .nil))))) (.not (.call 12 (.cons (.glb 1) (.cons (.lst (.cons (.var 2) (.cons (.cst (.int 1)) (.cons (.var 8) .nil)))) (.cons (.cst (.int 3)) .nil))))))
  (.cons (.ret (.cst (.bl false)))
  .nil)
  .nil)
  .nil) [])
  (.cons (.for_ (.nm 8) (.seq (.lst (.cons (.cst .non) (.cons (.bin .add (.var 2) (.tup (.cons (.cst (.int 0)) .nil))) (.cons (.bin .mul (.tup (.cons (.cst (.int 100)) .nil)) (.bi .len (.cons (.var 2) .nil))) (.cons (.bin .mul (.tup (.cons (.neg (.cst (.int 1))) .nil)) (.bi .len (.cons (.var 2) .nil))) .nil))))))
  (.cons (.ite (.or (.not (.call 12 (.cons (.glb 0) (.cons (.lst (.cons (.var 2) (.cons (.var 8) .nil))) (.cons (.cst (.int 2)) .nil))))) (.not (.call 5 (.cons (.call 10 (.cons (.var 2) (.cons (.var 9) (.cons (.var 10) (.cons (.var 8) .nil))))) (.cons (.cst (.bl false)) .nil)))))
  (.cons (.ret (.cst (.bl false)))
  .nil)
  .nil)
  .nil) [])
  (.cons (.ret (.cst (.bl true)))
  .nil)))))))))))))
def M_law : Md := { fns := [f__law_numbers, f__law_wants, f__law_fetchings, f__law_bad_days, f_can_fill, (f__law_same 3), f__law_so, f_fill_holds, (f__law_listed 3), f__law_is_fetching, f_is_fetching, f_stock, f__law_refused], gls := [.fn "stock", .fn "can_fill"] }
def f_law : Fn := fnD M_law 1 18 b_law
theorem c_law : chk N_law 1 (["_law_numbers", "_law_wants", "_law_fetchings", "_law_bad_days", "can_fill", "_law_same", "_law_so", "fill_holds", "_law_listed", "_law_is_fetching", "is_fetching", "stock", "_law_refused"] : List PySem.Str) (["stock", "can_fill"] : List PySem.Str) pg.errs b_law (Bk.top pg.prog 32) = true := by decide +kernel

section
variable {w : World} {K : Frag} {mg : PySem.Str → Option Value} {base : Heap}
theorem Q_is_int (G : Gm pg w K mg base) : QQ pg w K mg base 1 "is_int" f_is_int := q_by G (by decide +kernel) k_is_int .nil
theorem Q_is_in (G : Gm pg w K mg base) : QQ pg w K mg base 2 "is_in" f_is_in := q_by G (by decide +kernel) k_is_in (.cons (Q_is_int G) rfl .nil)
theorem F__law_numbers (G : Gm pg w K mg base) : FF pg w K mg base 1 "_law_numbers" f__law_numbers := fn_by G (by decide +kernel) c__law_numbers .nil (fun y g h => nomatch h) .nil (fun z => nomatch z)
theorem F__law_wants (G : Gm pg w K mg base) : FF pg w K mg base 1 "_law_wants" f__law_wants := fn_by G (by decide +kernel) c__law_wants .nil (fun y g h => nomatch h) .nil (fun z => nomatch z)
theorem F__law_fetchings (G : Gm pg w K mg base) : FF pg w K mg base 1 "_law_fetchings" f__law_fetchings := fn_by G (by decide +kernel) c__law_fetchings .nil (fun y g h => nomatch h) .nil (fun z => nomatch z)
theorem F__law_bad_days (G : Gm pg w K mg base) : FF pg w K mg base 1 "_law_bad_days" f__law_bad_days := fn_by G (by decide +kernel) c__law_bad_days .nil (fun y g h => nomatch h) .nil (fun z => nomatch z)
theorem F_is_seq (G : Gm pg w K mg base) : FF pg w K mg base 1 "is_seq" f_is_seq := fn_by G (by decide +kernel) c_is_seq .nil (fun y g h => nomatch h) .nil (fun z => nomatch z)
theorem F_is_int (G : Gm pg w K mg base) : FF pg w K mg base 1 "is_int" f_is_int := fn_by G (by decide +kernel) c_is_int .nil (fun y g h => nomatch h) .nil (fun z => nomatch z)
theorem F_is_in (G : Gm pg w K mg base) : FF pg w K mg base 2 "is_in" f_is_in := fn_by G (by decide +kernel) c_is_in (.cons (F_is_int G) rfl .nil) (fun y g h => nomatch h) .nil (fun z => nomatch z)
theorem F_clean_wants (G : Gm pg w K mg base) : FF pg w K mg base 4 "clean_wants" f_clean_wants := fn_by G (by decide +kernel) c_clean_wants (.cons (F_is_seq G) rfl (.cons (F_is_in G) rfl .nil)) (fun y g h => nomatch h) .nil (fun _ => ⟨by decide +kernel, 2, by decide, (.cons (qq_bad G (x := "is_seq") (i := 5) (by decide +kernel)) rfl (.cons (Q_is_in G) rfl .nil))⟩)
theorem F__need_wants (G : Gm pg w K mg base) : FF pg w K mg base 5 "_need_wants" f__need_wants := fn_by G (by decide +kernel) c__need_wants (.cons (F_clean_wants G) rfl .nil) (fun y g h => nomatch h) .nil (fun z => nomatch z)
theorem F__need_size (G : Gm pg w K mg base) : FF pg w K mg base 3 "_need_size" f__need_size := fn_by G (by decide +kernel) c__need_size (.cons (F_is_in G) rfl .nil) (fun y g h => nomatch h) .nil (fun z => nomatch z)
theorem F__need_all (G : Gm pg w K mg base) : FF pg w K mg base 6 "_need_all" f__need_all := fn_by G (by decide +kernel) c__need_all (.cons (F__need_wants G) rfl (.cons (F__need_size G) rfl .nil)) (fun y g h => nomatch h) .nil (fun z => nomatch z)
theorem F__want_more (G : Gm pg w K mg base) : FF pg w K mg base 1 "_want_more" f__want_more := fn_by G (by decide +kernel) c__want_more .nil (fun y g h => nomatch h) .nil (fun z => nomatch z)
theorem F__least_pair (G : Gm pg w K mg base) : FF pg w K mg base 2 "_least_pair" f__least_pair := fn_by G (by decide +kernel) c__least_pair (.cons (F__want_more G) rfl .nil) (fun y g h => nomatch h) .nil (fun z => nomatch z)
theorem F__fetched (G : Gm pg w K mg base) : FF pg w K mg base 1 "_fetched" f__fetched := fn_by G (by decide +kernel) c__fetched .nil (fun y g h => nomatch h) .nil (fun z => nomatch z)
theorem F__low_stocks (G : Gm pg w K mg base) : FF pg w K mg base 1 "_low_stocks" f__low_stocks := fn_by G (by decide +kernel) c__low_stocks .nil (fun y g h => nomatch h) .nil (fun z => nomatch z)
theorem F_can_fill (G : Gm pg w K mg base) : FF pg w K mg base 7 "can_fill" f_can_fill := fn_by G (by decide +kernel) c_can_fill (.cons (F__need_all G) rfl (.cons (F__least_pair G) rfl (.cons (F__fetched G) rfl (.cons (F__low_stocks G) rfl .nil)))) (fun y g h => nomatch h) .nil (fun z => nomatch z)
theorem F__law_same (G : Gm pg w K mg base) : ∀ n : Nat, FF pg w K mg base (0 + n) "_law_same" (f__law_same n)
  | 0 => (ff_bad G (x := "_law_same") (i := 23) (by decide +kernel) ⟨N__law_same.take 2, by decide +kernel, by decide +kernel⟩).mono (by omega)
  | n + 1 => by
    have ih := F__law_same G n
    exact fn_by G (k := 0 + n) (by decide +kernel) c__law_same (.cons ih (Nat.ble_eq_true_of_le (Nat.le_refl _)) .nil) (fun y g h => nomatch h) .nil (fun z => nomatch z)
theorem F__law_int (G : Gm pg w K mg base) : FF pg w K mg base 1 "_law_int" f__law_int := fn_by G (by decide +kernel) c__law_int .nil (fun y g h => nomatch h) .nil (fun z => nomatch z)
theorem F__law_is_fetching (G : Gm pg w K mg base) : FF pg w K mg base 2 "_law_is_fetching" f__law_is_fetching := fn_by G (by decide +kernel) c__law_is_fetching (.cons (F__law_int G) rfl .nil) (fun y g h => nomatch h) .nil (fun z => nomatch z)
theorem F__law_so (G : Gm pg w K mg base) : FF pg w K mg base 3 "_law_so" f__law_so := fn_by G (by decide +kernel) c__law_so (.cons (F__law_is_fetching G) rfl (.cons (F__law_int G) rfl (.cons (F__law_bad_days G) rfl .nil))) (fun y g h => nomatch h) .nil (fun z => nomatch z)
theorem F__is_fetching (G : Gm pg w K mg base) : FF pg w K mg base 4 "_is_fetching" f__is_fetching := fn_by G (by decide +kernel) c__is_fetching (.cons (F_is_seq G) rfl (.cons (F_is_in G) rfl .nil)) (fun y g h => nomatch h) .nil (fun _ => ⟨by decide +kernel, 2, by decide, (.cons (qq_bad G (x := "is_seq") (i := 5) (by decide +kernel)) rfl (.cons (Q_is_in G) rfl .nil))⟩)
theorem F_fill_holds (G : Gm pg w K mg base) : FF pg w K mg base 7 "fill_holds" f_fill_holds := fn_by G (by decide +kernel) c_fill_holds (.cons (F__need_all G) rfl (.cons (F_is_seq G) rfl (.cons (F__is_fetching G) rfl (.cons (F_is_in G) rfl (.cons (F__want_more G) rfl .nil))))) (fun y g h => nomatch h) .nil (fun z => nomatch z)
theorem F__law_listed (G : Gm pg w K mg base) : ∀ n : Nat, FF pg w K mg base (0 + n) "_law_listed" (f__law_listed n)
  | 0 => (ff_bad G (x := "_law_listed") (i := 24) (by decide +kernel) ⟨N__law_listed.take 1, by decide +kernel, by decide +kernel⟩).mono (by omega)
  | n + 1 => by
    have ih := F__law_listed G n
    exact fn_by G (k := 0 + n) (by decide +kernel) c__law_listed (.cons ih (Nat.ble_eq_true_of_le (Nat.le_refl _)) .nil) (fun y g h => nomatch h) .nil (fun z => nomatch z)
theorem F_is_fetching (G : Gm pg w K mg base) : FF pg w K mg base 7 "is_fetching" f_is_fetching := fn_by G (by decide +kernel) c_is_fetching (.cons (F__is_fetching G) rfl (.cons (F__need_all G) rfl .nil)) (fun y g h => nomatch h) .nil (fun z => nomatch z)
theorem F_stock (G : Gm pg w K mg base) : FF pg w K mg base 6 "stock" f_stock := fn_by G (by decide +kernel) c_stock (.cons (F__need_wants G) rfl (.cons (F_is_seq G) rfl (.cons (F_is_in G) rfl .nil))) (fun y g h => nomatch h) .nil (fun _ => ⟨by decide +kernel, 2, by decide, (.cons (qq_bad G (x := "_need_wants") (i := 9) (by decide +kernel)) rfl (.cons (qq_bad G (x := "is_seq") (i := 5) (by decide +kernel)) rfl (.cons (Q_is_in G) rfl .nil)))⟩)
theorem F__law_refused (G : Gm pg w K mg base) : FF pg w K mg base 8 "_law_refused" f__law_refused := fn_by G (by decide +kernel) c__law_refused .nil (Fs.val (xs := (["stock", "can_fill"] : List PySem.Str)) (.cons (F_stock G) rfl (.cons (F_can_fill G) rfl .nil))) .nil (fun z => nomatch z)
theorem hF (base : Heap) (f' : Addr) (fd : FuncData) (G : Gm pg w K mg base) (F : L2.FunD K "law" "law" (L2.defArgs (Bk.top pg.prog 32)) (L2.defBody (Bk.top pg.prog 32)) (L2.defScope (Bk.top pg.prog 32)) [] [] f' fd) :
    L2.FnOk pg.prog w K mg base (L2.CX pg.prog w) 9 f' fd ["script"] (spD K mg (pg.cs K) f_law) := law_by G F c_law (.cons (F__law_numbers G) rfl (.cons (F__law_wants G) rfl (.cons (F__law_fetchings G) rfl (.cons (F__law_bad_days G) rfl (.cons (F_can_fill G) rfl (.cons (F__law_same G 3) rfl (.cons (F__law_so G) rfl (.cons (F_fill_holds G) rfl (.cons (F__law_listed G 3) rfl (.cons (F__law_is_fetching G) rfl (.cons (F_is_fetching G) rfl (.cons (F_stock G) rfl (.cons (F__law_refused G) rfl .nil))))))))))))) (fun y g h => nomatch h) (.cons (gl_fn G (x := "stock") (i := 18) (by decide +kernel)) (.cons (gl_fn G (x := "can_fill") (i := 19) (by decide +kernel)) .nil)) rfl
end

abbrev hk : Hook := hookC 4 pg.fa pg.fn pg.tf pg.ex
def ob (s : SharedT) : AlC := obsC 4 pg.fa pg.fn pg.tf pg.ex (HandSHeadRun.getT s)
theorem ob_eq (s : SharedT) : ob s = hk.obs s.abs := obsC_eq (HandSHeadRun.getT_eq s)
def loose : List PySem.Str := ["is_int", "is_seq", "is_in", "clean_wants", "_need_wants", "_need_size", "_need_all", "_low_stocks", "_fetched", "_want_more", "_least_pair", "_is_fetching", "is_fetching", "stock", "can_fill", "fill_holds", "_law_int", "_law_same", "_law_listed", "_law_refused", "_law_numbers", "_law_wants", "_law_fetchings", "_law_bad_days", "_law_is_fetching", "_law_so", "StoreError", "BadValue"]
theorem run (w : World) : HandSHeadRun.RunEq (OpenLaw.row PySem.Challenge.rw_banktold_k10_van_and_shelf) (view (OpenLaw.row PySem.Challenge.rw_banktold_k10_van_and_shelf).prog [32]) hk ob 4000 loose w := by
  intro os
  kernel_rfl
end T10
end
section
set_option autoImplicit false
set_option linter.all false
set_option maxRecDepth 100000
namespace T10
open Bk
theorem e_is_int (i : Int) : f_is_int [.int i] = .ok (.bl true) := rfl
theorem e_is_seq_l (l : List D) : f_is_seq [.lst l] = .ok (.bl true) := rfl
theorem e_is_seq_t (l : List D) : f_is_seq [.tup l] = .ok (.bl true) := rfl
theorem e_is_in (i lo hi : Int) : f_is_in [.int i, .int lo, .int hi] = .ok (.bl (decide (lo ≤ i) && decide (i ≤ hi))) := by
  refine fnD_rt rfl ?_
  simp [b_is_in, M_is_in, e_is_int]
  by_cases h1 : lo ≤ i <;> simp [h1]
/-- what is no whole number -/
def noInt : D → Bool
  | .non => true
  | .bl _ => true
  | .str _ => true
  | .tup _ => true
  | .lst _ => true
  | _ => false
theorem e_is_in_no {d : D} (hd : noInt d = true) (lo hi : D) : f_is_in [d, lo, hi] = .ok (.bl false) := by
  cases d <;> first | (cases hd; done) | rfl
/-- wants as the package takes them -/
structure okW (w : List Int) : Prop where
  one : 1 ≤ w.length
  most : w.length ≤ 14
  all : ∀ x ∈ w, 0 ≤ x ∧ x ≤ 20
/-- a tuple or a list of whole numbers -/
inductive SeqI (w : List Int) : D → Prop where
  | tup : SeqI w (.tup (intL w))
  | lst : SeqI w (.lst (intL w))
theorem e_clean {w : List Int} {d : D} (h : okW w) (hd : SeqI w d) : f_clean_wants [d] = .ok (.tup (intL w)) := by
  have key : ∀ (d : D), d = .tup (intL w) ∨ d = .lst (intL w) → ev M_clean_wants (.allc true (.call 1 (.cons (.var 1) (.cons (.cst (.int 0)) (.cons (.cst (.int 20)) .nil)))) 1 (.var 0)) [.sh d, .un] = .ok (.bl true) := fun d hd => by
    have h3 : seqOf d = some (intL w) := by rcases hd with rfl | rfl <;> rfl
    have h2 : plainD d = true := by rcases hd with rfl | rfl <;> exact plain_intL w
    rw [ev_allc (M := M_clean_wants) rfl (x := d) (ds := intL w) (g := fun _ => true) rfl h2 h3 fun e he => by
      obtain ⟨i, hi, rfl⟩ := memI he
      obtain ⟨g1, g2⟩ := h.all i hi
      have : (mask [Slot.sh d, .un]).set 1 (.sh (.int i)) = [Slot.sh d, .sh (.int i)] := by
        show [(if plainD d = true then Slot.sh d else .un), _] = _
        rw [if_pos h2]
      rw [this]
      simp [M_clean_wants, e_is_in, g1, g2]]
    simp
  have h1 := h.one
  have h2 := h.most
  have e0 : M_clean_wants.fns[0]? = some f_is_seq := rfl
  have hl : (intL w).length = w.length := intL_len w
  have go : ∀ d : D, (d = .tup (intL w) ∨ d = .lst (intL w)) → f_clean_wants [d] = .ok (.tup (intL w)) := fun d hd => by
    have k := key d hd
    have s1 : f_is_seq [d] = .ok (.bl true) := by rcases hd with rfl | rfl <;> rfl
    have s2 : bi .len [d] = .ok (.int w.length) := by rcases hd with rfl | rfl <;> (rw [← hl]; rfl)
    have s3 : bi .tuple [d] = .ok (.tup (intL w)) := by rcases hd with rfl | rfl <;> rfl
    refine fnD_rt rfl ?_
    have g1 : (1 : Int) ≤ w.length := by omega
    have g2 : (w.length : Int) ≤ 14 := by omega
    simp [b_clean_wants, k, e0, s1, s2, s3, g1, g2]
  cases hd with
  | tup => exact go _ (.inl rfl)
  | lst => exact go _ (.inr rfl)
theorem e_need {w : List Int} {d : D} (h : okW w) (hd : SeqI w d) : f__need_wants [d] = .ok (.tup (intL w)) := by
  refine fnD_rt rfl ?_
  simp [b__need_wants, M__need_wants, e_clean h hd, fresh]
theorem e_need_no : f__need_wants [.non] = .ex "BadValue" (.int 1) := rfl
theorem e_size {i : Int} (at_ : D) (h : 0 ≤ i ∧ i ≤ 99) : f__need_size [.int i, at_] = .ok .non := by
  refine fnD_nx (ρ := [.sh (.int i), .sh at_]) rfl ?_
  simp [b__need_size, M__need_size, e_is_in, h.1, h.2]
theorem e_size_no {d : D} {k : Int} (h : noInt d = true ∨ ∃ i, d = .int i ∧ (i < 0 ∨ 99 < i)) : f__need_size [d, .int k] = .ex "BadValue" (.int k) := by
  have h1 : f_is_in [d, .int 0, .int 99] = .ok (.bl false) := by
    rcases h with h | ⟨i, rfl, h⟩
    · exact e_is_in_no h _ _
    · rw [e_is_in]
      have : (decide (0 ≤ i) && decide (i ≤ 99)) = false := by
        rw [Bool.and_eq_false_iff, decide_eq_false_iff_not, decide_eq_false_iff_not]
        omega
      rw [this]
  refine fnD_ex (ρ := [.sh d, .sh (.int k)]) rfl ?_
  simp [b__need_size, M__need_size, h1, flat]
theorem e_all {w : List Int} {d : D} {v s : Int} (h : okW w) (hd : SeqI w d) (hv : 0 ≤ v ∧ v ≤ 99) (hs : 0 ≤ s ∧ s ≤ 99) : f__need_all [d, .int v, .int s] = .ok (.tup (intL w)) := by
  refine fnD_rt rfl ?_
  simp [b__need_all, M__need_all, e_need h hd, fresh, e_size (.int 2) hv, e_size (.int 3) hs]
end T10
end
section
set_option autoImplicit false
set_option linter.all false
set_option maxRecDepth 100000
namespace T10
open Bk
def mx (i j : Int) : Int := if j > i then j else i
def mn (i j : Int) : Int := if j < i then j else i
/-- the least stocks: row[d] ahead of day d -/
def lowS (v : Int) : List Int → List Int
  | [] => [0]
  | w :: ws => mx 0 ((lowS v ws).headD 0 + w - v) :: lowS v ws
def highS (v s : Int) (x : Int) (w : List Int) : List Int := scan (fun x w => mn s (x + v - w)) x w
theorem lowS_cons (v : Int) (w : List Int) : ∃ r, lowS v w = (lowS v w).headD 0 :: r := by
  cases w with
  | nil => exact ⟨[], rfl⟩
  | cons a w => exact ⟨_, rfl⟩
theorem lowS_len (v : Int) : ∀ w : List Int, (lowS v w).length = w.length + 1
  | [] => rfl
  | w :: ws => by show (lowS v ws).length + 1 = _; rw [lowS_len v ws]; rfl
theorem low_scan (v : Int) : ∀ w : List Int, (scan (fun x w => mx 0 (x + w - v)) 0 w.reverse).reverse = lowS v w
  | [] => rfl
  | a :: w => by
    have ih := low_scan v w
    obtain ⟨r, y, h1, h2⟩ := scan_snoc (fun x w => mx 0 (x + w - v)) w.reverse 0 a
    rw [List.reverse_cons, h2]
    rw [h1] at ih
    have e1 : lowS v w = y :: r.reverse := by rw [← ih]; simp
    show _ = mx 0 ((lowS v w).headD 0 + a - v) :: lowS v w
    rw [e1]
    simp
theorem e_low {w : List Int} (v : Int) (h : w.length ≤ 14) : f__low_stocks [.tup (intL w), .int v] = .ok (.lst (intL (lowS v w))) := by
  refine fnD_rt rfl ?_
  have key := loop_scan (t := .nm 3) (f := runs M__low_stocks (.cons (.app 2 (.bi .max2 (.cons (.cst (.int 0)) (.cons (.bin .sub (.bin .add (.idx (.var 2) (.neg (.cst (.int 1)))) (.var 3)) (.var 1)) .nil))) []) .nil))
    (fun r s => [.sh (.tup (intL w)), .sh (.int v), .ow r, s]) (fun x w => mx 0 (x + w - v)) (fun r x a s hr => by
      refine ⟨_, rfl, ?_⟩
      have e : intL (r ++ [x]) = intL r ++ [.int x] := intL_app r [x]
      have hl : ∀ y z : D, mkL (intL r ++ [y, z]) = .ok (.lst (intL r ++ [y, z])) := fun y z => mkL_le (by simp [intL_len]; omega)
      have e2 : intL (r ++ [x, mx 0 (x + a - v)]) = intL r ++ [D.int x, D.int (if x + a - v > 0 then x + a - v else 0)] := by
        simp [intL, mx]
      rw [e, e2]
      simp [ix_lst atI_last, hl]) w.reverse [] 0 .un (by simp; omega)
  obtain ⟨s', key⟩ := key
  have e0 : intL ([] ++ [0]) = [D.int 0] := rfl
  rw [e0] at key
  simp [b__low_stocks, fresh, mkL_le, intL_rev]
  rw [key]
  simp [intL_rev, low_scan]

/-- the greatest of a row -/
def top_ (l : List Int) : Int := maxL (l.headD 0) l.tail
def can (w : List Int) (v s : Int) : Bool := decide ((lowS v w).headD 0 = 0) && decide (top_ (lowS v w) ≤ s)
def fetched (w row : List Int) : List Int := (List.range w.length).map fun d => row.getD (d + 1) 0 + w.getD d 0 - row.getD d 0
theorem e_fetched {w row : List Int} (h : w.length ≤ 14) (hr : row.length = w.length + 1) : f__fetched [.tup (intL w), .lst (intL row)] = .ok (.tup (intL (fetched w row))) := by
  refine fnD_rt rfl ?_
  have hb := rng0 (n := w.length) (by omega)
  simp [b__fetched, hb, intL_len]
  rw [comp_map (g := fun d => match d with | .int i => .int (row.getD (i.toNat + 1) 0 + w.getD i.toNat 0 - row.getD i.toNat 0) | d => d) (fun d hd => by
    obtain ⟨i, hi, rfl⟩ := List.mem_map.mp hd
    have hi := List.mem_range.mp hi
    have e1 : ix (.lst (intL row)) (.int ((i : Int) + 1)) = .ok (.int (row.getD (i + 1) 0)) := ix_lst (atI_nat (i := i + 1) (intL_getD (by omega)))
    have e2 : ix (.tup (intL w)) (.int (i : Int)) = .ok (.int (w.getD i 0)) := ix_tup (atI_nat (intL_getD hi))
    have e3 : ix (.lst (intL row)) (.int (i : Int)) = .ok (.int (row.getD i 0)) := ix_lst (atI_nat (intL_getD (by omega)))
    simp [e1, e2, e3])]
  have e4 : (List.map (fun i : Nat => D.int (i : Int)) (List.range w.length)).map (fun d => match d with | .int i => D.int (row.getD (i.toNat + 1) 0 + w.getD i.toNat 0 - row.getD i.toNat 0) | d => d) = intL (fetched w row) := by
    simp [fetched, intL]
  rw [e4]
  have hl : (intL (fetched w row)).length ≤ 16777216 := by simp [fetched, intL_len]; omega
  simp [mkL_le hl]
def seg (w : List Int) (a b : Nat) : Int := ((w.drop a).take (b + 1 - a)).sum
def wm (w : List Int) (v s : Int) (a b : Nat) : Bool := decide (v * ((b : Int) + 1 - a) + (if a = 0 then 0 else s) < seg w a b)
theorem e_more {w : List Int} {v s : Int} {a b : Nat} (h : w.length ≤ 14) (hv : -1 ≤ v ∧ v ≤ 99) (hab : a ≤ b) (hb : b < w.length) : f__want_more [.tup (intL w), .int v, .int s, .int a, .int b] = .ok (.bl (wm w v s a b)) := by
  refine fnD_rt rfl ?_
  have e1 : bo .mul (.int v) (.int ((b : Int) + 1 - a)) = .ok (.int (v * ((b : Int) + 1 - a))) := bo_mulS (by omega) (by omega)
  have e2 : sl (.tup (intL w)) (some (a : Int)) (some ((b : Int) + 1)) = .ok (.tup (intL ((w.drop a).take (b + 1 - a)))) := by
    have := sl_tup (intL w) a (b + 1) (by rw [intL_len]; omega) (by rw [intL_len]; omega)
    rw [intL_drop, intL_take] at this
    exact this
  by_cases c : a = 0
  · subst c
    have e1' : bo .mul (.int v) (.int ((b : Int) + 1)) = .ok (.int (v * ((b : Int) + 1))) := bo_mulS (by omega) (by omega)
    simp at e2
    simp [b__want_more, e1', e2, fresh, wm, seg]
  · have c' : ¬ ((a : Int) = 0) := by omega
    simp [b__want_more, e1, e2, fresh, c, c', wm, seg]

def prD (a b : Nat) : D := .tup [.int a, .int b]
def lpRow (w : List Int) (v s : Int) (a : Nat) : Option D := (List.range (w.length - a)).findSome? fun k => if wm w v s a (a + k) = true then some (prD a (a + k)) else none
def lp (w : List Int) (v s : Int) : Option D := (List.range w.length).findSome? (lpRow w v s)
theorem e_pair {w : List Int} {v s : Int} (h : w.length ≤ 14) (hv : -1 ≤ v ∧ v ≤ 99) : f__least_pair [.tup (intL w), .int v, .int s] = .ok ((lp w v s).getD .non) := by
  have hr := rng0 (n := w.length) (by omega)
  have inner : ∀ (a : Nat) (x : Slot), a < w.length → 
      (∃ d, lpRow w v s a = some d ∧ runs M__least_pair (.cons (.for_ (.nm 4) (.rng2 (.var 3) (.bi .len (.cons (.var 0) .nil))) (.cons (.ite (.call 0 (.cons (.var 0) (.cons (.var 1) (.cons (.var 2) (.cons (.var 3) (.cons (.var 4) .nil)))))) (.cons (.ret (.tup (.cons (.var 3) (.cons (.var 4) .nil)))) .nil) .nil) .nil) []) .nil) [.sh (.tup (intL w)), .sh (.int v), .sh (.int s), .sh (.int a), x] = .fl (.rt d)) ∨
      (lpRow w v s a = none ∧ ∃ y, runs M__least_pair (.cons (.for_ (.nm 4) (.rng2 (.var 3) (.bi .len (.cons (.var 0) .nil))) (.cons (.ite (.call 0 (.cons (.var 0) (.cons (.var 1) (.cons (.var 2) (.cons (.var 3) (.cons (.var 4) .nil)))))) (.cons (.ret (.tup (.cons (.var 3) (.cons (.var 4) .nil)))) .nil) .nil) .nil) []) .nil) [.sh (.tup (intL w)), .sh (.int v), .sh (.int s), .sh (.int a), x] = .fl (.nx [.sh (.tup (intL w)), .sh (.int v), .sh (.int s), .sh (.int a), y])) := fun a x ha => by
    have hr2 := rngAB (a := a) (b := w.length) (by omega) (by omega)
    have L := loop_ret (t := .nm 4) (f := runs M__least_pair (.cons (.ite (.call 0 (.cons (.var 0) (.cons (.var 1) (.cons (.var 2) (.cons (.var 3) (.cons (.var 4) .nil)))))) (.cons (.ret (.tup (.cons (.var 3) (.cons (.var 4) .nil)))) .nil) .nil) .nil))
      (fun d => match d with | .int i => if wm w v s a i.toNat = true then some (prD a i.toNat) else none | _ => none)
      (fun ρ => ∃ y, ρ = [.sh (.tup (intL w)), .sh (.int v), .sh (.int s), .sh (.int a), y])
      (ds := (List.range (w.length - a)).map fun i => D.int ((a + i : Nat) : Int)) (ρ := [.sh (.tup (intL w)), .sh (.int v), .sh (.int s), .sh (.int a), x]) (fun d hd ρ ⟨y, hy⟩ => by
        obtain ⟨i, hi, rfl⟩ := List.mem_map.mp hd
        have hi := List.mem_range.mp hi
        subst hy
        refine ⟨_, rfl, ?_⟩
        have em := e_more (w := w) (v := v) (s := s) (a := a) (b := a + i) h hv (by omega) (by omega)
        rw [Int.natCast_add] at em
        have et : ((a : Int) + (i : Int)).toNat = a + i := by omega
        by_cases c : wm w v s a (a + i) = true
        · refine .inl ⟨prD a (a + i), by simp [c, et], ?_⟩
          have hm : mkT [D.int (a : Int), D.int ((a : Int) + (i : Int))] = .ok (.tup [D.int (a : Int), D.int ((a : Int) + (i : Int))]) := rfl
          simp [M__least_pair, em, c, hm, prD]
        · refine .inr ⟨by simp [c, et], _, .inl ?_, ⟨.sh (.int ((a + i : Nat) : Int)), rfl⟩⟩
          simp [M__least_pair, em, c]) ⟨x, rfl⟩
    have ef : ((List.range (w.length - a)).map fun i => D.int ((a + i : Nat) : Int)).findSome? (fun d => match d with | .int i => if wm w v s a i.toNat = true then some (prD a i.toNat) else none | _ => none) = lpRow w v s a := by
      rw [List.findSome?_map]
      rfl
    rw [ef] at L
    rcases L with ⟨d, h1, h2⟩ | ⟨h1, ρ', h2, y, hy⟩
    · refine .inl ⟨d, h1, ?_⟩
      simp [hr2, intL_len]
      simp at h2
      rw [h2]; rfl
    · refine .inr ⟨h1, y, ?_⟩
      simp [hr2, intL_len]
      simp at h2
      rw [h2, hy]; rfl
  have L := loop_ret (t := .nm 3) (f := runs M__least_pair (.cons (.for_ (.nm 4) (.rng2 (.var 3) (.bi .len (.cons (.var 0) .nil))) (.cons (.ite (.call 0 (.cons (.var 0) (.cons (.var 1) (.cons (.var 2) (.cons (.var 3) (.cons (.var 4) .nil)))))) (.cons (.ret (.tup (.cons (.var 3) (.cons (.var 4) .nil)))) .nil) .nil) .nil) []) .nil))
    (fun d => match d with | .int i => lpRow w v s i.toNat | _ => none)
    (fun ρ => ∃ x y, ρ = [.sh (.tup (intL w)), .sh (.int v), .sh (.int s), x, y])
    (ds := (List.range w.length).map fun i => D.int ((i : Nat) : Int)) (ρ := [.sh (.tup (intL w)), .sh (.int v), .sh (.int s), .un, .un]) (fun d hd ρ ⟨x, y, hy⟩ => by
      obtain ⟨i, hi, rfl⟩ := List.mem_map.mp hd
      have hi := List.mem_range.mp hi
      subst hy
      refine ⟨_, rfl, ?_⟩
      rcases inner i y hi with ⟨d, h1, h2⟩ | ⟨h1, y', h2⟩
      · exact .inl ⟨d, by simpa using h1, h2⟩
      · exact .inr ⟨by simpa using h1, _, .inl h2, _, _, rfl⟩) ⟨_, _, rfl⟩
  have ef : ((List.range w.length).map fun i => D.int ((i : Nat) : Int)).findSome? (fun d => match d with | .int i => lpRow w v s i.toNat | _ => none) = lp w v s := by
    rw [List.findSome?_map]
    rfl
  rw [ef] at L
  refine fnD_rt rfl ?_
  unfold b__least_pair
  rcases L with ⟨d, h1, h2⟩ | ⟨h1, ρ', h2, x, y, hy⟩
  · rw [h1]
    simp only [runs_cons, run_for, frz_nil, evIt_rng, ev_bi, evsB_cons, bw_var, List.map_cons, List.map_nil, List.cons_append, List.nil_append, getB_zero, bind_ok, evsB_nil, bi_lenT, asInt_i, intL_len, hr, O.of_ok]
    show (loop _ _ _ [.sh (.tup (intL w)), .sh (.int v), .sh (.int s), .un, .un]).next _ = _
    rw [h2]; rfl
  · rw [h1]
    simp only [runs_cons, run_for, frz_nil, evIt_rng, ev_bi, evsB_cons, bw_var, List.map_cons, List.map_nil, List.cons_append, List.nil_append, getB_zero, bind_ok, evsB_nil, bi_lenT, asInt_i, intL_len, hr, O.of_ok]
    show (loop _ _ _ [.sh (.tup (intL w)), .sh (.int v), .sh (.int s), .un, .un]).next _ = _
    rw [h2, hy]; rfl
/-! ### what the package tells -/
end T10
end
section
set_option autoImplicit false
set_option linter.all false
set_option maxRecDepth 100000
namespace T10
open Bk
/-! ### the law's numbers -/
theorem pow18 : bo .pow (.int 10) (.int 18) = .ok (.int 1000000000000000000) := rfl
theorem pow9 : bo .pow (.int 10) (.int 9) = .ok (.int 1000000000) := rfl
theorem e_numbers {ns : List Int} (hb : ∀ z ∈ ns, PySem.Builtin.Int.intBits z ≤ 1048576) (many : Nat) (hm : many ≤ 60) : ∃ l : List Int, l.length = many ∧ (∀ x ∈ l, 0 ≤ x ∧ x < 1000000000) ∧ f__law_numbers [.scr ns, .int 0, .int many] = .ok (.lst (intL l)) := by
  obtain ⟨c, hc, hce⟩ : ∃ c : Int, c.natAbs.log2 ≤ 1048576 ∧ ev M__law_numbers (.ite (.bin .lt (.var 1) (.bi .len (.cons (.var 0) .nil))) (.idx (.var 0) (.var 1)) (.cst (.int 0))) [.sh (.scr ns), .sh (.int 0), .sh (.int many), .un, .un, .un, .un, .un] = .ok (.int c) := by
    cases ns with
    | nil => exact ⟨0, by decide, by simp⟩
    | cons z r =>
      refine ⟨z, ?_, ?_⟩
      · have := hb z (List.mem_cons_self ..)
        unfold PySem.Builtin.Int.intBits at this
        split at this
        · rename_i h0
          have : z = 0 := by simpa using h0
          subst this; decide
        · omega
      · have e : ix (.scr (z :: r)) (.int 0) = .ok (.int z) := by
          show ofO ((Bk.atI (z :: r) (0 : Nat)).map D.int) = _
          rw [atI_nat (l := z :: r) (i := 0) (a := z) rfl]; rfl
        have e2 : (0 : Int) < (r.length : Int) + 1 := by omega
        simp [e, e2]
  have hr := rng0 (n := many) (by omega)
  have L := loop_inv (t := .nm 6) (f := runs M__law_numbers (.cons (.ite (.bin .ge (.var 3) (.bin .pow (.cst (.int 10)) (.cst (.int 18)))) (.cons (.app 4 (.bin .mod (.bi .int (.cons (.var 5) .nil)) (.bin .pow (.cst (.int 10)) (.cst (.int 9)))) []) (.cons (.asg 5 (.bin .fdiv (.var 5) (.bin .pow (.cst (.int 10)) (.cst (.int 9)))) []) .nil)) (.cons (.asg 7 (.bin .mod (.bi .int (.cons (.bin .add (.bin .add (.bin .mul (.var 3) (.cst (.int 48271))) (.bin .mul (.bin .add (.var 6) (.cst (.int 1))) (.cst (.int 69621)))) (.var 1)) .nil)) (.cst (.int 2147483647))) []) (.cons (.app 4 (.bin .mod (.bin .mod (.bi .int (.cons (.bin .add (.bin .mul (.var 7) (.cst (.int 16807))) (.bin .mul (.bin .add (.var 6) (.cst (.int 3))) (.cst (.int 40692)))) .nil)) (.cst (.int 2147483399))) (.bin .pow (.cst (.int 10)) (.cst (.int 9)))) []) .nil))) .nil))
    (fun k ρ => ∃ (l : List Int) (rest : Int) (x y : Slot), l.length = k ∧ (∀ x ∈ l, 0 ≤ x ∧ x < 1000000000) ∧ ρ = [.sh (.scr ns), .sh (.int 0), .sh (.int many), .sh (.int c), .ow (intL l), .sh (.int rest), x, y])
    (ds := (List.range many).map fun i => D.int ((i : Nat) : Int)) (ρ := [.sh (.scr ns), .sh (.int 0), .sh (.int many), .sh (.int c), .ow (intL []), .sh (.int c), .un, .un]) 0 ⟨[], c, .un, .un, rfl, (fun x h => nomatch h), rfl⟩ (fun i d ρ hd ⟨l, rest, x, y, h1, h2, h3⟩ => by
      have hi : i < many := by
        have := (List.getElem?_eq_some_iff.mp hd).1
        simpa using this
      have hdv : d = .int (i : Int) := by
        rw [List.getElem?_map, List.getElem?_range hi] at hd
        simpa using hd.symm
      subst hdv; subst h3
      refine ⟨_, rfl, ?_⟩
      have hmk : ∀ z : D, mkL (intL l ++ [z]) = .ok (.lst (intL l ++ [z])) := fun z => mkL_le (by simp [intL_len]; omega)
      have md9 : ∀ z : Int, bo .mod (.int z) (.int 1000000000) = .ok (.int (z % 1000000000)) := fun z => bo_mod (by decide)
      have fd9 : ∀ z : Int, bo .fdiv (.int z) (.int 1000000000) = .ok (.int (z / 1000000000)) := fun z => bo_fdiv (by decide) (by decide)
      have mdA : ∀ z : Int, bo .mod (.int z) (.int 2147483647) = .ok (.int (z % 2147483647)) := fun z => bo_mod (by decide)
      have mdB : ∀ z : Int, bo .mod (.int z) (.int 2147483399) = .ok (.int (z % 2147483399)) := fun z => bo_mod (by decide)
      have m1 : bo .mul (.int c) (.int 48271) = .ok (.int (c * 48271)) := bo_mul (by
        have : (48271 : Int).natAbs.log2 = 15 := by decide
        omega)
      have m2 : bo .mul (.int ((i : Int) + 1)) (.int 69621) = .ok (.int (((i : Int) + 1) * 69621)) := bo_mulS (by omega) (by omega)
      have m3 : bo .mul (.int ((i : Int) + 3)) (.int 40692) = .ok (.int (((i : Int) + 3) * 40692)) := bo_mulS (by omega) (by omega)
      have m4 : ∀ z : Int, bo .mul (.int (z % 2147483647)) (.int 16807) = .ok (.int ((z % 2147483647) * 16807)) := fun z => bo_mulS (by omega) (by omega)
      by_cases hc2 : 1000000000000000000 ≤ c
      · refine ⟨_, .inl (by simp [pow18, pow9, hc2, md9, fd9, hmk]; rfl), l ++ [rest % 1000000000], rest / 1000000000, _, _, by simp [h1], fun x hx => ?_, by rw [intL_app]; rfl⟩
        rcases List.mem_append.mp hx with z | z
        · exact h2 x z
        · rw [List.mem_singleton.mp z]; omega
      · refine ⟨_, .inl (by simp [pow18, pow9, hc2, md9, mdA, mdB, m1, m2, m3, m4, hmk, fresh]; rfl), l ++ [_], rest, _, _, by simp [h1], fun x hx => ?_, by rw [intL_app]; rfl⟩
        rcases List.mem_append.mp hx with z | z
        · exact h2 x z
        · rw [List.mem_singleton.mp z]; omega)
  obtain ⟨ρ', hL, l, rest, x, y, h1, h2, h3⟩ := L
  refine ⟨l, by simpa using h1, h2, fnD_rt rfl ?_⟩
  unfold b__law_numbers
  rw [runs_cons, run_asg, frz_nil]
  show (O.of _ (ev M__law_numbers _ [.sh (.scr ns), .sh (.int 0), .sh (.int many), .un, .un, .un, .un, .un]) _).next _ = _
  rw [hce]
  have m0 : mkL [] = .ok (.lst []) := rfl
  simp [fresh, m0, hr]
  refine (congrArg (fun o => O.next o _) hL).trans ?_
  rw [h3]
  simp

def wg (x : Int) : Int := if x % 4 = 0 then 0 else x / 4 % 7
theorem e_wants {l : List Int} (h : l.length ≤ 60) : f__law_wants [.lst (intL l)] = .ok (.tup (intL (l.map wg))) := by
  refine fnD_rt rfl ?_
  have m4 : ∀ z : Int, bo .mod (.int z) (.int 4) = .ok (.int (z % 4)) := fun z => bo_mod (by decide)
  have m7 : ∀ z : Int, bo .mod (.int z) (.int 7) = .ok (.int (z % 7)) := fun z => bo_mod (by decide)
  have d4 : ∀ z : Int, bo .fdiv (.int z) (.int 4) = .ok (.int (z / 4)) := fun z => bo_fdiv (by decide) (by decide)
  simp [b__law_wants]
  rw [comp_map (g := fun d => match d with | .int x => .int (wg x) | d => d) (fun d hd => by
    obtain ⟨x, hx, rfl⟩ := memI hd
    by_cases c : x % 4 = 0 <;> simp [m4, m7, d4, c, wg])]
  have e : (intL l).map (fun d => match d with | .int x => D.int (wg x) | d => d) = intL (l.map wg) := by
    simp [intL]
  rw [e]
  have hl : (intL (l.map wg)).length ≤ 16777216 := by simp [intL_len]; omega
  simp [mkL_le hl]
theorem wg_range (x : Int) (h : 0 ≤ x) : 0 ≤ wg x ∧ wg x ≤ 6 := by
  unfold wg
  split <;> omega
/-! ### the law's bad pairs -/
def badRow (w : List Int) (v s : Int) (a : Nat) : List D := (List.range (w.length - a)).filterMap fun k => if wm w v s a (a + k) = true then some (prD a (a + k)) else none
def badL (w : List Int) (v s : Int) : List D := (List.range w.length).flatMap (badRow w v s)
theorem lp_head (w : List Int) (v s : Int) : lp w v s = (badL w v s).head? := by
  unfold lp badL
  rw [List.head?_flatMap]
  congr 1
  funext a
  unfold lpRow badRow
  rw [List.head?_filterMap]
@[simp] theorem keep_prD (a b : Nat) (ρ r : En) : keep (prD a b) ρ r = r := rfl
theorem badRow_len (w : List Int) (v s : Int) (a : Nat) : (badRow w v s a).length ≤ w.length := by
  unfold badRow
  refine Nat.le_trans (List.length_filterMap_le _ _) ?_
  simp
theorem flat_len {w : List Int} {v s : Int} : ∀ (l : List Nat), (l.flatMap (badRow w v s)).length ≤ l.length * w.length
  | [] => by simp
  | a :: l => by
    have h1 := badRow_len w v s a
    have h2 := flat_len (w := w) (v := v) (s := s) l
    rw [List.flatMap_cons, List.length_append, List.length_cons, Nat.succ_mul]
    omega
theorem range_take (n k : Nat) (h : k ≤ n) : (List.range n).take k = List.range k := by
  rw [List.take_range, Nat.min_eq_left h]
theorem e_bad {w : List Int} {v s : Int} (h : w.length ≤ 14) (hv : -1 ≤ v ∧ v ≤ 99) (hs : 0 ≤ s ∧ s ≤ 99) : f__law_bad_days [.tup (intL w), .int v, .int s] = .ok (.lst (badL w v s)) := by
  have hr := rng0 (n := w.length) (by omega)
  have bnd : ∀ k, k ≤ w.length → ((List.range k).flatMap (badRow w v s)).length ≤ 300 := fun k hk => by
    have h1 := flat_len (w := w) (v := v) (s := s) (List.range k)
    rw [List.length_range] at h1
    have h2 : k * w.length ≤ 14 * 14 := Nat.mul_le_mul (by omega) h
    omega
  -- one a
  have inner : ∀ (a : Nat) (acc : List D) (x : Slot), a < w.length → acc.length ≤ 300 → ∃ y, runs M__law_bad_days (.cons (.for_ (.nm 5) (.rng2 (.var 4) (.bi .len (.cons (.var 0) .nil))) (.cons (.ite (.bin .gt (.bi .sum (.cons (.slc (.var 0) (.so (.var 4)) (.so (.bin .add (.var 5) (.cst (.int 1))))) .nil)) (.bin .add (.bin .mul (.var 1) (.bin .add (.bin .sub (.var 5) (.var 4)) (.cst (.int 1)))) (.ite (.bin .gt (.var 4) (.cst (.int 0))) (.var 2) (.cst (.int 0))))) (.cons (.app 3 (.tup (.cons (.var 4) (.cons (.var 5) .nil))) []) .nil) .nil) .nil) []) .nil)
      [.sh (.tup (intL w)), .sh (.int v), .sh (.int s), .ow acc, .sh (.int a), x] = .fl (.nx [.sh (.tup (intL w)), .sh (.int v), .sh (.int s), .ow (acc ++ badRow w v s a), .sh (.int a), y]) := fun a acc x ha hacc => by
    have hr2 := rngAB (a := a) (b := w.length) (by omega) (by omega)
    have L := loop_inv (t := .nm 5) (f := runs M__law_bad_days (.cons (.ite (.bin .gt (.bi .sum (.cons (.slc (.var 0) (.so (.var 4)) (.so (.bin .add (.var 5) (.cst (.int 1))))) .nil)) (.bin .add (.bin .mul (.var 1) (.bin .add (.bin .sub (.var 5) (.var 4)) (.cst (.int 1)))) (.ite (.bin .gt (.var 4) (.cst (.int 0))) (.var 2) (.cst (.int 0))))) (.cons (.app 3 (.tup (.cons (.var 4) (.cons (.var 5) .nil))) []) .nil) .nil) .nil))
      (fun k ρ => ∃ y, ρ = [.sh (.tup (intL w)), .sh (.int v), .sh (.int s), .ow (acc ++ (List.range k).filterMap fun k => if wm w v s a (a + k) = true then some (prD a (a + k)) else none), .sh (.int a), y])
      (ds := (List.range (w.length - a)).map fun i => D.int ((a + i : Nat) : Int)) (ρ := [.sh (.tup (intL w)), .sh (.int v), .sh (.int s), .ow acc, .sh (.int a), x]) 0 ⟨x, by simp⟩ (fun i d ρ hd ⟨y, hy⟩ => by
        have hi : i < w.length - a := by
          have := (List.getElem?_eq_some_iff.mp hd).1
          simpa using this
        have hdv : d = .int ((a + i : Nat) : Int) := by
          rw [List.getElem?_map, List.getElem?_range hi] at hd
          simpa using hd.symm
        subst hdv; subst hy
        refine ⟨_, rfl, ?_⟩
        have e2 : sl (.tup (intL w)) (some (a : Int)) (some ((a : Int) + (i : Int) + 1)) = .ok (.tup (intL ((w.drop a).take (a + i + 1 - a)))) := by
          have := sl_tup (intL w) a (a + i + 1) (by rw [intL_len]; omega) (by rw [intL_len]; omega)
          rw [intL_drop, intL_take] at this
          exact this
        have e1 : bo .mul (.int v) (.int ((a : Int) + (i : Int) - a + 1)) = .ok (.int (v * ((a : Int) + (i : Int) - a + 1))) := bo_mulS (by omega) (by omega)
        have ev1 : v * ((a : Int) + (i : Int) - a + 1) = v * (((a + i : Nat) : Int) + 1 - a) := by
          congr 1; omega
        have hm : ∀ (l : List D), l.length ≤ 1000 → ∀ z, mkL (acc ++ (l ++ [z])) = .ok (.lst (acc ++ (l ++ [z]))) := fun l hl z => mkL_le (by simp; omega)
        have hfl : ((List.range i).filterMap fun k => if wm w v s a (a + k) = true then some (prD a (a + k)) else none).length ≤ 1000 := by
          refine Nat.le_trans (List.length_filterMap_le _ _) ?_
          simp; omega
        have hm2 : mkT [D.int (a : Int), D.int ((a : Int) + (i : Int))] = .ok (prD a (a + i)) := rfl
        have hwm : wm w v s a (a + i) = decide (v * ((a : Int) + (i : Int) - a + 1) + (if 0 < a then s else 0) < ((w.drop a).take (a + i + 1 - a)).sum) := by
          rw [ev1]
          unfold wm seg
          congr 1
          by_cases c : a = 0
          · subst c; simp
          · have c' : 0 < a := by omega
            simp [c, c']
        have hgo : (List.range (0 + i + 1)).filterMap (fun k => if wm w v s a (a + k) = true then some (prD a (a + k)) else none) = (List.range i).filterMap (fun k => if wm w v s a (a + k) = true then some (prD a (a + k)) else none) ++ (if wm w v s a (a + i) = true then [prD a (a + i)] else []) := by
          rw [Nat.zero_add, List.range_succ, List.filterMap_append]
          congr 1
          by_cases c : wm w v s a (a + i) = true <;> simp [c]
        rw [Nat.zero_add]
        refine ⟨[.sh (.tup (intL w)), .sh (.int v), .sh (.int s), .ow (acc ++ ((List.range i).filterMap (fun k => if wm w v s a (a + k) = true then some (prD a (a + k)) else none) ++ (if wm w v s a (a + i) = true then [prD a (a + i)] else []))), .sh (.int a), .sh (.int ((a + i : Nat) : Int))], .inl ?_, _, by rw [← hgo, Nat.zero_add]⟩
        rw [hwm]
        generalize ((List.range i).filterMap fun k => if wm w v s a (a + k) = true then some (prD a (a + k)) else none) = fl at hfl ⊢
        have hm := hm fl hfl
        by_cases c0 : 0 < a
        · have c0' : (0 : Int) < (a : Int) := by omega
          simp [e2, e1, c0, c0']
          by_cases c : v * ((a : Int) + (i : Int) - a + 1) + s < ((w.drop a).take (a + i + 1 - a)).sum
          · simp [c, hm2, hm]
          · simp [c]
        · have c0' : ¬ (0 : Int) < (a : Int) := by omega
          simp [e2, e1, c0, c0']
          by_cases c : v * ((a : Int) + (i : Int) - a + 1) < ((w.drop a).take (a + i + 1 - a)).sum
          · simp [c, hm2, hm]
          · simp [c])
    obtain ⟨ρ', hL, y, hy⟩ := L
    refine ⟨y, ?_⟩
    simp [hr2, intL_len]
    refine (congrArg (fun o => O.next o _) hL).trans ?_
    rw [hy]
    simp [badRow]
  have L := loop_inv (t := .nm 4) (f := runs M__law_bad_days (.cons (.for_ (.nm 5) (.rng2 (.var 4) (.bi .len (.cons (.var 0) .nil))) (.cons (.ite (.bin .gt (.bi .sum (.cons (.slc (.var 0) (.so (.var 4)) (.so (.bin .add (.var 5) (.cst (.int 1))))) .nil)) (.bin .add (.bin .mul (.var 1) (.bin .add (.bin .sub (.var 5) (.var 4)) (.cst (.int 1)))) (.ite (.bin .gt (.var 4) (.cst (.int 0))) (.var 2) (.cst (.int 0))))) (.cons (.app 3 (.tup (.cons (.var 4) (.cons (.var 5) .nil))) []) .nil) .nil) .nil) []) .nil))
    (fun k ρ => ∃ x y, ρ = [.sh (.tup (intL w)), .sh (.int v), .sh (.int s), .ow ((List.range k).flatMap (badRow w v s)), x, y])
    (ds := (List.range w.length).map fun i => D.int ((i : Nat) : Int)) (ρ := [.sh (.tup (intL w)), .sh (.int v), .sh (.int s), .ow [], .un, .un]) 0 ⟨_, _, rfl⟩ (fun i d ρ hd ⟨x, y, hy⟩ => by
      have hi : i < w.length := by
        have := (List.getElem?_eq_some_iff.mp hd).1
        simpa using this
      have hdv : d = .int (i : Int) := by
        rw [List.getElem?_map, List.getElem?_range hi] at hd
        simpa using hd.symm
      subst hdv; subst hy
      refine ⟨_, rfl, ?_⟩
      obtain ⟨z, hz⟩ := inner i ((List.range (0 + i)).flatMap (badRow w v s)) y hi (bnd _ (by omega))
      refine ⟨_, .inl hz, .sh (.int (i : Int)), z, ?_⟩
      rw [Nat.zero_add, List.range_succ, List.flatMap_append]
      simp)
  obtain ⟨ρ', hL, x, y, hy⟩ := L
  refine fnD_rt rfl ?_
  have m0 : mkL [] = .ok (.lst []) := rfl
  unfold b__law_bad_days
  rw [runs_cons]
  show (runs M__law_bad_days (.cons (.for_ _ _ _ _) _) [.sh (.tup (intL w)), .sh (.int v), .sh (.int s), .ow [], .un, .un]) = _
  rw [runs_cons, run_for, frz_nil]
  have e : evIt M__law_bad_days false (.rng (.bi .len (.cons (.var 0) .nil))) [.sh (.tup (intL w)), .sh (.int v), .sh (.int s), .ow [], .un, .un] = .ok ((List.range w.length).map fun i => D.int ((i : Nat) : Int)) := by
    simp [intL_len, hr]
  rw [e, O.of_ok, hL, hy]
  simp [badL]

/-! ### the law's stocks and fetchings -/
def stocks (w f : List Int) : List Int := (List.range w.length).map fun d => (f.take (d + 1)).sum - (w.take (d + 1)).sum
abbrev Pr := List Int × Int
def pd (p : Pr) : D := .tup [.tup (intL p.1), .int p.2]
def expand (v : Nat) (s want : Int) (p : Pr) : List Pr := (List.range (v + 1)).filterMap fun k => if 0 ≤ p.2 + (k : Nat) - want ∧ p.2 + (k : Nat) - want ≤ s then some (p.1 ++ [(k : Int)], p.2 + (k : Nat) - want) else none
def stepR (v : Nat) (s : Int) (rows : List Pr) (want : Int) : List Pr := rows.flatMap (expand v s want)
def fetchR (v : Nat) (s : Int) (w : List Int) : List Pr := w.foldl (stepR v s) [([], 0)]
theorem expand_len (v : Nat) (s want : Int) (p : Pr) : (expand v s want p).length ≤ v + 1 := by
  unfold expand
  refine Nat.le_trans (List.length_filterMap_le _ _) ?_
  simp
theorem flatE_len (v : Nat) (s want : Int) : ∀ rows : List Pr, (rows.flatMap (expand v s want)).length ≤ rows.length * (v + 1)
  | [] => by simp
  | p :: rows => by
    have h1 := expand_len v s want p
    have h2 := flatE_len v s want rows
    rw [List.flatMap_cons, List.length_append, List.length_cons, Nat.succ_mul]
    omega
theorem expand_fst (v : Nat) (s want : Int) (p q : Pr) (h : q ∈ expand v s want p) : q.1.length = p.1.length + 1 := by
  unfold expand at h
  obtain ⟨k, _, hk⟩ := List.mem_filterMap.mp h
  split at hk
  · cases hk; simp
  · cases hk
theorem e_longer {v : Nat} {s want : Int} (hv : v ≤ 100) (p : Pr) (hp : p.1.length ≤ 100) (W a3 a5 x8 : Slot) :
    ev M__law_fetchings (.lc (.tup (.cons (.bin .add (.var 6) (.tup (.cons (.var 8) .nil))) (.cons (.bin .sub (.bin .add (.var 7) (.var 8)) (.var 4)) .nil))) (.nm 8) (.rng (.bin .add (.var 1) (.cst (.int 1)))) (.so (.and (.bin .ge (.bin .sub (.bin .add (.var 7) (.var 8)) (.var 4)) (.cst (.int 0))) (.bin .le (.bin .sub (.bin .add (.var 7) (.var 8)) (.var 4)) (.var 2)))))
      [W, .sh (.int v), .sh (.int s), a3, .sh (.int want), a5, .sh (.tup (intL p.1)), .sh (.int p.2), x8] = .ok (.lst ((expand v s want p).map pd)) := by
  have hb := rng0 (n := v + 1) (by omega)
  have hb1 : ((v + 1 : Nat) : Int) = (v : Int) + 1 := by omega
  rw [hb1] at hb
  have hmt : ∀ x y : D, mkT [x, y] = .ok (.tup [x, y]) := fun _ _ => rfl
  have hmt1 : ∀ x : D, mkT [x] = .ok (.tup [x]) := fun _ => rfl
  have hadd : ∀ k : Int, bo .add (.tup (intL p.1)) (.tup [.int k]) = .ok (.tup (intL (p.1 ++ [k]))) := fun k => by
    have e : intL (p.1 ++ [k]) = intL p.1 ++ [.int k] := intL_app _ _
    rw [e]
    exact mkT_le (by simp [intL_len]; omega)
  simp only [ev_lc, evIt_rng, ev_bin, ev_var, ev_cst, get_succ, get_zero, bw_var, getB_succ, getB_zero, bind_ok, bw_cst, bo_add, asInt_i, hb]
  rw [comp_filterMap (g := fun d => match d with | .int k => (if 0 ≤ p.2 + k - want ∧ p.2 + k - want ≤ s then some (pd (p.1 ++ [k], p.2 + k - want)) else none) | _ => none) (fun d hd => by
    obtain ⟨i, hi, rfl⟩ := List.mem_map.mp hd
    by_cases c1 : want ≤ p.2 + (i : Int)
    · by_cases c2 : p.2 + (i : Int) - want ≤ s
      · simp [c1, c2, hmt1, hadd, hmt, pd]
      · simp [c1, c2]
    · simp [c1])]
  have e4 : ((List.range (v + 1)).map fun i => D.int ((i : Nat) : Int)).filterMap (fun d => match d with | .int k => (if 0 ≤ p.2 + k - want ∧ p.2 + k - want ≤ s then some (pd (p.1 ++ [k], p.2 + k - want)) else none) | _ => none) = (expand v s want p).map pd := by
    unfold expand
    rw [List.filterMap_map, List.map_filterMap]
    refine congrFun (congrArg List.filterMap (funext fun i => ?_)) _
    show (if 0 ≤ p.2 + (i : Int) - want ∧ p.2 + (i : Int) - want ≤ s then some (pd (p.1 ++ [(i : Int)], p.2 + (i : Int) - want)) else none) = Option.map pd (if 0 ≤ p.2 + (i : Int) - want ∧ p.2 + (i : Int) - want ≤ s then some (p.1 ++ [(i : Int)], p.2 + (i : Int) - want) else none)
    by_cases c : 0 ≤ p.2 + (i : Int) - want ∧ p.2 + (i : Int) - want ≤ s
    · rw [if_pos c, if_pos c]; rfl
    · rw [if_neg c, if_neg c]; rfl
  rw [e4]
  have hl := expand_len v s want p
  exact mkL_le (by rw [List.length_map]; omega)

/-- the rows behind k days -/
def rowsK (v : Nat) (s : Int) (w : List Int) (k : Nat) : List Pr := fetchR v s (w.take k)
theorem rowsK_succ {v : Nat} {s : Int} {w : List Int} {k : Nat} (hk : k < w.length) : rowsK v s w (k + 1) = stepR v s (rowsK v s w k) w[k] := by
  unfold rowsK fetchR
  rw [List.take_succ_eq_append_getElem hk, List.foldl_append]
  rfl
end T10
end
section
set_option autoImplicit false
set_option linter.all false
set_option maxRecDepth 100000
namespace T10
open Bk
theorem count_lt (c s : Int) (hs : 0 ≤ s) : ∀ n : Nat, (((List.range n).filter fun k => decide (c ≤ (k : Nat) ∧ ((k : Nat) : Int) ≤ c + s)).length : Int) ≤ s + 1 ∧ ((((List.range n).filter fun k => decide (c ≤ (k : Nat) ∧ ((k : Nat) : Int) ≤ c + s)).length : Int) ≤ (n : Int) - c ∨ ((List.range n).filter fun k => decide (c ≤ (k : Nat) ∧ ((k : Nat) : Int) ≤ c + s)).length = 0)
  | 0 => ⟨by simp; omega, .inr rfl⟩
  | n + 1 => by
    obtain ⟨h1, h2⟩ := count_lt c s hs n
    rw [List.range_succ, List.filter_append, List.length_append]
    by_cases q : c ≤ (n : Int) ∧ (n : Int) ≤ c + s
    · have e : ([n].filter fun k => decide (c ≤ (k : Nat) ∧ ((k : Nat) : Int) ≤ c + s)).length = 1 := by simp [q]
      rw [e]
      omega
    · have e : ([n].filter fun k => decide (c ≤ (k : Nat) ∧ ((k : Nat) : Int) ≤ c + s)).length = 0 := by
        rw [List.filter_cons_of_neg (by simpa using q)]; rfl
      rw [e]
      omega
theorem expand_len2 (v : Nat) (s want : Int) (hs : 0 ≤ s ∧ s ≤ 4) (p : Pr) : (expand v s want p).length ≤ 5 := by
  have h := (count_lt (want - p.2) s hs.1 (v + 1)).1
  have e : (expand v s want p).length = ((List.range (v + 1)).filter fun k => decide (want - p.2 ≤ (k : Nat) ∧ ((k : Nat) : Int) ≤ want - p.2 + s)).length := by
    unfold expand
    generalize List.range (v + 1) = L
    induction L with
    | nil => rfl
    | cons k L ih =>
      by_cases c : want - p.2 ≤ (k : Int) ∧ (k : Int) ≤ want - p.2 + s
      · rw [List.filter_cons_of_pos (by simpa using c), List.filterMap_cons, if_pos (by omega)]
        exact congrArg (· + 1) ih
      · rw [List.filter_cons_of_neg (by simpa using c), List.filterMap_cons, if_neg (by omega)]
        exact ih
  omega
theorem flatE_len2 (v : Nat) (s want : Int) (hs : 0 ≤ s ∧ s ≤ 4) : ∀ rows : List Pr, (rows.flatMap (expand v s want)).length ≤ rows.length * 5
  | [] => by simp
  | p :: rows => by
    have h1 := expand_len2 v s want hs p
    have h2 := flatE_len2 v s want hs rows
    rw [List.flatMap_cons, List.length_append, List.length_cons, Nat.succ_mul]
    omega
theorem rowsK_len {v : Nat} {s : Int} {w : List Int} (hs : 0 ≤ s ∧ s ≤ 4) : ∀ k : Nat, k ≤ w.length → (rowsK v s w k).length ≤ 5 ^ k ∧ ∀ p ∈ rowsK v s w k, p.1.length = k
  | 0, _ => ⟨by simp [rowsK, fetchR], fun p hp => by simp [rowsK, fetchR] at hp; subst hp; rfl⟩
  | k + 1, hk => by
    obtain ⟨h1, h2⟩ := rowsK_len (w := w) (v := v) hs k (by omega)
    rw [rowsK_succ (w := w) (k := k) (by omega)]
    refine ⟨?_, fun p hp => ?_⟩
    · refine Nat.le_trans (flatE_len2 v s _ hs _) ?_
      rw [Nat.pow_succ]
      exact Nat.mul_le_mul h1 (Nat.le_refl _)
    · obtain ⟨q, hq, hp⟩ := List.mem_flatMap.mp hp
      rw [expand_fst _ _ _ _ _ hp, h2 q hq]
theorem sl_lst_over {l : List D} {b : Nat} (hb : l.length ≤ b) : sl (.lst l) none (some (b : Int)) = .ok (.lst l) := by
  show R.ok (D.lst (cut l none (some (b : Int)))) = _
  unfold cut
  have e : sIx l.length l.length (some (b : Int)) = l.length := by
    unfold sIx
    dsimp only
    rw [if_neg (by omega), Int.toNat_natCast]
    exact Nat.min_eq_right hb
  rw [e]
  show R.ok (D.lst ((l.drop 0).take (l.length - 0))) = _
  simp
theorem e_fetchings {v : Nat} {s : Int} {w : List Int} (hv : v ≤ 9) (hs : 0 ≤ s ∧ s ≤ 4) (hw : w.length ≤ 5) : f__law_fetchings [.tup (intL w), .int v, .int s] = .ok (.lst ((fetchR v s w).map fun p => .tup (intL p.1))) := by
  have bnd : ∀ k, k ≤ w.length → (rowsK v s w k).length ≤ 3125 := fun k hk => by
    refine Nat.le_trans (rowsK_len hs k hk).1 ?_
    exact Nat.le_trans (Nat.pow_le_pow_right (by decide) (by omega : k ≤ 5)) (by decide)
  -- one day
  have inner : ∀ (rows : List Pr) (want : Int) (W a3 x6 x7 x8 : Slot), rows.length ≤ 3125 → (∀ p ∈ rows, p.1.length ≤ 100) → ∃ y6 y7 y8, loop (.tp [6, 7]) (runs M__law_fetchings (.cons (.asg 5 (.bin .add (.var 5) (.lc (.tup (.cons (.bin .add (.var 6) (.tup (.cons (.var 8) .nil))) (.cons (.bin .sub (.bin .add (.var 7) (.var 8)) (.var 4)) .nil))) (.nm 8) (.rng (.bin .add (.var 1) (.cst (.int 1)))) (.so (.and (.bin .ge (.bin .sub (.bin .add (.var 7) (.var 8)) (.var 4)) (.cst (.int 0))) (.bin .le (.bin .sub (.bin .add (.var 7) (.var 8)) (.var 4)) (.var 2)))))) []) .nil))
      (rows.map pd) [W, .sh (.int v), .sh (.int s), a3, .sh (.int want), .ow [], x6, x7, x8] = .fl (.nx [W, .sh (.int v), .sh (.int s), a3, .sh (.int want), .ow ((rows.flatMap (expand v s want)).map pd), y6, y7, y8]) := fun rows want W a3 x6 x7 x8 hl hp => by
    have L := loop_inv (t := .tp [6, 7]) (f := runs M__law_fetchings (.cons (.asg 5 (.bin .add (.var 5) (.lc (.tup (.cons (.bin .add (.var 6) (.tup (.cons (.var 8) .nil))) (.cons (.bin .sub (.bin .add (.var 7) (.var 8)) (.var 4)) .nil))) (.nm 8) (.rng (.bin .add (.var 1) (.cst (.int 1)))) (.so (.and (.bin .ge (.bin .sub (.bin .add (.var 7) (.var 8)) (.var 4)) (.cst (.int 0))) (.bin .le (.bin .sub (.bin .add (.var 7) (.var 8)) (.var 4)) (.var 2)))))) []) .nil))
      (fun k ρ => ∃ y6 y7 y8, ρ = [W, .sh (.int v), .sh (.int s), a3, .sh (.int want), .ow (((rows.take k).flatMap (expand v s want)).map pd), y6, y7, y8])
      (ds := rows.map pd) (ρ := [W, .sh (.int v), .sh (.int s), a3, .sh (.int want), .ow [], x6, x7, x8]) 0 ⟨x6, x7, x8, by simp⟩ (fun i d ρ hd ⟨y6, y7, y8, hy⟩ => by
        have hi : i < rows.length := by
          have := (List.getElem?_eq_some_iff.mp hd).1
          simpa using this
        have hdv : d = pd rows[i] := by
          rw [List.getElem?_map, List.getElem?_eq_getElem hi] at hd
          simpa using hd.symm
        subst hdv; subst hy
        refine ⟨_, rfl, ?_⟩
        have e := e_longer (v := v) (s := s) (want := want) (by omega) rows[i] (hp _ (List.getElem_mem hi)) W a3 (.ow (((rows.take (0 + i)).flatMap (expand v s want)).map pd)) y8
        have hlen : (((rows.take (0 + i)).flatMap (expand v s want)).map pd).length ≤ 100000 := by
          rw [List.length_map]
          refine Nat.le_trans (flatE_len v s want _) ?_
          have : (rows.take (0 + i)).length ≤ 3125 := by rw [List.length_take]; omega
          exact Nat.le_trans (Nat.mul_le_mul this (by omega : v + 1 ≤ 10)) (by decide)
        have hle2 : ((expand v s want rows[i]).map pd).length ≤ 10 := by
          rw [List.length_map]
          have := expand_len v s want rows[i]
          omega
        refine ⟨[W, .sh (.int v), .sh (.int s), a3, .sh (.int want), .ow (((rows.take (0 + i)).flatMap (expand v s want)).map pd ++ (expand v s want rows[i]).map pd), .sh (.tup (intL rows[i].1)), .sh (.int rows[i].2), y8], .inl ?_, .sh (.tup (intL rows[i].1)), .sh (.int rows[i].2), y8, ?_⟩
        · rw [runs_cons, run_asg, frz_nil]
          have hev : ev M__law_fetchings (.bin .add (.var 5) (.lc (.tup (.cons (.bin .add (.var 6) (.tup (.cons (.var 8) .nil))) (.cons (.bin .sub (.bin .add (.var 7) (.var 8)) (.var 4)) .nil))) (.nm 8) (.rng (.bin .add (.var 1) (.cst (.int 1)))) (.so (.and (.bin .ge (.bin .sub (.bin .add (.var 7) (.var 8)) (.var 4)) (.cst (.int 0))) (.bin .le (.bin .sub (.bin .add (.var 7) (.var 8)) (.var 4)) (.var 2))))))
              [W, .sh (.int v), .sh (.int s), a3, .sh (.int want), .ow (((rows.take (0 + i)).flatMap (expand v s want)).map pd), .sh (.tup (intL rows[i].1)), .sh (.int rows[i].2), y8] = .ok (.lst (((rows.take (0 + i)).flatMap (expand v s want)).map pd ++ (expand v s want rows[i]).map pd)) := by
            rw [ev_bin, bw_var, bw_lc, e]
            simp only [getB_succ, getB_zow, bind_ok]
            exact mkL_le (by rw [List.length_append]; omega)
          show (O.of _ (ev M__law_fetchings _ [W, .sh (.int v), .sh (.int s), a3, .sh (.int want), .ow (((rows.take (0 + i)).flatMap (expand v s want)).map pd), .sh (.tup (intL rows[i].1)), .sh (.int rows[i].2), y8]) _).next _ = _
          rw [hev]
          simp [fresh]
        · have e3 : rows.take (0 + i + 1) = rows.take (0 + i) ++ [rows[i]] := by
            rw [Nat.zero_add]
            exact List.take_succ_eq_append_getElem hi
          rw [e3, List.flatMap_append, List.map_append]
          simp)
    obtain ⟨ρ', hL, y6, y7, y8, hy⟩ := L
    refine ⟨y6, y7, y8, ?_⟩
    rw [hL, hy]
    simp
  -- all days
  have L := loop_inv (t := .nm 4) (f := runs M__law_fetchings (.cons (.asg 5 (.lst .nil) []) (.cons (.for_ (.tp [6, 7]) (.seq (.var 3)) (.cons (.asg 5 (.bin .add (.var 5) (.lc (.tup (.cons (.bin .add (.var 6) (.tup (.cons (.var 8) .nil))) (.cons (.bin .sub (.bin .add (.var 7) (.var 8)) (.var 4)) .nil))) (.nm 8) (.rng (.bin .add (.var 1) (.cst (.int 1)))) (.so (.and (.bin .ge (.bin .sub (.bin .add (.var 7) (.var 8)) (.var 4)) (.cst (.int 0))) (.bin .le (.bin .sub (.bin .add (.var 7) (.var 8)) (.var 4)) (.var 2)))))) []) .nil) [3]) (.cons (.asg 3 (.slc (.var 5) .no (.so (.cst (.int 4000)))) []) .nil))))
    (fun k ρ => ∃ a3 x4 x5 x6 x7 x8, ρ = [.sh (.tup (intL w)), .sh (.int v), .sh (.int s), a3, x4, x5, x6, x7, x8] ∧ (a3 = .ow ((rowsK v s w k).map pd) ∨ a3 = .sh (.lst ((rowsK v s w k).map pd))))
    (ds := intL w) (ρ := [.sh (.tup (intL w)), .sh (.int v), .sh (.int s), .ow [pd ([], 0)], .un, .un, .un, .un, .un]) 0 ⟨_, _, _, _, _, _, rfl, .inl rfl⟩ (fun i d ρ hd ⟨a3, x4, x5, x6, x7, x8, hy, h3⟩ => by
      have hi : i < w.length := by
        have := (List.getElem?_eq_some_iff.mp hd).1
        simpa [intL_len] using this
      have hdv : d = .int w[i] := by
        unfold intL at hd
        rw [List.getElem?_map, List.getElem?_eq_getElem hi] at hd
        simpa using hd.symm
      subst hdv; subst hy
      refine ⟨_, rfl, ?_⟩
      rw [Nat.zero_add] at h3 ⊢
      obtain ⟨y6, y7, y8, hl⟩ := inner (rowsK v s w i) w[i] (.sh (.tup (intL w))) (.sh (.lst ((rowsK v s w i).map pd))) x6 x7 x8 (bnd i (by omega)) (fun p hp => by
        rw [(rowsK_len (w := w) (v := v) hs i (by omega)).2 p hp]; omega)
      have efrz : ∀ z4 z5 z6 z7 z8 : Slot, frz [3] [.sh (.tup (intL w)), .sh (.int v), .sh (.int s), a3, z4, z5, z6, z7, z8] = [.sh (.tup (intL w)), .sh (.int v), .sh (.int s), .sh (.lst ((rowsK v s w i).map pd)), z4, z5, z6, z7, z8] := fun _ _ _ _ _ => by
        rcases h3 with rfl | rfl <;> rfl
      have m0 : mkL [] = .ok (.lst []) := rfl
      have h4 := sl_lst_over (l := (rowsK v s w (i + 1)).map pd) (b := 4000) (by rw [List.length_map]; have := bnd (i + 1) (by omega); omega)
      refine ⟨[.sh (.tup (intL w)), .sh (.int v), .sh (.int s), .ow ((rowsK v s w (i + 1)).map pd), .sh (.int w[i]), .ow ((rowsK v s w (i + 1)).map pd), y6, y7, y8], .inl ?_, _, _, _, _, _, _, rfl, .inl rfl⟩
      rw [runs_cons]
      show (runs M__law_fetchings (.cons (.for_ _ _ _ _) _) [.sh (.tup (intL w)), .sh (.int v), .sh (.int s), a3, .sh (.int w[i]), .ow [], x6, x7, x8]) = _
      rw [runs_cons, run_for, efrz]
      have e1 : evIt M__law_fetchings false (.seq (.var 3)) [.sh (.tup (intL w)), .sh (.int v), .sh (.int s), .sh (.lst ((rowsK v s w i).map pd)), .sh (.int w[i]), .ow [], x6, x7, x8] = .ok ((rowsK v s w i).map pd) := rfl
      rw [e1, O.of_ok, hl]
      rw [rowsK_succ hi] at h4 ⊢
      unfold stepR at h4 ⊢
      have h4 : sl (.lst (((rowsK v s w i).flatMap (expand v s w[i])).map pd)) none (some 4000) = .ok (.lst (((rowsK v s w i).flatMap (expand v s w[i])).map pd)) := h4
      simp [h4, fresh])
  obtain ⟨ρ', hL, a3, x4, x5, x6, x7, x8, hy, h3⟩ := L
  refine fnD_rt rfl ?_
  unfold b__law_fetchings
  rw [runs_cons]
  show (runs M__law_fetchings (.cons (.for_ _ _ _ _) _) [.sh (.tup (intL w)), .sh (.int v), .sh (.int s), .ow [pd ([], 0)], .un, .un, .un, .un, .un]) = _
  rw [runs_cons, run_for, frz_nil]
  have e1 : evIt M__law_fetchings false (.seq (.var 0)) [.sh (.tup (intL w)), .sh (.int v), .sh (.int s), .ow [pd ([], 0)], .un, .un, .un, .un, .un] = .ok (intL w) := rfl
  rw [e1, O.of_ok, hL, hy, O.next_nx, runs_cons, run_ret]
  have hk : rowsK v s w (0 + (intL w).length) = fetchR v s w := by
    unfold rowsK
    rw [intL_len, Nat.zero_add, List.take_length]
  rw [hk] at h3
  have ea : all1 [.sh (.tup (intL w)), .sh (.int v), .sh (.int s), a3, x4, x5, x6, x7, x8] = [.sh (.tup (intL w)), .sh (.int v), .sh (.int s), .sh (.lst ((fetchR v s w).map pd)), frz1 x4, frz1 x5, frz1 x6, frz1 x7, frz1 x8] := by
    rcases h3 with rfl | rfl <;> rfl
  rw [ea]
  have hev : ev M__law_fetchings (.lc (.var 6) (.tp [6, 7]) (.seq (.var 3)) .no) [.sh (.tup (intL w)), .sh (.int v), .sh (.int s), .sh (.lst ((fetchR v s w).map pd)), frz1 x4, frz1 x5, frz1 x6, frz1 x7, frz1 x8] = .ok (.lst ((fetchR v s w).map fun p => .tup (intL p.1))) := by
    rw [ev_lc]
    have e2 : evIt M__law_fetchings true (.seq (.var 3)) [.sh (.tup (intL w)), .sh (.int v), .sh (.int s), .sh (.lst ((fetchR v s w).map pd)), frz1 x4, frz1 x5, frz1 x6, frz1 x7, frz1 x8] = .ok ((fetchR v s w).map pd) := rfl
    rw [e2, bind_ok]
    rw [Bk.comp_map (g := fun d : D => match d with | D.tup [a, _] => a | d => d) (fun d hd => by
      obtain ⟨p, hp, rfl⟩ := List.mem_map.mp hd
      rfl)]
    have e4 : ((fetchR v s w).map pd).map (fun d : D => match d with | D.tup [a, _] => a | d => d) = (fetchR v s w).map fun p => D.tup (intL p.1) := by
      rw [List.map_map]
      rfl
    rw [e4]
    refine mkL_le ?_
    rw [List.length_map]
    have := bnd w.length (Nat.le_refl _)
    unfold rowsK at this
    rw [List.take_length] at this
    omega
  rw [hev]
  rfl
end T10
end
section
set_option autoImplicit false
set_option linter.all false
set_option maxRecDepth 100000
namespace T10
open Bk
/-! ### sums -/
def S (l : List Int) (k : Nat) : Int := (l.take k).sum
theorem S_zero (l : List Int) : S l 0 = 0 := by simp [S]
theorem S_succ {l : List Int} {k : Nat} (h : k < l.length) : S l (k + 1) = S l k + l.getD k 0 := by
  unfold S
  rw [List.take_succ_eq_append_getElem h, List.sum_append, List.getD_eq_getElem?_getD, List.getElem?_eq_getElem h]
  simp
theorem S_app {a b : List Int} {k : Nat} (h : k ≤ a.length) : S (a ++ b) k = S a k := by
  unfold S
  rw [List.take_append_of_le_length h]
/-! ### the least and the most stocks -/
section
variable (v s : Int) (w : List Int)
def Lf (d : Nat) : Int := (lowS v w).getD d 0
def Hf (d : Nat) : Int := (highS v s 0 w).getD d 0
end
theorem L_last (v : Int) : ∀ w : List Int, Lf v w w.length = 0
  | [] => rfl
  | a :: w => L_last v w
theorem L_step (v : Int) : ∀ (w : List Int) (d : Nat), d < w.length → Lf v w d = mx 0 (Lf v w (d + 1) + w.getD d 0 - v)
  | [], d, h => absurd h (Nat.not_lt_zero _)
  | a :: w, 0, _ => by
    show mx 0 ((lowS v w).headD 0 + a - v) = mx 0 ((lowS v w).getD 0 0 + a - v)
    obtain ⟨r, hr⟩ := lowS_cons v w
    rw [hr]; rfl
  | a :: w, d + 1, h => L_step v w d (by simpa using h)
theorem scan_head (g : Int → Int → Int) (x : Int) (l : List Int) : (scan g x l).getD 0 0 = x := by cases l <;> rfl
theorem scan_step (g : Int → Int → Int) : ∀ (l : List Int) (x : Int) (d : Nat), d < l.length → (scan g x l).getD (d + 1) 0 = g ((scan g x l).getD d 0) (l.getD d 0)
  | [], x, d, h => absurd h (Nat.not_lt_zero _)
  | a :: l, x, 0, _ => by
    show (scan g (g x a) l).getD 0 0 = g x a
    exact scan_head _ _ _
  | a :: l, x, d + 1, h => scan_step g l (g x a) d (by simpa using h)
theorem H_zero (v s : Int) (w : List Int) : Hf v s w 0 = 0 := scan_head _ _ _
theorem H_step (v s : Int) (w : List Int) (d : Nat) (h : d < w.length) : Hf v s w (d + 1) = mn s (Hf v s w d + v - w.getD d 0) := scan_step _ w 0 d h
theorem maxL_le : ∀ (r : List Int) (m s : Int), maxL m r ≤ s ↔ m ≤ s ∧ ∀ x ∈ r, x ≤ s
  | [], m, s => by simp [maxL]
  | x :: r, m, s => by
    show maxL (if x > m then x else m) r ≤ s ↔ _
    rw [maxL_le r]
    constructor
    · rintro ⟨h1, h2⟩
      split at h1
      · exact ⟨by omega, fun y hy => by
          rcases List.mem_cons.mp hy with z | z
          · rw [z]; exact h1
          · exact h2 y z⟩
      · exact ⟨h1, fun y hy => by
          rcases List.mem_cons.mp hy with z | z
          · rw [z]; omega
          · exact h2 y z⟩
    · rintro ⟨h1, h2⟩
      refine ⟨?_, fun y hy => h2 y (List.mem_cons_of_mem _ hy)⟩
      split
      · exact h2 x (List.mem_cons_self ..)
      · exact h1
theorem top_le {v s : Int} {w : List Int} : top_ (lowS v w) ≤ s ↔ ∀ d, d ≤ w.length → Lf v w d ≤ s := by
  obtain ⟨r, hr⟩ := lowS_cons v w
  have e : top_ (lowS v w) = maxL ((lowS v w).headD 0) r := by
    unfold top_
    rw [hr]; rfl
  rw [e, maxL_le]
  constructor
  · rintro ⟨h1, h2⟩ d hd
    unfold Lf
    rw [hr]
    cases d with
    | zero => exact h1
    | succ d =>
      have hl := lowS_len v w
      rw [hr, List.length_cons] at hl
      have hd' : d < r.length := by omega
      rw [List.getD_cons_succ, List.getD_eq_getElem?_getD, List.getElem?_eq_getElem hd']
      exact h2 _ (List.getElem_mem hd')
  · intro h
    refine ⟨?_, fun x hx => ?_⟩
    · have := h 0 (Nat.zero_le _)
      unfold Lf at this
      rw [hr] at this
      exact this
    · obtain ⟨d, hd, rfl⟩ := List.getElem_of_mem hx
      have hl := lowS_len v w
      rw [hr, List.length_cons] at hl
      have := h (d + 1) (by omega)
      unfold Lf at this
      rw [hr, List.getD_cons_succ, List.getD_eq_getElem?_getD, List.getElem?_eq_getElem hd] at this
      exact this
theorem L0 (v : Int) (w : List Int) : (lowS v w).headD 0 = Lf v w 0 := by
  obtain ⟨r, hr⟩ := lowS_cons v w
  unfold Lf
  rw [hr]; rfl
theorem can_iff {v s : Int} {w : List Int} : can w v s = true ↔ Lf v w 0 = 0 ∧ ∀ d, d ≤ w.length → Lf v w d ≤ s := by
  unfold can
  rw [Bool.and_eq_true, decide_eq_true_eq, decide_eq_true_eq, top_le, L0]
theorem L_nonneg (v : Int) (w : List Int) (d : Nat) (h : d ≤ w.length) : 0 ≤ Lf v w d := by
  rcases Nat.eq_or_lt_of_le h with e | e
  · rw [e, L_last]; exact Int.le_refl _
  · rw [L_step v w d e]; unfold mx; split <;> omega
/-! ### the pairs -/
theorem seg_step {w : List Int} {a b : Nat} (ha : a ≤ b) (hb : b < w.length) : seg w a b = w.getD a 0 + (if a = b then 0 else seg w (a + 1) b) := by
  unfold seg
  have hal : a < w.length := by omega
  have e : w.drop a = w.getD a 0 :: w.drop (a + 1) := by
    rw [List.drop_eq_getElem_cons hal, List.getD_eq_getElem?_getD, List.getElem?_eq_getElem hal]; rfl
  have e2 : b + 1 - a = (b - a) + 1 := by omega
  rw [e, e2, List.take_succ_cons, List.sum_cons]
  congr 1
  by_cases c : a = b
  · subst c; simp
  · rw [if_neg c]
    have e3 : b + 1 - (a + 1) = b - a := by omega
    rw [e3]
theorem L_le (v x : Int) (w : List Int) (hx : 0 ≤ x) : ∀ (n a : Nat), w.length - a = n → a ≤ w.length → (Lf v w a ≤ x ↔ ∀ b, a ≤ b → b < w.length → seg w a b - v * ((b : Int) + 1 - a) ≤ x)
  | 0, a, hn, ha => by
    have e : a = w.length := by omega
    subst e
    rw [L_last]
    exact ⟨fun _ b h1 h2 => by omega, fun _ => hx⟩
  | n + 1, a, hn, ha => by
    have hal : a < w.length := by omega
    have ih := fun y hy => L_le v y w hy n (a + 1) (by omega) hal
    rw [L_step v w a hal]
    have key : ∀ b : Nat, v * ((b : Int) + 1 - a) = v + v * ((b : Int) + 1 - ((a + 1 : Nat) : Int)) := fun b => by
      have : (b : Int) + 1 - a = 1 + ((b : Int) + 1 - ((a + 1 : Nat) : Int)) := by omega
      rw [this, Int.mul_add, Int.mul_one]
    constructor
    · intro h b h1 h2
      rw [seg_step h1 h2, key]
      have h3 : Lf v w (a + 1) + w.getD a 0 - v ≤ x := by unfold mx at h; split at h <;> omega
      have h0 := L_nonneg v w (a + 1) hal
      by_cases c : a = b
      · subst c
        rw [if_pos rfl]
        have : v * ((a : Int) + 1 - ((a + 1 : Nat) : Int)) = 0 := by
          have : (a : Int) + 1 - ((a + 1 : Nat) : Int) = 0 := by omega
          rw [this, Int.mul_zero]
        omega
      · rw [if_neg c]
        have := (ih (x - w.getD a 0 + v) (by omega)).mp (by omega) b (by omega) h2
        omega
    · intro h
      have g0 := h a (Nat.le_refl _) hal
      rw [seg_step (Nat.le_refl _) hal, if_pos rfl, key] at g0
      have z : v * ((a : Int) + 1 - ((a + 1 : Nat) : Int)) = 0 := by
        have : (a : Int) + 1 - ((a + 1 : Nat) : Int) = 0 := by omega
        rw [this, Int.mul_zero]
      rw [z] at g0
      have g : Lf v w (a + 1) ≤ x - w.getD a 0 + v := (ih _ (by omega)).mpr fun b h1 h2 => by
        have := h b (by omega) h2
        rw [seg_step (by omega) h2, if_neg (by omega), key] at this
        omega
      unfold mx
      split <;> omega
theorem mem_bad {w : List Int} {v s : Int} : badL w v s = [] ↔ ∀ a b, a ≤ b → b < w.length → wm w v s a b = false := by
  unfold badL
  rw [List.flatMap_eq_nil_iff]
  constructor
  · intro h a b h1 h2
    have := h a (List.mem_range.mpr (by omega))
    unfold badRow at this
    rw [List.filterMap_eq_nil_iff] at this
    have := this (b - a) (List.mem_range.mpr (by omega))
    have e : a + (b - a) = b := by omega
    rw [e] at this
    cases c : wm w v s a b with
    | false => rfl
    | true => rw [c] at this; simp at this
  · intro h a ha
    unfold badRow
    rw [List.filterMap_eq_nil_iff]
    intro k hk
    have ha := List.mem_range.mp ha
    have hk := List.mem_range.mp hk
    rw [h a (a + k) (by omega) (by omega)]
    simp
/-- the pairs of days tell it -/
theorem can_bad {w : List Int} {v s : Int} (hs : 0 ≤ s) : can w v s = true ↔ badL w v s = [] := by
  rw [can_iff, mem_bad]
  constructor
  · rintro ⟨h1, h2⟩ a b hab hb
    unfold wm
    rw [decide_eq_false_iff_not]
    by_cases c : a = 0
    · subst c
      have := (L_le v 0 w (Int.le_refl _) _ 0 rfl (Nat.zero_le _)).mp (by omega) b (Nat.zero_le _) hb
      rw [if_pos rfl]
      omega
    · have := (L_le v s w hs _ a rfl (by omega)).mp (h2 a (by omega)) b hab hb
      rw [if_neg c]
      omega
  · intro h
    have h0 : Lf v w 0 ≤ 0 := (L_le v 0 w (Int.le_refl _) _ 0 rfl (Nat.zero_le _)).mpr fun b _ hb => by
      have := h 0 b (Nat.zero_le _) hb
      unfold wm at this
      rw [decide_eq_false_iff_not, if_pos rfl] at this
      omega
    have h00 := L_nonneg v w 0 (Nat.zero_le _)
    refine ⟨by omega, fun d hd => ?_⟩
    by_cases c : d = 0
    · subst c; omega
    · refine (L_le v s w hs _ d rfl hd).mpr fun b hb1 hb2 => ?_
      have := h d b hb1 hb2
      unfold wm at this
      rw [decide_eq_false_iff_not, if_neg c] at this
      omega
end T10
end
section
set_option autoImplicit false
set_option linter.all false
set_option maxRecDepth 100000
namespace T10
open Bk
/-! ### what the fetchings are -/
structure Ft (v : Nat) (s : Int) (w : List Int) (k : Nat) (f : List Int) : Prop where
  len : f.length = k
  all : ∀ d, d < k → (0 ≤ f.getD d 0 ∧ f.getD d 0 ≤ v) ∧ 0 ≤ S f (d + 1) - S w (d + 1) ∧ S f (d + 1) - S w (d + 1) ≤ s
theorem getD_app_lt {a b : List Int} {d : Nat} (h : d < a.length) : (a ++ b).getD d 0 = a.getD d 0 := by
  rw [List.getD_eq_getElem?_getD, List.getD_eq_getElem?_getD, List.getElem?_append_left h]
theorem getD_app_last (a : List Int) (x : Int) : (a ++ [x]).getD a.length 0 = x := by
  rw [List.getD_eq_getElem?_getD, List.getElem?_append_right (Nat.le_refl _)]
  simp
theorem mem_rows {v : Nat} {s : Int} {w : List Int} : ∀ k : Nat, k ≤ w.length → ∀ p : Pr, p ∈ rowsK v s w k ↔ (p.2 = S p.1 k - S w k ∧ Ft v s w k p.1)
  | 0, _, p => by
    constructor
    · intro h
      have : p = ([], 0) := by simpa [rowsK, fetchR] using h
      subst this
      exact ⟨by simp [S], rfl, fun d h => absurd h (Nat.not_lt_zero _)⟩
    · rintro ⟨h1, h2⟩
      obtain ⟨f, x⟩ := p
      have e1 : f = [] := List.length_eq_zero_iff.mp h2.len
      subst e1
      have e2 : x = 0 := by simpa [S] using h1
      subst e2
      simp [rowsK, fetchR]
  | k + 1, hk, p => by
    have hk' : k < w.length := hk
    have ih := mem_rows (v := v) (s := s) (w := w) k (by omega)
    have hSw : S w (k + 1) = S w k + w[k] := by
      rw [S_succ hk', List.getD_eq_getElem?_getD, List.getElem?_eq_getElem hk']; rfl
    rw [rowsK_succ hk']
    unfold stepR
    rw [List.mem_flatMap]
    constructor
    · rintro ⟨q, hq, hp⟩
      obtain ⟨g1, g2⟩ := (ih q).mp hq
      unfold expand at hp
      obtain ⟨j, hj, hp⟩ := List.mem_filterMap.mp hp
      have hj := List.mem_range.mp hj
      split at hp
      · rename_i hc
        cases hp
        have hl := g2.len
        have es : S (q.1 ++ [(j : Int)]) (k + 1) = S q.1 k + j := by
          rw [S_succ (by rw [List.length_append, List.length_singleton]; omega), S_app (by omega)]
          have := getD_app_last q.1 (j : Int)
          rw [hl] at this
          rw [this]
        refine ⟨?_, by rw [List.length_append, hl]; rfl, fun d hd => ?_⟩
        · rw [es, hSw, g1]
          show S q.1 k - S w k + (j : Int) - w[k] = _
          omega
        · rcases Nat.lt_or_ge d k with hd' | hd'
          · rw [getD_app_lt (by omega), S_app (by omega)]
            exact g2.all d hd'
          · have e : d = k := by omega
            subst e
            have := getD_app_last q.1 (j : Int)
            rw [hl] at this
            rw [this, es, hSw]
            obtain ⟨c1, c2⟩ := hc
            rw [g1] at c1 c2
            refine ⟨⟨by omega, by omega⟩, by omega, by omega⟩
      · cases hp
    · rintro ⟨h1, h2⟩
      obtain ⟨f, x⟩ := p
      have hl : f.length = k + 1 := h2.len
      have hfk : k < f.length := by omega
      have hlast : (0 ≤ f.getD k 0 ∧ f.getD k 0 ≤ v) ∧ 0 ≤ S f (k + 1) - S w (k + 1) ∧ S f (k + 1) - S w (k + 1) ≤ s := h2.all k (Nat.lt_succ_self _)
      have ef : f = f.take k ++ [f.getD k 0] := by
        have := List.take_succ_eq_append_getElem hfk
        rw [← hl, List.take_length] at this
        rw [List.getD_eq_getElem?_getD, List.getElem?_eq_getElem hfk]
        exact this
      have htl : (f.take k).length = k := by rw [List.length_take]; omega
      have hS : ∀ d, d ≤ k → S (f.take k) d = S f d := fun d hd => by
        unfold S
        rw [List.take_take, Nat.min_eq_left hd]
      obtain ⟨⟨a1, a2⟩, a3, a4⟩ := hlast
      have eS := S_succ hfk
      refine ⟨(f.take k, S f k - S w k), (ih _).mpr ⟨by show S f k - S w k = S (f.take k) k - S w k; rw [hS k (Nat.le_refl _)], htl, fun d hd => ?_⟩, ?_⟩
      · have := h2.all d (by omega)
        rw [hS (d + 1) (by omega)]
        have e : (f.take k).getD d 0 = f.getD d 0 := by
          rw [List.getD_eq_getElem?_getD, List.getD_eq_getElem?_getD, List.getElem?_take_of_lt hd]
        rw [e]
        exact this
      · unfold expand
        refine List.mem_filterMap.mpr ⟨(f.getD k 0).toNat, List.mem_range.mpr (by omega), ?_⟩
        have et : (((f.getD k 0).toNat : Nat) : Int) = f.getD k 0 := Int.toNat_of_nonneg a1
        rw [et]
        have c : 0 ≤ S f k - S w k + f.getD k 0 - w[k] ∧ S f k - S w k + f.getD k 0 - w[k] ≤ s := by
          rw [eS, hSw] at a3 a4
          omega
        rw [if_pos c, ← ef]
        have : S f k - S w k + f.getD k 0 - w[k] = x := by
          have h1 : x = S f (k + 1) - S w (k + 1) := h1
          rw [h1, eS, hSw]; omega
        rw [this]
theorem mem_fetch {v : Nat} {s : Int} {w : List Int} {p : Pr} : p ∈ fetchR v s w ↔ (p.2 = S p.1 w.length - S w w.length ∧ Ft v s w w.length p.1) := by
  have := mem_rows (v := v) (s := s) (w := w) w.length (Nat.le_refl _) p
  unfold rowsK at this
  rwa [List.take_length] at this
/-- stocks that can be -/
structure Val (v : Nat) (s : Int) (w : List Int) (r : Nat → Int) : Prop where
  zero : r 0 = 0
  all : ∀ d, d < w.length → (0 ≤ r (d + 1) ∧ r (d + 1) ≤ s) ∧ 0 ≤ r (d + 1) + w.getD d 0 - r d ∧ r (d + 1) + w.getD d 0 - r d ≤ v
theorem val_of {v : Nat} {s : Int} {w f : List Int} (h : Ft v s w w.length f) : Val v s w (fun d => S f d - S w d) := by
  refine ⟨by simp [S_zero], fun d hd => ?_⟩
  obtain ⟨⟨a1, a2⟩, a3, a4⟩ := h.all d hd
  have e1 := S_succ (l := f) (k := d) (by rw [h.len]; exact hd)
  have e2 := S_succ (l := w) (k := d) hd
  refine ⟨⟨a3, a4⟩, ?_, ?_⟩ <;> omega
def fOf (w : List Int) (r : Nat → Int) : List Int := (List.range w.length).map fun d => r (d + 1) + w.getD d 0 - r d
theorem fOf_getD {w : List Int} {r : Nat → Int} {d : Nat} (h : d < w.length) : (fOf w r).getD d 0 = r (d + 1) + w.getD d 0 - r d := by
  unfold fOf
  rw [List.getD_eq_getElem?_getD, List.getElem?_map, List.getElem?_range h]
  rfl
theorem fOf_S {w : List Int} {r : Nat → Int} (h0 : r 0 = 0) : ∀ d, d ≤ w.length → S (fOf w r) d = r d + S w d
  | 0, _ => by rw [S_zero, S_zero, h0]; rfl
  | d + 1, h => by
    rw [S_succ (by unfold fOf; simp; omega), fOf_S h0 d (by omega), fOf_getD h, S_succ h]
    omega
theorem ft_of {v : Nat} {s : Int} {w : List Int} {r : Nat → Int} (h : Val v s w r) : Ft v s w w.length (fOf w r) := by
  refine ⟨by simp [fOf], fun d hd => ?_⟩
  obtain ⟨⟨a1, a2⟩, a3, a4⟩ := h.all d hd
  rw [fOf_getD hd, fOf_S h.zero (d + 1) hd]
  omega
/-! ### between the least and the most -/
section
variable {v : Nat} {s : Int} {w : List Int}
theorem mx_ge (i j : Int) : i ≤ mx i j ∧ j ≤ mx i j ∧ (mx i j = i ∨ mx i j = j) := by unfold mx; split <;> omega
theorem mn_le (i j : Int) : mn i j ≤ i ∧ mn i j ≤ j ∧ (mn i j = i ∨ mn i j = j) := by unfold mn; split <;> omega
theorem val_ge {r : Nat → Int} (h : Val v s w r) : ∀ (n d : Nat), w.length - d = n → d ≤ w.length → Lf v w d ≤ r d
  | 0, d, hn, hd => by
    have e : d = w.length := by omega
    subst e
    rw [L_last]
    by_cases c : w.length = 0
    · rw [c, h.zero]; exact Int.le_refl _
    · have := (h.all (w.length - 1) (by omega)).1.1
      have e : w.length - 1 + 1 = w.length := by omega
      rw [e] at this; exact this
  | n + 1, d, hn, hd => by
    have hd' : d < w.length := by omega
    have ih := val_ge h n (d + 1) (by omega) hd'
    rw [L_step v w d hd']
    obtain ⟨_, a3, a4⟩ := h.all d hd'
    have h0 : 0 ≤ r d := by
      by_cases c : d = 0
      · rw [c, h.zero]; exact Int.le_refl _
      · have := (h.all (d - 1) (by omega)).1.1
        have e : d - 1 + 1 = d := by omega
        rw [e] at this; exact this
    rcases (mx_ge 0 (Lf v w (d + 1) + w.getD d 0 - v)).2.2 with e | e <;> rw [e] <;> omega
theorem val_le {r : Nat → Int} (h : Val v s w r) : ∀ d : Nat, d ≤ w.length → r d ≤ Hf v s w d
  | 0, _ => by rw [h.zero, H_zero]; exact Int.le_refl _
  | d + 1, hd => by
    have ih := val_le h d (by omega)
    rw [H_step v s w d hd]
    obtain ⟨⟨a1, a2⟩, a3, a4⟩ := h.all d hd
    rcases (mn_le s (Hf v s w d + v - w.getD d 0)).2.2 with e | e <;> rw [e] <;> omega
theorem val_can {r : Nat → Int} (h : Val v s w r) (hs : 0 ≤ s) : can w v s = true := by
  rw [can_iff]
  have g := val_ge h
  have h0 := g _ 0 rfl (Nat.zero_le _)
  have h00 := L_nonneg v w 0 (Nat.zero_le _)
  rw [h.zero] at h0
  refine ⟨by omega, fun d hd => ?_⟩
  by_cases c : d = 0
  · subst c; omega
  · have := (h.all (d - 1) (by omega)).1.2
    have e : d - 1 + 1 = d := by omega
    rw [e] at this
    have := g _ d rfl hd
    omega
theorem can_valL (h : can w v s = true) (hw : ∀ d, 0 ≤ w.getD d 0) : Val v s w (Lf v w) := by
  obtain ⟨h0, h1⟩ := can_iff.mp h
  refine ⟨h0, fun d hd => ?_⟩
  have e := L_step v w d hd
  have g := L_nonneg v w (d + 1) hd
  have g1 := h1 (d + 1) hd
  have gw := hw d
  obtain ⟨m1, m2, m3⟩ := mx_ge 0 (Lf v w (d + 1) + w.getD d 0 - v)
  rw [← e] at m1 m2 m3
  refine ⟨⟨g, g1⟩, ?_, by omega⟩
  rcases m3 with m3 | m3 <;> omega
theorem L_le_H (h : can w v s = true) : ∀ d : Nat, d ≤ w.length → Lf v w d ≤ Hf v s w d
  | 0, _ => by rw [(can_iff.mp h).1, H_zero]; exact Int.le_refl _
  | d + 1, hd => by
    have ih := L_le_H h d (by omega)
    rw [H_step v s w d hd]
    have g1 := (can_iff.mp h).2 (d + 1) hd
    have e := L_step v w d hd
    obtain ⟨m1, m2, m3⟩ := mx_ge 0 (Lf v w (d + 1) + w.getD d 0 - v)
    rw [← e] at m1 m2 m3
    rcases (mn_le s (Hf v s w d + v - w.getD d 0)).2.2 with e | e <;> rw [e] <;> omega
theorem H_le (hs : 0 ≤ s) : ∀ d : Nat, d ≤ w.length → Hf v s w d ≤ s
  | 0, _ => by rw [H_zero]; exact hs
  | d + 1, hd => by rw [H_step v s w d hd]; exact (mn_le _ _).1
theorem can_valH (h : can w v s = true) (hs : 0 ≤ s) (hw : ∀ d, 0 ≤ w.getD d 0) : Val v s w (Hf v s w) := by
  refine ⟨H_zero v s w, fun d hd => ?_⟩
  have e := H_step v s w d hd
  have g := L_nonneg v w (d + 1) hd
  have g2 := L_le_H h (d + 1) hd
  have g3 := H_le (v := v) (w := w) hs d (by omega)
  have gw := hw d
  obtain ⟨m1, m2, m3⟩ := mn_le s (Hf v s w d + v - w.getD d 0)
  rw [← e] at m1 m2 m3
  refine ⟨⟨by omega, m1⟩, ?_, by omega⟩
  rcases m3 with m3 | m3 <;> omega
/-- every stock between -/
theorem val_mid (h : can w v s = true) (hs : 0 ≤ s) (hw : ∀ d, 0 ≤ w.getD d 0) {d : Nat} (hd : d ≤ w.length) {k : Int} (h1 : Lf v w d ≤ k) (h2 : k ≤ Hf v s w d) : ∃ r, Val v s w r ∧ r d = k := by
  have VL := can_valL h hw
  have VH := can_valH h hs hw
  refine ⟨fun i => mn (Lf v w i + (k - Lf v w d)) (Hf v s w i), ⟨?_, fun i hi => ?_⟩, ?_⟩
  · have a := VL.zero
    have b := VH.zero
    show mn _ _ = 0
    rw [a, b]
    unfold mn
    split <;> omega
  · obtain ⟨⟨a1, a2⟩, a3, a4⟩ := VL.all i hi
    obtain ⟨⟨b1, b2⟩, b3, b4⟩ := VH.all i hi
    show (0 ≤ mn _ _ ∧ mn _ _ ≤ s) ∧ 0 ≤ mn _ _ + w.getD i 0 - mn _ _ ∧ mn _ _ + w.getD i 0 - mn _ _ ≤ v
    obtain ⟨m1, m2, m3⟩ := mn_le (Lf v w (i + 1) + (k - Lf v w d)) (Hf v s w (i + 1))
    obtain ⟨n1, n2, n3⟩ := mn_le (Lf v w i + (k - Lf v w d)) (Hf v s w i)
    refine ⟨⟨?_, by omega⟩, ?_, ?_⟩
    · rcases m3 with e | e <;> rw [e] <;> omega
    · rcases m3 with e | e <;> rw [e] <;> omega
    · rcases n3 with e | e <;> rw [e] <;> omega
  · show mn _ _ = k
    unfold mn
    split <;> omega
end
end T10
end
section
set_option autoImplicit false
set_option linter.all false
set_option maxRecDepth 100000
namespace T10
open Bk
/-! ### the rows stand in order -/
def Lx (x y : List Int) : Prop := ∃ d, d < x.length ∧ d < y.length ∧ (∀ i, i < d → x.getD i 0 = y.getD i 0) ∧ x.getD d 0 < y.getD d 0
theorem Lx.app {x y : List Int} (h : Lx x y) (a b : List Int) : Lx (x ++ a) (y ++ b) := by
  obtain ⟨d, h1, h2, h3, h4⟩ := h
  refine ⟨d, by rw [List.length_append]; omega, by rw [List.length_append]; omega, fun i hi => ?_, ?_⟩
  · rw [getD_app_lt (by omega), getD_app_lt (by omega)]; exact h3 i hi
  · rw [getD_app_lt h1, getD_app_lt h2]; exact h4
theorem Lx.last (x : List Int) {a b : Int} (h : a < b) : Lx (x ++ [a]) (x ++ [b]) := by
  refine ⟨x.length, by simp, by simp, fun i hi => ?_, ?_⟩
  · rw [getD_app_lt hi, getD_app_lt hi]
  · rw [getD_app_last, getD_app_last]; exact h
theorem expand_sorted (v : Nat) (s want : Int) (p : Pr) : (expand v s want p).Pairwise fun x y => Lx x.1 y.1 := by
  unfold expand
  rw [List.pairwise_filterMap]
  refine List.pairwise_lt_range.imp fun {i j} hij b hb c hc => ?_
  split at hb
  · split at hc
    · cases hb; cases hc
      exact Lx.last p.1 (by omega)
    · cases hc
  · cases hb
theorem rows_sorted (v : Nat) (s : Int) (w : List Int) : ∀ k, k ≤ w.length → (rowsK v s w k).Pairwise fun x y => Lx x.1 y.1
  | 0, _ => by
    have e : rowsK v s w 0 = [([], 0)] := by simp [rowsK, fetchR]
    rw [e]; exact List.pairwise_singleton ..
  | k + 1, hk => by
    rw [rowsK_succ (w := w) (k := k) (by omega)]
    unfold stepR
    rw [List.pairwise_flatMap]
    refine ⟨fun p _ => expand_sorted v s _ p, (rows_sorted v s w k (by omega)).imp fun {p q} hpq x hx y hy => ?_⟩
    unfold expand at hx hy
    obtain ⟨i, _, hx⟩ := List.mem_filterMap.mp hx
    obtain ⟨j, _, hy⟩ := List.mem_filterMap.mp hy
    split at hx
    · split at hy
      · cases hx; cases hy
        exact hpq.app _ _
      · cases hy
    · cases hx
theorem fetchR_sorted (v : Nat) (s : Int) (w : List Int) : (fetchR v s w).Pairwise fun x y => Lx x.1 y.1 := by
  have h := rows_sorted v s w w.length (Nat.le_refl _)
  unfold rowsK at h
  rw [List.take_length] at h
  exact h
theorem Lx.irr {x y : List Int} (h : Lx x y) : ¬ Lx y x := by
  rintro ⟨e, g1, g2, g3, g4⟩
  obtain ⟨d, h1, h2, h3, h4⟩ := h
  by_cases c : d < e
  · have := g3 d c; omega
  · by_cases c2 : e < d
    · have := h3 e c2; omega
    · have : d = e := by omega
      subst this; omega
section
variable {v : Nat} {s : Int} {w : List Int}
/-- the first row is the late fetching -/
theorem fetch_head (h : can w v s = true) (hw : ∀ d, 0 ≤ w.getD d 0) : ∃ r, fetchR v s w = (fetched w (lowS v w), (S (fetched w (lowS v w)) w.length - S w w.length)) :: r := by
  have hv := can_valL h hw
  have hft := ft_of hv
  have e : fOf w (Lf v w) = fetched w (lowS v w) := rfl
  rw [e] at hft
  have hm : (fetched w (lowS v w), (S (fetched w (lowS v w)) w.length - S w w.length)) ∈ fetchR v s w := mem_fetch.mpr ⟨rfl, hft⟩
  have hs := fetchR_sorted v s w
  cases q : fetchR v s w with
  | nil => rw [q] at hm; cases hm
  | cons p r =>
    refine ⟨r, ?_⟩
    rw [q] at hm hs
    rcases List.mem_cons.mp hm with z | z
    · rw [z]
    · exfalso
      have hl := (List.pairwise_cons.mp hs).1 _ z
      obtain ⟨d, h1, h2, h3, h4⟩ := hl
      have hp := mem_fetch.mp (show p ∈ fetchR v s w by rw [q]; exact List.mem_cons_self ..)
      have hval := val_of hp.2
      have hd : d < w.length := by rw [hp.2.len] at h1; exact h1
      have hge := val_ge hval _ (d + 1) rfl hd
      -- the sums
      have eS : ∀ k, k ≤ d → S p.1 k = S (fetched w (lowS v w)) k := by
        intro k
        induction k with
        | zero => intro _; rw [S_zero, S_zero]
        | succ k ih =>
          intro hk
          rw [S_succ (by rw [hp.2.len]; omega), S_succ (by rw [hft.len]; omega), ih (by omega), h3 k (by omega)]
      have e1 : S (fetched w (lowS v w)) (d + 1) = Lf v w (d + 1) + S w (d + 1) := fOf_S (w := w) (r := Lf v w) hv.zero (d + 1) hd
      have e2 : S p.1 (d + 1) = S p.1 d + p.1.getD d 0 := S_succ h1
      have e3 : S (fetched w (lowS v w)) (d + 1) = S (fetched w (lowS v w)) d + (fetched w (lowS v w)).getD d 0 := S_succ h2
      have e4 := eS d (Nat.le_refl _)
      have hge : Lf v w (d + 1) ≤ S p.1 (d + 1) - S w (d + 1) := hge
      have h4 : p.1.getD d 0 < (fetched w (lowS v w)).getD d 0 := h4
      omega
end
end T10
end
section
set_option autoImplicit false
set_option linter.all false
set_option maxRecDepth 100000
namespace T10
open Bk
/-! ### the law, statement by statement -/
section
variable (ns l w : List Int) (v : Nat) (s : Int)
end
theorem data_of : ∀ {L : List D}, (∀ d ∈ L, isData d = true) → areData L = true
  | [], _ => rfl
  | d :: L, h => by
    show (isData d && areData L) = true
    rw [h d (List.mem_cons_self ..), data_of fun e he => h e (List.mem_cons_of_mem _ he)]; rfl
theorem depths_of {k : Nat} : ∀ {L : List D}, (∀ d ∈ L, depth d ≤ k) → depths L ≤ k
  | [], _ => Nat.zero_le _
  | d :: L, h => by
    show max (depth d) (depths L) ≤ k
    exact Nat.max_le.mpr ⟨h d (List.mem_cons_self ..), depths_of fun e he => h e (List.mem_cons_of_mem _ he)⟩
/-- xs == [] -/
theorem eq_nil {L : List D} (h : ∀ d ∈ L, isData d = true ∧ depth d ≤ 10) : bo .eq (.lst L) (.lst []) = .ok (.bl L.isEmpty) := by
  have h1 : areData L = true := data_of fun d hd => (h d hd).1
  have h2 : depths L ≤ 10 := depths_of fun d hd => (h d hd).2
  have h3 : eqOk (.lst L) (.lst []) = true := by
    show (areData L && true && decide (depths L + 1 ≤ 60) && decide (1 ≤ 60)) = true
    rw [h1, decide_eq_true (by omega)]; rfl
  show gd _ _ = _
  rw [gd_of h3]
  cases L <;> rfl
theorem ne_nil {L : List D} (h : ∀ d ∈ L, isData d = true ∧ depth d ≤ 10) : bo .ne (.lst L) (.lst []) = .ok (.bl (!L.isEmpty)) := by
  have h1 : areData L = true := data_of fun d hd => (h d hd).1
  have h2 : depths L ≤ 10 := depths_of fun d hd => (h d hd).2
  have h3 : eqOk (.lst L) (.lst []) = true := by
    show (areData L && true && decide (depths L + 1 ≤ 60) && decide (1 ≤ 60)) = true
    rw [h1, decide_eq_true (by omega)]; rfl
  show gd _ _ = _
  rw [gd_of h3]
  cases L <;> rfl
theorem mem_badL {w : List Int} {v s : Int} {d : D} (h : d ∈ badL w v s) : ∃ a b, d = prD a b := by
  obtain ⟨a, _, h⟩ := List.mem_flatMap.mp h
  obtain ⟨k, _, h⟩ := List.mem_filterMap.mp h
  split at h
  · cases h; exact ⟨_, _, rfl⟩
  · cases h
theorem bad_eq {w : List Int} {v s : Int} (hs : 0 ≤ s) : bo .eq (.lst (badL w v s)) (.lst []) = .ok (.bl (can w v s)) := by
  rw [eq_nil fun d hd => by
    obtain ⟨a, b, rfl⟩ := mem_badL hd
    exact ⟨rfl, Nat.le_of_ble_eq_true rfl⟩]
  congr 2
  rw [Bool.eq_iff_iff, can_bad hs, List.isEmpty_iff]
theorem eqDs_refl : ∀ r : List Int, eqDs (intL r) (intL r) = true
  | [] => rfl
  | x :: r => by
    show (decide (x = x) && eqDs (intL r) (intL r)) = true
    rw [eqDs_refl r, decide_eq_true rfl]; rfl
theorem comp_keep {f : D → R (Option D)} {p : D → Bool} {ds : List D} (h : ∀ d ∈ ds, f d = .ok (if p d = true then some d else none)) : comp f ds = .ok (ds.filter p) := by
  rw [comp_filterMap (g := fun d => if p d = true then some d else none) h]
  congr 1
  induction ds with
  | nil => rfl
  | cons d ds ih =>
    rw [List.filterMap_cons, List.filter_cons]
    have ih := ih fun e he => h e (List.mem_cons_of_mem _ he)
    cases q : p d <;> simp [q, ih]
theorem filt_empty (p : Int → Bool) (P : D → Bool) (hP : ∀ x, P (.int x) = p x) : ∀ l : List Int, ((intL l).filter P).isEmpty = l.all fun x => !p x
  | [] => rfl
  | x :: l => by
    have ih := filt_empty p P hP l
    show ((D.int x :: intL l).filter P).isEmpty = _
    rw [List.filter_cons, hP, List.all_cons]
    cases q : p x with
    | true => rfl
    | false => simpa using ih
def isF (v s : Int) (w f : List Int) : Bool := decide (f.length = w.length) && (f.all fun x => decide (0 ≤ x) && decide (x ≤ v)) && (List.range w.length).all fun d => decide (0 ≤ S f (d + 1) - S w (d + 1)) && decide (S f (d + 1) - S w (d + 1) ≤ s)
theorem isF_iff {v : Nat} {s : Int} {w f : List Int} : isF v s w f = true ↔ Ft v s w w.length f := by
  unfold isF
  rw [Bool.and_eq_true, Bool.and_eq_true, decide_eq_true_eq, List.all_eq_true, List.all_eq_true]
  constructor
  · rintro ⟨⟨h1, h2⟩, h3⟩
    refine ⟨h1, fun d hd => ?_⟩
    have a := h3 d (List.mem_range.mpr hd)
    have hg : f.getD d 0 ∈ f := by
      rw [List.getD_eq_getElem?_getD, List.getElem?_eq_getElem (by omega)]
      exact List.getElem_mem _
    have b := h2 _ hg
    rw [Bool.and_eq_true, decide_eq_true_eq, decide_eq_true_eq] at a b
    exact ⟨b, a⟩
  · intro h
    refine ⟨⟨h.len, fun x hx => ?_⟩, fun d hd => ?_⟩
    · obtain ⟨d, hd, rfl⟩ := List.getElem_of_mem hx
      have := (h.all d (by rw [← h.len]; exact hd)).1
      rw [List.getD_eq_getElem?_getD, List.getElem?_eq_getElem hd] at this
      rw [Bool.and_eq_true, decide_eq_true_eq, decide_eq_true_eq]
      exact this
    · have := (h.all d (List.mem_range.mp hd)).2
      rw [Bool.and_eq_true, decide_eq_true_eq, decide_eq_true_eq]
      exact this
def badI (v : Int) : D → Bool
  | .int x => !(decide (0 ≤ x) && decide (x ≤ v))
  | _ => false
def badS (s : Int) : D → Bool
  | .int x => !(decide (0 ≤ x) && decide (x ≤ s))
  | _ => false
theorem e_lint {i : Int} : f__law_int [.int i] = .ok (.bl true) := rfl
theorem int_data (r : List Int) (P : D → Bool) : ∀ d ∈ (intL r).filter P, isData d = true ∧ depth d ≤ 10 := fun d hd => by
  obtain ⟨i, _, rfl⟩ := memI (List.mem_filter.mp hd).1
  exact ⟨rfl, Nat.zero_le _⟩
theorem e_lawF {v s : Int} {w f : List Int} (hw : w.length ≤ 14) (hf : f.length ≤ 100) : f__law_is_fetching [.tup (intL w), .int v, .int s, .tup (intL f)] = .ok (.bl (isF v s w f)) := by
  refine fnD_rt rfl ?_
  have hr := rng0 (n := w.length) (by omega)
  have m0 : mkL [] = .ok (.lst []) := rfl
  have e1 : ev M__law_is_fetching (.lc (.var 7) (.nm 7) (.seq (.var 3)) (.so (.or (.not (.call 0 (.cons (.var 7) .nil))) (.or (.bin .lt (.var 7) (.cst (.int 0))) (.bin .gt (.var 7) (.var 1)))))) [.sh (.tup (intL w)), .sh (.int v), .sh (.int s), .sh (.tup (intL f)), .un, .un, .un, .un] = .ok (.lst ((intL f).filter (badI v))) := by
    rw [ev_lc]
    have e : evIt M__law_is_fetching true (.seq (.var 3)) [.sh (.tup (intL w)), .sh (.int v), .sh (.int s), .sh (.tup (intL f)), .un, .un, .un, .un] = .ok (intL f) := rfl
    rw [e, bind_ok, comp_keep (p := badI v) (fun d hd => by
      obtain ⟨x, _, rfl⟩ := memI hd
      by_cases c : x < 0
      · have c' : ¬ 0 ≤ x := by omega
        simp [M__law_is_fetching, e_lint, c, c', badI]
      · have c' : 0 ≤ x := by omega
        by_cases c2 : v < x
        · have c2' : ¬ x ≤ v := by omega
          simp [M__law_is_fetching, e_lint, c, c', badI, c2, c2']
        · have c2' : x ≤ v := by omega
          simp [M__law_is_fetching, e_lint, c, c', badI, c2, c2'])]
    refine mkL_le (Nat.le_trans (List.length_filter_le _ _) ?_)
    rw [intL_len]; omega
  have n1 := ne_nil (L := (intL f).filter (badI v)) (int_data f _)
  rw [filt_empty (fun x => !(decide (0 ≤ x) && decide (x ≤ v))) (badI v) (fun _ => rfl)] at n1
  by_cases hlen : f.length = w.length
  · have e2 : ∀ ρ : En, ρ = [Slot.sh (.tup (intL w)), .sh (.int v), .sh (.int s), .sh (.tup (intL f)), .un, .un, .un, .un] → ev M__law_is_fetching (.lc (.bin .sub (.bi .sum (.cons (.slc (.var 3) .no (.so (.bin .add (.var 5) (.cst (.int 1))))) .nil)) (.bi .sum (.cons (.slc (.var 0) .no (.so (.bin .add (.var 5) (.cst (.int 1))))) .nil))) (.nm 5) (.rng (.bi .len (.cons (.var 0) .nil))) .no) ρ = .ok (.lst (intL (stocks w f))) := fun ρ hρ => by
      subst hρ
      rw [ev_lc]
      have e : evIt M__law_is_fetching true (.rng (.bi .len (.cons (.var 0) .nil))) [.sh (.tup (intL w)), .sh (.int v), .sh (.int s), .sh (.tup (intL f)), .un, .un, .un, .un] = .ok ((List.range w.length).map fun i => D.int ((i : Nat) : Int)) := by
        simp [intL_len, hr]
      rw [e, bind_ok, Bk.comp_map (g := fun d => match d with | .int i => .int ((f.take (i.toNat + 1)).sum - (w.take (i.toNat + 1)).sum) | d => d) (fun d hd => by
        obtain ⟨i, hi, rfl⟩ := List.mem_map.mp hd
        have hi := List.mem_range.mp hi
        have e1 : sl (.tup (intL f)) none (some ((i : Int) + 1)) = .ok (.tup (intL (f.take (i + 1)))) := by
          have := sl_tupH (intL f) (i + 1) (by rw [intL_len]; omega)
          rw [intL_take] at this
          exact this
        have e2 : sl (.tup (intL w)) none (some ((i : Int) + 1)) = .ok (.tup (intL (w.take (i + 1)))) := by
          have := sl_tupH (intL w) (i + 1) (by rw [intL_len]; omega)
          rw [intL_take] at this
          exact this
        simp [e1, e2])]
      have e4 : (List.map (fun i : Nat => D.int (i : Int)) (List.range w.length)).map (fun d => match d with | .int i => D.int ((f.take (i.toNat + 1)).sum - (w.take (i.toNat + 1)).sum) | d => d) = intL (stocks w f) := by
        simp [stocks, intL]
      rw [e4]
      exact mkL_le (by simp [stocks, intL_len]; omega)
    have e2 := e2 _ rfl
    have e3 : ev M__law_is_fetching (.lc (.var 6) (.nm 6) (.seq (.var 4)) (.so (.or (.bin .lt (.var 6) (.cst (.int 0))) (.bin .gt (.var 6) (.var 2))))) [.sh (.tup (intL w)), .sh (.int v), .sh (.int s), .sh (.tup (intL f)), .sh (.lst (intL (stocks w f))), .un, .un, .un] = .ok (.lst ((intL (stocks w f)).filter (badS s))) := by
      rw [ev_lc]
      have e : evIt M__law_is_fetching true (.seq (.var 4)) [.sh (.tup (intL w)), .sh (.int v), .sh (.int s), .sh (.tup (intL f)), .sh (.lst (intL (stocks w f))), .un, .un, .un] = .ok (intL (stocks w f)) := rfl
      rw [e, bind_ok, comp_keep (p := badS s) (fun d hd => by
        obtain ⟨x, _, rfl⟩ := memI hd
        by_cases c : x < 0
        · have c' : ¬ 0 ≤ x := by omega
          simp [c, c', badS]
        · have c' : 0 ≤ x := by omega
          by_cases c2 : s < x
          · have c2' : ¬ x ≤ s := by omega
            simp [c, c', badS, c2, c2']
          · have c2' : x ≤ s := by omega
            simp [c, c', badS, c2, c2'])]
      refine mkL_le (Nat.le_trans (List.length_filter_le _ _) ?_)
      simp [stocks, intL_len]; omega
    have q1 := eq_nil (L := (intL (stocks w f)).filter (badS s)) (int_data _ _)
    rw [filt_empty (fun x => !(decide (0 ≤ x) && decide (x ≤ s))) (badS s) (fun _ => rfl)] at q1
    have hst : (stocks w f).all (fun x => !!(decide (0 ≤ x) && decide (x ≤ s))) = (List.range w.length).all fun d => decide (0 ≤ S f (d + 1) - S w (d + 1)) && decide (S f (d + 1) - S w (d + 1) ≤ s) := by
      unfold stocks
      rw [List.all_map]
      congr 1
      funext d
      exact Bool.not_not _
    have hall : f.all (fun x => !!(decide (0 ≤ x) && decide (x ≤ v))) = f.all fun x => decide (0 ≤ x) && decide (x ≤ v) := by
      congr 1; funext x; simp
    rw [hst] at q1
    rw [hall] at n1
    have hF : isF v s w f = ((f.all fun x => decide (0 ≤ x) && decide (x ≤ v)) && (List.range w.length).all fun d => decide (0 ≤ S f (d + 1) - S w (d + 1)) && decide (S f (d + 1) - S w (d + 1) ≤ s)) := by
      unfold isF
      rw [decide_eq_true hlen, Bool.true_and]
    rw [hF]
    generalize (f.all fun x => decide (0 ≤ x) && decide (x ≤ v)) = b1 at *
    generalize ((List.range w.length).all fun d => decide (0 ≤ S f (d + 1) - S w (d + 1)) && decide (S f (d + 1) - S w (d + 1) ≤ s)) = b2 at *
    cases b1 with
    | false => simp [b__law_is_fetching, -ev_lc, e1, m0, n1, intL_len, hlen, isIs, isI]
    | true => simp [b__law_is_fetching, -ev_lc, e1, m0, n1, intL_len, hlen, isIs, isI, e2, e3, q1, fresh, slotOf]
  · have hF : isF v s w f = false := by
      unfold isF
      rw [decide_eq_false hlen, Bool.false_and, Bool.false_and]
    rw [hF]
    have hl' : ¬ (f.length : Int) = w.length := by omega
    simp [b__law_is_fetching, intL_len, hl', isIs, isI]
end T10
end
section
set_option autoImplicit false
set_option linter.all false
set_option maxRecDepth 100000
namespace T10
open Bk
theorem e_all_in {f : List Int} {v : Int} {W S' d : D} (hW : plainD W = true) (hd : d = .tup (intL f) ∨ d = .lst (intL f)) : ev M__is_fetching (.allc true (.call 1 (.cons (.var 6) (.cons (.cst (.int 0)) (.cons (.var 1) .nil)))) 6 (.var 3)) [.sh W, .sh (.int v), .sh S', .sh d, .un, .un, .un] = .ok (.bl (f.all fun x => decide (0 ≤ x) && decide (x ≤ v))) := by
  have h3 : seqOf d = some (intL f) := by rcases hd with rfl | rfl <;> rfl
  have h2 : plainD d = true := by rcases hd with rfl | rfl <;> exact plain_intL f
  rw [ev_allc (M := M__is_fetching) rfl (x := d) (ds := intL f) (g := fun e => match e with | .int x => decide (0 ≤ x) && decide (x ≤ v) | _ => false) rfl h2 h3 fun e he => by
    obtain ⟨i, hi, rfl⟩ := memI he
    have hm : ∃ a, (mask [Slot.sh W, .sh (.int v), .sh S', .sh d, .un, .un, .un]).set 6 (.sh (.int i)) = [Slot.sh W, .sh (.int v), a, .sh d, .un, .un, .sh (.int i)] := by
      refine ⟨if plainD S' = true then Slot.sh S' else .un, ?_⟩
      show [(if plainD W = true then Slot.sh W else .un), _, (if plainD S' = true then Slot.sh S' else .un), (if plainD d = true then Slot.sh d else .un), _, _, _] = _
      rw [if_pos h2, if_pos hW]
      rfl
    obtain ⟨a, hm⟩ := hm
    rw [hm]
    simp [M__is_fetching, e_is_in]]
  have e4 : (intL f).map (fun e => match e with | .int x => decide (0 ≤ x) && decide (x ≤ v) | _ => false) = f.map fun x => decide (0 ≤ x) && decide (x ≤ v) := by
    simp [intL]
  rw [e4, if_pos rfl, List.all_map]
  rfl
theorem e_isF {v s : Int} {w f : List Int} {d : D} (hw : w.length ≤ 14) (hd : d = .tup (intL f) ∨ d = .lst (intL f)) : f__is_fetching [.tup (intL w), .int v, .int s, d] = .ok (.bl (isF v s w f)) := by
  refine fnD_rt rfl ?_
  have hr := rng0 (n := w.length) (by omega)
  have ea := e_all_in (f := f) (v := v) (W := .tup (intL w)) (S' := .int s) (plain_intL w) hd
  have hs1 : f_is_seq [d] = .ok (.bl true) := by rcases hd with rfl | rfl <;> rfl
  have hs2 : bi .len [d] = .ok (.int f.length) := by rcases hd with rfl | rfl <;> (rw [← intL_len]; rfl)
  have f0 : M__is_fetching.fns[0]? = some f_is_seq := rfl
  by_cases hlen : f.length = w.length
  · have hF : isF v s w f = ((f.all fun x => decide (0 ≤ x) && decide (x ≤ v)) && (List.range w.length).all fun d => decide (0 ≤ S f (d + 1) - S w (d + 1)) && decide (S f (d + 1) - S w (d + 1) ≤ s)) := by
      unfold isF
      rw [decide_eq_true hlen, Bool.true_and]
    rw [hF]
    generalize (f.all fun x => decide (0 ≤ x) && decide (x ≤ v)) = b1 at *
    cases b1 with
    | false => simp [b__is_fetching, f0, hs1, hs2, intL_len, hlen, ea]
    | true =>
      have L := loop_chk (t := .nm 5) (f := runs M__is_fetching (.cons (.aug 4 .add (.bin .sub (.idx (.var 3) (.var 5)) (.idx (.var 0) (.var 5)))) (.cons (.ite (.not (.chn .le .le (.cst (.int 0)) (.var 4) (.var 2))) (.cons (.ret (.cst (.bl false))) .nil) .nil) .nil))) (.bl false)
        (fun k ρ => ∃ y, ρ = [.sh (.tup (intL w)), .sh (.int v), .sh (.int s), .sh d, .sh (.int (S f k - S w k)), y, .un]) (fun d => decide (0 ≤ S f (d + 1) - S w (d + 1)) && decide (S f (d + 1) - S w (d + 1) ≤ s))
        (ds := (List.range w.length).map fun i => D.int ((i : Nat) : Int)) (ρ := [.sh (.tup (intL w)), .sh (.int v), .sh (.int s), .sh d, .sh (.int 0), .un, .un]) 0 ⟨.un, by rw [S_zero, S_zero]; rfl⟩ (fun i e ρ hi ⟨y, hy⟩ => by
          have hi2 : i < w.length := by
            have := (List.getElem?_eq_some_iff.mp hi).1
            simpa using this
          have hdv : e = .int (i : Int) := by
            rw [List.getElem?_map, List.getElem?_range hi2] at hi
            simpa using hi.symm
          subst hdv; subst hy
          refine ⟨_, rfl, ?_⟩
          rw [Nat.zero_add]
          have a1 : ix d (.int (i : Int)) = .ok (.int (f.getD i 0)) := by
            rcases hd with rfl | rfl
            · exact ix_tup (atI_nat (intL_getD (by omega)))
            · exact ix_lst (atI_nat (intL_getD (by omega)))
          have a2 : ix (.tup (intL w)) (.int (i : Int)) = .ok (.int (w.getD i 0)) := ix_tup (atI_nat (intL_getD hi2))
          have e1 : S f (i + 1) = S f i + f.getD i 0 := S_succ (by omega)
          have e2 : S w (i + 1) = S w i + w.getD i 0 := S_succ hi2
          have e3 : S f i - S w i + (f.getD i 0 - w.getD i 0) = S f (i + 1) - S w (i + 1) := by omega
          generalize f.getD i 0 = fi at *
          generalize w.getD i 0 = wi at *
          generalize S f (i + 1) - S w (i + 1) = z at *
          by_cases c1 : 0 ≤ z
          · by_cases c2 : z ≤ s
            · refine .inr ⟨by rw [decide_eq_true c1, decide_eq_true c2]; rfl, _, .inl (by simp [a1, a2, e3, c1, c2]; rfl), _, rfl⟩
            · refine .inl ⟨by rw [decide_eq_false c2, Bool.and_false], by simp [a1, a2, e3, c1, c2]⟩
          · refine .inl ⟨by rw [decide_eq_false c1, Bool.false_and], by simp [a1, a2, e3, c1]⟩)
      have hlr : ((List.range w.length).map fun i => D.int ((i : Nat) : Int)).length = w.length := by simp
      rw [hlr] at L
      simp only [Nat.zero_add] at L
      rw [Bool.true_and]
      rcases L with ⟨L1, L2⟩ | ⟨L1, ρ', L2, y, hy⟩
      · rw [L1]
        simp [b__is_fetching, f0, hs1, hs2, intL_len, hlen, ea, hr]
        refine (congrArg (fun o => O.next o _) L2).trans ?_
        rfl
      · rw [L1]
        simp [b__is_fetching, f0, hs1, hs2, intL_len, hlen, ea, hr]
        refine (congrArg (fun o => O.next o _) L2).trans ?_
        rw [hy]
        rfl
  · have hF : isF v s w f = false := by
      unfold isF
      rw [decide_eq_false hlen, Bool.false_and, Bool.false_and]
    rw [hF]
    have hl' : ¬ (f.length : Int) = w.length := by omega
    simp [b__is_fetching, f0, hs1, hs2, intL_len, hl']
end T10
end
section
set_option autoImplicit false
set_option linter.all false
set_option maxRecDepth 100000
namespace T10
open Bk
def okS : Nat → D → Bool
  | 0, _ => false
  | n + 1, .tup l => decide (l.length ≤ 100000) && l.all (okS n)
  | n + 1, .int _ => true
  | n + 1, .str x => PySem.PyData.strOk x
  | n + 1, .non => true
  | n + 1, .bl _ => true
  | _, _ => false
theorem same_refl : ∀ (n : Nat) (d : D), okS n d = true → f__law_same n [d, d] = .ok (.bl true)
  | 0, _, h => by cases h
  | n + 1, .int i, _ => by
    refine fnD_rt rfl ?_
    simp [b__law_same, M__law_same, isIs, isI]
  | n + 1, .non, _ => by
    refine fnD_rt rfl ?_
    simp [b__law_same, M__law_same, isIs, isI]
  | n + 1, .bl b, _ => by
    refine fnD_rt rfl ?_
    have e : ∀ b : Bool, bo .eq (.bl b) (.bl b) = .ok (.bl true) := fun b => by cases b <;> rfl
    have e2 : ∀ b : Bool, bo .ne (.bl b) (.bl b) = .ok (.bl false) := fun b => by cases b <;> rfl
    simp [b__law_same, M__law_same, isIs, isI, e, e2]
  | n + 1, .str x, hx => by
    refine fnD_rt rfl ?_
    have hx : PySem.PyData.strOk x = true := hx
    have e : bo .eq (.str x) (.str x) = .ok (.bl true) := by
      show gd _ _ = _
      have h1 : eqOk (.str x) (.str x) = true := by
        show (PySem.PyData.strOk x && PySem.PyData.strOk x && true && true) = true
        rw [hx]; rfl
      rw [gd_of h1]
      show R.ok (D.bl (decide (x = x))) = _
      rw [decide_eq_true rfl]
    simp [b__law_same, M__law_same, isIs, isI, e]
  | n + 1, .tup l, h => by
    have h : (decide (l.length ≤ 100000) && l.all (okS n)) = true := h
    rw [Bool.and_eq_true, decide_eq_true_eq, List.all_eq_true] at h
    have hr := rng0 (n := l.length) (by omega)
    have L := loop_keep (t := .nm 2) (f := runs (M__law_same (f__law_same n)) (.cons (.ite (.not (.call 0 (.cons (.idx (.var 0) (.var 2)) (.cons (.idx (.var 1) (.var 2)) .nil)))) (.cons (.ret (.cst (.bl false))) .nil) .nil) .nil)) (fun ρ => ∃ y, ρ = [.sh (.tup l), .sh (.tup l), y]) (ds := (List.range l.length).map fun i => D.int ((i : Nat) : Int)) (ρ := [.sh (.tup l), .sh (.tup l), .un]) ⟨.un, rfl⟩ (fun d hd ρ ⟨y, hy⟩ => by
      subst hy
      obtain ⟨i, hi, rfl⟩ := List.mem_map.mp hd
      have hi := List.mem_range.mp hi
      refine ⟨_, rfl, [.sh (.tup l), .sh (.tup l), .sh (.int (i : Int))], .inl ?_, _, rfl⟩
      have e : ix (.tup l) (.int (i : Int)) = .ok l[i] := ix_tup (atI_nat (List.getElem?_eq_getElem hi))
      have ih := same_refl n l[i] (h.2 _ (List.getElem_mem hi))
      simp [M__law_same, e, ih])
    obtain ⟨ρ', hL, y, hy⟩ := L
    refine fnD_rt rfl ?_
    simp [b__law_same, isIs, isI, hr]
    refine (congrArg (fun o => O.next (O.next o _) _) hL).trans ?_
    rw [hy]
    simp
  | n + 1, .lst l, h => by cases h
  | n + 1, .fn x, h => by cases h
  | n + 1, .scr x, h => by cases h
def lsD : Nat → D → D
  | n + 1, .tup l => .lst (l.map (lsD n))
  | _, d => d
theorem listed : ∀ (n : Nat) (d : D), okS n d = true → f__law_listed n [d] = .ok (lsD n d)
  | 0, _, h => by cases h
  | n + 1, .int i, _ => by
    refine fnD_rt rfl ?_
    simp [b__law_listed, isIs, isI, lsD]
  | n + 1, .non, _ => by
    refine fnD_rt rfl ?_
    simp [b__law_listed, isIs, isI, lsD]
  | n + 1, .bl i, _ => by
    refine fnD_rt rfl ?_
    simp [b__law_listed, isIs, isI, lsD]
  | n + 1, .str i, _ => by
    refine fnD_rt rfl ?_
    simp [b__law_listed, isIs, isI, lsD]
  | n + 1, .tup l, h => by
    have h : (decide (l.length ≤ 100000) && l.all (okS n)) = true := h
    rw [Bool.and_eq_true, decide_eq_true_eq, List.all_eq_true] at h
    refine fnD_rt rfl ?_
    have e : ev (M__law_listed (f__law_listed n)) (.lc (.call 0 (.cons (.var 1) .nil)) (.nm 1) (.seq (.var 0)) .no) [.sh (.tup l), .un] = .ok (.lst (l.map (lsD n))) := by
      rw [ev_lc]
      have e : evIt (M__law_listed (f__law_listed n)) true (.seq (.var 0)) [.sh (.tup l), .un] = .ok l := rfl
      rw [e, bind_ok, Bk.comp_map (g := lsD n) (fun d hd => by
        have ih := listed n d (h.2 d hd)
        simp [M__law_listed, ih])]
      exact mkL_le (by rw [List.length_map]; omega)
    simp [b__law_listed, isIs, isI, -ev_lc, e, lsD]
  | n + 1, .lst l, h => by cases h
  | n + 1, .fn x, h => by cases h
  | n + 1, .scr x, h => by cases h
end T10
end
section
set_option autoImplicit false
set_option linter.all false
set_option maxRecDepth 100000
namespace T10
open Bk
theorem eqOkS {x y : PySem.Str} (hx : PySem.PyData.strOk x = true) (hy : PySem.PyData.strOk y = true) : eqOk (.str x) (.str y) = true := by
  show (PySem.PyData.strOk x && PySem.PyData.strOk y && true && true) = true
  rw [hx, hy]; rfl
theorem bo_eqS {x y : PySem.Str} (hx : PySem.PyData.strOk x = true) (hy : PySem.PyData.strOk y = true) : bo .eq (.str x) (.str y) = .ok (.bl (decide (x = y))) := by
  show gd _ _ = _
  rw [gd_of (eqOkS hx hy)]; rfl
theorem bo_neS {x y : PySem.Str} (hx : PySem.PyData.strOk x = true) (hy : PySem.PyData.strOk y = true) : bo .ne (.str x) (.str y) = .ok (.bl (!decide (x = y))) := by
  show gd _ _ = _
  rw [gd_of (eqOkS hx hy)]; rfl
theorem okFetch : PySem.PyData.strOk "fetch" = true := by decide +kernel
theorem okDays : PySem.PyData.strOk "days" = true := by decide +kernel
theorem okSome : PySem.PyData.strOk "some" = true := by decide +kernel
theorem eqFF : bo .eq (.str "fetch") (.str "fetch") = .ok (.bl true) := by
  rw [bo_eqS okFetch okFetch, decide_eq_true rfl]
theorem eqDF : bo .eq (.str "days") (.str "fetch") = .ok (.bl false) := by
  rw [bo_eqS okDays okFetch, decide_eq_false (by decide +kernel)]
theorem eqSF : bo .eq (.str "some") (.str "fetch") = .ok (.bl false) := by
  rw [bo_eqS okSome okFetch, decide_eq_false (by decide +kernel)]
theorem neDD : bo .ne (.str "days") (.str "days") = .ok (.bl false) := by
  rw [bo_neS okDays okDays, decide_eq_true rfl]; rfl
theorem neSD : bo .ne (.str "some") (.str "days") = .ok (.bl true) := by
  rw [bo_neS okSome okDays, decide_eq_false (by decide +kernel)]; rfl
theorem bad_depth (w : List Int) (v s : Int) : areData (badL w v s) = true ∧ depths (badL w v s) ≤ 1 := ⟨data_of fun d hd => by
    obtain ⟨a, b, rfl⟩ := mem_badL hd; rfl, depths_of fun d hd => by
    obtain ⟨a, b, rfl⟩ := mem_badL hd; exact Nat.le_of_ble_eq_true rfl⟩
def pairB (w : List Int) (v s a b : Int) : Bool := decide (0 ≤ a) && decide (a ≤ b) && decide (b ≤ (w.length : Int) - 1) && wm w v s a.toNat b.toNat
theorem mem_pair {w : List Int} {v s a b : Int} : ((badL w v s).any fun z => eqD z (.tup [.int a, .int b])) = pairB w v s a b := by
  rw [Bool.eq_iff_iff, List.any_eq_true]
  unfold pairB
  simp only [Bool.and_eq_true, decide_eq_true_eq]
  constructor
  · rintro ⟨z, hz, he⟩
    obtain ⟨x, hx, hz⟩ := List.mem_flatMap.mp hz
    obtain ⟨k, hk, hz⟩ := List.mem_filterMap.mp hz
    have hx := List.mem_range.mp hx
    have hk := List.mem_range.mp hk
    split at hz
    · rename_i hw
      cases hz
      have he : (decide ((x : Int) = a) && (decide (((x + k : Nat) : Int) = b) && true)) = true := he
      simp only [Bool.and_eq_true, decide_eq_true_eq] at he
      obtain ⟨h1, h2, _⟩ := he
      subst h1; subst h2
      rw [Int.toNat_natCast, Int.toNat_natCast]
      exact ⟨⟨⟨by omega, by omega⟩, by omega⟩, hw⟩
    · cases hz
  · rintro ⟨⟨⟨h1, h2⟩, h3⟩, h4⟩
    refine ⟨prD a.toNat b.toNat, List.mem_flatMap.mpr ⟨a.toNat, List.mem_range.mpr (by omega), List.mem_filterMap.mpr ⟨b.toNat - a.toNat, List.mem_range.mpr (by omega), ?_⟩⟩, ?_⟩
    · have e : a.toNat + (b.toNat - a.toNat) = b.toNat := by omega
      rw [e, if_pos h4]
    · show (decide (((a.toNat : Nat) : Int) = a) && (decide (((b.toNat : Nat) : Int) = b) && true)) = true
      rw [decide_eq_true (by omega), decide_eq_true (by omega)]; rfl
section
variable {w f : List Int} {v s : Int}
theorem so_fetch (hw : w.length ≤ 14) (hf : f.length ≤ 100) : f__law_so [.tup (intL w), .int v, .int s, .tup [.str "fetch", .tup (intL f)]] = .ok (.bl (isF v s w f)) := by
  refine fnD_rt rfl ?_
  have i0 : ix (.tup [.str "fetch", .tup (intL f)]) (.int 0) = .ok (.str "fetch") := rfl
  have i1 : ix (.tup [.str "fetch", .tup (intL f)]) (.int 1) = .ok (.tup (intL f)) := rfl
  have e := eqFF
  simp [b__law_so, M__law_so, i0, i1, e, e_lawF hw hf]
theorem so_days (hw : w.length ≤ 14) (hv : -1 ≤ v ∧ v ≤ 99) (hs : 0 ≤ s ∧ s ≤ 99) (a b : Int) : f__law_so [.tup (intL w), .int v, .int s, .tup [.str "days", .int a, .int b]] = .ok (.bl (pairB w v s a b)) := by
  refine fnD_rt rfl ?_
  have i0 : ix (.tup [.str "days", .int a, .int b]) (.int 0) = .ok (.str "days") := rfl
  have s0 : sl (.tup [.str "days", .int a, .int b]) (some 1) none = .ok (.tup [.int a, .int b]) := rfl
  have e := eqDF
  have e2 := neDD
  have m0 : mkL [] = .ok (.lst []) := rfl
  have nn := ne_nil (L := []) (fun d hd => nomatch hd)
  have eb := e_bad (w := w) (v := v) (s := s) hw hv hs
  have ei : bo .in_ (.tup [.int a, .int b]) (.lst (badL w v s)) = .ok (.bl (pairB w v s a b)) := by
    rw [← mem_pair]
    show gd _ _ = _
    have h1 := (bad_depth w v s).1
    have h2 := (bad_depth w v s).2
    have h3 : eqOk (.tup [.int a, .int b]) (.lst (badL w v s)) = true := by
      show (true && areData (badL w v s) && true && decide (depths (badL w v s) + 1 ≤ 60)) = true
      rw [h1, decide_eq_true (by omega)]; rfl
    rw [gd_of h3]
  have el : ev M__law_so (.lc (.var 4) (.nm 4) (.seq (.slc (.var 3) (.so (.cst (.int 1))) .no)) (.so (.not (.call 1 (.cons (.var 4) .nil))))) [.sh (.tup (intL w)), .sh (.int v), .sh (.int s), .sh (.tup [.str "days", .int a, .int b]), .un] = .ok (.lst []) := by
    rw [ev_lc]
    have e : evIt M__law_so true (.seq (.slc (.var 3) (.so (.cst (.int 1))) .no)) [.sh (.tup (intL w)), .sh (.int v), .sh (.int s), .sh (.tup [.str "days", .int a, .int b]), .un] = .ok [.int a, .int b] := rfl
    rw [e, bind_ok, comp_filterMap (g := fun _ => none) (fun d hd => by
      have : ∃ i, d = .int i := by
        rcases List.mem_cons.mp hd with rfl | hd
        · exact ⟨_, rfl⟩
        · exact ⟨_, List.mem_singleton.mp hd⟩
      obtain ⟨i, rfl⟩ := this
      simp [M__law_so, e_lint])]
    rfl
  simp [b__law_so, -ev_lc, i0, s0, e, e2, m0, nn, el]
  have f2 : M__law_so.fns[2]? = some f__law_bad_days := rfl
  simp [f2, eb, ei]
theorem holds_fetch {d : D} (h : okW w) (hd : SeqI w d) (hv : 0 ≤ v ∧ v ≤ 99) (hs : 0 ≤ s ∧ s ≤ 99) : f_fill_holds [d, .int v, .int s, .lst [.str "fetch", .lst (intL f)]] = .ok (.bl (isF v s w f)) := by
  refine fnD_rt rfl ?_
  have i0 : ix (.lst [.str "fetch", .lst (intL f)]) (.int 0) = .ok (.str "fetch") := rfl
  have i1 : ix (.lst [.str "fetch", .lst (intL f)]) (.int 1) = .ok (.lst (intL f)) := rfl
  have e := eqFF
  simp [b_fill_holds, M_fill_holds, e_all h hd hv hs, fresh, i0, i1, e, isIs, isI, e_is_seq_l, e_isF (f := f) (v := v) (s := s) h.most (.inr rfl)]
theorem holds_days {d : D} (h : okW w) (hd : SeqI w d) (hv : 0 ≤ v ∧ v ≤ 99) (hs : 0 ≤ s ∧ s ≤ 99) (a b : Int) : f_fill_holds [d, .int v, .int s, .lst [.str "days", .int a, .int b]] = .ok (.bl (pairB w v s a b)) := by
  refine fnD_rt rfl ?_
  have i0 : ix (.lst [.str "days", .int a, .int b]) (.int 0) = .ok (.str "days") := rfl
  have i1 : ix (.lst [.str "days", .int a, .int b]) (.int 1) = .ok (.int a) := rfl
  have i2 : ix (.lst [.str "days", .int a, .int b]) (.int 2) = .ok (.int b) := rfl
  have e := eqDF
  have e2 := neDD
  unfold pairB
  by_cases c1 : 0 ≤ a
  · by_cases c2 : a ≤ (w.length : Int) - 1
    · by_cases c3 : a ≤ b
      · by_cases c4 : b ≤ (w.length : Int) - 1
        · have em := e_more (w := w) (v := v) (s := s) (a := a.toNat) (b := b.toNat) h.most (by omega) (by omega) (by omega)
          rw [Int.toNat_of_nonneg c1, Int.toNat_of_nonneg (by omega)] at em
          simp [b_fill_holds, M_fill_holds, e_all h hd hv hs, fresh, i0, i1, i2, e, e2, isIs, isI, e_is_seq_l, e_is_in, intL_len, c1, c2, c3, c4, em]
        · simp [b_fill_holds, M_fill_holds, e_all h hd hv hs, fresh, i0, i1, i2, e, e2, isIs, isI, e_is_seq_l, e_is_in, intL_len, c1, c2, c3, c4]
      · simp [b_fill_holds, M_fill_holds, e_all h hd hv hs, fresh, i0, i1, i2, e, e2, isIs, isI, e_is_seq_l, e_is_in, intL_len, c1, c2, c3]
    · have c3 : (decide (a ≤ b) && decide (b ≤ (w.length : Int) - 1)) = false := by
        rw [Bool.and_eq_false_iff, decide_eq_false_iff_not, decide_eq_false_iff_not]; omega
      have c4 : (decide (0 ≤ a) && decide (a ≤ b) && decide (b ≤ (w.length : Int) - 1) && wm w v s a.toNat b.toNat) = false := by
        rw [Bool.and_assoc (decide (0 ≤ a)), c3, Bool.and_false, Bool.false_and]
      rw [c4]
      simp [b_fill_holds, M_fill_holds, e_all h hd hv hs, fresh, i0, i1, i2, e, e2, isIs, isI, e_is_seq_l, e_is_in, intL_len, c1, c2]
  · simp [b_fill_holds, M_fill_holds, e_all h hd hv hs, fresh, i0, i1, i2, e, e2, isIs, isI, e_is_seq_l, e_is_in, intL_len, c1]
theorem is_fetch_ok {d e : D} (h : okW w) (hd : SeqI w d) (hv : 0 ≤ v ∧ v ≤ 99) (hs : 0 ≤ s ∧ s ≤ 99) (he : SeqI f e) : f_is_fetching [d, .int v, .int s, e] = .ok (.bl (isF v s w f)) := by
  refine fnD_rt rfl ?_
  have := e_isF (f := f) (v := v) (s := s) (d := e) h.most (by cases he; exact .inl rfl; exact .inr rfl)
  simp [b_is_fetching, M_is_fetching, e_all h hd hv hs, this]
theorem can_fill_ok {d : D} (h : okW w) (hd : SeqI w d) (hv : 0 ≤ v ∧ v ≤ 99) (hs : 0 ≤ s ∧ s ≤ 99) : f_can_fill [d, .int v, .int s] = .ok (match lp w v s with
    | some (.tup l) => .tup (.str "days" :: l)
    | _ => .tup [.str "fetch", .tup (intL (fetched w (lowS v w)))]) := by
  refine fnD_rt rfl ?_
  have ep := e_pair (w := w) (v := v) (s := s) h.most (by omega)
  have ef := e_fetched (w := w) (row := lowS v w) h.most (lowS_len v w)
  cases q : lp w v s with
  | none =>
    rw [q] at ep
    have m2 : ∀ a b : D, mkT [a, b] = .ok (.tup [a, b]) := fun _ _ => rfl
    have ep : f__least_pair [.tup (intL w), .int v, .int s] = .ok .non := ep
    simp [b_can_fill, M_can_fill, e_all h hd hv hs, fresh, ep, e_low v h.most, ef, m2]
  | some x =>
    have hb : x ∈ badL w v s := by
      rw [lp_head] at q
      exact List.mem_of_head? q
    obtain ⟨a, b, rfl⟩ := mem_badL hb
    rw [q] at ep
    have ep : f__least_pair [.tup (intL w), .int v, .int s] = .ok (prD a b) := ep
    have i0 : ix (prD a b) (.int 0) = .ok (.int a) := rfl
    have i1 : ix (prD a b) (.int 1) = .ok (.int b) := rfl
    have m3 : ∀ a b c : D, mkT [a, b, c] = .ok (.tup [a, b, c]) := fun _ _ _ => rfl
    have hslot : slotOf false (prD a b) = .sh (prD a b) := rfl
    have hn : bo .isn (prD a b) .non = .ok (.bl true) := rfl
    simp [b_can_fill, M_can_fill, e_all h hd hv hs, fresh, ep, i0, i1, m3, hslot, hn]
    rfl
end
end T10
end
section
set_option autoImplicit false
set_option linter.all false
set_option maxRecDepth 100000
namespace T10
open Bk
section
variable {w f : List Int} {v s : Int}
def wrongA : List D := [.non, .tup [], .tup [.str "fetch"], .tup [.str "some", .int 0, .int 0], .tup [.str "days", .int 0], .tup [.str "fetch", .non], .tup [.str "days", .non, .int 0], .tup [.str "days", .bl true, .bl true]]
theorem holds_wrong {d x : D} (h : okW w) (hd : SeqI w d) (hv : 0 ≤ v ∧ v ≤ 99) (hs : 0 ≤ s ∧ s ≤ 99) (hx : x ∈ wrongA) : f_fill_holds [d, .int v, .int s, x] = .ok (.bl false) := by
  refine fnD_rt rfl ?_
  have n1 : f_is_seq [.non] = .ok (.bl false) := rfl
  have n2 : f__is_fetching [.tup (intL w), .int v, .int s, .non] = .ok (.bl false) := by
    refine fnD_rt rfl ?_
    simp [b__is_fetching, M__is_fetching, n1]
  have i0 : ∀ (a : D) (l : List D), ix (.tup (a :: l)) (.int 0) = .ok a := fun a l => ix_tup (atI_nat (i := 0) rfl)
  have i1 : ∀ (a b : D) (l : List D), ix (.tup (a :: b :: l)) (.int 1) = .ok b := fun a b l => ix_tup (atI_nat (i := 1) rfl)
  have z1 : ∀ y z : D, f_is_in [.non, y, z] = .ok (.bl false) := fun y z => e_is_in_no rfl y z
  have z2 : ∀ y z : D, f_is_in [.bl true, y, z] = .ok (.bl false) := fun y z => e_is_in_no rfl y z
  unfold wrongA at hx
  simp only [List.mem_cons, List.not_mem_nil, or_false] at hx
  rcases hx with rfl | rfl | rfl | rfl | rfl | rfl | rfl | rfl
  · simp [b_fill_holds, M_fill_holds, e_all h hd hv hs, fresh, n1]
  · simp [b_fill_holds, M_fill_holds, e_all h hd hv hs, fresh, e_is_seq_t]
  · simp [b_fill_holds, M_fill_holds, e_all h hd hv hs, fresh, e_is_seq_t]
  · simp [b_fill_holds, M_fill_holds, e_all h hd hv hs, fresh, e_is_seq_t, i0, isIs, isI, eqSF, neSD]
  · simp [b_fill_holds, M_fill_holds, e_all h hd hv hs, fresh, e_is_seq_t, i0, isIs, isI, eqDF, neDD]
  · simp [b_fill_holds, M_fill_holds, e_all h hd hv hs, fresh, e_is_seq_t, i0, i1, isIs, isI, eqFF, n2]
  · simp [b_fill_holds, M_fill_holds, e_all h hd hv hs, fresh, e_is_seq_t, i0, i1, isIs, isI, eqDF, neDD, intL_len, z1]
  · simp [b_fill_holds, M_fill_holds, e_all h hd hv hs, fresh, e_is_seq_t, i0, i1, isIs, isI, eqDF, neDD, intL_len, z2]
theorem e_all99 {W d : D} (hd : d = .tup (intL f) ∨ d = .lst (intL f)) : ev M_stock (.allc true (.call 2 (.cons (.var 6) (.cons (.cst (.int 0)) (.cons (.cst (.int 99)) .nil)))) 6 (.var 1)) [.sh W, .sh d, .sh (.tup (intL w)), .un, .un, .un, .un] = .ok (.bl (f.all fun x => decide (0 ≤ x) && decide (x ≤ 99))) := by
  have h3 : seqOf d = some (intL f) := by rcases hd with rfl | rfl <;> rfl
  have h2 : plainD d = true := by rcases hd with rfl | rfl <;> exact plain_intL f
  rw [ev_allc (M := M_stock) rfl (x := d) (ds := intL f) (g := fun e => match e with | .int x => decide (0 ≤ x) && decide (x ≤ 99) | _ => false) rfl h2 h3 fun e he => by
    obtain ⟨i, hi, rfl⟩ := memI he
    have hm : ∃ a0, (mask [Slot.sh W, .sh d, .sh (.tup (intL w)), .un, .un, .un, .un]).set 6 (.sh (.int i)) = [a0, .sh d, .sh (.tup (intL w)), .un, .un, .un, .sh (.int i)] := by
      refine ⟨if plainD W = true then Slot.sh W else .un, ?_⟩
      show [(if plainD W = true then Slot.sh W else .un), (if plainD d = true then Slot.sh d else .un), (if plainD (.tup (intL w)) = true then Slot.sh (.tup (intL w)) else .un), _, _, _, _] = _
      rw [if_pos h2, if_pos (show plainD (.tup (intL w)) = true from plain_intL w)]
    obtain ⟨a0, hm⟩ := hm
    rw [hm]
    simp [M_stock, e_is_in]]
  have e4 : (intL f).map (fun e => match e with | .int x => decide (0 ≤ x) && decide (x ≤ 99) | _ => false) = f.map fun x => decide (0 ≤ x) && decide (x ≤ 99) := by
    simp [intL]
  rw [e4, if_pos rfl, List.all_map]
  rfl
theorem stock_ok {d e : D} (h : okW w) (hd : SeqI w d) (he : SeqI f e) (hl : f.length = w.length) (ha : ∀ x ∈ f, 0 ≤ x ∧ x ≤ 99) : f_stock [d, e] = .ok (.tup (intL (stocks w f))) := by
  refine fnD_rt rfl ?_
  have hw := h.most
  have hr := rng0 (n := w.length) (by omega)
  have he' : e = .tup (intL f) ∨ e = .lst (intL f) := by cases he; exact .inl rfl; exact .inr rfl
  have ea := e_all99 (w := w) (f := f) (W := d) (d := e) he'
  have hall : (f.all fun x => decide (0 ≤ x) && decide (x ≤ 99)) = true := by
    rw [List.all_eq_true]
    intro x hx
    rw [decide_eq_true (ha x hx).1, decide_eq_true (ha x hx).2]; rfl
  rw [hall] at ea
  have hs1 : f_is_seq [e] = .ok (.bl true) := by rcases he' with rfl | rfl <;> rfl
  have hs2 : bi .len [e] = .ok (.int f.length) := by rcases he' with rfl | rfl <;> (rw [← intL_len]; rfl)
  have f0 : M_stock.fns[0]? = some f__need_wants := rfl
  have f1 : M_stock.fns[1]? = some f_is_seq := rfl
  have L := loop_inv (t := .nm 5) (f := runs M_stock (.cons (.aug 4 .add (.bin .sub (.idx (.var 1) (.var 5)) (.idx (.var 2) (.var 5)))) (.cons (.app 3 (.var 4) []) .nil)))
    (fun k ρ => ∃ y, ρ = [.sh d, .sh e, .sh (.tup (intL w)), .ow (intL ((List.range k).map fun d => S f (d + 1) - S w (d + 1))), .sh (.int (S f k - S w k)), y, .un])
    (ds := (List.range w.length).map fun i => D.int ((i : Nat) : Int)) (ρ := [.sh d, .sh e, .sh (.tup (intL w)), .ow [], .sh (.int 0), .un, .un]) 0 ⟨.un, by rw [S_zero, S_zero]; rfl⟩ (fun i g ρ hi ⟨y, hy⟩ => by
      have hi2 : i < w.length := by
        have := (List.getElem?_eq_some_iff.mp hi).1
        simpa using this
      have hdv : g = .int (i : Int) := by
        rw [List.getElem?_map, List.getElem?_range hi2] at hi
        simpa using hi.symm
      subst hdv; subst hy
      refine ⟨_, rfl, ?_⟩
      rw [Nat.zero_add]
      have a1 : ix e (.int (i : Int)) = .ok (.int (f.getD i 0)) := by
        rcases he' with rfl | rfl
        · exact ix_tup (atI_nat (intL_getD (by omega)))
        · exact ix_lst (atI_nat (intL_getD (by omega)))
      have a2 : ix (.tup (intL w)) (.int (i : Int)) = .ok (.int (w.getD i 0)) := ix_tup (atI_nat (intL_getD hi2))
      have e1 : S f (i + 1) = S f i + f.getD i 0 := S_succ (by omega)
      have e2 : S w (i + 1) = S w i + w.getD i 0 := S_succ hi2
      have e3 : S f i - S w i + (f.getD i 0 - w.getD i 0) = S f (i + 1) - S w (i + 1) := by omega
      have e4 : intL ((List.range (i + 1)).map fun d => S f (d + 1) - S w (d + 1)) = intL ((List.range i).map fun d => S f (d + 1) - S w (d + 1)) ++ [.int (S f (i + 1) - S w (i + 1))] := by
        rw [List.range_succ, List.map_append, intL_app]; rfl
      have hm : mkL (intL ((List.range i).map fun d => S f (d + 1) - S w (d + 1)) ++ [.int (S f (i + 1) - S w (i + 1))]) = .ok (.lst (intL ((List.range i).map fun d => S f (d + 1) - S w (d + 1)) ++ [.int (S f (i + 1) - S w (i + 1))])) := mkL_le (by simp [intL_len]; omega)
      rw [e4]
      generalize intL ((List.range i).map fun d => S f (d + 1) - S w (d + 1)) = q at *
      generalize f.getD i 0 = fi at *
      generalize w.getD i 0 = wi at *
      generalize S f (i + 1) - S w (i + 1) = z at *
      exact ⟨_, .inl (by simp [a1, a2, e3, hm]; rfl), _, rfl⟩)
  obtain ⟨ρ', hL, y, hy⟩ := L
  have hlr : ((List.range w.length).map fun i => D.int ((i : Nat) : Int)).length = w.length := by simp
  rw [hlr, Nat.zero_add] at hy
  have m0 : mkL [] = .ok (.lst []) := rfl
  simp [b_stock, f0, f1, e_need h hd, fresh, hs1, hs2, intL_len, hl, ea, m0, hr]
  refine (congrArg (fun o => O.next o _) hL).trans ?_
  rw [hy]
  have e5 : (List.range w.length).map (fun d => S f (d + 1) - S w (d + 1)) = stocks w f := rfl
  rw [e5]
  have hlen : (intL (stocks w f)).length ≤ 16777216 := by simp [stocks, intL_len]; omega
  simp [mkL_le hlen]
end
end T10
end
section
set_option autoImplicit false
set_option linter.all false
set_option maxRecDepth 100000
namespace T10
open Bk
def wrong1 : List D := [.non, .tup [], .tup [.int 21], .tup [.int (-1)], .tup [.bl true], .tup (List.replicate 15 (.int 1)), .tup [.int 1, .int 21], .tup [.int 1, .int 0, .non]]
theorem need_no {x : D} (hx : x ∈ wrong1) : f__need_wants [x] = .ex "BadValue" (.int 1) := by
  unfold wrong1 at hx
  simp only [List.mem_cons, List.not_mem_nil, or_false] at hx
  rcases hx with rfl | rfl | rfl | rfl | rfl | rfl | rfl | rfl <;> rfl
theorem can_no1 {x : D} {v s : Int} (hx : x ∈ wrong1) : f_can_fill [x, .int v, .int s] = .ex "BadValue" (.int 1) := by
  have e : f__need_all [x, .int v, .int s] = .ex "BadValue" (.int 1) := by
    refine fnD_ex (ρ := [.sh x, .sh (.int v), .sh (.int s), .un]) rfl ?_
    simp [b__need_all, M__need_all, need_no hx]
  refine fnD_ex (ρ := [.sh x, .sh (.int v), .sh (.int s), .un, .un]) rfl ?_
  simp [b_can_fill, M_can_fill, e]
theorem stock_no1 {x e : D} (hx : x ∈ wrong1) : f_stock [x, e] = .ex "BadValue" (.int 1) := by
  refine fnD_ex (ρ := [.sh x, .sh e, .un, .un, .un, .un, .un]) rfl ?_
  simp [b_stock, M_stock, need_no hx]
section
variable {w f : List Int} {v s : Int}
theorem can_no2 {d x : D} {s : D} (h : okW w) (hd : SeqI w d) (hx : noInt x = true ∨ ∃ i, x = .int i ∧ (i < 0 ∨ 99 < i)) : f_can_fill [d, x, s] = .ex "BadValue" (.int 2) := by
  have e : f__need_all [d, x, s] = .ex "BadValue" (.int 2) := by
    refine fnD_ex (ρ := [.sh d, .sh x, .sh s, .sh (.tup (intL w))]) rfl ?_
    simp [b__need_all, M__need_all, e_need h hd, fresh, e_size_no (k := 2) hx]
  refine fnD_ex (ρ := [.sh d, .sh x, .sh s, .un, .un]) rfl ?_
  simp [b_can_fill, M_can_fill, e]
theorem can_no3 {d x : D} {v : Int} (h : okW w) (hd : SeqI w d) (hv : 0 ≤ v ∧ v ≤ 99) (hx : noInt x = true ∨ ∃ i, x = .int i ∧ (i < 0 ∨ 99 < i)) : f_can_fill [d, .int v, x] = .ex "BadValue" (.int 3) := by
  have e : f__need_all [d, .int v, x] = .ex "BadValue" (.int 3) := by
    refine fnD_ex (ρ := [.sh d, .sh (.int v), .sh x, .sh (.tup (intL w))]) rfl ?_
    simp [b__need_all, M__need_all, e_need h hd, fresh, e_size (.int 2) hv, e_size_no (k := 3) hx]
  refine fnD_ex (ρ := [.sh d, .sh (.int v), .sh x, .un, .un]) rfl ?_
  simp [b_can_fill, M_can_fill, e]
theorem stock_no2n {d : D} (h : okW w) (hd : SeqI w d) : f_stock [d, .non] = .ex "BadValue" (.int 2) := by
  refine fnD_ex (ρ := [.sh d, .sh .non, .sh (.tup (intL w)), .un, .un, .un, .un]) rfl ?_
  have n1 : f_is_seq [.non] = .ok (.bl false) := rfl
  simp [b_stock, M_stock, e_need h hd, fresh, n1, flat]
theorem stock_no2l {d : D} (h : okW w) (hd : SeqI w d) (hl : f.length ≠ w.length) : f_stock [d, .tup (intL f)] = .ex "BadValue" (.int 2) := by
  refine fnD_ex (ρ := [.sh d, .sh (.tup (intL f)), .sh (.tup (intL w)), .un, .un, .un, .un]) rfl ?_
  have hl' : ¬ (f.length : Int) = w.length := by omega
  simp [b_stock, M_stock, e_need h hd, fresh, e_is_seq_t, intL_len, hl', flat]
theorem stock_no2a {d : D} (h : okW w) (hd : SeqI w d) (hl : f.length = w.length) (ha : (f.all fun x => decide (0 ≤ x) && decide (x ≤ 99)) = false) : f_stock [d, .tup (intL f)] = .ex "BadValue" (.int 2) := by
  refine fnD_ex (ρ := [.sh d, .sh (.tup (intL f)), .sh (.tup (intL w)), .un, .un, .un, .un]) rfl ?_
  have ea := e_all99 (w := w) (f := f) (W := d) (d := .tup (intL f)) (.inl rfl)
  rw [ha] at ea
  have f0 : M_stock.fns[0]? = some f__need_wants := rfl
  have f1 : M_stock.fns[1]? = some f_is_seq := rfl
  simp [b_stock, f0, f1, e_need h hd, fresh, e_is_seq_t, intL_len, hl, ea, flat]
theorem is_fetch_non {d : D} (h : okW w) (hd : SeqI w d) (hv : 0 ≤ v ∧ v ≤ 99) (hs : 0 ≤ s ∧ s ≤ 99) : f_is_fetching [d, .int v, .int s, .non] = .ok (.bl false) := by
  refine fnD_rt rfl ?_
  have n1 : f_is_seq [.non] = .ok (.bl false) := rfl
  have n2 : f__is_fetching [.tup (intL w), .int v, .int s, .non] = .ok (.bl false) := by
    refine fnD_rt rfl ?_
    simp [b__is_fetching, M__is_fetching, n1]
  simp [b_is_fetching, M_is_fetching, e_all h hd hv hs, n2]
end
theorem ref2 {x : PySem.Str} {f : Fn} (hx : M__law_refused.val x = some f) {a b : D} {k : Int} (h : f [a, b] = .ex "BadValue" (.int k)) : f__law_refused [.fn x, .lst [a, b], .int k] = .ok (.bl true) := by
  refine fnD_rt rfl ?_
  have h0 : ix (.lst [a, b]) (.int 0) = .ok a := rfl
  have h1 : ix (.lst [a, b]) (.int 1) = .ok b := rfl
  simp [b__law_refused, hx, h0, h1, h, hd]
theorem ref3 {x : PySem.Str} {f : Fn} (hx : M__law_refused.val x = some f) {a b c : D} {k : Int} (h : f [a, b, c] = .ex "BadValue" (.int k)) : f__law_refused [.fn x, .lst [a, b, c], .int k] = .ok (.bl true) := by
  refine fnD_rt rfl ?_
  have h0 : ix (.lst [a, b, c]) (.int 0) = .ok a := rfl
  have h1 : ix (.lst [a, b, c]) (.int 1) = .ok b := rfl
  have h2 : ix (.lst [a, b, c]) (.int 2) = .ok c := rfl
  simp [b__law_refused, hx, h0, h1, h2, h, hd]
def st0 : Bk.S := (.asg 1 (.call 0 (.cons (.var 0) (.cons (.cst (.int 0)) (.cons (.cst (.int 9)) .nil)))) [])
def st1 : Bk.S := (.asg 2 (.call 1 (.cons (.slc (.var 1) .no (.so (.bin .add (.cst (.int 1)) (.bin .mod (.bi .int (.cons (.idx (.var 1) (.cst (.int 7))) .nil)) (.cst (.int 5)))))) .nil)) [])
def st2 : Bk.S := (.asg2 9 10 (.bin .mod (.bi .int (.cons (.idx (.var 1) (.cst (.int 8))) .nil)) (.cst (.int 6))) (.bin .mod (.bi .int (.cons (.bin .fdiv (.idx (.var 1) (.cst (.int 8))) (.cst (.int 6))) .nil)) (.cst (.int 5))) [])
def stb3 : Bk.Ss := (.cons (.asg 11 (.call 2 (.cons (.var 2) (.cons (.bin .add (.var 9) (.var 3)) (.cons (.var 10) .nil)))) [])
  (.cons (.asg 5 (.call 3 (.cons (.var 2) (.cons (.bin .add (.var 9) (.var 3)) (.cons (.var 10) .nil)))) [])
  (.cons (.ite (.bin .ne (.bin .eq (.var 11) (.lst .nil)) (.bin .ne (.var 5) (.lst .nil)))
  (.cons (.ret (.cst (.bl false)))
  .nil)
  .nil)
  (.cons (.asg 7 (.call 4 (.cons (.bi .list (.cons (.var 2) .nil)) (.cons (.bin .add (.var 9) (.var 3)) (.cons (.var 10) .nil)))) [])
  (.cons (.ite (.not (.call 5 (.cons (.var 7) (.cons (.ite (.bin .ne (.var 11) (.lst .nil)) (.tup (.cons (.cst (.str "fetch")) (.cons (.idx (.var 11) (.cst (.int 0))) .nil))) (.bin .add (.tup (.cons (.cst (.str "days")) .nil)) (.idx (.var 5) (.cst (.int 0))))) .nil))))
  (.cons (.ret (.cst (.bl false)))
  .nil)
  .nil)
  (.cons (.asg 12 (.bin .add (.lc (.tup (.cons (.cst (.str "fetch")) (.cons (.var 15) .nil))) (.nm 15) (.seq (.bin .add (.slc (.var 11) .no (.so (.cst (.int 3)))) (.slc (.var 11) (.so (.neg (.cst (.int 3)))) .no))) .no) (.lst (.cons (.tup (.cons (.cst (.str "fetch")) (.cons (.var 2) .nil))) (.cons (.tup (.cons (.cst (.str "fetch")) (.cons (.bin .mul (.tup (.cons (.cst (.int 0)) .nil)) (.bi .len (.cons (.var 2) .nil))) .nil))) (.cons (.tup (.cons (.cst (.str "days")) (.cons (.cst (.int 0)) (.cons (.cst (.int 0)) .nil)))) (.cons (.tup (.cons (.cst (.str "days")) (.cons (.cst (.int 1)) (.cons (.cst (.int 0)) .nil)))) (.cons (.tup (.cons (.cst (.str "days")) (.cons (.cst (.int 0)) (.cons (.cst (.int 99)) .nil)))) .nil))))))) [])
  (.cons (.for_ (.nm 13) (.rng (.bi .len (.cons (.var 2) .nil)))
  (.cons (.asg 12 (.bin .add (.var 12) (.lc (.tup (.cons (.cst (.str "days")) (.cons (.var 13) (.cons (.var 16) .nil)))) (.nm 16) (.rng2 (.var 13) (.bi .len (.cons (.var 2) .nil))) .no)) [])
  .nil) [])
  (.cons (.for_ (.nm 14) (.seq (.var 12))
  (.cons (.ite (.not (.call 5 (.cons (.call 7 (.cons (.bi .list (.cons (.var 2) .nil)) (.cons (.bin .add (.var 9) (.var 3)) (.cons (.var 10) (.cons (.call 8 (.cons (.var 14) .nil)) .nil))))) (.cons (.call 6 (.cons (.var 2) (.cons (.bin .add (.var 9) (.var 3)) (.cons (.var 10) (.cons (.var 14) .nil))))) .nil))))
  (.cons (.ret (.cst (.bl false)))
  .nil)
  .nil)
  .nil) [12])
  (.cons (.for_ (.nm 8) (.seq (.lst (.cons (.cst .non) (.cons (.tup .nil) (.cons (.tup (.cons (.cst (.str "fetch")) .nil)) (.cons (.tup (.cons (.cst (.str "some")) (.cons (.cst (.int 0)) (.cons (.cst (.int 0)) .nil)))) (.cons (.tup (.cons (.cst (.str "days")) (.cons (.cst (.int 0)) .nil))) (.cons (.tup (.cons (.cst (.str "fetch")) (.cons (.cst .non) .nil))) (.cons (.tup (.cons (.cst (.str "days")) (.cons (.cst .non) (.cons (.cst (.int 0)) .nil)))) (.cons (.tup (.cons (.cst (.str "days")) (.cons (.cst (.bl true)) (.cons (.cst (.bl true)) .nil)))) .nil))))))))))
  (.cons (.ite (.not (.call 5 (.cons (.call 7 (.cons (.var 2) (.cons (.bin .add (.var 9) (.var 3)) (.cons (.var 10) (.cons (.var 8) .nil))))) (.cons (.cst (.bl false)) .nil))))
  (.cons (.ret (.cst (.bl false)))
  .nil)
  .nil)
  .nil) [])
  (.cons (.for_ (.nm 15) (.seq (.bin .add (.slc (.var 11) .no (.so (.cst (.int 3)))) (.lst (.cons (.var 2) (.cons (.rvs (.var 2)) (.cons (.bin .mul (.tup (.cons (.bin .add (.var 9) (.var 3)) .nil)) (.bi .len (.cons (.var 2) .nil))) (.cons (.bin .mul (.tup (.cons (.cst (.int 99)) .nil)) (.bi .len (.cons (.var 2) .nil))) (.cons (.slc (.var 2) (.so (.cst (.int 1))) .no) .nil))))))))
  (.cons (.ite (.not (.call 5 (.cons (.call 10 (.cons (.bi .list (.cons (.var 2) .nil)) (.cons (.bin .add (.var 9) (.var 3)) (.cons (.var 10) (.cons (.bi .list (.cons (.var 15) .nil)) .nil))))) (.cons (.call 9 (.cons (.var 2) (.cons (.bin .add (.var 9) (.var 3)) (.cons (.var 10) (.cons (.var 15) .nil))))) .nil))))
  (.cons (.ret (.cst (.bl false)))
  .nil)
  .nil)
  (.cons (.ite (.and (.bin .eq (.bi .len (.cons (.var 15) .nil)) (.bi .len (.cons (.var 2) .nil))) (.not (.call 5 (.cons (.call 11 (.cons (.bi .list (.cons (.var 2) .nil)) (.cons (.bi .list (.cons (.var 15) .nil)) .nil))) (.cons (.bi .tuple (.cons (.lc (.bin .sub (.bi .sum (.cons (.slc (.var 15) .no (.so (.bin .add (.var 17) (.cst (.int 1))))) .nil)) (.bi .sum (.cons (.slc (.var 2) .no (.so (.bin .add (.var 17) (.cst (.int 1))))) .nil))) (.nm 17) (.rng (.bi .len (.cons (.var 2) .nil))) .no) .nil)) .nil)))))
  (.cons (.ret (.cst (.bl false)))
  .nil)
  .nil)
  .nil)) [])
  .nil))))))))))
def sti3 : Bk.It := (.seq (.lst (.cons (.cst (.int 0)) (.cons (.cst (.int 1)) (.cons (.cst (.int 2)) .nil)))))
def st3 : Bk.S := .for_ (.nm 3) sti3 stb3 []
def st4 : Bk.S := (.asg 4 (.slc (.bin .mul (.var 2) (.cst (.int 14))) .no (.so (.cst (.int 14)))) [])
def st5 : Bk.S := (.asg 5 (.call 3 (.cons (.var 4) (.cons (.var 9) (.cons (.var 10) .nil)))) [4])
def st6 : Bk.S := (.asg 6 (.bi .list (.cons (.var 4) .nil)) [])
def st7 : Bk.S := (.asg 7 (.call 4 (.cons (.var 6) (.cons (.var 9) (.cons (.var 10) .nil)))) [6])
def st8 : Bk.S := (.ite (.or (.bin .ne (.var 6) (.bi .list (.cons (.var 4) .nil))) (.or (.not (.call 6 (.cons (.var 4) (.cons (.var 9) (.cons (.var 10) (.cons (.var 7) .nil)))))) (.and (.bin .ne (.var 5) (.lst .nil)) (.not (.call 5 (.cons (.var 7) (.cons (.bin .add (.tup (.cons (.cst (.str "days")) .nil)) (.idx (.var 5) (.cst (.int 0)))) .nil)))))))
  (.cons (.ret (.cst (.bl false)))
  .nil)
  .nil)
def stb9 : Bk.Ss := (.cons (.ite (.or (.not (.call 12 (.cons (.glb 1) (.cons (.lst (.cons (.var 8) (.cons (.cst (.int 1)) (.cons (.cst (.int 1)) .nil)))) (.cons (.cst (.int 1)) .nil))))) (.not (.call 12 (.cons (.glb 0) (.cons (.lst (.cons (.var 8) (.cons (.tup .nil) .nil))) (.cons (.cst (.int 1)) .nil))))))
  (.cons (.ret (.cst (.bl false)))
  .nil)
  .nil)
  .nil)
def sti9 : Bk.It := (.seq (.lst (.cons (.cst .non) (.cons (.tup .nil) (.cons (.tup (.cons (.cst (.int 21)) .nil)) (.cons (.tup (.cons (.neg (.cst (.int 1))) .nil)) (.cons (.tup (.cons (.cst (.bl true)) .nil)) (.cons (.bin .mul (.tup (.cons (.cst (.int 1)) .nil)) (.cst (.int 15))) (.cons (.tup (.cons (.cst (.int 1)) (.cons (.cst (.int 21)) .nil))) (.cons (.tup (.cons (.cst (.int 1)) (.cons (.cst (.int 0)) (.cons (.cst .non) .nil)))) .nil))))))))))
def st9 : Bk.S := .for_ (.nm 8) sti9 stb9 []
def stb10 : Bk.Ss := (.cons (.ite (.or (.not (.call 12 (.cons (.glb 1) (.cons (.lst (.cons (.var 2) (.cons (.var 8) (.cons (.cst (.int 1)) .nil)))) (.cons (.cst (.int 2)) .nil))))) (.not (.call 12 (.cons (.glb 1) (.cons (.lst (.cons (.var 2) (.cons (.cst (.int 1)) (.cons (.var 8) .nil)))) (.cons (.cst (.int 3)) .nil))))))
  (.cons (.ret (.cst (.bl false)))
  .nil)
  .nil)
  .nil)
def sti10 : Bk.It := (.seq (.lst (.cons (.cst (.int 100)) (.cons (.neg (.cst (.int 1))) (.cons (.cst .non) (.cons (.cst (.bl true)) .nil))))))
def st10 : Bk.S := .for_ (.nm 8) sti10 stb10 []
def stb11 : Bk.Ss := (.cons (.ite (.or (.not (.call 12 (.cons (.glb 0) (.cons (.lst (.cons (.var 2) (.cons (.var 8) .nil))) (.cons (.cst (.int 2)) .nil))))) (.not (.call 5 (.cons (.call 10 (.cons (.var 2) (.cons (.var 9) (.cons (.var 10) (.cons (.var 8) .nil))))) (.cons (.cst (.bl false)) .nil)))))
  (.cons (.ret (.cst (.bl false)))
  .nil)
  .nil)
  .nil)
def sti11 : Bk.It := (.seq (.lst (.cons (.cst .non) (.cons (.bin .add (.var 2) (.tup (.cons (.cst (.int 0)) .nil))) (.cons (.bin .mul (.tup (.cons (.cst (.int 100)) .nil)) (.bi .len (.cons (.var 2) .nil))) (.cons (.bin .mul (.tup (.cons (.neg (.cst (.int 1))) .nil)) (.bi .len (.cons (.var 2) .nil))) .nil))))))
def st11 : Bk.S := .for_ (.nm 8) sti11 stb11 []
def st12 : Bk.S := (.ret (.cst (.bl true)))
theorem steq : b_law = (.cons st0 (.cons st1 (.cons st2 (.cons st3 (.cons st4 (.cons st5 (.cons st6 (.cons st7 (.cons st8 (.cons st9 (.cons st10 (.cons st11 (.cons st12 .nil))))))))))))) := rfl
end T10
end
section
set_option autoImplicit false
set_option linter.all false
set_option maxRecDepth 100000
namespace T10
open Bk
def c0 : Bk.S := (.asg 11 (.call 2 (.cons (.var 2) (.cons (.bin .add (.var 9) (.var 3)) (.cons (.var 10) .nil)))) [])
def c1 : Bk.S := (.asg 5 (.call 3 (.cons (.var 2) (.cons (.bin .add (.var 9) (.var 3)) (.cons (.var 10) .nil)))) [])
def c2 : Bk.S := (.ite (.bin .ne (.bin .eq (.var 11) (.lst .nil)) (.bin .ne (.var 5) (.lst .nil)))
  (.cons (.ret (.cst (.bl false)))
  .nil)
  .nil)
def c3 : Bk.S := (.asg 7 (.call 4 (.cons (.bi .list (.cons (.var 2) .nil)) (.cons (.bin .add (.var 9) (.var 3)) (.cons (.var 10) .nil)))) [])
def c4 : Bk.S := (.ite (.not (.call 5 (.cons (.var 7) (.cons (.ite (.bin .ne (.var 11) (.lst .nil)) (.tup (.cons (.cst (.str "fetch")) (.cons (.idx (.var 11) (.cst (.int 0))) .nil))) (.bin .add (.tup (.cons (.cst (.str "days")) .nil)) (.idx (.var 5) (.cst (.int 0))))) .nil))))
  (.cons (.ret (.cst (.bl false)))
  .nil)
  .nil)
def c5 : Bk.S := (.asg 12 (.bin .add (.lc (.tup (.cons (.cst (.str "fetch")) (.cons (.var 15) .nil))) (.nm 15) (.seq (.bin .add (.slc (.var 11) .no (.so (.cst (.int 3)))) (.slc (.var 11) (.so (.neg (.cst (.int 3)))) .no))) .no) (.lst (.cons (.tup (.cons (.cst (.str "fetch")) (.cons (.var 2) .nil))) (.cons (.tup (.cons (.cst (.str "fetch")) (.cons (.bin .mul (.tup (.cons (.cst (.int 0)) .nil)) (.bi .len (.cons (.var 2) .nil))) .nil))) (.cons (.tup (.cons (.cst (.str "days")) (.cons (.cst (.int 0)) (.cons (.cst (.int 0)) .nil)))) (.cons (.tup (.cons (.cst (.str "days")) (.cons (.cst (.int 1)) (.cons (.cst (.int 0)) .nil)))) (.cons (.tup (.cons (.cst (.str "days")) (.cons (.cst (.int 0)) (.cons (.cst (.int 99)) .nil)))) .nil))))))) [])
def cb6 : Bk.Ss := (.cons (.asg 12 (.bin .add (.var 12) (.lc (.tup (.cons (.cst (.str "days")) (.cons (.var 13) (.cons (.var 16) .nil)))) (.nm 16) (.rng2 (.var 13) (.bi .len (.cons (.var 2) .nil))) .no)) [])
  .nil)
def ci6 : Bk.It := (.rng (.bi .len (.cons (.var 2) .nil)))
def c6 : Bk.S := .for_ (.nm 13) ci6 cb6 []
def cb7 : Bk.Ss := (.cons (.ite (.not (.call 5 (.cons (.call 7 (.cons (.bi .list (.cons (.var 2) .nil)) (.cons (.bin .add (.var 9) (.var 3)) (.cons (.var 10) (.cons (.call 8 (.cons (.var 14) .nil)) .nil))))) (.cons (.call 6 (.cons (.var 2) (.cons (.bin .add (.var 9) (.var 3)) (.cons (.var 10) (.cons (.var 14) .nil))))) .nil))))
  (.cons (.ret (.cst (.bl false)))
  .nil)
  .nil)
  .nil)
def ci7 : Bk.It := (.seq (.var 12))
def c7 : Bk.S := .for_ (.nm 14) ci7 cb7 [12]
def cb8 : Bk.Ss := (.cons (.ite (.not (.call 5 (.cons (.call 7 (.cons (.var 2) (.cons (.bin .add (.var 9) (.var 3)) (.cons (.var 10) (.cons (.var 8) .nil))))) (.cons (.cst (.bl false)) .nil))))
  (.cons (.ret (.cst (.bl false)))
  .nil)
  .nil)
  .nil)
def ci8 : Bk.It := (.seq (.lst (.cons (.cst .non) (.cons (.tup .nil) (.cons (.tup (.cons (.cst (.str "fetch")) .nil)) (.cons (.tup (.cons (.cst (.str "some")) (.cons (.cst (.int 0)) (.cons (.cst (.int 0)) .nil)))) (.cons (.tup (.cons (.cst (.str "days")) (.cons (.cst (.int 0)) .nil))) (.cons (.tup (.cons (.cst (.str "fetch")) (.cons (.cst .non) .nil))) (.cons (.tup (.cons (.cst (.str "days")) (.cons (.cst .non) (.cons (.cst (.int 0)) .nil)))) (.cons (.tup (.cons (.cst (.str "days")) (.cons (.cst (.bl true)) (.cons (.cst (.bl true)) .nil)))) .nil))))))))))
def c8 : Bk.S := .for_ (.nm 8) ci8 cb8 []
def cb9 : Bk.Ss := (.cons (.ite (.not (.call 5 (.cons (.call 10 (.cons (.bi .list (.cons (.var 2) .nil)) (.cons (.bin .add (.var 9) (.var 3)) (.cons (.var 10) (.cons (.bi .list (.cons (.var 15) .nil)) .nil))))) (.cons (.call 9 (.cons (.var 2) (.cons (.bin .add (.var 9) (.var 3)) (.cons (.var 10) (.cons (.var 15) .nil))))) .nil))))
  (.cons (.ret (.cst (.bl false)))
  .nil)
  .nil)
  (.cons (.ite (.and (.bin .eq (.bi .len (.cons (.var 15) .nil)) (.bi .len (.cons (.var 2) .nil))) (.not (.call 5 (.cons (.call 11 (.cons (.bi .list (.cons (.var 2) .nil)) (.cons (.bi .list (.cons (.var 15) .nil)) .nil))) (.cons (.bi .tuple (.cons (.lc (.bin .sub (.bi .sum (.cons (.slc (.var 15) .no (.so (.bin .add (.var 17) (.cst (.int 1))))) .nil)) (.bi .sum (.cons (.slc (.var 2) .no (.so (.bin .add (.var 17) (.cst (.int 1))))) .nil))) (.nm 17) (.rng (.bi .len (.cons (.var 2) .nil))) .no) .nil)) .nil)))))
  (.cons (.ret (.cst (.bl false)))
  .nil)
  .nil)
  .nil))
def ci9 : Bk.It := (.seq (.bin .add (.slc (.var 11) .no (.so (.cst (.int 3)))) (.lst (.cons (.var 2) (.cons (.rvs (.var 2)) (.cons (.bin .mul (.tup (.cons (.bin .add (.var 9) (.var 3)) .nil)) (.bi .len (.cons (.var 2) .nil))) (.cons (.bin .mul (.tup (.cons (.cst (.int 99)) .nil)) (.bi .len (.cons (.var 2) .nil))) (.cons (.slc (.var 2) (.so (.cst (.int 1))) .no) .nil))))))))
def c9 : Bk.S := .for_ (.nm 15) ci9 cb9 []
theorem ceq : stb3 = (.cons c0 (.cons c1 (.cons c2 (.cons c3 (.cons c4 (.cons c5 (.cons c6 (.cons c7 (.cons c8 (.cons c9 .nil)))))))))) := rfl
section
variable (ns l w : List Int) (v : Nat) (s : Int)
/-- the slots -/
def Ev (a3 a5 a7 a8 a11 a12 a13 a14 a15 : Slot) : En := [.sh (.scr ns), .sh (.lst (intL l)), .sh (.tup (intL w)), a3, .un, a5, .un, a7, a8, .sh (.int v), .sh (.int s), a11, a12, a13, a14, a15, .un, .un]
end
theorem intL_getD' {l : List Int} {i : Nat} (h : i < l.length) : ix (.lst (intL l)) (.int (i : Int)) = .ok (.int (l.getD i 0)) := ix_lst (atI_nat (intL_getD h))
theorem r0 {ns l : List Int} (h : f__law_numbers [.scr ns, .int 0, .int 9] = .ok (.lst (intL l))) :
    Bk.run M_law st0 (.sh (.scr ns) :: List.replicate 17 .un) = .fl (.nx (.sh (.scr ns) :: .sh (.lst (intL l)) :: List.replicate 16 .un)) := by
  simp [st0, M_law, h, fresh]
theorem r1 {ns l : List Int} (hl : l.length = 9) (h0 : ∀ x ∈ l, 0 ≤ x ∧ x < 1000000000) : 
    Bk.run M_law st1 (.sh (.scr ns) :: .sh (.lst (intL l)) :: List.replicate 16 .un) = .fl (.nx (.sh (.scr ns) :: .sh (.lst (intL l)) :: .sh (.tup (intL ((l.take (1 + l.getD 7 0 % 5).toNat).map wg))) :: List.replicate 15 .un)) := by
  have e7 : ix (.lst (intL l)) (.int 7) = .ok (.int (l.getD 7 0)) := intL_getD' (i := 7) (by omega)
  have m5 : ∀ z : Int, bo .mod (.int z) (.int 5) = .ok (.int (z % 5)) := fun z => bo_mod (by decide)
  have hk : (((1 + l.getD 7 0 % 5).toNat : Nat) : Int) = 1 + l.getD 7 0 % 5 := Int.toNat_of_nonneg (by omega)
  have hs : sl (.lst (intL l)) none (some (1 + l.getD 7 0 % 5)) = .ok (.lst (intL (l.take (1 + l.getD 7 0 % 5).toNat))) := by
    have := sl_lstH (intL l) (1 + l.getD 7 0 % 5).toNat (by rw [intL_len]; omega)
    rw [hk, intL_take] at this
    exact this
  have hw := e_wants (l := l.take (1 + l.getD 7 0 % 5).toNat) (by rw [List.length_take]; omega)
  generalize l.getD 7 0 = y at *
  simp [st1, M_law, e7, m5, hs, hw, fresh]
theorem r2 {ns l w : List Int} (hl : l.length = 9) (h0 : ∀ x ∈ l, 0 ≤ x ∧ x < 1000000000) :
    Bk.run M_law st2 (.sh (.scr ns) :: .sh (.lst (intL l)) :: .sh (.tup (intL w)) :: List.replicate 15 .un) = .fl (.nx (Ev ns l w (l.getD 8 0 % 6).toNat (l.getD 8 0 / 6 % 5) .un .un .un .un .un .un .un .un .un)) := by
  have e8 : ix (.lst (intL l)) (.int 8) = .ok (.int (l.getD 8 0)) := intL_getD' (i := 8) (by omega)
  have m6 : ∀ z : Int, bo .mod (.int z) (.int 6) = .ok (.int (z % 6)) := fun z => bo_mod (by decide)
  have m5 : ∀ z : Int, bo .mod (.int z) (.int 5) = .ok (.int (z % 5)) := fun z => bo_mod (by decide)
  have d6 : ∀ z : Int, bo .fdiv (.int z) (.int 6) = .ok (.int (z / 6)) := fun z => bo_fdiv (by decide) (by decide)
  have hk : (((l.getD 8 0 % 6).toNat : Nat) : Int) = l.getD 8 0 % 6 := Int.toNat_of_nonneg (by omega)
  unfold Ev
  rw [hk]
  generalize l.getD 8 0 = y at *
  simp [st2, M_law, e8, m6, m5, d6]
structure smW (w : List Int) : Prop where
  one : 1 ≤ w.length
  most : w.length ≤ 5
  all : ∀ x ∈ w, 0 ≤ x ∧ x ≤ 6
theorem smW.ok {w : List Int} (h : smW w) : okW w := ⟨h.one, Nat.le_trans h.most (by decide), fun x hx => by have := h.all x hx; omega⟩
theorem smW.at {w : List Int} (h : smW w) (d : Nat) : 0 ≤ w.getD d 0 ∧ w.getD d 0 ≤ 6 := by
  rw [List.getD_eq_getElem?_getD]
  cases q : w[d]? with
  | none => exact ⟨by decide, by decide⟩
  | some x => exact h.all x (List.mem_of_getElem? q)
end T10
end
section
set_option autoImplicit false
set_option linter.all false
set_option maxRecDepth 100000
namespace T10
open Bk
def fD (p : Pr) : D := .tup (intL p.1)
theorem mem_cut {α : Type} {xs : List α} {lo hi : Option Int} {x : α} (h : x ∈ cut xs lo hi) : x ∈ xs := List.mem_of_mem_drop (List.mem_of_mem_take h)
theorem cut_len {α : Type} (xs : List α) (lo hi : Option Int) : (cut xs lo hi).length ≤ xs.length := by
  unfold cut
  rw [List.length_take, List.length_drop]; omega
section
variable {ns l w : List Int} {v m : Nat} {s : Int}
def RL (V : Nat) (s : Int) (w : List Int) : List D := (fetchR V s w).map fD
theorem RL_len {V : Nat} (hs : 0 ≤ s ∧ s ≤ 4) (hw : w.length ≤ 5) : (RL V s w).length ≤ 3125 := by
  have h := (rowsK_len (v := V) (s := s) (w := w) hs w.length (Nat.le_refl _)).1
  unfold rowsK at h
  rw [List.take_length] at h
  unfold RL
  rw [List.length_map]
  exact Nat.le_trans h (Nat.le_trans (Nat.pow_le_pow_right (by decide) hw) (by decide))
theorem RL_mem {V : Nat} {d : D} (h : d ∈ RL V s w) : ∃ f, Ft V s w w.length f ∧ d = .tup (intL f) := by
  obtain ⟨p, hp, rfl⟩ := List.mem_map.mp h
  exact ⟨p.1, (mem_fetch.mp hp).2, rfl⟩
theorem RL_data {V : Nat} : ∀ d ∈ RL V s w, isData d = true ∧ depth d ≤ 10 := fun d hd => by
  obtain ⟨f, _, rfl⟩ := RL_mem hd
  constructor
  · show areData (intL f) = true
    exact data_of fun d hd => by obtain ⟨i, _, rfl⟩ := memI hd; rfl
  · show depths (intL f) + 1 ≤ 10
    have : depths (intL f) ≤ 0 := depths_of fun d hd => by obtain ⟨i, _, rfl⟩ := memI hd; exact Nat.le_refl _
    omega
/-- the bounds of one round -/
structure Bd (w : List Int) (v m : Nat) (s : Int) : Prop where
  w : smW w
  v : v ≤ 5
  m : m ≤ 2
  s : 0 ≤ s ∧ s ≤ 4
theorem q0 (h : Bd w v m s) (a5 a7 a8 a11 a12 a13 a14 a15 : Slot) : Bk.run M_law c0 (Ev ns l w v s (.sh (.int m)) a5 a7 a8 a11 a12 a13 a14 a15) = .fl (.nx (Ev ns l w v s (.sh (.int m)) a5 a7 a8 (.sh (.lst (RL (v + m) s w))) a12 a13 a14 a15)) := by
  have e := e_fetchings (v := v + m) (s := s) (w := w) (by have := h.v; have := h.m; omega) h.s h.w.most
  rw [Int.natCast_add] at e
  have e : f__law_fetchings [.tup (intL w), .int ((v : Int) + (m : Int)), .int s] = .ok (.lst (RL (v + m) s w)) := e
  simp [c0, Ev, M_law, e, fresh]
theorem q1 (h : Bd w v m s) (a5 a7 a8 a11 a12 a13 a14 a15 : Slot) : Bk.run M_law c1 (Ev ns l w v s (.sh (.int m)) a5 a7 a8 a11 a12 a13 a14 a15) = .fl (.nx (Ev ns l w v s (.sh (.int m)) (.sh (.lst (badL w (v + m : Nat) s))) a7 a8 a11 a12 a13 a14 a15)) := by
  have hv := h.v
  have hm := h.m
  have hw := h.w.most
  have e := e_bad (w := w) (v := ((v + m : Nat) : Int)) (s := s) (by omega) (by omega) (by have := h.s; omega)
  rw [Int.natCast_add] at e ⊢
  simp [c1, Ev, M_law, e, fresh]
theorem bad_data (w : List Int) (v s : Int) : ∀ d ∈ badL w v s, isData d = true ∧ depth d ≤ 10 := fun d hd => by
  obtain ⟨a, b, rfl⟩ := mem_badL hd
  exact ⟨rfl, Nat.le_of_ble_eq_true rfl⟩
theorem RL_empty {V : Nat} (hw : ∀ d, 0 ≤ w.getD d 0) (hs : 0 ≤ s) : (RL V s w).isEmpty = !can w V s := by
  cases c : can w V s with
  | true =>
    obtain ⟨r, hr⟩ := fetch_head c hw
    unfold RL
    rw [hr]; rfl
  | false =>
    unfold RL
    cases q : fetchR V s w with
    | nil => rfl
    | cons p r =>
      have hp := mem_fetch.mp (show p ∈ fetchR V s w by rw [q]; exact List.mem_cons_self ..)
      have := val_can (val_of hp.2) hs
      rw [this] at c; cases c
theorem bad_empty {V : Int} (hs : 0 ≤ s) : (badL w V s).isEmpty = can w V s := by
  rw [Bool.eq_iff_iff, can_bad hs, List.isEmpty_iff]
theorem q2 (h : Bd w v m s) (a3 a7 a8 a12 a13 a14 a15 : Slot) : Bk.run M_law c2 (Ev ns l w v s a3 (.sh (.lst (badL w (v + m : Nat) s))) a7 a8 (.sh (.lst (RL (v + m) s w))) a12 a13 a14 a15) = .fl (.nx (Ev ns l w v s a3 (.sh (.lst (badL w (v + m : Nat) s))) a7 a8 (.sh (.lst (RL (v + m) s w))) a12 a13 a14 a15)) := by
  have e1 := eq_nil (RL_data (V := v + m) (s := s) (w := w))
  have e2 := ne_nil (bad_data w (v + m : Nat) s)
  rw [RL_empty (fun d => (h.w.at d).1) h.s.1] at e1
  rw [bad_empty h.s.1] at e2
  have m0 : mkL [] = .ok (.lst []) := rfl
  have n1 : ∀ b : Bool, bo .ne (.bl b) (.bl b) = .ok (.bl false) := fun b => by cases b <;> rfl
  generalize can w (v + m : Nat) s = b at *
  generalize badL w ((v + m : Nat) : Int) s = B at *
  simp [c2, Ev, m0, e1, e2, n1]
def told (V : Nat) (s : Int) (w : List Int) : D := match lp w V s with
    | some (.tup l) => .tup (.str "days" :: l)
    | _ => .tup [.str "fetch", .tup (intL (fetched w (lowS V w)))]
theorem q3 (h : Bd w v m s) (a5 a7 a8 a11 a12 a13 a14 a15 : Slot) : Bk.run M_law c3 (Ev ns l w v s (.sh (.int m)) a5 a7 a8 a11 a12 a13 a14 a15) = .fl (.nx (Ev ns l w v s (.sh (.int m)) a5 (.sh (told (v + m) s w)) a8 a11 a12 a13 a14 a15)) := by
  have hv := h.v
  have hm := h.m
  have hs := h.s
  have e := can_fill_ok (w := w) (v := ((v + m : Nat) : Int)) (s := s) (d := .lst (intL w)) h.w.ok .lst (by omega) (by omega)
  have e : f_can_fill [.lst (intL w), .int ((v + m : Nat) : Int), .int s] = .ok (told (v + m) s w) := e
  rw [Int.natCast_add] at e
  have hslot : slotOf false (told (v + m) s w) = .sh (told (v + m) s w) := by
    unfold told
    split <;> rfl
  have hkeep : ∀ ρ r : En, keep (told (v + m) s w) ρ r = r := fun ρ r => by
    unfold told
    split <;> rfl
  simp [c3, Ev, M_law, e, fresh, hslot, hkeep]
end
end T10
end
section
set_option autoImplicit false
set_option linter.all false
set_option maxRecDepth 100000
namespace T10
open Bk
section
variable {ns l w : List Int} {v m : Nat} {s : Int}
theorem okS_ints (n : Nat) {f : List Int} (h : f.length ≤ 100000) : okS (n + 2) (.tup (intL f)) = true := by
  show (decide ((intL f).length ≤ 100000) && (intL f).all (okS (n + 1))) = true
  rw [intL_len, decide_eq_true h, Bool.true_and, List.all_eq_true]
  intro d hd
  obtain ⟨i, _, rfl⟩ := memI hd
  rfl
theorem okS_fetch {f : List Int} (h : f.length ≤ 100000) : okS 3 (.tup [.str "fetch", .tup (intL f)]) = true := by
  show (decide ((2 : Nat) ≤ 100000) && (PySem.PyData.strOk "fetch" && (okS 2 (.tup (intL f)) && true))) = true
  rw [okFetch, okS_ints 0 h]; rfl
theorem okS_days (a b : Int) : okS 3 (.tup [.str "days", .int a, .int b]) = true := by
  show (decide ((3 : Nat) ≤ 100000) && (PySem.PyData.strOk "days" && (true && (true && true)))) = true
  rw [okDays]; rfl
theorem told_can {V : Nat} (h : can w V s = true) (hs : 0 ≤ s) : told V s w = .tup [.str "fetch", .tup (intL (fetched w (lowS V w)))] := by
  unfold told
  rw [lp_head, (can_bad hs).mp h]
  rfl
theorem told_not {V : Nat} (h : can w V s = false) (hs : 0 ≤ s) : ∃ (a b : Nat) (r : List D), badL w V s = prD a b :: r ∧ told V s w = .tup [.str "days", .int a, .int b] := by
  have hne : badL w V s ≠ [] := fun z => by rw [(can_bad hs).mpr z] at h; cases h
  obtain ⟨x, xs, hx⟩ := List.exists_cons_of_ne_nil hne
  obtain ⟨a, b, rfl⟩ := mem_badL (w := w) (v := V) (s := s) (d := x) (by rw [hx]; exact List.mem_cons_self ..)
  refine ⟨a, b, xs, hx, ?_⟩
  unfold told
  rw [lp_head, hx]
  rfl
theorem q4 (h : Bd w v m s) (a3 a8 a12 a13 a14 a15 : Slot) : Bk.run M_law c4 (Ev ns l w v s a3 (.sh (.lst (badL w (v + m : Nat) s))) (.sh (told (v + m) s w)) a8 (.sh (.lst (RL (v + m) s w))) a12 a13 a14 a15) = .fl (.nx (Ev ns l w v s a3 (.sh (.lst (badL w (v + m : Nat) s))) (.sh (told (v + m) s w)) a8 (.sh (.lst (RL (v + m) s w))) a12 a13 a14 a15)) := by
  have e1 := ne_nil (RL_data (V := v + m) (s := s) (w := w))
  rw [RL_empty (fun d => (h.w.at d).1) h.s.1] at e1
  have m0 : mkL [] = .ok (.lst []) := rfl
  have m2 : ∀ a b : D, mkT [a, b] = .ok (.tup [a, b]) := fun _ _ => rfl
  have m3 : ∀ a b c : D, mkT [a, b, c] = .ok (.tup [a, b, c]) := fun _ _ _ => rfl
  have m1 : ∀ a : D, mkT [a] = .ok (.tup [a]) := fun _ => rfl
  cases c : can w (v + m : Nat) s with
  | true =>
    rw [told_can c h.s.1]
    obtain ⟨r, hr⟩ := fetch_head c (fun d => (h.w.at d).1)
    have hR : RL (v + m) s w = .tup (intL (fetched w (lowS (v + m : Nat) w))) :: r.map fD := by
      unfold RL
      rw [hr]; rfl
    have sm := same_refl 3 _ (okS_fetch (f := fetched w (lowS (v + m : Nat) w)) (by have := h.w.most; simp [fetched]; omega))
    rw [c] at e1
    have i0 : ix (.lst (RL (v + m) s w)) (.int 0) = .ok (.tup (intL (fetched w (lowS (v + m : Nat) w)))) := by
      rw [hR]; exact ix_lst (atI_nat (i := 0) rfl)
    generalize RL (v + m) s w = R at *
    generalize intL (fetched w (lowS (v + m : Nat) w)) = F at *
    generalize badL w ((v + m : Nat) : Int) s = B at *
    simp [c4, Ev, m0, e1, i0, m2, M_law, sm]
  | false =>
    obtain ⟨a, b, r, hr, ht⟩ := told_not c h.s.1
    rw [ht]
    rw [c] at e1
    have sm := same_refl 3 _ (okS_days a b)
    have i0 : ix (.lst (badL w (v + m : Nat) s)) (.int 0) = .ok (prD a b) := by
      rw [hr]; exact ix_lst (atI_nat (i := 0) rfl)
    have ea : bo .add (.tup [.str "days"]) (prD a b) = .ok (.tup [.str "days", .int a, .int b]) := rfl
    generalize RL (v + m) s w = R at *
    generalize badL w ((v + m : Nat) : Int) s = B at *
    simp [c4, Ev, m0, e1, i0, m1, ea, M_law, sm]
/-- the answers that are tried -/
def Ans (t : D) : Prop := (∃ f : List Int, f.length ≤ 100 ∧ t = .tup [.str "fetch", .tup (intL f)]) ∨ ∃ a b : Int, t = .tup [.str "days", .int a, .int b]
theorem q5 (h : Bd w v m s) (a3 a5 a7 a8 a12 a13 a14 a15 : Slot) : ∃ T : List D, (∀ t ∈ T, Ans t) ∧ T.length ≤ 10000 ∧ Bk.run M_law c5 (Ev ns l w v s a3 a5 a7 a8 (.sh (.lst (RL (v + m) s w))) a12 a13 a14 a15) = .fl (.nx (Ev ns l w v s a3 a5 a7 a8 (.sh (.lst (RL (v + m) s w))) (.ow T) a13 a14 a15)) := by
  have hl := RL_len (V := v + m) h.s h.w.most
  have c1 := cut_len (RL (v + m) s w) none (some 3)
  have c2 := cut_len (RL (v + m) s w) (some (-3)) none
  have hmem : ∀ d ∈ cut (RL (v + m) s w) none (some 3) ++ cut (RL (v + m) s w) (some (-3)) none, ∃ f : List Int, f.length ≤ 100 ∧ d = .tup (intL f) := fun d hd => by
    have : d ∈ RL (v + m) s w := by
      rcases List.mem_append.mp hd with z | z
      · exact mem_cut z
      · exact mem_cut z
    obtain ⟨f, hf, rfl⟩ := RL_mem this
    exact ⟨f, by rw [hf.len]; have := h.w.most; omega, rfl⟩
  have s1 : sl (.lst (RL (v + m) s w)) none (some 3) = .ok (.lst (cut (RL (v + m) s w) none (some 3))) := rfl
  have s2 : sl (.lst (RL (v + m) s w)) (some (-3)) none = .ok (.lst (cut (RL (v + m) s w) (some (-3)) none)) := rfl
  have hn := h.w.one
  have hm5 := h.w.most
  have hz := bo_mulT (x := [D.int 0]) (n := w.length) (by omega) (by simp) (by simp)
  have hz2 : (List.replicate w.length [D.int 0]).flatten = intL (List.replicate w.length 0) := by
    generalize w.length = n
    induction n with
    | zero => rfl
    | succ n ih => rw [List.replicate_succ, List.flatten_cons, ih]; rfl
  rw [hz2] at hz
  generalize RL (v + m) s w = R at *
  generalize cut R none (some 3) = R1 at *
  generalize cut R (some (-3)) none = R2 at *
  have m0 : bo .add (.lst R1) (.lst R2) = .ok (.lst (R1 ++ R2)) := mkL_le (by rw [List.length_append]; omega)
  have m1 : ∀ a : D, mkT [a] = .ok (.tup [a]) := fun _ => rfl
  have m2 : ∀ a b : D, mkT [a, b] = .ok (.tup [a, b]) := fun _ _ => rfl
  have m3 : ∀ a b c : D, mkT [a, b, c] = .ok (.tup [a, b, c]) := fun _ _ _ => rfl
  have m5 : ∀ a b c d e : D, mkL [a, b, c, d, e] = .ok (.lst [a, b, c, d, e]) := fun _ _ _ _ _ => rfl
  have e1 : ev M_law (.lc (.tup (.cons (.cst (.str "fetch")) (.cons (.var 15) .nil))) (.nm 15) (.seq (.bin .add (.slc (.var 11) .no (.so (.cst (.int 3)))) (.slc (.var 11) (.so (.neg (.cst (.int 3)))) .no))) .no) (Ev ns l w v s a3 a5 a7 a8 (.sh (.lst R)) a12 a13 a14 a15) = .ok (.lst ((R1 ++ R2).map fun d => .tup [.str "fetch", d])) := by
    rw [ev_lc]
    have e : evIt M_law true (.seq (.bin .add (.slc (.var 11) .no (.so (.cst (.int 3)))) (.slc (.var 11) (.so (.neg (.cst (.int 3)))) .no))) (Ev ns l w v s a3 a5 a7 a8 (.sh (.lst R)) a12 a13 a14 a15) = .ok (R1 ++ R2) := by
      simp [Ev, s1, s2, m0]
    rw [e, bind_ok, Bk.comp_map (g := fun d => .tup [.str "fetch", d]) (fun d hd => by simp [Ev, m2])]
    exact mkL_le (by rw [List.length_map, List.length_append]; omega)
  refine ⟨(R1 ++ R2).map (fun d => D.tup [.str "fetch", d]) ++ [.tup [.str "fetch", .tup (intL w)], .tup [.str "fetch", .tup (intL (List.replicate w.length 0))], .tup [.str "days", .int 0, .int 0], .tup [.str "days", .int 1, .int 0], .tup [.str "days", .int 0, .int 99]], fun t ht => ?_, ?_, ?_⟩
  · rcases List.mem_append.mp ht with z | z
    · obtain ⟨d, hd, rfl⟩ := List.mem_map.mp z
      obtain ⟨f, hf, rfl⟩ := hmem d hd
      exact .inl ⟨f, hf, rfl⟩
    · simp only [List.mem_cons, List.not_mem_nil, or_false] at z
      rcases z with rfl | rfl | rfl | rfl | rfl
      · exact .inl ⟨w, by omega, rfl⟩
      · exact .inl ⟨_, by rw [List.length_replicate]; omega, rfl⟩
      · exact .inr ⟨_, _, rfl⟩
      · exact .inr ⟨_, _, rfl⟩
      · exact .inr ⟨_, _, rfl⟩
  · rw [List.length_append, List.length_map, List.length_append]
    show _ + 5 ≤ _
    omega
  · unfold c5
    rw [run_asg, frz_nil, ev_bin, bw_lc, e1]
    have hql : ((R1 ++ R2).map (fun d => D.tup [.str "fetch", d])).length ≤ 9000 := by
      rw [List.length_map, List.length_append]; omega
    generalize (R1 ++ R2).map (fun d => D.tup [.str "fetch", d]) = q at *
    have a0 : ∀ x : List D, x.length ≤ 10 → bo .add (.lst q) (.lst x) = .ok (.lst (q ++ x)) := fun x hx => mkL_le (by rw [List.length_append]; omega)
    simp [Ev, m2, m3, m1, m5, hz, intL_len, a0, fresh]
end
end T10
end
section
set_option autoImplicit false
set_option linter.all false
set_option maxRecDepth 100000
namespace T10
open Bk
section
variable {ns l w : List Int} {v m : Nat} {s : Int}
theorem q6 (h : smW w) (a3 a5 a7 a8 a11 x13 a14 a15 : Slot) {T : List D} (hT : ∀ t ∈ T, Ans t) (hl : T.length ≤ 10000) : ∃ (T' : List D) (a13 : Slot), (∀ t ∈ T', Ans t) ∧ T'.length ≤ 11000 ∧ Bk.run M_law c6 (Ev ns l w v s a3 a5 a7 a8 a11 (.ow T) x13 a14 a15) = .fl (.nx (Ev ns l w v s a3 a5 a7 a8 a11 (.ow T') a13 a14 a15)) := by
  have hm5 := h.most
  have hr := rng0 (n := w.length) (by omega)
  have L := loop_inv (t := .nm 13) (f := runs M_law cb6) (fun k ρ => ∃ (T' : List D) (a13 : Slot), (∀ t ∈ T', Ans t) ∧ T'.length ≤ 10000 + 10 * k ∧ ρ = Ev ns l w v s a3 a5 a7 a8 a11 (.ow T') a13 a14 a15) (ds := (List.range w.length).map fun i => D.int ((i : Nat) : Int)) (ρ := Ev ns l w v s a3 a5 a7 a8 a11 (.ow T) x13 a14 a15) 0 ⟨T, x13, hT, by omega, rfl⟩ (fun i d ρ hd ⟨T', a13, h1, h2, h3⟩ => by
    have hi : i < w.length := by
      have := (List.getElem?_eq_some_iff.mp hd).1
      simpa using this
    have hdv : d = .int (i : Int) := by
      rw [List.getElem?_map, List.getElem?_range hi] at hd
      simpa using hd.symm
    subst hdv; subst h3
    rw [Nat.zero_add] at h2
    refine ⟨Ev ns l w v s a3 a5 a7 a8 a11 (.ow T') (.sh (.int (i : Int))) a14 a15, rfl, Ev ns l w v s a3 a5 a7 a8 a11 (.ow (T' ++ (List.range (w.length - i)).map fun k => D.tup [.str "days", .int i, .int ((i + k : Nat) : Int)])) (.sh (.int (i : Int))) a14 a15, .inl ?_, _, _, fun t ht => ?_, ?_, rfl⟩
    · have m3 : ∀ a b c : D, mkT [a, b, c] = .ok (.tup [a, b, c]) := fun _ _ _ => rfl
      have hr2 := rngAB (a := i) (b := w.length) (by omega) (by omega)
      have e1 : ev M_law (.lc (.tup (.cons (.cst (.str "days")) (.cons (.var 13) (.cons (.var 16) .nil)))) (.nm 16) (.rng2 (.var 13) (.bi .len (.cons (.var 2) .nil))) .no) (Ev ns l w v s a3 a5 a7 a8 a11 (.ow T') (.sh (.int (i : Int))) a14 a15) = .ok (.lst ((List.range (w.length - i)).map fun k => D.tup [.str "days", .int i, .int ((i + k : Nat) : Int)])) := by
        rw [ev_lc]
        have e : evIt M_law true (.rng2 (.var 13) (.bi .len (.cons (.var 2) .nil))) (Ev ns l w v s a3 a5 a7 a8 a11 (.ow T') (.sh (.int (i : Int))) a14 a15) = .ok ((List.range (w.length - i)).map fun k => D.int ((i + k : Nat) : Int)) := by
          simp [Ev, intL_len, hr2]
        rw [e, bind_ok, Bk.comp_map (g := fun d => D.tup [.str "days", .int i, d]) (fun d hd => by simp [Ev, m3])]
        rw [List.map_map]
        exact mkL_le (by rw [List.length_map, List.length_range]; omega)
      have hql : ((List.range (w.length - i)).map fun k => D.tup [.str "days", .int i, .int ((i + k : Nat) : Int)]).length ≤ 10 := by
        rw [List.length_map, List.length_range]; omega
      unfold cb6
      rw [runs_cons, run_asg, frz_nil, ev_bin, bw_lc, e1]
      generalize ((List.range (w.length - i)).map fun k => D.tup [.str "days", .int i, .int ((i + k : Nat) : Int)]) = q at *
      have a0 : bo .add (.lst T') (.lst q) = .ok (.lst (T' ++ q)) := mkL_le (by rw [List.length_append]; omega)
      simp [Ev, a0, fresh]
    · rcases List.mem_append.mp ht with z | z
      · exact h1 t z
      · obtain ⟨k, _, rfl⟩ := List.mem_map.mp z
        exact .inr ⟨_, _, rfl⟩
    · rw [List.length_append, List.length_map, List.length_range]; omega)
  obtain ⟨ρ', hL, T', a13, h1, h2, h3⟩ := L
  rw [List.length_map, List.length_range] at h2
  refine ⟨T', a13, h1, by omega, ?_⟩
  subst h3
  unfold c6
  rw [run_for, frz_nil]
  have e : evIt M_law false ci6 (Ev ns l w v s a3 a5 a7 a8 a11 (.ow T) x13 a14 a15) = .ok ((List.range w.length).map fun i => D.int ((i : Nat) : Int)) := by
    simp [ci6, Ev, intL_len, hr]
  rw [e, O.of_ok, hL]
theorem q7 (h : Bd w v m s) (a5 a7 a8 a11 a13 x14 a15 : Slot) {T : List D} (hT : ∀ t ∈ T, Ans t) : ∃ a12 a14, Bk.run M_law c7 (Ev ns l w v s (.sh (.int m)) a5 a7 a8 a11 (.ow T) a13 x14 a15) = .fl (.nx (Ev ns l w v s (.sh (.int m)) a5 a7 a8 a11 a12 a13 a14 a15)) := by
  have hv := h.v
  have hm := h.m
  have hs := h.s
  have hw5 := h.w.most
  have L := loop_keep (t := .nm 14) (f := runs M_law cb7) (fun ρ => ∃ a14, ρ = Ev ns l w v s (.sh (.int m)) a5 a7 a8 a11 (.sh (.lst T)) a13 a14 a15) (ds := T) (ρ := Ev ns l w v s (.sh (.int m)) a5 a7 a8 a11 (.sh (.lst T)) a13 x14 a15) ⟨_, rfl⟩ (fun d hd ρ ⟨a14, hy⟩ => by
    subst hy
    refine ⟨Ev ns l w v s (.sh (.int m)) a5 a7 a8 a11 (.sh (.lst T)) a13 (.sh d) a15, rfl, Ev ns l w v s (.sh (.int m)) a5 a7 a8 a11 (.sh (.lst T)) a13 (.sh d) a15, .inl ?_, .sh d, rfl⟩
    have key : ∃ (b : Bool), f__law_listed 3 [d] = .ok (lsD 3 d) ∧ f_fill_holds [.lst (intL w), .int ((v : Int) + (m : Int)), .int s, lsD 3 d] = .ok (.bl b) ∧ f__law_so [.tup (intL w), .int ((v : Int) + (m : Int)), .int s, d] = .ok (.bl b) := by
      rcases hT d hd with ⟨f, hf, rfl⟩ | ⟨a, b, rfl⟩
      · refine ⟨isF ((v : Int) + (m : Int)) s w f, listed 3 _ (okS_fetch (by omega)), ?_, so_fetch (by omega) hf⟩
        have e : lsD 3 (.tup [.str "fetch", .tup (intL f)]) = .lst [.str "fetch", .lst (intL f)] := by
          show D.lst [.str "fetch", .lst ((intL f).map (lsD 1))] = _
          have : (intL f).map (lsD 1) = intL f := by
            refine List.map_congr_left (fun d hd => ?_) |>.trans (List.map_id _)
            obtain ⟨i, _, rfl⟩ := memI hd
            rfl
          rw [this]
        rw [e]
        exact holds_fetch h.w.ok .lst (by omega) (by omega)
      · refine ⟨pairB w ((v : Int) + (m : Int)) s a b, listed 3 _ (okS_days a b), ?_, so_days (by omega) (by omega) (by omega) a b⟩
        exact holds_days h.w.ok .lst (by omega) (by omega) a b
    obtain ⟨b, k1, k2, k3⟩ := key
    have sm := same_refl 3 (.bl b) rfl
    have hbl : bi .list [.tup (intL w)] = .ok (.lst (intL w)) := rfl
    simp [cb7, Ev, M_law, k1, k2, k3, sm])
  obtain ⟨ρ', hL, a14, hy⟩ := L
  refine ⟨.sh (.lst T), a14, ?_⟩
  subst hy
  unfold c7
  rw [run_for]
  have e0 : frz [12] (Ev ns l w v s (.sh (.int m)) a5 a7 a8 a11 (.ow T) a13 x14 a15) = Ev ns l w v s (.sh (.int m)) a5 a7 a8 a11 (.sh (.lst T)) a13 x14 a15 := rfl
  rw [e0]
  have e : evIt M_law false ci7 (Ev ns l w v s (.sh (.int m)) a5 a7 a8 a11 (.sh (.lst T)) a13 x14 a15) = .ok T := rfl
  rw [e, O.of_ok, hL]
theorem q8 (h : Bd w v m s) (a5 a7 a8 a11 a12 a13 a14 a15 : Slot) : ∃ b8, Bk.run M_law c8 (Ev ns l w v s (.sh (.int m)) a5 a7 a8 a11 a12 a13 a14 a15) = .fl (.nx (Ev ns l w v s (.sh (.int m)) a5 a7 b8 a11 a12 a13 a14 a15)) := by
  have hv := h.v
  have hm := h.m
  have hs := h.s
  have L := loop_keep (t := .nm 8) (f := runs M_law cb8) (fun ρ => ∃ a8, ρ = Ev ns l w v s (.sh (.int m)) a5 a7 a8 a11 a12 a13 a14 a15) (ds := wrongA) (ρ := Ev ns l w v s (.sh (.int m)) a5 a7 a8 a11 a12 a13 a14 a15) ⟨_, rfl⟩ (fun d hd ρ ⟨a8, hy⟩ => by
    subst hy
    refine ⟨Ev ns l w v s (.sh (.int m)) a5 a7 (.sh d) a11 a12 a13 a14 a15, rfl, Ev ns l w v s (.sh (.int m)) a5 a7 (.sh d) a11 a12 a13 a14 a15, .inl ?_, .sh d, rfl⟩
    have k := holds_wrong (w := w) (v := (v : Int) + (m : Int)) (s := s) (d := .tup (intL w)) h.w.ok .tup (by omega) (by omega) hd
    have sm := same_refl 3 (.bl false) rfl
    simp [cb8, Ev, M_law, k, sm])
  obtain ⟨ρ', hL, b8, hy⟩ := L
  refine ⟨b8, ?_⟩
  subst hy
  unfold c8
  rw [run_for, frz_nil]
  have e : evIt M_law false ci8 (Ev ns l w v s (.sh (.int m)) a5 a7 a8 a11 a12 a13 a14 a15) = .ok wrongA := rfl
  rw [e, O.of_ok, hL]
end
end T10
end
section
set_option autoImplicit false
set_option linter.all false
set_option maxRecDepth 100000
namespace T10
open Bk
section
variable {ns l w : List Int} {v m : Nat} {s : Int}
def Rw (w : List Int) (t : D) : Prop := ∃ f : List Int, t = .tup (intL f) ∧ f.length ≤ 100 ∧ (f.length = w.length → ∀ x ∈ f, 0 ≤ x ∧ x ≤ 99)
theorem q9b (h : Bd w v m s) (a5 a7 a8 a11 a12 a13 a14 : Slot) {d : D} (hd : Rw w d) : runs M_law cb9 (Ev ns l w v s (.sh (.int m)) a5 a7 a8 a11 a12 a13 a14 (.sh d)) = .fl (.nx (Ev ns l w v s (.sh (.int m)) a5 a7 a8 a11 a12 a13 a14 (.sh d))) := by
  have hv := h.v
  have hm := h.m
  have hs := h.s
  have hw5 := h.w.most
  obtain ⟨f, rfl, hf, ha⟩ := hd
  have k1 := is_fetch_ok (w := w) (f := f) (v := (v : Int) + (m : Int)) (s := s) (d := .lst (intL w)) (e := .lst (intL f)) h.w.ok .lst (by omega) (by omega) .lst
  have k2 := e_lawF (v := (v : Int) + (m : Int)) (s := s) (w := w) (f := f) (by omega) hf
  have sm := same_refl 3 (.bl (isF ((v : Int) + (m : Int)) s w f)) rfl
  have f5 : M_law.fns[5]? = some (f__law_same 3) := rfl
  have f9 : M_law.fns[9]? = some f__law_is_fetching := rfl
  have f10 : M_law.fns[10]? = some f_is_fetching := rfl
  have f11 : M_law.fns[11]? = some f_stock := rfl
  by_cases hl : f.length = w.length
  · have k3 := stock_ok (w := w) (f := f) (d := .lst (intL w)) (e := .lst (intL f)) h.w.ok .lst .lst hl (ha hl)
    have sm2 := same_refl 3 (.tup (intL (stocks w f))) (okS_ints 1 (by simp [stocks]; omega))
    have hr := rng0 (n := w.length) (by omega)
    have e2 : ∀ ρ : En, ρ = all1 (Ev ns l w v s (.sh (.int m)) a5 a7 a8 a11 a12 a13 a14 (.sh (.tup (intL f)))) → ev M_law (.lc (.bin .sub (.bi .sum (.cons (.slc (.var 15) .no (.so (.bin .add (.var 17) (.cst (.int 1))))) .nil)) (.bi .sum (.cons (.slc (.var 2) .no (.so (.bin .add (.var 17) (.cst (.int 1))))) .nil))) (.nm 17) (.rng (.bi .len (.cons (.var 2) .nil))) .no) ρ = .ok (.lst (intL (stocks w f))) := fun ρ hρ => by
      subst hρ
      rw [ev_lc]
      have e : evIt M_law true (.rng (.bi .len (.cons (.var 2) .nil))) (all1 (Ev ns l w v s (.sh (.int m)) a5 a7 a8 a11 a12 a13 a14 (.sh (.tup (intL f))))) = .ok ((List.range w.length).map fun i => D.int ((i : Nat) : Int)) := by
        simp [Ev, intL_len, hr]
      rw [e, bind_ok, Bk.comp_map (g := fun d => match d with | .int i => .int ((f.take (i.toNat + 1)).sum - (w.take (i.toNat + 1)).sum) | d => d) (fun d hd => by
        obtain ⟨i, hi, rfl⟩ := List.mem_map.mp hd
        have hi := List.mem_range.mp hi
        have e1 : sl (.tup (intL f)) none (some ((i : Int) + 1)) = .ok (.tup (intL (f.take (i + 1)))) := by
          have := sl_tupH (intL f) (i + 1) (by rw [intL_len]; omega)
          rw [intL_take] at this
          exact this
        have e2 : sl (.tup (intL w)) none (some ((i : Int) + 1)) = .ok (.tup (intL (w.take (i + 1)))) := by
          have := sl_tupH (intL w) (i + 1) (by rw [intL_len]; omega)
          rw [intL_take] at this
          exact this
        simp [Ev, e1, e2])]
      have e4 : (List.map (fun i : Nat => D.int (i : Int)) (List.range w.length)).map (fun d => match d with | .int i => D.int ((f.take (i.toNat + 1)).sum - (w.take (i.toNat + 1)).sum) | d => d) = intL (stocks w f) := by
        simp [stocks, intL]
      rw [e4]
      exact mkL_le (by simp [stocks, intL_len]; omega)
    have e2 := e2 _ rfl
    have hlen : (intL (stocks w f)).length ≤ 16777216 := by simp [stocks, intL_len]; omega
    have e2 : ev M_law (.lc (.bin .sub (.bi .sum (.cons (.slc (.var 15) .no (.so (.bin .add (.var 17) (.cst (.int 1))))) .nil)) (.bi .sum (.cons (.slc (.var 2) .no (.so (.bin .add (.var 17) (.cst (.int 1))))) .nil))) (.nm 17) (.rng (.bi .len (.cons (.var 2) .nil))) .no) [.sh (.scr ns), .sh (.lst (intL l)), .sh (.tup (intL w)), .sh (.int m), .un, frz1 a5, .un, frz1 a7, frz1 a8, .sh (.int v), .sh (.int s), frz1 a11, frz1 a12, frz1 a13, frz1 a14, .sh (.tup (intL f)), .un, .un] = .ok (.lst (intL (stocks w f))) := by
      simpa [Ev, -ev_lc] using e2
    simp [cb9, Ev, -ev_lc, f5, f9, f10, f11, k1, k2, sm, intL_len, hl, k3, e2, mkL_le hlen, sm2]
  · have hl' : ¬ (f.length : Int) = w.length := by omega
    simp [cb9, Ev, -ev_lc, f5, f9, f10, f11, k1, k2, sm, intL_len, hl']
theorem rep_flat (n : Nat) (x : Int) : (List.replicate n [D.int x]).flatten = intL (List.replicate n x) := by
  induction n with
  | zero => rfl
  | succ n ih => rw [List.replicate_succ, List.flatten_cons, ih]; rfl
theorem q9 (h : Bd w v m s) (a5 a7 a8 a12 a13 a14 a15 : Slot) : ∃ b15, Bk.run M_law c9 (Ev ns l w v s (.sh (.int m)) a5 a7 a8 (.sh (.lst (RL (v + m) s w))) a12 a13 a14 a15) = .fl (.nx (Ev ns l w v s (.sh (.int m)) a5 a7 a8 (.sh (.lst (RL (v + m) s w))) a12 a13 a14 b15)) := by
  have hv := h.v
  have hm := h.m
  have hw5 := h.w.most
  have hw1 := h.w.one
  have hl := RL_len (V := v + m) h.s h.w.most
  have c1 := cut_len (RL (v + m) s w) none (some 3)
  have s1 : sl (.lst (RL (v + m) s w)) none (some 3) = .ok (.lst (cut (RL (v + m) s w) none (some 3))) := rfl
  have hz1 := bo_mulT (x := [D.int ((v : Int) + (m : Int))]) (n := w.length) (by omega) (by simp) (by simp)
  have hz2 := bo_mulT (x := [D.int 99]) (n := w.length) (by omega) (by simp) (by simp)
  rw [rep_flat] at hz1 hz2
  have s2 : sl (.tup (intL w)) (some 1) none = .ok (.tup (intL (cut w (some 1) none))) := by
    show R.ok (D.tup (cut (intL w) (some 1) none)) = _
    unfold cut
    rw [intL_len, intL_drop, intL_take]
  have hcw : (cut w (some 1) none).length = w.length - 1 := by
    unfold cut
    have e1 : sIx w.length 0 (some 1) = 1 := by
      unfold sIx
      dsimp only
      rw [if_neg (by decide)]
      show min 1 w.length = 1
      omega
    have e2 : sIx w.length w.length none = w.length := rfl
    rw [e1, e2, List.length_take, List.length_drop]; omega
  have hall : ∀ d ∈ cut (RL (v + m) s w) none (some 3) ++ [.tup (intL w), .tup (intL w.reverse), .tup (intL (List.replicate w.length ((v : Int) + (m : Int)))), .tup (intL (List.replicate w.length 99)), .tup (intL (cut w (some 1) none))], Rw w d := fun d hd => by
    rcases List.mem_append.mp hd with z | z
    · obtain ⟨f, hf, rfl⟩ := RL_mem (mem_cut z)
      refine ⟨f, rfl, by rw [hf.len]; omega, fun _ x hx => ?_⟩
      obtain ⟨i, hi, rfl⟩ := List.getElem_of_mem hx
      have := (hf.all i (by rw [← hf.len]; exact hi)).1
      rw [List.getD_eq_getElem?_getD, List.getElem?_eq_getElem hi] at this
      have t1 : 0 ≤ f[i] := this.1
      have t2 : f[i] ≤ ((v + m : Nat) : Int) := this.2
      omega
    · simp only [List.mem_cons, List.not_mem_nil, or_false] at z
      rcases z with rfl | rfl | rfl | rfl | rfl
      · exact ⟨w, rfl, by omega, fun _ x hx => by have := h.w.all x hx; omega⟩
      · exact ⟨w.reverse, rfl, by rw [List.length_reverse]; omega, fun _ x hx => by have := h.w.all x (List.mem_reverse.mp hx); omega⟩
      · exact ⟨_, rfl, by rw [List.length_replicate]; omega, fun _ x hx => by rw [(List.mem_replicate.mp hx).2]; omega⟩
      · exact ⟨_, rfl, by rw [List.length_replicate]; omega, fun _ x hx => by rw [(List.mem_replicate.mp hx).2]; omega⟩
      · exact ⟨_, rfl, by omega, fun z => by omega⟩
  have e : evIt M_law false ci9 (Ev ns l w v s (.sh (.int m)) a5 a7 a8 (.sh (.lst (RL (v + m) s w))) a12 a13 a14 a15) = .ok (cut (RL (v + m) s w) none (some 3) ++ [.tup (intL w), .tup (intL w.reverse), .tup (intL (List.replicate w.length ((v : Int) + (m : Int)))), .tup (intL (List.replicate w.length 99)), .tup (intL (cut w (some 1) none))]) := by
    generalize RL (v + m) s w = R at *
    generalize cut R none (some 3) = R1 at *
    have m5 : ∀ a b c d e : D, mkL [a, b, c, d, e] = .ok (.lst [a, b, c, d, e]) := fun _ _ _ _ _ => rfl
    have m1 : ∀ a : D, mkT [a] = .ok (.tup [a]) := fun _ => rfl
    have a0 : ∀ x : List D, x.length ≤ 10 → bo .add (.lst R1) (.lst x) = .ok (.lst (R1 ++ x)) := fun x hx => mkL_le (by rw [List.length_append]; omega)
    simp [ci9, Ev, s1, m5, m1, hz1, hz2, s2, intL_len, a0, intL_rev]
  have L := loop_keep (t := .nm 15) (f := runs M_law cb9) (fun ρ => ∃ b15, ρ = Ev ns l w v s (.sh (.int m)) a5 a7 a8 (.sh (.lst (RL (v + m) s w))) a12 a13 a14 b15) (ds := cut (RL (v + m) s w) none (some 3) ++ [.tup (intL w), .tup (intL w.reverse), .tup (intL (List.replicate w.length ((v : Int) + (m : Int)))), .tup (intL (List.replicate w.length 99)), .tup (intL (cut w (some 1) none))]) (ρ := Ev ns l w v s (.sh (.int m)) a5 a7 a8 (.sh (.lst (RL (v + m) s w))) a12 a13 a14 a15) ⟨_, rfl⟩ (fun d hd ρ ⟨b15, hy⟩ => by
    subst hy
    exact ⟨Ev ns l w v s (.sh (.int m)) a5 a7 a8 (.sh (.lst (RL (v + m) s w))) a12 a13 a14 (.sh d), rfl, _, .inl (q9b h a5 a7 a8 _ a12 a13 a14 (hall d hd)), _, rfl⟩)
  obtain ⟨ρ', hL, b15, hy⟩ := L
  refine ⟨b15, ?_⟩
  subst hy
  unfold c9
  rw [run_for, frz_nil, e, O.of_ok, hL]
end
end T10
end
section
set_option autoImplicit false
set_option linter.all false
set_option maxRecDepth 100000
namespace T10
open Bk
section
variable {ns l w : List Int} {v : Nat} {s : Int}
theorem r3b (h : smW w) (hv : v ≤ 5) (hs : 0 ≤ s ∧ s ≤ 4) {m : Nat} (hm : m ≤ 2) (a5 a7 a8 a11 a12 a13 a14 a15 : Slot) : ∃ b5 b7 b8 b11 b12 b13 b14 b15, runs M_law stb3 (Ev ns l w v s (.sh (.int m)) a5 a7 a8 a11 a12 a13 a14 a15) = .fl (.nx (Ev ns l w v s (.sh (.int m)) b5 b7 b8 b11 b12 b13 b14 b15)) := by
  have B : Bd w v m s := ⟨h, hv, hm, hs⟩
  rw [ceq]
  rw [runs_cons, q0 B, O.next_nx, runs_cons, q1 B, O.next_nx, runs_cons, q2 B, O.next_nx, runs_cons, q3 B, O.next_nx, runs_cons, q4 B, O.next_nx, runs_cons]
  obtain ⟨T, hT, hTl, s5⟩ := q5 (ns := ns) (l := l) B (.sh (.int m)) (.sh (.lst (badL w (v + m : Nat) s))) (.sh (told (v + m) s w)) a8 a12 a13 a14 a15
  rw [s5, O.next_nx, runs_cons]
  obtain ⟨T', a13', hT', _, s6⟩ := q6 (ns := ns) (l := l) (v := v) (s := s) h (.sh (.int m)) (.sh (.lst (badL w (v + m : Nat) s))) (.sh (told (v + m) s w)) a8 (.sh (.lst (RL (v + m) s w))) a13 a14 a15 hT hTl
  rw [s6, O.next_nx, runs_cons]
  obtain ⟨a12', a14', s7⟩ := q7 (ns := ns) (l := l) B (.sh (.lst (badL w (v + m : Nat) s))) (.sh (told (v + m) s w)) a8 (.sh (.lst (RL (v + m) s w))) a13' a14 a15 hT'
  rw [s7, O.next_nx, runs_cons]
  obtain ⟨a8', s8⟩ := q8 (ns := ns) (l := l) B (.sh (.lst (badL w (v + m : Nat) s))) (.sh (told (v + m) s w)) a8 (.sh (.lst (RL (v + m) s w))) a12' a13' a14' a15
  rw [s8, O.next_nx, runs_cons]
  obtain ⟨a15', s9⟩ := q9 (ns := ns) (l := l) B (.sh (.lst (badL w (v + m : Nat) s))) (.sh (told (v + m) s w)) a8' a12' a13' a14' a15
  rw [s9, O.next_nx, runs_nil]
  exact ⟨_, _, _, _, _, _, _, _, rfl⟩
theorem r3 (h : smW w) (hv : v ≤ 5) (hs : 0 ≤ s ∧ s ≤ 4) : ∃ a3 b5 b7 b8 b11 b12 b13 b14 b15, Bk.run M_law st3 (Ev ns l w v s .un .un .un .un .un .un .un .un .un) = .fl (.nx (Ev ns l w v s a3 b5 b7 b8 b11 b12 b13 b14 b15)) := by
  have L := loop_keep (t := .nm 3) (f := runs M_law stb3) (fun ρ => ∃ a3 b5 b7 b8 b11 b12 b13 b14 b15, ρ = Ev ns l w v s a3 b5 b7 b8 b11 b12 b13 b14 b15) (ds := [.int 0, .int 1, .int 2]) (ρ := Ev ns l w v s .un .un .un .un .un .un .un .un .un) ⟨_, _, _, _, _, _, _, _, _, rfl⟩ (fun d hd ρ ⟨a3, b5, b7, b8, b11, b12, b13, b14, b15, hy⟩ => by
    subst hy
    have ht : ∃ m : Nat, d = .int m ∧ m ≤ 2 := by
      simp at hd
      rcases hd with rfl | rfl | rfl
      · exact ⟨0, rfl, by omega⟩
      · exact ⟨1, rfl, by omega⟩
      · exact ⟨2, rfl, by omega⟩
    obtain ⟨m, rfl, hm⟩ := ht
    obtain ⟨c5, c7, c8, c11, c12, c13, c14, c15, hc⟩ := r3b (ns := ns) (l := l) h hv hs hm b5 b7 b8 b11 b12 b13 b14 b15
    exact ⟨Ev ns l w v s (.sh (.int m)) b5 b7 b8 b11 b12 b13 b14 b15, rfl, _, .inl hc, _, _, _, _, _, _, _, _, _, rfl⟩)
  obtain ⟨ρ', hL, a3, b5, b7, b8, b11, b12, b13, b14, b15, hy⟩ := L
  refine ⟨a3, b5, b7, b8, b11, b12, b13, b14, b15, ?_⟩
  subst hy
  unfold st3
  rw [run_for, frz_nil]
  have e : evIt M_law false sti3 (Ev ns l w v s .un .un .un .un .un .un .un .un .un) = .ok [.int 0, .int 1, .int 2] := rfl
  rw [e, O.of_ok, hL]
end
end T10
end
section
set_option autoImplicit false
set_option linter.all false
set_option maxRecDepth 100000
namespace T10
open Bk
theorem ints_data (r : List Int) : areData (intL r) = true ∧ depths (intL r) ≤ 0 := ⟨data_of fun d hd => by obtain ⟨i, _, rfl⟩ := memI hd; rfl, depths_of fun d hd => by obtain ⟨i, _, rfl⟩ := memI hd; exact Nat.le_refl _⟩
theorem eqDs_refl' : ∀ r : List Int, eqDs (intL r) (intL r) = true
  | [] => rfl
  | x :: r => by
    show (decide (x = x) && eqDs (intL r) (intL r)) = true
    rw [eqDs_refl' r, decide_eq_true rfl]; rfl
theorem ne_sameL (r : List Int) : bo .ne (.lst (intL r)) (.lst (intL r)) = .ok (.bl false) := by
  obtain ⟨h1, h2⟩ := ints_data r
  have h3 : eqOk (.lst (intL r)) (.lst (intL r)) = true := by
    show (areData (intL r) && areData (intL r) && decide (depths (intL r) + 1 ≤ 60) && decide (depths (intL r) + 1 ≤ 60)) = true
    rw [h1, decide_eq_true (by omega : depths (intL r) + 1 ≤ 60)]; rfl
  show gd _ _ = _
  rw [gd_of h3]
  show R.ok (D.bl (!eqDs (intL r) (intL r))) = _
  rw [eqDs_refl']; rfl
def farL (w : List Int) : List Int := (List.replicate 14 w).flatten.take 14
theorem far_ok {w : List Int} (h : smW w) : (farL w).length = 14 ∧ ∀ x ∈ farL w, 0 ≤ x ∧ x ≤ 6 := by
  constructor
  · unfold farL
    rw [List.length_take]
    have : (List.replicate 14 w).flatten.length = 14 * w.length := by simp; omega
    have := h.one
    omega
  · intro x hx
    have := List.mem_of_mem_take hx
    obtain ⟨y, hy, hx⟩ := List.mem_flatten.mp this
    rw [(List.mem_replicate.mp hy).2] at hx
    exact h.all x hx
section
variable {ns l w : List Int} {v : Nat} {s : Int}
def Ev2 (ns l w : List Int) (v : Nat) (s : Int) (a3 a4 a5 a6 a7 a8 a11 a12 a13 a14 a15 : Slot) : En := [.sh (.scr ns), .sh (.lst (intL l)), .sh (.tup (intL w)), a3, a4, a5, a6, a7, a8, .sh (.int v), .sh (.int s), a11, a12, a13, a14, a15, .un, .un]
theorem r4 (h : smW w) (a3 a5 a7 a8 a11 a12 a13 a14 a15 : Slot) : Bk.run M_law st4 (Ev ns l w v s a3 a5 a7 a8 a11 a12 a13 a14 a15) = .fl (.nx (Ev2 ns l w v s a3 (.sh (.tup (intL (farL w)))) a5 .un a7 a8 a11 a12 a13 a14 a15)) := by
  have hm5 := h.most
  have hm1 := h.one
  have e1 := bo_mulT (x := intL w) (n := 14) (by omega) (fun z => by
    have := congrArg List.length z
    rw [intL_len] at this
    simp at this
    subst this
    simp at hm1) (by rw [intL_len]; omega)
  have e2 : ∀ n : Nat, (List.replicate n (intL w)).flatten = intL (List.replicate n w).flatten := fun n => by
    induction n with
    | zero => rfl
    | succ n ih => rw [List.replicate_succ, List.flatten_cons, ih, List.replicate_succ, List.flatten_cons, intL_app]
  rw [e2] at e1
  have e1 : bo .mul (.tup (intL w)) (.int 14) = .ok (.tup (intL (List.replicate 14 w).flatten)) := e1
  have hl : (List.replicate 14 w).flatten.length = 14 * w.length := by simp; omega
  have e3 : sl (.tup (intL (List.replicate 14 w).flatten)) none (some 14) = .ok (.tup (intL (farL w))) := by
    have := sl_tupH (intL (List.replicate 14 w).flatten) 14 (by rw [intL_len]; omega)
    rw [intL_take] at this
    exact this
  generalize (List.replicate 14 w).flatten = G at e1 e3
  generalize farL w = F at *
  simp [st4, Ev, Ev2, e1, e3, fresh]
theorem r5 (h : smW w) (hv : v ≤ 5) (hs : 0 ≤ s ∧ s ≤ 4) (a3 a5 a7 a8 a11 a12 a13 a14 a15 : Slot) : Bk.run M_law st5 (Ev2 ns l w v s a3 (.sh (.tup (intL (farL w)))) a5 .un a7 a8 a11 a12 a13 a14 a15) = .fl (.nx (Ev2 ns l w v s a3 (.sh (.tup (intL (farL w)))) (.sh (.lst (badL (farL w) v s))) .un a7 a8 a11 a12 a13 a14 a15)) := by
  have hl := (far_ok h).1
  have e := e_bad (w := farL w) (v := v) (s := s) (by omega) (by omega) (by omega)
  have ef : frz [4] (Ev2 ns l w v s a3 (.sh (.tup (intL (farL w)))) a5 .un a7 a8 a11 a12 a13 a14 a15) = Ev2 ns l w v s a3 (.sh (.tup (intL (farL w)))) a5 .un a7 a8 a11 a12 a13 a14 a15 := rfl
  unfold st5
  rw [run_asg, ef]
  simp [Ev2, M_law, e, fresh]
theorem r6 (a3 a5 a7 a8 a11 a12 a13 a14 a15 : Slot) : Bk.run M_law st6 (Ev2 ns l w v s a3 (.sh (.tup (intL (farL w)))) a5 .un a7 a8 a11 a12 a13 a14 a15) = .fl (.nx (Ev2 ns l w v s a3 (.sh (.tup (intL (farL w)))) a5 (.ow (intL (farL w))) a7 a8 a11 a12 a13 a14 a15)) := by
  simp [st6, Ev2, fresh]
theorem r7 (h : smW w) (hv : v ≤ 5) (hs : 0 ≤ s ∧ s ≤ 4) (a3 a5 a7 a8 a11 a12 a13 a14 a15 : Slot) : Bk.run M_law st7 (Ev2 ns l w v s a3 (.sh (.tup (intL (farL w)))) a5 (.ow (intL (farL w))) a7 a8 a11 a12 a13 a14 a15) = .fl (.nx (Ev2 ns l w v s a3 (.sh (.tup (intL (farL w)))) a5 (.sh (.lst (intL (farL w)))) (.sh (told v s (farL w))) a8 a11 a12 a13 a14 a15)) := by
  obtain ⟨hl, ha⟩ := far_ok h
  have okf : okW (farL w) := ⟨by omega, by omega, fun x hx => by have := ha x hx; omega⟩
  have e := can_fill_ok (w := farL w) (v := (v : Int)) (s := s) (d := .lst (intL (farL w))) okf .lst (by omega) (by omega)
  have e : f_can_fill [.lst (intL (farL w)), .int (v : Int), .int s] = .ok (told v s (farL w)) := e
  have hslot : slotOf false (told v s (farL w)) = .sh (told v s (farL w)) := by
    unfold told
    split <;> rfl
  have hkeep : ∀ ρ r : En, keep (told v s (farL w)) ρ r = r := fun ρ r => by
    unfold told
    split <;> rfl
  have ef : frz [6] (Ev2 ns l w v s a3 (.sh (.tup (intL (farL w)))) a5 (.ow (intL (farL w))) a7 a8 a11 a12 a13 a14 a15) = Ev2 ns l w v s a3 (.sh (.tup (intL (farL w)))) a5 (.sh (.lst (intL (farL w)))) a7 a8 a11 a12 a13 a14 a15 := rfl
  unfold st7
  rw [run_asg, ef]
  simp [Ev2, M_law, e, fresh, hslot, hkeep]
theorem r8 (h : smW w) (hv : v ≤ 5) (hs : 0 ≤ s ∧ s ≤ 4) (a3 a8 a11 a12 a13 a14 a15 : Slot) : Bk.run M_law st8 (Ev2 ns l w v s a3 (.sh (.tup (intL (farL w)))) (.sh (.lst (badL (farL w) v s))) (.sh (.lst (intL (farL w)))) (.sh (told v s (farL w))) a8 a11 a12 a13 a14 a15) = .fl (.nx (Ev2 ns l w v s a3 (.sh (.tup (intL (farL w)))) (.sh (.lst (badL (farL w) v s))) (.sh (.lst (intL (farL w)))) (.sh (told v s (farL w))) a8 a11 a12 a13 a14 a15)) := by
  obtain ⟨hl, ha⟩ := far_ok h
  have hat : ∀ d, 0 ≤ (farL w).getD d 0 := fun d => by
    rw [List.getD_eq_getElem?_getD]
    cases q : (farL w)[d]? with
    | none => exact Int.le_refl _
    | some x => exact (ha x (List.mem_of_getElem? q)).1
  have n1 := ne_sameL (farL w)
  have e2 := ne_nil (bad_data (farL w) v s)
  rw [bad_empty hs.1] at e2
  have m0 : mkL [] = .ok (.lst []) := rfl
  have m1 : ∀ a : D, mkT [a] = .ok (.tup [a]) := fun _ => rfl
  cases c : can (farL w) v s with
  | true =>
    rw [c] at e2
    have hF : isF v s (farL w) (fetched (farL w) (lowS v (farL w))) = true := isF_iff.mpr (ft_of (can_valL c hat))
    have so := so_fetch (w := farL w) (f := fetched (farL w) (lowS v (farL w))) (v := v) (s := s) (by omega) (by simp [fetched]; omega)
    rw [hF] at so
    rw [told_can c hs.1]
    generalize intL (fetched (farL w) (lowS v (farL w))) = F at *
    generalize badL (farL w) v s = B at *
    generalize intL (farL w) = G at *
    simp [st8, Ev2, n1, M_law, so, m0, e2]
  | false =>
    rw [c] at e2
    obtain ⟨a, b, r, hr, ht⟩ := told_not c hs.1
    have so := so_days (w := farL w) (v := v) (s := s) (by omega) (by omega) (by omega) a b
    have hp : pairB (farL w) v s a b = true := by
      rw [← mem_pair, List.any_eq_true]
      refine ⟨prD a b, by rw [hr]; exact List.mem_cons_self .., ?_⟩
      show (decide ((a : Int) = a) && (decide ((b : Int) = b) && true)) = true
      rw [decide_eq_true rfl, decide_eq_true rfl]; rfl
    rw [hp] at so
    rw [ht]
    have sm := same_refl 3 _ (okS_days a b)
    have i0 : ix (.lst (badL (farL w) v s)) (.int 0) = .ok (prD a b) := by
      rw [hr]; exact ix_lst (atI_nat (i := 0) rfl)
    have ea : bo .add (.tup [.str "days"]) (prD a b) = .ok (.tup [.str "days", .int a, .int b]) := rfl
    generalize badL (farL w) v s = B at *
    generalize intL (farL w) = G at *
    simp [st8, Ev2, n1, M_law, so, m0, e2, i0, m1, ea, sm]
end
end T10
end
section
set_option autoImplicit false
set_option linter.all false
set_option maxRecDepth 100000
namespace T10
open Bk
section
variable {ns l w : List Int} {v : Nat} {s : Int}
theorem r9 (a3 a4 a5 a6 a7 a8 a11 a12 a13 a14 a15 : Slot) : ∃ b8, Bk.run M_law st9 (Ev2 ns l w v s a3 a4 a5 a6 a7 a8 a11 a12 a13 a14 a15) = .fl (.nx (Ev2 ns l w v s a3 a4 a5 a6 a7 b8 a11 a12 a13 a14 a15)) := by
  have L := loop_keep (t := .nm 8) (f := runs M_law stb9) (fun ρ => ∃ b8, ρ = Ev2 ns l w v s a3 a4 a5 a6 a7 b8 a11 a12 a13 a14 a15) (ds := wrong1) (ρ := Ev2 ns l w v s a3 a4 a5 a6 a7 a8 a11 a12 a13 a14 a15) ⟨_, rfl⟩ (fun d hd ρ ⟨b8, hy⟩ => by
    subst hy
    refine ⟨Ev2 ns l w v s a3 a4 a5 a6 a7 (.sh d) a11 a12 a13 a14 a15, rfl, Ev2 ns l w v s a3 a4 a5 a6 a7 (.sh d) a11 a12 a13 a14 a15, .inl ?_, .sh d, rfl⟩
    have A := ref3 (x := "can_fill") (f := f_can_fill) rfl (can_no1 (x := d) (v := 1) (s := 1) hd)
    have B := ref2 (x := "stock") (f := f_stock) rfl (stock_no1 (x := d) (e := .tup []) hd)
    have m3 : ∀ a b c : D, mkL [a, b, c] = .ok (.lst [a, b, c]) := fun _ _ _ => rfl
    have m2 : ∀ a b : D, mkL [a, b] = .ok (.lst [a, b]) := fun _ _ => rfl
    have m0 : mkT [] = .ok (.tup []) := rfl
    simp [stb9, Ev2, M_law, A, B, m3, m2, m0])
  obtain ⟨ρ', hL, b8, hy⟩ := L
  refine ⟨b8, ?_⟩
  subst hy
  unfold st9
  rw [run_for, frz_nil]
  have e : evIt M_law false sti9 (Ev2 ns l w v s a3 a4 a5 a6 a7 a8 a11 a12 a13 a14 a15) = .ok wrong1 := rfl
  rw [e, O.of_ok, hL]
theorem r10 (h : smW w) (a3 a4 a5 a6 a7 a8 a11 a12 a13 a14 a15 : Slot) : ∃ b8, Bk.run M_law st10 (Ev2 ns l w v s a3 a4 a5 a6 a7 a8 a11 a12 a13 a14 a15) = .fl (.nx (Ev2 ns l w v s a3 a4 a5 a6 a7 b8 a11 a12 a13 a14 a15)) := by
  have L := loop_keep (t := .nm 8) (f := runs M_law stb10) (fun ρ => ∃ b8, ρ = Ev2 ns l w v s a3 a4 a5 a6 a7 b8 a11 a12 a13 a14 a15) (ds := [.int 100, .int (-1), .non, .bl true]) (ρ := Ev2 ns l w v s a3 a4 a5 a6 a7 a8 a11 a12 a13 a14 a15) ⟨_, rfl⟩ (fun d hd ρ ⟨b8, hy⟩ => by
    subst hy
    refine ⟨Ev2 ns l w v s a3 a4 a5 a6 a7 (.sh d) a11 a12 a13 a14 a15, rfl, Ev2 ns l w v s a3 a4 a5 a6 a7 (.sh d) a11 a12 a13 a14 a15, .inl ?_, .sh d, rfl⟩
    have hx : noInt d = true ∨ ∃ i, d = .int i ∧ (i < 0 ∨ 99 < i) := by
      simp at hd
      rcases hd with rfl | rfl | rfl | rfl
      · exact .inr ⟨_, rfl, .inr (by decide)⟩
      · exact .inr ⟨_, rfl, .inl (by decide)⟩
      · exact .inl rfl
      · exact .inl rfl
    have A := ref3 (x := "can_fill") (f := f_can_fill) rfl (can_no2 (w := w) (d := .tup (intL w)) (x := d) (s := .int 1) h.ok .tup hx)
    have B := ref3 (x := "can_fill") (f := f_can_fill) rfl (can_no3 (w := w) (d := .tup (intL w)) (x := d) (v := 1) h.ok .tup (by decide) hx)
    have m3 : ∀ a b c : D, mkL [a, b, c] = .ok (.lst [a, b, c]) := fun _ _ _ => rfl
    simp [stb10, Ev2, M_law, A, B, m3])
  obtain ⟨ρ', hL, b8, hy⟩ := L
  refine ⟨b8, ?_⟩
  subst hy
  unfold st10
  rw [run_for, frz_nil]
  have e : evIt M_law false sti10 (Ev2 ns l w v s a3 a4 a5 a6 a7 a8 a11 a12 a13 a14 a15) = .ok [.int 100, .int (-1), .non, .bl true] := rfl
  rw [e, O.of_ok, hL]
def bad11 (w : List Int) (d : D) : Prop := d = .non ∨ ∃ f : List Int, d = .tup (intL f) ∧ f.length ≤ 100 ∧ (f.length ≠ w.length ∨ (f.length = w.length ∧ (∃ x ∈ f, x < 0 ∨ 99 < x)))
theorem r11 (h : smW w) (hv : v ≤ 5) (hs : 0 ≤ s ∧ s ≤ 4) (a3 a4 a5 a6 a7 a8 a11 a12 a13 a14 a15 : Slot) : ∃ b8, Bk.run M_law st11 (Ev2 ns l w v s a3 a4 a5 a6 a7 a8 a11 a12 a13 a14 a15) = .fl (.nx (Ev2 ns l w v s a3 a4 a5 a6 a7 b8 a11 a12 a13 a14 a15)) := by
  have hm1 := h.one
  have hm5 := h.most
  have hz1 := bo_mulT (x := [D.int 100]) (n := w.length) (by omega) (by simp) (by simp)
  have hz2 := bo_mulT (x := [D.int (-1)]) (n := w.length) (by omega) (by simp) (by simp)
  rw [rep_flat] at hz1 hz2
  have ha : bo .add (.tup (intL w)) (.tup [.int 0]) = .ok (.tup (intL (w ++ [0]))) := by
    rw [intL_app]
    exact mkT_le (by rw [List.length_append, intL_len]; show w.length + 1 ≤ _; omega)
  have hall : ∀ d ∈ [D.non, .tup (intL (w ++ [0])), .tup (intL (List.replicate w.length 100)), .tup (intL (List.replicate w.length (-1)))], bad11 w d := fun d hd => by
    have mem : ∀ x : Int, x ∈ List.replicate w.length x := fun x => List.mem_replicate.mpr ⟨by omega, rfl⟩
    simp only [List.mem_cons, List.not_mem_nil, or_false] at hd
    rcases hd with rfl | rfl | rfl | rfl
    · exact .inl rfl
    · exact .inr ⟨_, rfl, by simp; omega, .inl (by simp)⟩
    · exact .inr ⟨_, rfl, by simp; omega, .inr ⟨by simp, 100, mem _, .inr (by decide)⟩⟩
    · exact .inr ⟨_, rfl, by simp; omega, .inr ⟨by simp, -1, mem _, .inl (by decide)⟩⟩
  have L := loop_keep (t := .nm 8) (f := runs M_law stb11) (fun ρ => ∃ b8, ρ = Ev2 ns l w v s a3 a4 a5 a6 a7 b8 a11 a12 a13 a14 a15) (ds := [D.non, .tup (intL (w ++ [0])), .tup (intL (List.replicate w.length 100)), .tup (intL (List.replicate w.length (-1)))]) (ρ := Ev2 ns l w v s a3 a4 a5 a6 a7 a8 a11 a12 a13 a14 a15) ⟨_, rfl⟩ (fun d hd ρ ⟨b8, hy⟩ => by
    subst hy
    refine ⟨Ev2 ns l w v s a3 a4 a5 a6 a7 (.sh d) a11 a12 a13 a14 a15, rfl, Ev2 ns l w v s a3 a4 a5 a6 a7 (.sh d) a11 a12 a13 a14 a15, .inl ?_, .sh d, rfl⟩
    have key : f_stock [.tup (intL w), d] = .ex "BadValue" (.int 2) ∧ f_is_fetching [.tup (intL w), .int v, .int s, d] = .ok (.bl false) := by
      rcases hall d hd with rfl | ⟨f, rfl, hf, hc⟩
      · exact ⟨stock_no2n h.ok .tup, is_fetch_non h.ok .tup (by omega) (by omega)⟩
      · have k2 := is_fetch_ok (w := w) (f := f) (v := v) (s := s) (d := .tup (intL w)) (e := .tup (intL f)) h.ok .tup (by omega) (by omega) .tup
        rcases hc with hc | ⟨hc, x, hx, hx2⟩
        · refine ⟨stock_no2l h.ok .tup hc, ?_⟩
          rw [k2]
          unfold isF
          rw [decide_eq_false hc, Bool.false_and, Bool.false_and]
        · have h99 : ∀ u : Int, u ≤ 99 → (f.all fun x => decide (0 ≤ x) && decide (x ≤ u)) = false := fun u hu => by
            rw [Bool.eq_false_iff]
            intro z
            rw [List.all_eq_true] at z
            have := z x hx
            rw [Bool.and_eq_true, decide_eq_true_eq, decide_eq_true_eq] at this
            omega
          refine ⟨stock_no2a h.ok .tup hc (h99 99 (by omega)), ?_⟩
          rw [k2]
          unfold isF
          rw [h99 v (by omega), Bool.and_false, Bool.false_and]
    have A := ref2 (x := "stock") (f := f_stock) rfl key.1
    have sm := same_refl 3 (.bl false) rfl
    have k2 := key.2
    have m2 : ∀ a b : D, mkL [a, b] = .ok (.lst [a, b]) := fun _ _ => rfl
    simp [stb11, Ev2, M_law, A, m2, k2, sm])
  obtain ⟨ρ', hL, b8, hy⟩ := L
  refine ⟨b8, ?_⟩
  subst hy
  unfold st11
  rw [run_for, frz_nil]
  have e : evIt M_law false sti11 (Ev2 ns l w v s a3 a4 a5 a6 a7 a8 a11 a12 a13 a14 a15) = .ok [D.non, .tup (intL (w ++ [0])), .tup (intL (List.replicate w.length 100)), .tup (intL (List.replicate w.length (-1)))] := by
    have m1 : ∀ a : D, mkT [a] = .ok (.tup [a]) := fun _ => rfl
    have m4 : ∀ a b c d : D, mkL [a, b, c, d] = .ok (.lst [a, b, c, d]) := fun _ _ _ _ => rfl
    simp [sti11, Ev2, m1, m4, hz1, hz2, ha, intL_len]
  rw [e, O.of_ok, hL]
end
theorem hlaw_ (ns : List Int) (hn : ns.length ≤ 63) (hb : ∀ z ∈ ns, PySem.Builtin.Int.intBits z ≤ 1048576) : f_law [.scr ns] = .ok (.bl true) := by
  obtain ⟨l, hl, h0, e⟩ := e_numbers (ns := ns) hb 9 (by decide)
  have hin : ∀ i, i < 9 → 0 ≤ l.getD i 0 := fun i hi => by
    rw [List.getD_eq_getElem?_getD, List.getElem?_eq_getElem (by omega)]
    exact (h0 _ (List.getElem_mem _)).1
  have q7 := hin 7 (by decide)
  have q8 := hin 8 (by decide)
  have h : smW ((l.take (1 + l.getD 7 0 % 5).toNat).map wg) := by
    have hlen : ((l.take (1 + l.getD 7 0 % 5).toNat).map wg).length = (1 + l.getD 7 0 % 5).toNat := by
      rw [List.length_map, List.length_take]; omega
    refine ⟨by omega, by omega, fun x hx => ?_⟩
    obtain ⟨y, hy, rfl⟩ := List.mem_map.mp hx
    exact wg_range y (h0 y (List.mem_of_mem_take hy)).1
  have hv : (l.getD 8 0 % 6).toNat ≤ 5 := by omega
  have hs : 0 ≤ l.getD 8 0 / 6 % 5 ∧ l.getD 8 0 / 6 % 5 ≤ 4 := by omega
  have s0 := r0 (ns := ns) e
  have s1 := r1 (ns := ns) hl h0
  have s2 := r2 (ns := ns) (w := (l.take (1 + l.getD 7 0 % 5).toNat).map wg) hl h0
  generalize (l.take (1 + l.getD 7 0 % 5).toNat).map wg = w at *
  generalize (l.getD 8 0 % 6).toNat = v at *
  generalize l.getD 8 0 / 6 % 5 = s at *
  refine fnD_rt rfl ?_
  rw [steq]
  show runs M_law _ (.sh (.scr ns) :: List.replicate 17 .un) = _
  rw [runs_cons, s0, O.next_nx, runs_cons, s1, O.next_nx, runs_cons, s2, O.next_nx, runs_cons]
  obtain ⟨a3, a5, a7, a8, a11, a12, a13, a14, a15, s3⟩ := r3 (ns := ns) (l := l) h hv hs
  rw [s3, O.next_nx, runs_cons, r4 h, O.next_nx, runs_cons, r5 h hv hs, O.next_nx, runs_cons, r6, O.next_nx, runs_cons, r7 h hv hs, O.next_nx, runs_cons, r8 h hv hs, O.next_nx, runs_cons]
  obtain ⟨b8, s9⟩ := r9 (ns := ns) (l := l) (w := w) (v := v) (s := s) a3 (.sh (.tup (intL (farL w)))) (.sh (.lst (badL (farL w) v s))) (.sh (.lst (intL (farL w)))) (.sh (told v s (farL w))) a8 a11 a12 a13 a14 a15
  rw [s9, O.next_nx, runs_cons]
  obtain ⟨c8, s10⟩ := r10 (ns := ns) (l := l) (w := w) (v := v) (s := s) h a3 (.sh (.tup (intL (farL w)))) (.sh (.lst (badL (farL w) v s))) (.sh (.lst (intL (farL w)))) (.sh (told v s (farL w))) b8 a11 a12 a13 a14 a15
  rw [s10, O.next_nx, runs_cons]
  obtain ⟨d8, s11⟩ := r11 (ns := ns) (l := l) (w := w) (v := v) (s := s) h hv hs a3 (.sh (.tup (intL (farL w)))) (.sh (.lst (badL (farL w) v s))) (.sh (.lst (intL (farL w)))) (.sh (told v s (farL w))) c8 a11 a12 a13 a14 a15
  rw [s11, O.next_nx, runs_cons]
  rfl
end T10
end
set_option Elab.async false
set_option maxRecDepth 100000
set_option maxHeartbeats 0
open PySem PySem.W PySem.Calls PyProof.Rows
theorem PySem.Challenge.cw_banktold_k10_van_and_shelf_holds : PySem.Challenge.rw_banktold_k10_van_and_shelf.Holds := by
  w_on; o_law
  refine HandSHeadRun.head_any (r := OpenLaw.row PySem.Challenge.rw_banktold_k10_van_and_shelf) (q := view (OpenLaw.row PySem.Challenge.rw_banktold_k10_van_and_shelf).prog [32]) (H := T10.hk) (ob := T10.ob) (M := 4000) (loose := T10.loose) (d := HandSHeadRun.topDef (OpenLaw.row PySem.Challenge.rw_banktold_k10_van_and_shelf).prog 32) (kwd := []) T10.ob_eq
    (by kernel_rfl) (fun s => by kernel_rfl) T10.run (by kernel_rfl) (by kernel_rfl) (by kernel_rfl) (by rfl) (by first | assumption | decide +kernel) (by decide +kernel) ⟨rfl, rfl, rfl, rfl, rfl, by decide +kernel⟩ ?hw ?hc
  case hw => w_witness2
  case hc =>
    refine LamX.walk_ofTsE (l := PySem.Challenge.rw_banktold_k10_van_and_shelf) (n := 63) (k := 9) (x := "script") (CX := fun w => L2.CX (PySem.Challenge.rw_banktold_k10_van_and_shelf).prog w) rfl (by decide) (by kernel_rfl) ⟨rfl, by decide, by decide⟩ ?F (fun _ _ _ _ _ z => Bk.cx_no z)
    intro w mg fa h Y G hmg0
    obtain ⟨K, KX, c⟩ := Y
    have hmg : mg ("law" : PySem.Str) = some (.ref fa) := by
      have e : (HandSHeadRun.topDef (OpenLaw.row PySem.Challenge.rw_banktold_k10_van_and_shelf).prog 32).name = ("law" : PySem.Str) := by kernel_rfl
      rw [← e]
      exact hmg0
    exact ⟨K, KX, Bk.lawAt (p := T10.pg) (i := 32) (f := T10.f_law) rfl KX G c (by decide +kernel) hmg (by decide +kernel) (by decide +kernel) T10.hF T10.hlaw_⟩
