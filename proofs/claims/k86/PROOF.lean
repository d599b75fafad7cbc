import PyProof.Rows.All
import PyProof.EqLayable
import KE.SortData
import KE.DataMinMax
import KE.DataFind
import Wide.All
import OpenK.AllK
import Wide.FinOn
import HandS.ForMost
import HandS.Exc
import HandS.ExcOwn
import HandS.WordsExc
import HandS.Flow
import HandS.Style
import HandS.TupAny
import HandS.TupLe
import HandS.Deep
import HandS.Walk
import HandS.Lambda
import HandS.Zip
import HandS.Small
import HandS.Defaults
import HandS.CallLocal
import HandS.IsInst
import HandS.TupMul
import HandS.Conv
import HandS.Head0
import HandS.Head1
import HandS.Head2
import HandS.HeadEnd
import HandS.HeadHook1
import HandS.HeadHook2
import HandS.HeadWalk
import PySem.Challenge.RW_streethouse_k86_whole_rows_of_shut_secon
set_option Elab.async false
set_option linter.all false
set_option maxRecDepth 100000
/-! P1: data, the small language of defs, its meaning. -/
namespace PD
open PySem

/-- what a value of the program is, without the heap -/
inductive D where
  | non | bl (b : Bool) | int (i : Int) | str (x : Str)
  | tup (xs : List D) | lst (xs : List D)
  | dct (ks vs : List D)
  | fn (n : Nat) | hnd
  deriving Inhabited

mutual
def D.py : D → Option PyData
  | .non => some .none
  | .bl b => some (.bool b)
  | .int i => some (.int i)
  | .str x => some (.str x)
  | .tup xs => (D.pys xs).map .tuple
  | .lst xs => (D.pys xs).map .list
  | .dct _ _ => none
  | .fn _ => none
  | .hnd => none
def D.pys : List D → Option (List PyData)
  | [] => some []
  | d :: ds => match D.py d, D.pys ds with
    | some p, some ps => some (p :: ps)
    | _, _ => none
end

abbrev HS := List D
structure Exc where
  c : Nat
  m : Option Int
inductive Res (α : Type) where
  | ok (a : α) (h : HS)
  | exc (e : Exc) (h : HS)
  | stuck
def Res.bind {α β : Type} : Res α → (α → HS → Res β) → Res β
  | .ok a h, f => f a h
  | .exc e h, _ => .exc e h
  | .stuck, _ => .stuck
/-- where nothing may be raised -/
def calmR {α : Type} : Res α → Res α
  | .ok a h => .ok a h
  | _ => .stuck
def ofO {α : Type} (o : Option α) (h : HS) : Res α := match o with
  | some a => .ok a h
  | none => .stuck

inductive Slot where
  | no | val (d : D) | own (d : D) | exn (x : Exc)
  deriving Inhabited
abbrev PEnv := List Slot
def wipeP (ρ : PEnv) : List Nat → PEnv
  | [] => ρ
  | v :: vs => (wipeP ρ vs).set v .no

inductive BOp where
  | add | sub | mul | fdiv | mod | pow | band | shl
inductive COp where
  | eq | ne | lt | le | gt | ge | is | isn | inn | nin
inductive BI where
  | len | abs | int | max | min | sum | sorted | any | all | list | tuple | repr
inductive Ty where
  | int | bool | str | tuple | list | dict
inductive MT where
  | index | count
mutual
/-- expressions -/
inductive IE where
  | var (i : Nat) | ovar (i : Nat)
  | lit (d : D)
  | tup (es : IEs) | lst (es : IEs) | dct (ks vs : IEs) | rngL (t : Bool) (lo hi : IE)
  | bin (o : BOp) (a b : IE) | neg (a : IE)
  | not (a : IE) | cmp (o : COp) (a b : IE) | chain (o o' : COp) (a b c : IE)
  | and (a b : IE) | or (a b : IE) | ite (c : IC) (a b : IE)
  | ix (a i : IE) | slc (a : IE) (lo hi : IO) | rev (a : IE)
  | call (f : Nat) (as : IEs) | callv (i : Nat) (as : IEs) | thk | said (f : Nat) (b : IE)
  | bi (b : BI) (as : IEs) | isi (a : IE) (ts : List Ty)
  | mt (m : MT) (o : IE) (as : IEs)
  | lc (vs : List Nat) (t : IT) (s : IS) (c : IC) (e : IE)
  | isx (i c : Nat) | xmost (i : Nat)
inductive IEs where
  | nil | cons (e : IE) (es : IEs)
inductive IO where
  | no | so (e : IE)
/-- what is walked -/
inductive IS where
  | val (e : IE) | rng1 (a : IE) | rng2 (a b : IE) | rng3 (a b : IE) (c : Int) | zip (a b : IE) | enum (a : IE)
/-- tests -/
inductive IC where
  | tt | val (e : IE) | and (a b : IC) | or (a b : IC) | not (a : IC)
/-- targets -/
inductive IT where
  | nm (i : Nat) | tp (ts : ITs)
inductive ITs where
  | nil | cons (t : IT) (ts : ITs)
end

/-! ### operations on data -/
def eqD (a b : D) : Option Bool := match a.py, b.py with
  | some p, some q => if SeqAt.shaped p && SeqAt.shaped q then some (PyData.eqv p q) else none
  | _, _ => none
def lexLt : List Int → List Int → Bool
  | [], [] => false
  | [], _ :: _ => true
  | _ :: _, [] => false
  | x :: xs, y :: ys => if x = y then lexLt xs ys else decide (x < y)
/-- a list of dInts, if it is one -/
def dInts : List D → Option (List Int)
  | [] => some []
  | .int i :: r => (dInts r).map (i :: ·)
  | _ :: _ => none
def dBls : List D → Option (List Bool)
  | [] => some []
  | .bl i :: r => (dBls r).map (i :: ·)
  | _ :: _ => none
def cmulOk (i j : Int) : Bool := (decide (-(2 ^ 64) < i) && decide (i < 2 ^ 64)) || (decide (-(2 ^ 64) < j) && decide (j < 2 ^ 64))
abbrev line : Nat := 16777216
def binD (o : BOp) (a b : D) : Option D := match o with
  | .add => (match a, b with
    | .int i, .int j => some (.int (i + j))
    | .lst xs, .lst ys => if xs.length + ys.length ≤ line then some (.lst (xs ++ ys)) else none
    | .tup xs, .tup ys => if xs.length + ys.length ≤ line then some (.tup (xs ++ ys)) else none
    | _, _ => none)
  | .sub => (match a, b with
    | .int i, .int j => some (.int (i - j))
    | _, _ => none)
  | .mul => (match a, b with
    | .int i, .int j => if cmulOk i j then some (.int (i * j)) else none
    | .lst xs, .int k => if decide (-(2 ^ 63) ≤ k) && decide (k < 2 ^ 63) && decide (xs.length * k.toNat ≤ line) then some (.lst (List.replicate k.toNat xs).flatten) else none
    | _, _ => none)
  | .fdiv => (match a, b with
    | .int i, .int j => if decide (j ≠ 0) && decide (j.natAbs < 1073741824) then some (.int (i.fdiv j)) else none
    | _, _ => none)
  | .mod => (match a, b with
    | .int i, .int j => if j ≠ 0 then some (.int (i.fmod j)) else none
    | _, _ => none)
  | .pow => (match a, b with
    | .int i, .int j => if decide (0 ≤ j) && decide (j ≤ 1000000) && decide (i.natAbs < 2 ^ 64) then some (.int (i ^ j.toNat)) else none
    | _, _ => none)
  | .band => none
  | .shl => none
def memD (x : D) (xs : List D) : Option Bool := match x.py, D.pys xs with
  | some p, some qs => if SeqAt.shaped p && SeqAt.shaped (.list qs) then some (qs.any fun z => PyData.eqv z p) else none
  | _, _ => none
def flatD : D → Bool
  | .non => true
  | .bl _ => true
  | .int _ => true
  | .str _ => true
  | _ => false
def cmpD (o : COp) (a b : D) : Option Bool := match o with
  | .eq => eqD a b
  | .ne => (eqD a b).map fun x => !x
  | .lt => (match a, b with
    | .int i, .int j => some (decide (i < j))
    | _, _ => none)
  | .le => (match a, b with
    | .int i, .int j => some (decide (i ≤ j))
    | _, _ => none)
  | .gt => (match a, b with
    | .int i, .int j => some (decide (j < i))
    | _, _ => none)
  | .ge => (match a, b with
    | .int i, .int j => some (decide (j ≤ i))
    | _, _ => none)
  | .is => (match a, b with
    | .non, .non => some true
    | .bl x, .bl y => some (decide (x = y))
    | .bl _, .non => some false
    | .int _, .non => some false
    | .str _, .non => some false
    | .tup _, .non => some false
    | .lst _, .non => some false
    | _, _ => none)
  | .isn => (match a, b with
    | .non, .non => some false
    | .bl x, .bl y => some (!decide (x = y))
    | .bl _, .non => some true
    | .int _, .non => some true
    | .str _, .non => some true
    | .tup _, .non => some true
    | .lst _, .non => some true
    | _, _ => none)
  | .inn => (match b with
    | .lst xs => memD a xs
    | .tup xs => if flatD a && xs.all flatD then memD a xs else none
    | _ => none)
  | .nin => (match b with
    | .lst xs => (memD a xs).map fun x => !x
    | .tup xs => if flatD a && xs.all flatD then (memD a xs).map fun x => !x else none
    | _ => none)
def ixN (n : Nat) (i : Int) : Option Nat := if 0 ≤ i then (if i < n then some i.toNat else none) else if -(n : Int) ≤ i then some (i + n).toNat else none
def atI {α : Type} (xs : List α) (i : Int) : Option α := (ixN xs.length i).bind fun j => xs[j]?
def ixD (hs : HS) (a i : D) : Option D := match a, i with
  | .lst xs, .int k => atI xs k
  | .tup xs, .int k => atI xs k
  | .hnd, .int k => atI hs k
  | _, _ => none
def sIx (n d : Nat) : Option Int → Nat
  | none => d
  | some v => if v < 0 then (v + (n : Int)).toNat else min v.toNat n
def cutL {α : Type} (xs : List α) (lo hi : Option Int) : List α := (xs.drop (sIx xs.length 0 lo)).take (sIx xs.length xs.length hi - sIx xs.length 0 lo)
def slcD (a : D) (lo hi : Option Int) : Option D := match a with
  | .lst xs => some (.lst (cutL xs lo hi))
  | .tup xs => some (.tup (cutL xs lo hi))
  | _ => none
def revD (a : D) : Option D := match a with
  | .lst xs => some (.lst xs.reverse)
  | _ => none
def negD (a : D) : Option D := match a with
  | .int i => some (.int (-i))
  | _ => none
def truthD (a : D) : Option Bool := match a with
  | .non => some false
  | .bl b => some b
  | .int i => some (i != 0)
  | .lst xs => some (!xs.isEmpty)
  | .tup xs => some (!xs.isEmpty)
  | _ => none
def isTy (d : D) : Ty → Option Bool
  | .int => (match d with
    | .int _ => some true
    | .bl _ => some true
    | .fn _ => none
    | _ => some false)
  | .bool => (match d with
    | .bl _ => some true
    | .fn _ => none
    | _ => some false)
  | .str => (match d with
    | .str _ => some true
    | .fn _ => none
    | _ => some false)
  | .tuple => (match d with
    | .tup _ => some true
    | .fn _ => none
    | _ => some false)
  | .list => (match d with
    | .lst _ => some true
    | .hnd => none
    | .fn _ => none
    | _ => some false)
  | .dict => (match d with
    | .dct _ _ => some true
    | .fn _ => none
    | _ => some false)
def isTys (d : D) : List Ty → Option Bool
  | [] => some false
  | t :: ts => match isTy d t, isTys d ts with
    | some a, some b => some (a || b)
    | _, _ => none
/-! data read back, ordered -/
mutual
def ofPy : PyData → D
  | .none => .non
  | .bool b => .bl b
  | .int i => .int i
  | .str x => .str x
  | .tuple xs => .tup (ofPys xs)
  | .list xs => .lst (ofPys xs)
  | .dict _ => .non
def ofPys : List PyData → List D
  | [] => []
  | x :: xs => ofPy x :: ofPys xs
end
def notNone : PyData → Bool
  | .none => false
  | _ => true
def isTup1 : PyData → Bool
  | .tuple (_ :: _) => true
  | _ => false
def notTup : PyData → Bool
  | .none => false
  | .tuple _ => false
  | _ => true
def alikeB (ps : List PyData) : Bool := ps.all fun x => notNone x && ps.all fun y => PySem.W.alike x y
def sortB (ps : List PyData) : Bool := ps.all isTup1 || ps.all notTup
def depthB (ps : List PyData) : Bool := decide (PyData.depthAll ps ≤ 40)
def D.pyD (d : D) : PyData := d.py.getD .none
def minF (x : D) (xs : List D) : D := xs.foldl (fun a y => if W.dataLt y.pyD a.pyD then y else a) x
def maxF (x : D) (xs : List D) : D := xs.foldl (fun a y => if W.dataLt a.pyD y.pyD then y else a) x
def minL (xs : List D) : Option D := match xs, D.pys xs with
  | x :: r, some ps => if alikeB ps && depthB ps then some (minF x r) else none
  | _, _ => none
def maxL (xs : List D) : Option D := match xs, D.pys xs with
  | x :: r, some ps => if alikeB ps && depthB ps then some (maxF x r) else none
  | _, _ => none
def sortL (xs : List D) : Option (List D) := match D.pys xs with
  | some ps => if alikeB ps && sortB ps && depthB ps && decide (xs.length ≤ line) then some (xs.mergeSort (W.dataLe false D.pyD)) else none
  | none => none
mutual
theorem ofPy_py : ∀ {d : D} {p : PyData}, d.py = some p → ofPy p = d
  | .non, p, e => by simp only [D.py, Option.some.injEq] at e; subst e; simp only [ofPy]
  | .bl _, p, e => by simp only [D.py, Option.some.injEq] at e; subst e; simp only [ofPy]
  | .int _, p, e => by simp only [D.py, Option.some.injEq] at e; subst e; simp only [ofPy]
  | .str _, p, e => by simp only [D.py, Option.some.injEq] at e; subst e; simp only [ofPy]
  | .tup ds, p, e => by
    simp only [D.py, Option.map_eq_some_iff] at e
    obtain ⟨ps, e, rfl⟩ := e
    simp only [ofPy]
    rw [ofPys_pys e]
  | .lst ds, p, e => by
    simp only [D.py, Option.map_eq_some_iff] at e
    obtain ⟨ps, e, rfl⟩ := e
    simp only [ofPy]
    rw [ofPys_pys e]
  | .dct _ _, p, e => by simp only [D.py] at e; cases e
  | .fn _, p, e => by simp only [D.py] at e; cases e
  | .hnd, p, e => by simp only [D.py] at e; cases e
theorem ofPys_pys : ∀ {ds : List D} {ps : List PyData}, D.pys ds = some ps → ofPys ps = ds
  | [], ps, e => by simp only [D.pys, Option.some.injEq] at e; subst e; simp only [ofPys]
  | d :: ds, ps, e => by
    simp only [D.pys] at e
    split at e
    · rename_i p q e1 e2
      cases e
      simp only [ofPys]
      rw [ofPy_py e1, ofPys_pys e2]
    · cases e
end
theorem pys_get : ∀ {ds : List D} {ps : List PyData}, D.pys ds = some ps → ps = ds.map D.pyD ∧ ∀ d ∈ ds, d.py = some d.pyD
  | [], ps, e => by
    simp only [D.pys, Option.some.injEq] at e
    subst e
    exact ⟨rfl, fun _ h => nomatch h⟩
  | d :: ds, ps, e => by
    simp only [D.pys] at e
    split at e
    · rename_i p q e1 e2
      cases e
      obtain ⟨i1, i2⟩ := pys_get e2
      have e0 : d.pyD = p := by
        unfold D.pyD
        rw [e1]
        rfl
      refine ⟨by rw [List.map_cons, e0, i1], fun x hx => ?_⟩
      rcases List.mem_cons.mp hx with rfl | hx
      · rw [e0, e1]
      · exact i2 x hx
    · cases e
mutual
theorem py_plain : ∀ {d : D} {p : PyData}, d.py = some p → p.plain = true
  | .non, p, e => by simp only [D.py, Option.some.injEq] at e; subst e; rfl
  | .bl _, p, e => by simp only [D.py, Option.some.injEq] at e; subst e; rfl
  | .int _, p, e => by simp only [D.py, Option.some.injEq] at e; subst e; rfl
  | .str _, p, e => by simp only [D.py, Option.some.injEq] at e; subst e; rfl
  | .tup ds, p, e => by
    simp only [D.py, Option.map_eq_some_iff] at e
    obtain ⟨ps, e, rfl⟩ := e
    simpa only [PyData.plain] using pys_plain e
  | .lst ds, p, e => by
    simp only [D.py, Option.map_eq_some_iff] at e
    obtain ⟨ps, e, rfl⟩ := e
    simpa only [PyData.plain] using pys_plain e
  | .dct _ _, p, e => by simp only [D.py] at e; cases e
  | .fn _, p, e => by simp only [D.py] at e; cases e
  | .hnd, p, e => by simp only [D.py] at e; cases e
theorem pys_plain : ∀ {ds : List D} {ps : List PyData}, D.pys ds = some ps → PyData.plainAll ps = true
  | [], ps, e => by simp only [D.pys, Option.some.injEq] at e; subst e; rfl
  | d :: ds, ps, e => by
    simp only [D.pys] at e
    split at e
    · rename_i p q e1 e2
      cases e
      simp only [PyData.plainAll, Bool.and_eq_true]
      exact ⟨py_plain e1, pys_plain e2⟩
    · cases e
end
def biD (b : BI) (as : List D) : Option D := match b, as with
  | .len, [.lst xs] => some (.int xs.length)
  | .len, [.tup xs] => some (.int xs.length)
  | .abs, [.int i] => some (.int (if i < 0 then -i else i))
  | .int, [.int i] => some (.int i)
  | .int, [.bl k] => some (.int (if k then 1 else 0))
  | .max, [.int i, .int j] => some (.int (if j > i then j else i))
  | .max, [.lst xs] => maxL xs
  | .min, [.int i, .int j] => some (.int (if j < i then j else i))
  | .min, [.lst xs] => minL xs
  | .sum, [.lst xs] => (dInts xs).map fun ns => .int ns.sum
  | .any, [.lst xs] => (dBls xs).map fun ns => .bl (ns.any id)
  | .all, [.lst xs] => (dBls xs).map fun ns => .bl (ns.all id)
  | .sorted, [.lst xs] => (sortL xs).map .lst
  | .list, [.lst xs] => some (.lst xs)
  | .list, [.tup xs] => some (.lst xs)
  | .tuple, [.lst xs] => some (.tup xs)
  | .tuple, [.tup xs] => some (.tup xs)
  | _, _ => none
/-- the first place at which x stands -/
def idxD (x : D) (xs : List D) : Option Nat := match x.py, D.pys xs with
  | some p, some qs => if SeqAt.shaped p && SeqAt.shaped (.list qs) then qs.findIdx? (fun z => PyData.eqv z p) else none
  | _, _ => none
def cntD (x : D) (xs : List D) : Option Nat := match x.py, D.pys xs with
  | some p, some qs => if SeqAt.shaped p && SeqAt.shaped (.list qs) then some (qs.countP (fun z => PyData.eqv z p)) else none
  | _, _ => none
def isLst : D → Bool
  | .lst _ => true
  | _ => false
def mtD (m : MT) (o : D) (as : List D) : Option D := match m, o, as with
  | .index, .lst xs, [x] => (idxD x xs).map fun (j : Nat) => .int j
  | .count, .lst xs, [x] => (cntD x xs).map fun (j : Nat) => .int j
  | _, _, _ => none
/-- lo, lo + 1 .., n of them -/
def rangeD (lo : Int) (n : Nat) : List D := (List.range n).map fun (k : Nat) => .int (lo + k)
def intOf (d : D) : Option Int := match d with
  | .int i => some i
  | _ => none
def inR (i : Int) : Bool := decide (-(2 ^ 62) ≤ i) && decide (i < 2 ^ 62)
def seqOf (d : D) : Option (List D) := match d with
  | .lst xs => some xs
  | .tup xs => some xs
  | _ => none

def rngD (t : Bool) (x y : D) : Option D := match x, y with
  | .int lo, .int hi => if inR lo && inR hi && decide ((hi - lo).toNat ≤ line) then some (if t then .tup (rangeD lo (hi - lo).toNat) else .lst (rangeD lo (hi - lo).toNat)) else none
  | _, _ => none

/-- xs with d at place z -/
def setD (xs : List D) (z d : D) : Option (List D) := match z with
  | .int z => (ixN xs.length z).map fun j => xs.set j d
  | _ => none

/-! ### loops -/
def lcL (f : D → HS → Res (Option D)) : List D → HS → Res (List D)
  | [], h => .ok [] h
  | d :: r, h => (f d h).bind fun o h => (lcL f r h).bind fun ds h => .ok (match o with
    | some x => x :: ds
    | none => ds) h
inductive Fl where
  | nx (ρ : PEnv) | rt (d : D) | bk (ρ : PEnv) | ct (ρ : PEnv)
def forL (f : D → PEnv → HS → Res Fl) : List D → PEnv → HS → Res Fl
  | [], ρ, h => .ok (.nx ρ) h
  | d :: r, ρ, h => (f d ρ h).bind fun x h => match x with
    | .nx ρ' => forL f r ρ' h
    | .ct ρ' => forL f r ρ' h
    | .bk ρ' => .ok (.nx ρ') h
    | .rt d => .ok (.rt d) h
/-- at most n turns -/
def whileN (c : PEnv → HS → Res Bool) (f : PEnv → HS → Res Fl) : Nat → PEnv → HS → Res Fl
  | 0, _, _ => .stuck
  | n + 1, ρ, h => (c ρ h).bind fun b h => if b then (f ρ h).bind fun x h => match x with
    | .nx ρ' => whileN c f n ρ' h
    | .ct ρ' => whileN c f n ρ' h
    | .bk ρ' => .ok (.nx ρ') h
    | .rt d => .ok (.rt d) h
    else .ok (.nx ρ) h
open Classical in
noncomputable def whileL (c : PEnv → HS → Res Bool) (f : PEnv → HS → Res Fl) (ρ : PEnv) (h : HS) : Res Fl :=
  if q : ∃ n, whileN c f n ρ h ≠ .stuck then whileN c f (Classical.choose q) ρ h else .stuck

/-! ### targets -/
mutual
def asgT : IT → D → PEnv → Option PEnv
  | .nm i, d, ρ => some (ρ.set i (.val d))
  | .tp ts, d, ρ => (match d with
    | .tup xs => asgTs ts xs ρ
    | _ => none)
def asgTs : ITs → List D → PEnv → Option PEnv
  | .nil, xs, ρ => (match xs with
    | [] => some ρ
    | _ :: _ => none)
  | .cons t ts, xs, ρ => (match xs with
    | [] => none
    | x :: r => (asgT t x ρ).bind fun ρ' => asgTs ts r ρ')
end

/-- what is no list and no dict -/
def atom : D → Bool
  | .lst _ => false
  | .dct _ _ => false
  | _ => true
def slotOf (o : Bool) (d : D) : Slot := if o && !atom d then .own d else .val d
mutual
/-- statements -/
inductive IM where
  | set (i : Nat) (e : IE) | setO (i : Nat) (e : IE) | setT (t : IT) (e : IE)
  | par (is : List (Nat × Bool)) (es : IEs)
  | setIx (i : Nat) (k e : IE) | aug (i : Nat) (o : BOp) (e : IE)
  | app (i : Nat) (e : IE) | ext (i : Nat) (e : IE)
  | expr (e : IE)
  | ite (c : IC) (a b : IMs) | whl (c : IC) (b : IMs) | for_ (t : IT) (s : IS) (b : IMs)
  | ret (e : IE) | retN | rse (c : Nat) (m : Option Int)
  | brk | cnt | pass | frz (is : List Nat) | dead
  | tryE (rt : Bool) (e : IE) (x : Nat) (b : IMs)
inductive IMs where
  | nil | cons (s : IM) (r : IMs)
end
def parSet : List (Nat × Bool) → List D → PEnv → Option PEnv
  | [], [], ρ => some ρ
  | (i, o) :: is, d :: ds, ρ => parSet is ds (ρ.set i (slotOf o d))
  | _, _, _ => none
def frzL : List Nat → PEnv → PEnv
  | [], ρ => ρ
  | i :: is, ρ => frzL is (match ρ[i]? with
    | some (.own d) => ρ.set i (.val d)
    | _ => ρ)
/-! ### the meaning -/
section
variable (Φ : Nat → List D → HS → Res D) (Ψ : Nat → (HS → Res D) → HS → Res D) (thk : HS → Res D)
mutual
def den : IE → PEnv → HS → Res D
  | .var i, ρ, h => (match ρ[i]? with
    | some (.val d) => .ok d h
    | _ => .stuck)
  | .ovar i, ρ, h => (match ρ[i]? with
    | some (.val d) => .ok d h
    | some (.own d) => .ok d h
    | _ => .stuck)
  | .lit d, _, h => .ok d h
  | .tup es, ρ, h => (dens es ρ h).bind fun ds h => if ds.length ≤ line then .ok (.tup ds) h else .stuck
  | .lst es, ρ, h => (dens es ρ h).bind fun ds h => if ds.length ≤ line then .ok (.lst ds) h else .stuck
  | .dct ks vs, ρ, h => (dens ks ρ h).bind fun xs h => (dens vs ρ h).bind fun ys h => if xs.isEmpty && ys.isEmpty then .ok (.dct [] []) h else .stuck
  | .rngL t a b, ρ, h => (den a ρ h).bind fun x h => (den b ρ h).bind fun y h => ofO (rngD t x y) h
  | .bin o a b, ρ, h => (den a ρ h).bind fun x h => (den b ρ h).bind fun y h => ofO (binD o x y) h
  | .neg a, ρ, h => (den a ρ h).bind fun x h => ofO (negD x) h
  | .not a, ρ, h => (den a ρ h).bind fun x h => ofO ((truthD x).map fun k => .bl (!k)) h
  | .cmp o a b, ρ, h => (den a ρ h).bind fun x h => (den b ρ h).bind fun y h => ofO ((cmpD o x y).map .bl) h
  | .chain o o' a b c, ρ, h => (den a ρ h).bind fun x h => (den b ρ h).bind fun y h => match cmpD o x y with
    | some true => (den c ρ h).bind fun z h => ofO ((cmpD o' y z).map .bl) h
    | some false => .ok (.bl false) h
    | none => .stuck
  | .and a b, ρ, h => (den a ρ h).bind fun x h => match x with
    | .bl true => den b ρ h
    | .bl false => .ok (.bl false) h
    | _ => .stuck
  | .or a b, ρ, h => (den a ρ h).bind fun x h => match x with
    | .bl true => .ok (.bl true) h
    | .bl false => den b ρ h
    | _ => .stuck
  | .ite c a b, ρ, h => (denC c ρ h).bind fun k h => if k then den a ρ h else den b ρ h
  | .ix a i, ρ, h => (den a ρ h).bind fun x h => (den i ρ h).bind fun y h => ofO (ixD h x y) h
  | .slc a lo hi, ρ, h => (den a ρ h).bind fun x h => (denO lo ρ h).bind fun l h => (denO hi ρ h).bind fun u h => ofO (slcD x l u) h
  | .rev a, ρ, h => (den a ρ h).bind fun x h => ofO (revD x) h
  | .call f as, ρ, h => (dens as ρ h).bind fun ds h => Φ f ds h
  | .callv i as, ρ, h => (match ρ[i]? with
    | some (.val (.fn f)) => (dens as ρ h).bind fun ds h => Φ f ds h
    | _ => .stuck)
  | .thk, _, h => thk h
  | .said f b, ρ, h => Ψ f (fun h => den b ρ h) h
  | .bi b as, ρ, h => (dens as ρ h).bind fun ds h => ofO (biD b ds) h
  | .isi a ts, ρ, h => (den a ρ h).bind fun x h => ofO ((isTys x ts).map .bl) h
  | .mt m o as, ρ, h => (den o ρ h).bind fun x h => if isLst x then (dens as ρ h).bind fun ds h => ofO (mtD m x ds) h else .stuck
  | .lc vs t s c e, ρ, h => (denS s ρ h).bind fun its h =>
      (calmR (lcL (fun d h => match asgT t d (wipeP ρ vs) with
        | some ρ' => (denC c ρ' h).bind fun k h => if k then (den e ρ' h).bind fun x h => .ok (some x) h else .ok none h
        | none => .stuck) its h)).bind fun ds h => if its.length ≤ line then .ok (.lst ds) h else .stuck
  | .isx i c, ρ, h => (match ρ[i]? with
    | some (.exn e) => .ok (.bl (decide (e.c = c))) h
    | _ => .stuck)
  | .xmost i, ρ, h => (match ρ[i]? with
    | some (.exn e) => ofO (e.m.map .int) h
    | _ => .stuck)
def dens : IEs → PEnv → HS → Res (List D)
  | .nil, _, h => .ok [] h
  | .cons e es, ρ, h => (den e ρ h).bind fun x h => (dens es ρ h).bind fun xs h => .ok (x :: xs) h
def denO : IO → PEnv → HS → Res (Option Int)
  | .no, _, h => .ok none h
  | .so e, ρ, h => (den e ρ h).bind fun x h => ofO ((intOf x).map some) h
def denS : IS → PEnv → HS → Res (List D)
  | .val e, ρ, h => (den e ρ h).bind fun x h => ofO (seqOf x) h
  | .rng1 a, ρ, h => (den a ρ h).bind fun x h => match x with
    | .int n => if inR n then .ok (rangeD 0 n.toNat) h else .stuck
    | _ => .stuck
  | .rng2 a b, ρ, h => (den a ρ h).bind fun x h => (den b ρ h).bind fun y h => match x, y with
    | .int lo, .int hi => if inR lo && inR hi then .ok (rangeD lo (hi - lo).toNat) h else .stuck
    | _, _ => .stuck
  | .rng3 _ _ _, _, _ => .stuck
  | .zip a b, ρ, h => (den a ρ h).bind fun x h => (den b ρ h).bind fun y h => match x, y with
    | .lst xs, .lst ys => .ok ((xs.zip ys).map fun p => .tup [p.1, p.2]) h
    | .tup xs, .tup ys => .ok ((xs.zip ys).map fun p => .tup [p.1, p.2]) h
    | _, _ => .stuck
  | .enum a, ρ, h => (den a ρ h).bind fun x h => match x with
    | .lst xs => .ok (xs.zipIdx.map fun p => .tup [.int (p.2 : Nat), p.1]) h
    | _ => .stuck
def denC : IC → PEnv → HS → Res Bool
  | .tt, _, h => .ok true h
  | .val e, ρ, h => (den e ρ h).bind fun x h => ofO (truthD x) h
  | .and a b, ρ, h => (denC a ρ h).bind fun k h => if k then denC b ρ h else .ok false h
  | .or a b, ρ, h => (denC a ρ h).bind fun k h => if k then .ok true h else denC b ρ h
  | .not a, ρ, h => (denC a ρ h).bind fun k h => .ok (!k) h
end
mutual
noncomputable def denM : IM → PEnv → HS → Res Fl
  | .set i e, ρ, h => (den Φ Ψ thk e ρ h).bind fun d h => .ok (.nx (ρ.set i (.val d))) h
  | .setO i e, ρ, h => (den Φ Ψ thk e ρ h).bind fun d h => .ok (.nx (ρ.set i (slotOf true d))) h
  | .setT t e, ρ, h => (den Φ Ψ thk e ρ h).bind fun d h => ofO ((asgT t d ρ).map .nx) h
  | .par is es, ρ, h => (dens Φ Ψ thk es ρ h).bind fun ds h => ofO ((parSet is ds ρ).map .nx) h
  | .setIx i k e, ρ, h => (den Φ Ψ thk e ρ h).bind fun d h => match ρ[i]? with
    | some (.own (.lst xs)) => (den Φ Ψ thk k ρ h).bind fun z h => ofO ((setD xs z d).map fun ys => .nx (ρ.set i (.own (.lst ys)))) h
    | some (.val .hnd) => (den Φ Ψ thk k ρ h).bind fun z h => (match setD h z d with
      | some h' => .ok (.nx ρ) h'
      | none => .stuck)
    | _ => .stuck
  | .aug i o e, ρ, h => (match ρ[i]? with
    | some (.val (.int x)) => (den Φ Ψ thk e ρ h).bind fun y h => (match o, y with
      | .add, .int y => .ok (.nx (ρ.set i (.val (.int (x + y))))) h
      | .sub, .int y => .ok (.nx (ρ.set i (.val (.int (x - y))))) h
      | _, _ => .stuck)
    | _ => .stuck)
  | .app i e, ρ, h => (match ρ[i]? with
    | some (.own (.lst xs)) => (den Φ Ψ thk e ρ h).bind fun d h => if xs.length < line then .ok (.nx (ρ.set i (.own (.lst (xs ++ [d]))))) h else .stuck
    | _ => .stuck)
  | .ext i e, ρ, h => (match ρ[i]? with
    | some (.own (.lst xs)) => (den Φ Ψ thk e ρ h).bind fun d h => match d with
      | .lst ys => if xs.length + ys.length ≤ line then .ok (.nx (ρ.set i (.own (.lst (xs ++ ys))))) h else .stuck
      | _ => .stuck
    | _ => .stuck)
  | .expr e, ρ, h => (den Φ Ψ thk e ρ h).bind fun _ h => .ok (.nx ρ) h
  | .ite c a b, ρ, h => (denC Φ Ψ thk c ρ h).bind fun k h => if k then denMs a ρ h else denMs b ρ h
  | .whl c b, ρ, h => whileL (fun ρ h => denC Φ Ψ thk c ρ h) (fun ρ h => denMs b ρ h) ρ h
  | .for_ t s b, ρ, h => (denS Φ Ψ thk s ρ h).bind fun its h => forL (fun d ρ h => match asgT t d ρ with
    | some ρ' => denMs b ρ' h
    | none => .stuck) its ρ h
  | .ret e, ρ, h => (den Φ Ψ thk e ρ h).bind fun d h => .ok (.rt d) h
  | .retN, _, h => .ok (.rt .non) h
  | .rse c m, _, h => .exc ⟨c, m⟩ h
  | .brk, ρ, h => .ok (.bk ρ) h
  | .cnt, ρ, h => .ok (.ct ρ) h
  | .pass, ρ, h => .ok (.nx ρ) h
  | .frz is, ρ, h => .ok (.nx (frzL is ρ)) h
  | .dead, _, _ => .stuck
  | .tryE rt e x b, ρ, h => (match den Φ Ψ thk e ρ h with
    | .ok d h => .ok (if rt then .rt d else .nx ρ) h
    | .exc q h => (denMs b (ρ.set x (.exn q)) h).bind fun f h => .ok (match f with
      | .nx ρ' => .nx (ρ'.set x .no)
      | f => f) h
    | .stuck => .stuck)
noncomputable def denMs : IMs → PEnv → HS → Res Fl
  | .nil, ρ, h => .ok (.nx ρ) h
  | .cons s r, ρ, h => (denM s ρ h).bind fun f h => match f with
    | .nx ρ' => denMs r ρ' h
    | f => .ok f h
end
/-- a def's body, n names -/
noncomputable def denF (b : IMs) (n : Nat) (ds : List D) (h : HS) : Res D :=
  (denMs Φ Ψ thk b (ds.map .val ++ List.replicate (n - ds.length) .no) h).bind fun f h => match f with
    | .rt d => .ok d h
    | .nx _ => .ok .non h
    | _ => .stuck
end

/-! ### while: one turn -/
theorem whileN_more {c : PEnv → HS → Res Bool} {f : PEnv → HS → Res Fl} : ∀ {n : Nat} {ρ : PEnv} {h : HS}, whileN c f n ρ h ≠ .stuck → whileN c f (n + 1) ρ h = whileN c f n ρ h
  | 0, ρ, h, q => absurd rfl q
  | n + 1, ρ, h, q => by
    rw [whileN, whileN]
    rw [whileN] at q
    cases e : c ρ h with
    | stuck => rfl
    | exc x h1 => rfl
    | ok b h1 =>
      rw [e] at q
      simp only [Res.bind] at q ⊢
      cases b with
      | false => rfl
      | true =>
        simp only [if_true] at q ⊢
        cases e2 : f ρ h1 with
        | stuck => rfl
        | exc x h2 => rfl
        | ok g h2 =>
          rw [e2] at q
          simp only at q ⊢
          cases g with
          | nx ρ' => exact whileN_more q
          | ct ρ' => exact whileN_more q
          | bk ρ' => rfl
          | rt d => rfl
theorem whileN_le {c : PEnv → HS → Res Bool} {f : PEnv → HS → Res Fl} {n : Nat} {ρ : PEnv} {h : HS} (q : whileN c f n ρ h ≠ .stuck) : ∀ k, whileN c f (n + k) ρ h = whileN c f n ρ h
  | 0 => rfl
  | k + 1 => by
    have e := whileN_le q k
    rw [← Nat.add_assoc, whileN_more (by rw [e]; exact q), e]
theorem whileL_of {c : PEnv → HS → Res Bool} {f : PEnv → HS → Res Fl} {n : Nat} {ρ : PEnv} {h : HS} (q : whileN c f n ρ h ≠ .stuck) : whileL c f ρ h = whileN c f n ρ h := by
  have z : ∃ n, whileN c f n ρ h ≠ .stuck := ⟨n, q⟩
  unfold whileL
  rw [dif_pos z]
  have q2 := Classical.choose_spec z
  generalize Classical.choose z = m at q2
  have e1 := whileN_le q m
  have e2 := whileN_le q2 n
  rw [Nat.add_comm] at e2
  rw [← e2, e1]
theorem whileL_ex {c : PEnv → HS → Res Bool} {f : PEnv → HS → Res Fl} {ρ : PEnv} {h : HS} (q : whileL c f ρ h ≠ .stuck) : ∃ n, whileL c f ρ h = whileN c f n ρ h := by
  unfold whileL at q ⊢
  split
  · exact ⟨_, rfl⟩
  · rename_i z
    rw [dif_neg z] at q
    exact absurd rfl q
/-- the turn's equation -/
theorem whileL_eq (c : PEnv → HS → Res Bool) (f : PEnv → HS → Res Fl) (ρ : PEnv) (h : HS) : whileL c f ρ h = (c ρ h).bind fun b h => if b then (f ρ h).bind fun x h => match x with
    | .nx ρ' => whileL c f ρ' h
    | .ct ρ' => whileL c f ρ' h
    | .bk ρ' => .ok (.nx ρ') h
    | .rt d => .ok (.rt d) h
    else .ok (.nx ρ) h := by
  by_cases z : ∃ n, whileN c f n ρ h ≠ .stuck
  · obtain ⟨n, q⟩ := z
    cases n with
    | zero => exact absurd rfl q
    | succ n =>
      rw [whileL_of q]
      rw [whileN] at q ⊢
      cases e : c ρ h with
      | stuck => rfl
      | exc x h1 => rfl
      | ok b h1 =>
        rw [e] at q
        simp only [Res.bind] at q ⊢
        cases b with
        | false => rfl
        | true =>
          simp only [if_true] at q ⊢
          cases e2 : f ρ h1 with
          | stuck => rfl
          | exc x h2 => rfl
          | ok g h2 =>
            rw [e2] at q
            simp only at q ⊢
            cases g with
            | nx ρ' => exact (whileL_of q).symm
            | ct ρ' => exact (whileL_of q).symm
            | bk ρ' => rfl
            | rt d => rfl
  · have e0 : whileL c f ρ h = .stuck := by
      unfold whileL
      rw [dif_neg z]
    rw [e0]
    cases e : c ρ h with
    | stuck => rfl
    | exc x h1 => exact absurd ⟨1, by rw [whileN, e]; simp [Res.bind]⟩ z
    | ok b h1 =>
      simp only [Res.bind]
      cases b with
      | false => exact absurd ⟨1, by rw [whileN, e]; simp [Res.bind]⟩ z
      | true =>
        simp only [if_true]
        cases e2 : f ρ h1 with
        | stuck => rfl
        | exc x h2 => exact absurd ⟨1, by rw [whileN, e]; simp [Res.bind, e2]⟩ z
        | ok g h2 =>
          simp only
          have lift : ∀ ρ' , (g = .nx ρ' ∨ g = .ct ρ') → whileL c f ρ' h2 = .stuck := fun ρ' hg => by
            by_cases y : ∃ n, whileN c f n ρ' h2 ≠ .stuck
            · obtain ⟨n, q⟩ := y
              refine absurd ⟨n + 1, ?_⟩ z
              rw [whileN, e]
              simp only [Res.bind, if_true, e2]
              rcases hg with hg | hg <;> (subst hg; exact q)
            · unfold whileL
              rw [dif_neg y]
          cases g with
          | nx ρ' => exact (lift ρ' (.inl rfl)).symm
          | ct ρ' => exact (lift ρ' (.inr rfl)).symm
          | bk ρ' => exact absurd ⟨1, by rw [whileN, e]; simp [Res.bind, e2]⟩ z
          | rt d => exact absurd ⟨1, by rw [whileN, e]; simp [Res.bind, e2]⟩ z
end PD

set_option Elab.async false
set_option linter.all false
set_option maxRecDepth 100000
set_option maxHeartbeats 2000000
/-! P2: data in the heap; what an expression's reading owes its meaning. -/
namespace PD
open PySem PySem.Spec PyProof.Rows L2
abbrev St := L2.St

/-- what is fixed through a law -/
structure Cfg where
  P : Program
  w : World
  K : PySem.W.Frag
  mg : Str → Option Value
  base : Heap
  /-- the defs: names, addresses, objects, parameters -/
  nm : List Str
  fa : Nat → Addr
  fd : Nat → FuncData
  ps : Nat → List Str
  /-- names that stand for data; free ones -/
  cs : List (Str × D)
  fr : List Str
  /-- classes of errors -/
  xn : List Str
  ca : Nat → Addr
  T : List (Addr × Str)

def NT (o : HO) : Prop := ∀ ps, o ≠ .tbl ps
/-- nothing that is leant on stands there -/
def FreshAt (H : Hp) (p : Addr) : Prop := ∀ o, H p = some o → ¬ NT o
theorem freshAt_none {H : Hp} {p : Addr} (h : H p = none) : FreshAt H p := fun o e => by rw [h] at e; cases e
def kD : Key → D
  | .inl i => .int i
  | .inr x => .str x
variable (G : Cfg)

mutual
/-- v stands for d; what lies in B is not leant on -/
def Rep (ha : Addr) (B : Addr → Prop) (H : Hp) : D → V → Prop
  | .non, v => v = .non
  | .bl b, v => v = .bl b
  | .int i, v => v = .int i
  | .str x, v => v = .str x
  | .tup ds, v => ∃ a vs, v = .ref a ∧ SqT G.K H a vs ∧ Reps ha B H ds vs
  | .lst ds, v => ∃ a vs, v = .ref a ∧ ¬ B a ∧ H a = some (.lst vs) ∧ Reps ha B H ds vs
  | .dct ks xs, v => ∃ a kvs, v = .ref a ∧ ¬ B a ∧ H a = some (.dK kvs) ∧ ks = kvs.map (fun p => kD p.1) ∧ Reps ha B H xs (kvs.map (·.2))
  | .fn n, v => v = .ref (G.fa n) ∧ (G.nm[n]?).isSome = true
  | .hnd, v => v = .ref ha
def Reps (ha : Addr) (B : Addr → Prop) (H : Hp) : List D → List V → Prop
  | [], vs => vs = []
  | d :: ds, vs => ∃ v r, vs = v :: r ∧ Rep ha B H d v ∧ Reps ha B H ds r
end
/-- as Rep, but the object itself may lie in B -/
def WRep (ha : Addr) (B : Addr → Prop) (H : Hp) : D → V → Prop
  | .lst ds, v => ∃ a vs, v = .ref a ∧ a ≠ ha ∧ H a = some (.lst vs) ∧ Reps G ha B H ds vs
  | .dct ks xs, v => ∃ a kvs, v = .ref a ∧ a ≠ ha ∧ H a = some (.dK kvs) ∧ ks = kvs.map (fun p => kD p.1) ∧ Reps G ha B H xs (kvs.map (·.2))
  | d, v => Rep G ha B H d v
def WReps (ha : Addr) (B : Addr → Prop) (H : Hp) : List D → List V → Prop
  | [], vs => vs = []
  | d :: ds, vs => ∃ v r, vs = v :: r ∧ WRep G ha B H d v ∧ WReps ha B H ds r
/-- how a value stands for d: perhaps in B; not in B; newly made if it is a list or a dict (H0: the heap ahead) -/
inductive Md where
  | wk | st | fr
/-- what S does not hold stays -/
structure Keep (S : Addr → Prop) (H H' : Hp) : Prop where
  at_ : ∀ b o, ¬ S b → H b = some o → NT o → H' b = some o
  tup : ∀ b xs, H b = some (.tup xs) → H' b = some (.tup xs)
  frz : ∀ b o u, H b = some (.frz o u) → H' b = some (.frz o u)
abbrev Ext (ha : Addr) : Hp → Hp → Prop := Keep (fun b => b = ha)

variable {G : Cfg} {ha : Addr} {B B' : Addr → Prop} {S S' : Addr → Prop} {H H1 H' H'' : Hp}
theorem Keep.refl : Keep S H H := ⟨fun _ _ _ e _ => e, fun _ _ e => e, fun _ _ _ e => e⟩
theorem Keep.trans (a : Keep S H H1) (b : Keep S H1 H') : Keep S H H' :=
  ⟨fun c o n e t => b.at_ c o n (a.at_ c o n e t) t, fun c xs e => b.tup c xs (a.tup c xs e), fun c o u e => b.frz c o u (a.frz c o u e)⟩
theorem Keep.imp (a : Keep S H H') (h : ∀ b, S b → S' b) : Keep S' H H' := ⟨fun c o n e t => a.at_ c o (fun z => n (h c z)) e t, a.tup, a.frz⟩
theorem Keep.of_same (s : Same H H') : Keep S H H' := ⟨fun b o _ e _ => s b o e, fun b xs e => s b _ e, fun b o u e => s b _ e⟩
theorem same_new {p : Addr} {o : HO} (n : H p = none) : Same H (upd H p o) := fun b u e => by
  rw [upd_ne (ne_of_none e n)]
  exact e
theorem Keep.new {p : Addr} {o : HO} (n : H p = none) : Keep S H (upd H p o) := .of_same (same_new n)
/-- a list (a dict) in S is written -/
theorem Keep.wr {p : Addr} {o u : HO} (hp : S p) (e : H p = some u) (h1 : ∀ xs, u ≠ .tup xs) (h2 : ∀ a b, u ≠ .frz a b) : Keep S H (upd H p o) :=
  ⟨fun b z n q _ => by rw [upd_ne (fun y : b = p => n (by rw [y]; exact hp))]; exact q,
   fun b xs q => by rw [upd_ne (fun y : b = p => h1 xs (by rw [y, e] at q; exact Option.some.inj q))]; exact q,
   fun b a c q => by rw [upd_ne (fun y : b = p => h2 a c (by rw [y, e] at q; exact Option.some.inj q))]; exact q⟩
theorem Keep.sqT {K : PySem.W.Frag} {a : Addr} {xs : List V} (k : Keep S H H') (h : SqT K H a xs) : SqT K H' a xs := by
  rcases h with (h | ⟨o, h⟩) | h
  · exact .inl (.inl (k.tup _ _ h))
  · exact .inl (.inr ⟨o, k.frz _ _ _ h⟩)
  · exact .inr h
theorem nt_lst {xs : List V} : NT (.lst xs) := fun _ h => nomatch h
theorem nt_tup {xs : List V} : NT (.tup xs) := fun _ h => nomatch h
theorem nt_dK {kvs : List (Key × V)} : NT (.dK kvs) := fun _ h => nomatch h

mutual
theorem Rep.keep (k : Keep B H H') : ∀ {d : D} {v : V}, Rep G ha B H d v → Rep G ha B H' d v
  | .non, _, h => h
  | .bl _, _, h => h
  | .int _, _, h => h
  | .str _, _, h => h
  | .tup ds, _, h => by
    simp only [Rep] at h ⊢
    obtain ⟨a, vs, e, s, r⟩ := h
    exact ⟨a, vs, e, k.sqT s, Reps.keep k r⟩
  | .lst ds, _, h => by
    simp only [Rep] at h ⊢
    obtain ⟨a, vs, e, n, s, r⟩ := h
    exact ⟨a, vs, e, n, k.at_ _ _ n s nt_lst, Reps.keep k r⟩
  | .dct ks xs, _, h => by
    simp only [Rep] at h ⊢
    obtain ⟨a, vs, e, n, s, q, r⟩ := h
    exact ⟨a, vs, e, n, k.at_ _ _ n s nt_dK, q, Reps.keep k r⟩
  | .fn _, _, h => h
  | .hnd, _, h => h
theorem Reps.keep (k : Keep B H H') : ∀ {ds : List D} {vs : List V}, Reps G ha B H ds vs → Reps G ha B H' ds vs
  | [], _, h => by
    simp only [Reps] at h ⊢
    exact h
  | d :: ds, _, h => by
    simp only [Reps] at h ⊢
    obtain ⟨v, r, e, h1, h2⟩ := h
    exact ⟨v, r, e, Rep.keep k h1, Reps.keep k h2⟩
end
mutual
/-- B may shrink, and grow by what is not tracked -/
theorem Rep.chg (k : ∀ b, B' b → B b ∨ FreshAt H b) : ∀ {d : D} {v : V}, Rep G ha B H d v → Rep G ha B' H d v
  | .non, _, h => h
  | .bl _, _, h => h
  | .int _, _, h => h
  | .str _, _, h => h
  | .tup ds, _, h => by
    simp only [Rep] at h ⊢
    obtain ⟨a, vs, e, s, r⟩ := h
    exact ⟨a, vs, e, s, Reps.chg k r⟩
  | .lst ds, _, h => by
    simp only [Rep] at h ⊢
    obtain ⟨a, vs, e, n, s, r⟩ := h
    exact ⟨a, vs, e, fun z => (k a z).elim n (fun y => y _ s nt_lst), s, Reps.chg k r⟩
  | .dct ks xs, _, h => by
    simp only [Rep] at h ⊢
    obtain ⟨a, vs, e, n, s, q, r⟩ := h
    exact ⟨a, vs, e, fun z => (k a z).elim n (fun y => y _ s nt_dK), s, q, Reps.chg k r⟩
  | .fn _, _, h => h
  | .hnd, _, h => h
theorem Reps.chg (k : ∀ b, B' b → B b ∨ FreshAt H b) : ∀ {ds : List D} {vs : List V}, Reps G ha B H ds vs → Reps G ha B' H ds vs
  | [], _, h => by
    simp only [Reps] at h ⊢
    exact h
  | d :: ds, _, h => by
    simp only [Reps] at h ⊢
    obtain ⟨v, r, e, h1, h2⟩ := h
    exact ⟨v, r, e, Rep.chg k h1, Reps.chg k h2⟩
end
theorem Reps.nil : Reps G ha B H [] [] := by simp only [Reps]
theorem Reps.cons {d : D} {v : V} {ds : List D} {vs : List V} (h : Rep G ha B H d v) (t : Reps G ha B H ds vs) : Reps G ha B H (d :: ds) (v :: vs) := by
  simp only [Reps]
  exact ⟨v, vs, rfl, h, t⟩
theorem Reps.length : ∀ {ds : List D} {vs : List V}, Reps G ha B H ds vs → ds.length = vs.length
  | [], _, h => by
    simp only [Reps] at h
    rw [h]
    rfl
  | d :: ds, _, h => by
    simp only [Reps] at h
    obtain ⟨v, r, e, _, h2⟩ := h
    rw [e, List.length_cons, List.length_cons, Reps.length h2]
theorem Reps.append : ∀ {ds es : List D} {vs us : List V}, Reps G ha B H ds vs → Reps G ha B H es us → Reps G ha B H (ds ++ es) (vs ++ us)
  | [], _, _, _, h, t => by
    simp only [Reps] at h
    rw [h]
    exact t
  | d :: ds, _, _, _, h, t => by
    simp only [Reps] at h
    obtain ⟨v, r, e, h1, h2⟩ := h
    rw [e]
    exact .cons h1 (Reps.append h2 t)
theorem Reps.get : ∀ {ds : List D} {vs : List V} {i : Nat} {d : D}, Reps G ha B H ds vs → ds[i]? = some d → ∃ v, vs[i]? = some v ∧ Rep G ha B H d v
  | [], _, _, _, _, e => by simp at e
  | d :: ds, _, 0, _, h, e => by
    simp only [Reps] at h
    obtain ⟨v, r, q, h1, h2⟩ := h
    simp at e
    subst q e
    exact ⟨v, rfl, h1⟩
  | d :: ds, _, i + 1, _, h, e => by
    simp only [Reps] at h
    obtain ⟨v, r, q, h1, h2⟩ := h
    subst q
    obtain ⟨u, e1, e2⟩ := Reps.get (i := i) h2 (by simpa using e)
    exact ⟨u, by simpa using e1, e2⟩
theorem Reps.get' : ∀ {ds : List D} {vs : List V} {i : Nat} {v : V}, Reps G ha B H ds vs → vs[i]? = some v → ∃ d, ds[i]? = some d ∧ Rep G ha B H d v
  | [], _, _, _, h, e => by
    simp only [Reps] at h
    rw [h] at e
    simp at e
  | d :: ds, _, 0, _, h, e => by
    simp only [Reps] at h
    obtain ⟨v, r, q, h1, h2⟩ := h
    subst q
    simp at e
    subst e
    exact ⟨d, rfl, h1⟩
  | d :: ds, _, i + 1, _, h, e => by
    simp only [Reps] at h
    obtain ⟨v, r, q, h1, h2⟩ := h
    subst q
    obtain ⟨u, e1, e2⟩ := Reps.get' (i := i) h2 (by simpa using e)
    exact ⟨u, by simpa using e1, e2⟩
theorem Reps.set {d : D} {v : V} (q : Rep G ha B H d v) : ∀ {ds : List D} {vs : List V} (i : Nat), Reps G ha B H ds vs → Reps G ha B H (ds.set i d) (vs.set i v)
  | [], _, _, h => by
    simp only [Reps] at h
    subst h
    exact .nil
  | _ :: ds, _, 0, h => by
    simp only [Reps] at h
    obtain ⟨_, r, e, _, h2⟩ := h
    subst e
    exact .cons q h2
  | _ :: ds, _, i + 1, h => by
    simp only [Reps] at h
    obtain ⟨_, r, e, h1, h2⟩ := h
    subst e
    exact .cons h1 (Reps.set q i h2)
theorem Reps.take : ∀ {ds : List D} {vs : List V} (n : Nat), Reps G ha B H ds vs → Reps G ha B H (ds.take n) (vs.take n)
  | _, _, 0, _ => by simp [Reps]
  | [], _, _ + 1, h => by
    simp only [Reps] at h
    subst h
    exact .nil
  | _ :: ds, _, n + 1, h => by
    simp only [Reps] at h
    obtain ⟨_, r, e, h1, h2⟩ := h
    subst e
    exact .cons h1 (Reps.take n h2)
theorem Reps.drop : ∀ {ds : List D} {vs : List V} (n : Nat), Reps G ha B H ds vs → Reps G ha B H (ds.drop n) (vs.drop n)
  | _, _, 0, h => h
  | [], _, _ + 1, h => by
    simp only [Reps] at h
    subst h
    exact .nil
  | _ :: ds, _, n + 1, h => by
    simp only [Reps] at h
    obtain ⟨_, r, e, h1, h2⟩ := h
    subst e
    exact Reps.drop n h2
theorem Reps.reverse : ∀ {ds : List D} {vs : List V}, Reps G ha B H ds vs → Reps G ha B H ds.reverse vs.reverse
  | [], _, h => by
    simp only [Reps] at h
    subst h
    exact .nil
  | _ :: ds, _, h => by
    simp only [Reps] at h
    obtain ⟨_, r, e, h1, h2⟩ := h
    subst e
    rw [List.reverse_cons, List.reverse_cons]
    exact .append (Reps.reverse h2) (.cons h1 .nil)
theorem Reps.rep {ds : List D} {vs : List V} (h : Reps G ha B H ds vs) : ∀ k : Nat, Reps G ha B H (List.replicate k ds).flatten (List.replicate k vs).flatten
  | 0 => .nil
  | k + 1 => by
    rw [List.replicate_succ, List.replicate_succ, List.flatten_cons, List.flatten_cons]
    exact .append h (Reps.rep h k)
theorem Rep.weak (hB : B ha) {d : D} {v : V} (h : Rep G ha B H d v) : WRep G ha B H d v := by
  cases d with
  | lst ds =>
    simp only [Rep, WRep] at h ⊢
    obtain ⟨a, vs, e, n, s, r⟩ := h
    exact ⟨a, vs, e, fun z => n (z ▸ hB), s, r⟩
  | dct ks xs =>
    simp only [Rep, WRep] at h ⊢
    obtain ⟨a, vs, e, n, s, q, r⟩ := h
    exact ⟨a, vs, e, fun z => n (z ▸ hB), s, q, r⟩
  | _ => exact h
theorem WRep.keep (hB : B ha) (k : Ext ha H H') {d : D} {v : V} (h : WRep G ha B H d v) : WRep G ha B H' d v := by
  have kB : Keep B H H' := k.imp fun b z => z ▸ hB
  cases d with
  | lst ds =>
    simp only [WRep] at h ⊢
    obtain ⟨a, vs, e, n, s, r⟩ := h
    exact ⟨a, vs, e, n, k.at_ _ _ n s nt_lst, Reps.keep kB r⟩
  | dct ks xs =>
    simp only [WRep] at h ⊢
    obtain ⟨a, vs, e, n, s, q, r⟩ := h
    exact ⟨a, vs, e, n, k.at_ _ _ n s nt_dK, q, Reps.keep kB r⟩
  | _ => exact Rep.keep kB h
theorem WReps.keep (hB : B ha) (k : Ext ha H H') : ∀ {ds : List D} {vs : List V}, WReps G ha B H ds vs → WReps G ha B H' ds vs
  | [], _, h => h
  | d :: ds, _, ⟨v, r, e, h1, h2⟩ => ⟨v, r, e, WRep.keep hB k h1, WReps.keep hB k h2⟩
theorem WRep.st {d : D} {v : V} (h : WRep G ha B H d v) (ht : atom d = true) : Rep G ha B H d v := by
  cases d <;> first | exact h | cases ht

/-! ### the hand, the tables -/
structure Hnd (G : Cfg) (ha : Addr) (B : Addr → Prop) (H : Hp) (hs : HS) : Prop where
  hB : B ha
  at_ : ∃ vs, H ha = some (.lst vs) ∧ Reps G ha B H hs vs
  trk : ∀ b, B b → ∃ o, H b = some o ∧ NT o
  tab : LamX.Tabs G.T H
theorem Hnd.ext_tup {hs : HS} (h : Hnd G ha B H hs) (k : ∀ b o, b ≠ ha → H b = some o → NT o → H' b = some o) (kf : ∀ b o u, H b = some (.frz o u) → H' b = some (.frz o u)) : Ext ha H H' := by
  obtain ⟨vs, e, _⟩ := h.at_
  exact ⟨k, fun b xs q => k b _ (fun z => by rw [z, e] at q; cases q) q nt_tup, kf⟩
theorem Hnd.ext {hs : HS} (h : Hnd G ha B H hs) (k : ∀ b o, b ≠ ha → H b = some o → NT o → H' b = some o) : Ext ha H H' := by
  obtain ⟨vs, e, _⟩ := h.at_
  exact ⟨k, fun b xs q => k b _ (fun z => by rw [z, e] at q; cases q) q nt_tup, fun b o u q => k b _ (fun z => by rw [z, e] at q; cases q) q (fun _ z => nomatch z)⟩
/-- all that is tracked stays -/
theorem Hnd.same {hs : HS} (h : Hnd G ha B H hs) (s : Same H H') : Hnd G ha B H' hs := by
  obtain ⟨vs, e, r⟩ := h.at_
  refine ⟨h.hB, ⟨vs, s _ _ e, Reps.keep (.of_same s) r⟩, fun b z => ?_, h.tab.ext s⟩
  obtain ⟨o, q, t⟩ := h.trk b z
  exact ⟨o, s _ _ q, t⟩
theorem Hnd.chg {hs : HS} (h : Hnd G ha B H hs) (hB : B' ha) (k : ∀ b, B' b → B b ∨ FreshAt H b) (t : ∀ b, B' b → ∃ o, H b = some o ∧ NT o) : Hnd G ha B' H hs := by
  obtain ⟨vs, e, r⟩ := h.at_
  exact ⟨hB, ⟨vs, e, Reps.chg k r⟩, t, h.tab⟩

/-- newly made, if it is a list or a dict: not leant on by the hand either -/
def Fresh (G : Cfg) (ha : Addr) (B : Addr → Prop) (H0 H : Hp) (d : D) (v : V) (hs : HS) : Prop := match d with
  | .lst ds => ∃ p vs, v = .ref p ∧ FreshAt H0 p ∧ ¬ B p ∧ H p = some (.lst vs) ∧ Hnd G ha (fun b => B b ∨ b = p) H hs ∧ Reps G ha (fun b => B b ∨ b = p) H ds vs
  | .dct ks xs => ∃ p kvs, v = .ref p ∧ FreshAt H0 p ∧ ¬ B p ∧ H p = some (.dK kvs) ∧ Hnd G ha (fun b => B b ∨ b = p) H hs ∧ ks = kvs.map (fun p => kD p.1) ∧ Reps G ha (fun b => B b ∨ b = p) H xs (kvs.map (·.2))
  | d => Rep G ha B H d v
def RepM (G : Cfg) (m : Md) (ha : Addr) (B : Addr → Prop) (H0 H : Hp) (d : D) (v : V) (hs : HS) : Prop := match m with
  | .wk => WRep G ha B H d v
  | .st => Rep G ha B H d v
  | .fr => Fresh G ha B H0 H d v hs
theorem Fresh.rep {d : D} {v : V} {H0 : Hp} {hs : HS} (h : Fresh G ha B H0 H d v hs) : Rep G ha B H d v := by
  cases d with
  | lst ds =>
    simp only [Fresh, Rep] at h ⊢
    obtain ⟨p, vs, e, _, n, s, _, r⟩ := h
    exact ⟨p, vs, e, n, s, Reps.chg (fun b z => .inl (.inl z)) r⟩
  | dct ks xs =>
    simp only [Fresh, Rep] at h ⊢
    obtain ⟨p, vs, e, _, n, s, _, q, r⟩ := h
    exact ⟨p, vs, e, n, s, q, Reps.chg (fun b z => .inl (.inl z)) r⟩
  | _ => exact h
theorem Fresh.weak (hB : B ha) {d : D} {v : V} {H0 : Hp} {hs : HS} (h : Fresh G ha B H0 H d v hs) : WRep G ha B H d v := Rep.weak hB h.rep
theorem RepM.weak {m : Md} {H0 : Hp} {hs : HS} (hB : B ha) {d : D} {v : V} (h : RepM G m ha B H0 H d v hs) : WRep G ha B H d v := by
  cases m with
  | wk => exact h
  | st => exact Rep.weak hB h
  | fr => exact Fresh.weak hB h
theorem Rep.any {m : Md} {H0 : Hp} {hs : HS} (hB : B ha) {d : D} {v : V} (h : Rep G ha B H d v) (ht : atom d = true) : RepM G m ha B H0 H d v hs := by
  cases m with
  | wk => exact Rep.weak hB h
  | st => exact h
  | fr => cases d <;> first | exact h | cases ht
/-- a new list in B -/
theorem Hnd.plus {hs : HS} {D : Addr} {xs : List V} (h : Hnd G ha B H hs) (n : H D = none) : Hnd G ha (fun b => B b ∨ b = D) (upd H D (.lst xs)) hs := by
  obtain ⟨vs, e, r⟩ := h.at_
  have hh := h.same (same_new (o := .lst xs) n)
  refine ⟨.inl hh.hB, ⟨vs, same_new n _ _ e, Reps.keep (Keep.new n) (Reps.chg (fun b z => z.elim .inl fun y => .inr (y ▸ freshAt_none n)) r)⟩, fun b z => ?_, hh.tab⟩
  rcases z with z | rfl
  · exact hh.trk b z
  · exact ⟨_, upd_same, nt_lst⟩

/-! ### the slots -/
def SlotOk (G : Cfg) (ha : Addr) (B : Addr → Prop) (H : Hp) (s : Slot) (x : Option (Option V)) : Prop :=
  match s with
  | .no => True
  | .val d => ∃ v, x = some (some v) ∧ Rep G ha B H d v
  | .own d => ∃ v, x = some (some v) ∧ WRep G ha B H d v
  | .exn _ => True
structure ESim (G : Cfg) (ha : Addr) (B : Addr → Prop) (ρ : PEnv) (hs : HS) (σ : St) (H : Hp) : Prop where
  len : σ.length = ρ.length
  at_ : ∀ (i : Nat) (s : Slot), ρ[i]? = some s → SlotOk G ha B H s σ[i]?
  hnd : Hnd G ha B H hs
theorem ESim.ext {ρ : PEnv} {hs hs' : HS} {σ : St} (S : ESim G ha B ρ hs σ H) (k : Ext ha H H') (h : Hnd G ha B H' hs') : ESim G ha B ρ hs' σ H' := by
  refine ⟨S.len, fun i s e => ?_, h⟩
  have q := S.at_ i s e
  cases s with
  | no => trivial
  | exn _ => trivial
  | val d =>
    obtain ⟨v, e1, r⟩ := q
    exact ⟨v, e1, Rep.keep (k.imp fun b z => z ▸ h.hB) r⟩
  | own d =>
    obtain ⟨v, e1, r⟩ := q
    exact ⟨v, e1, WRep.keep h.hB k r⟩

/-! ### what is owed -/
def ExcAt (e : Exc) (dx : Option Addr) (H : Hp) : Prop := match e.m with
  | none => dx = none
  | some m => ∃ a, dx = some a ∧ H a = some (.xd [("most", .int m)])
def XPost (G : Cfg) (ha : Addr) (B : Addr → Prop) (H : Hp) (E : XK) (e : Exc) (hs : HS) : Prop :=
  ∀ dx H', Ext ha H H' → Hnd G ha B H' hs → ExcAt e dx H' → E (.ref (G.ca e.c)) dx H'
/-- the end of something that gives an α, told by R (of the heap ahead, the α, what stands for it, the heap behind) -/
abbrev Rl (α β : Type) := Hp → α → β → HS → Hp → Prop
def RPost {α β : Type} (G : Cfg) (ha : Addr) (B : Addr → Prop) (H : Hp) (R : Rl α β) (Q : β → Hp → Prop) (E : XK) : Res α → Prop
  | .ok a hs => ∀ v H', Ext ha H H' → Hnd G ha B H' hs → R H a v hs H' → Q v H'
  | .exc e hs => XPost G ha B H E e hs
  | .stuck => False
abbrev RE (G : Cfg) (m : Md) (ha : Addr) (B : Addr → Prop) : Rl D V := fun H d v hs H' => RepM G m ha B H H' d v hs
abbrev RT : Rl Bool Bool := fun _ k b _ _ => b = k
abbrev RA (G : Cfg) (wk : Bool) (ha : Addr) (B : Addr → Prop) : Rl (List D) (List V) := fun _ ds vs _ H' => if wk = true then WReps G ha B H' ds vs else Reps G ha B H' ds vs
abbrev EPost (G : Cfg) (m : Md) (ha : Addr) (B : Addr → Prop) (H : Hp) (Q : VK) (E : XK) : Res D → Prop := RPost G ha B H (RE G m ha B) Q E
abbrev TPost (G : Cfg) (ha : Addr) (B : Addr → Prop) (H : Hp) (Q : Bool → Hp → Prop) (E : XK) : Res Bool → Prop := RPost G ha B H RT Q E
abbrev APost (G : Cfg) (wk : Bool) (ha : Addr) (B : Addr → Prop) (H : Hp) (Q : List V → Hp → Prop) (E : XK) : Res (List D) → Prop := RPost G ha B H (RA G wk ha B) Q E
def Lifts {α β : Type} (G : Cfg) (ha : Addr) (B : Addr → Prop) (R : Rl α β) : Prop := ∀ H H1 H' hs hs' a v, Ext ha H H1 → Hnd G ha B H1 hs → R H1 a v hs' H' → R H a v hs' H'
theorem lifts_E {m : Md} : Lifts G ha B (RE G m ha B) := fun H H1 H' hs hs' d v k hh h => by
  cases m with
  | wk => exact h
  | st => exact h
  | fr =>
    have fr : ∀ {p : Addr}, FreshAt H1 p → FreshAt H p := fun {p} f o e n => by
      by_cases hp : p = ha
      · obtain ⟨vs, q, _⟩ := hh.at_
        exact f _ (by rw [hp]; exact q) nt_lst
      · exact f o (k.at_ p o hp e n) n
    cases d with
    | lst ds =>
      obtain ⟨p, vs, e, f, n, s, hp, r⟩ := h
      exact ⟨p, vs, e, fr f, n, s, hp, r⟩
    | dct ks xs =>
      obtain ⟨p, vs, e, f, n, s, hp, q, r⟩ := h
      exact ⟨p, vs, e, fr f, n, s, hp, q, r⟩
    | _ => exact h
theorem lifts_T : Lifts G ha B RT := fun _ _ _ _ _ _ _ _ _ h => h
theorem lifts_A {wk : Bool} : Lifts G ha B (RA G wk ha B) := fun _ _ _ _ _ _ _ _ _ h => h
theorem XPost.base {e : Exc} {hs : HS} {E : XK} (p : XPost G ha B H E e hs) (k : Ext ha H H1) : XPost G ha B H1 E e hs :=
  fun dx H' k2 h x => p dx H' (k.trans k2) h x
theorem RPost.base {α β : Type} {R : Rl α β} {Q : β → Hp → Prop} {E : XK} {r : Res α} {hs1 : HS} (L : Lifts G ha B R) (p : RPost G ha B H R Q E r) (k : Ext ha H H1) (hh : Hnd G ha B H1 hs1) : RPost G ha B H1 R Q E r := by
  cases r with
  | ok a hs => exact fun v H' k2 h q => p v H' (k.trans k2) h (L H H1 H' _ _ a v k hh q)
  | exc e hs => exact XPost.base p k
  | stuck => exact p
/-- the first part's end, from the whole's -/
theorem RPost.first {α β γ δ : Type} {R : Rl α β} {Q : β → Hp → Prop} {R' : Rl γ δ} {Q' : δ → Hp → Prop} {E : XK} {r : Res α} {g : α → HS → Res γ} (L : Lifts G ha B R') (p : RPost G ha B H R' Q' E (r.bind g))
    (h : ∀ a hs, r = .ok a hs → ∀ v H', Ext ha H H' → Hnd G ha B H' hs → R H a v hs H' → RPost G ha B H' R' Q' E (g a hs) → Q v H') : RPost G ha B H R Q E r := by
  cases r with
  | ok a hs => exact fun v H' k hh q => h a hs rfl v H' k hh q (RPost.base L p k hh)
  | exc e hs => exact p
  | stuck => exact p
end PD

set_option Elab.async false
set_option linter.all false
set_option maxRecDepth 100000
set_option maxHeartbeats 2000000
/-! P3: what is known around an expression; each construct's sentence. -/
namespace PD
open PySem PySem.Spec PyProof.Rows L2

/-- a def's promise: it gives what φ says -/
def spD (G : Cfg) (φ : List D → HS → Res D) (n : Nat) : Sp := fun vs H Q E => vs.length = n ∧ ∃ ha B ds hs, Reps G ha B H ds vs ∧ Hnd G ha B H hs ∧ EPost G .st ha B H Q E (φ ds hs)
/-- what is known of the names, once for a law -/
structure Stat (G : Cfg) : Prop where
  fn : ∀ (f : Nat) (x : Str), G.nm[f]? = some x → G.mg x = some (.ref (G.fa f)) ∧ PySem.W.keepIn G.K (.ref (G.fa f)) = true ∧ Binds G.K (G.fd f) (G.ps f) []
  cst : ∀ (x : Str) (d : D), G.cs.lookup x = some d → ∃ u v, G.mg x = some u ∧ RelV v u ∧ atom d = true ∧ ∀ ha B H, Rep G ha B H d v
  fr : ∀ x : Str, G.fr.contains x = true → G.mg x = none
/-- where an expression stands -/
structure Ctx where
  G : Cfg
  Φ : Nat → List D → HS → Res D
  Ψ : Nat → (HS → Res D) → HS → Res D
  N : List Str
  sc : Scope
  /-- what may be stored here -/
  sto : Str → Bool
  calm : Bool
  E : XK
  k : Nat
  thk : HS → Res D
  tx : Option Str
  tt : TE
structure XOk (c : Ctx) (X : Cx) : Prop where
  eN : X.N = c.N
  eS : X.env.scope = c.sc
  eC : X.calm = c.calm
  eK : X.K = c.G.K
  eM : X.mg = c.G.mg
  fns : ∀ f, FnOk X.prog X.w X.K X.mg X.base (L2.CX X.prog X.w) c.k (c.G.fa f) (c.G.fd f) (c.G.ps f) (spD c.G (c.Φ f) (c.G.ps f).length)
  px : Passes (L2.CX X.prog X.w) X c.E
  hr : c.calm = true → Room c.k X.A
  hu : X.A.units + 80 < cLine
  nd : c.N.Nodup
  fnl : ∀ x, c.sto x = true → X.fn x = true ∨ c.sc.names.lookup x = some .local
  own : PassesOwn (model X.prog X.w) X.A X.env X.xe
  thk : ∀ x p1 p2, c.tx = some x → PE X (.Call (.Name x p1) [] [] p2) c.tt

/-- an expression's sentence -/
def ES (m : Md) (c : Ctx) (e : Expr) (f : PEnv → HS → Res D) : Prop :=
  ∃ t : TE, (∀ X, XOk c X → PE X e t) ∧ ∀ ha B ρ hs σ H Q, ESim c.G ha B ρ hs σ H → EPost c.G m ha B H Q c.E (f ρ hs) → t σ H Q
def AS (wk : Bool) (c : Ctx) (es : List Expr) (f : PEnv → HS → Res (List D)) : Prop :=
  ∃ t : TA, (∀ X, XOk c X → PA X es t) ∧ ∀ ha B ρ hs σ H Q, ESim c.G ha B ρ hs σ H → APost c.G wk ha B H Q c.E (f ρ hs) → t σ H Q
def mdOf (wk : Bool) : Md := if wk = true then .wk else .st
def CS (c : Ctx) (e : Expr) (f : PEnv → HS → Res Bool) : Prop :=
  ∃ t : TT, (∀ X, XOk c X → PT X e t) ∧ ∀ ha B ρ hs σ H Q, ESim c.G ha B ρ hs σ H → TPost c.G ha B H Q c.E (f ρ hs) → t σ H Q

section
variable {c : Ctx} {e a b : Expr} {f g : PEnv → HS → Res D} {m : Md}
theorem RPost.rel {α β : Type} {G : Cfg} {ha : Addr} {B : Addr → Prop} {H : Hp} {R R' : Rl α β} {Q : β → Hp → Prop} {E : XK} {r : Res α} (p : RPost G ha B H R Q E r) (h : ∀ a v H' hs, Ext ha H H' → Hnd G ha B H' hs → R' H a v hs H' → R H a v hs H') : RPost G ha B H R' Q E r := by
  cases r with
  | ok a hs => exact fun v H' k hh q => p v H' k hh (h a v H' hs k hh q)
  | exc e hs => exact p
  | stuck => exact p
theorem ES.fr_st (h : ES .fr c e f) : ES .st c e f := by
  obtain ⟨t, p, q⟩ := h
  exact ⟨t, p, fun ha B ρ hs σ H Q S x => q ha B ρ hs σ H Q S (x.rel fun a v H' hs' k hh r => Fresh.rep r)⟩
theorem ES.st_wk (h : ES .st c e f) : ES .wk c e f := by
  obtain ⟨t, p, q⟩ := h
  exact ⟨t, p, fun ha B ρ hs σ H Q S x => q ha B ρ hs σ H Q S (x.rel fun a v H' hs' k hh r => Rep.weak hh.hB r)⟩
theorem ES.wk (h : ES m c e f) : ES .wk c e f := by
  cases m with
  | wk => exact h
  | st => exact h.st_wk
  | fr => exact h.fr_st.st_wk
theorem ES.fr_any (h : ES .fr c e f) : ES m c e f := by
  cases m with
  | wk => exact h.wk
  | st => exact h.fr_st
  | fr => exact h

theorem XOk.gl {X : Cx} (x : XOk c X) {y : Str} (h : c.sc.names.lookup y = some .globalImplicit) : Gl X y := by
  show X.env.scope.names.lookup y = _
  rw [x.eS]
  exact h
theorem XOk.vis {X : Cx} (x : XOk c X) {y : Str} (h : Vis c.sc y) : Vis X.env.scope y := by
  rw [x.eS]
  exact h

/-- an atom's value ends it -/
theorem EPost.atom {G : Cfg} {ha : Addr} {B : Addr → Prop} {H : Hp} {Q : VK} {E : XK} {d : D} {v : V} {hs : HS} (p : EPost G m ha B H Q E (.ok d hs)) (hh : Hnd G ha B H hs) (r : Rep G ha B H d v) (t : atom d = true) : Q v H :=
  p v H .refl hh (Rep.any hh.hB r t)

/-! ### constants, names -/
theorem es_const {d : D} {v : V} {e : Expr} (hp : ∀ X, PE X e (tC v)) (ht : atom d = true) (hr : ∀ ha B H, Rep c.G ha B H d v) : ES .fr c e (fun _ h => .ok d h) :=
  ⟨tC v, fun X _ => hp X, fun ha B ρ hs σ H Q S p => EPost.atom (E := c.E) p S.hnd (hr _ _ _) ht⟩
theorem es_int {i : Int} {j : Nat} {pos : Pos} : ES .fr c (.Constant (.int i) j pos) (fun _ h => .ok (.int i) h) := es_const (fun _ => pe_int) rfl fun _ _ _ => by simp only [Rep]
theorem es_bl {i : Bool} {j : Nat} {pos : Pos} : ES .fr c (.Constant (.bool i) j pos) (fun _ h => .ok (.bl i) h) := es_const (fun _ => pe_bl) rfl fun _ _ _ => by simp only [Rep]
theorem es_str {x : Str} {j : Nat} {pos : Pos} : ES .fr c (.Constant (.str x) j pos) (fun _ h => .ok (.str x) h) := es_const (fun _ => pe_str) rfl fun _ _ _ => by simp only [Rep]
theorem es_non {j : Nat} {pos : Pos} : ES .fr c (.Constant .none j pos) (fun _ h => .ok .non h) := es_const (fun _ => pe_non) rfl fun _ _ _ => by simp only [Rep]
theorem es_glob {x : Str} {pos : Pos} {d : D} (st : Stat c.G) (hg : c.sc.names.lookup x = some .globalImplicit) (h : c.G.cs.lookup x = some d) (hd : (x == ("__debug__" : Str)) = false) : ES .fr c (.Name x pos) (fun _ h => .ok d h) := by
  obtain ⟨u, v, hm, r, ht, hr⟩ := st.cst x d h
  exact ⟨tC v, fun X hx => pe_glob (hx.gl hg) (by rw [hx.eM]; exact hm) r hd, fun ha B ρ hs σ H Q S p => EPost.atom (E := c.E) p S.hnd (hr _ _ _) ht⟩
theorem es_var {x : Str} {pos : Pos} {i : Nat} (hN : c.N[i]? = some x) (hv : Vis c.sc x) (hd : (x == ("__debug__" : Str)) = false) (hcd : (x == ("__classdict__" : Str)) = false) :
    ES .st c (.Name x pos) (den c.Φ c.Ψ c.thk (.var i)) := by
  refine ⟨tVar i, fun X hx => pe_var (by rw [hx.eN]; exact hN) (hx.vis hv) hd hcd, fun ha B ρ hs σ H Q S p => ?_⟩
  simp only [den] at p
  split at p
  · rename_i d e
    obtain ⟨v, e1, r⟩ := S.at_ i _ e
    exact ⟨v, e1, p v H .refl S.hnd r⟩
  · exact p.elim
theorem es_ovar {x : Str} {pos : Pos} {i : Nat} (hN : c.N[i]? = some x) (hv : Vis c.sc x) (hd : (x == ("__debug__" : Str)) = false) (hcd : (x == ("__classdict__" : Str)) = false) :
    ES .wk c (.Name x pos) (den c.Φ c.Ψ c.thk (.ovar i)) := by
  refine ⟨tVar i, fun X hx => pe_var (by rw [hx.eN]; exact hN) (hx.vis hv) hd hcd, fun ha B ρ hs σ H Q S p => ?_⟩
  simp only [den] at p
  split at p
  · rename_i d e
    obtain ⟨v, e1, r⟩ := S.at_ i _ e
    exact ⟨v, e1, p v H .refl S.hnd (Rep.weak S.hnd.hB r)⟩
  · rename_i d e
    obtain ⟨v, e1, r⟩ := S.at_ i _ e
    exact ⟨v, e1, p v H .refl S.hnd r⟩
  · exact p.elim

/-! ### argument lists, displays -/
theorem as_nil {wk : Bool} : AS wk c [] (fun _ h => .ok [] h) :=
  ⟨tNil, fun X _ => pa_nil, fun ha B ρ hs σ H Q S p => p [] H .refl S.hnd (by
    cases wk
    · show Reps c.G ha B H [] []
      exact .nil
    · show WReps c.G ha B H [] []
      exact (rfl : ([] : List V) = []))⟩
def plainE : Expr → Bool
  | .Starred _ _ => false
  | _ => true
theorem star_of {e : Expr} {es : List Expr} {env : PySem.Env} (h : plainE e = true) : starEach (e :: es) env = (false, eval e env) :: starEach es env := by
  cases e <;> first | rfl | cases h
theorem nostar {pos : Pos} {env : PySem.Env} : ∀ {es : List Expr}, es.all plainE = true → (backTo pos (starEach es env)).any (·.1) = false
  | [], _ => rfl
  | e :: es, h => by
    rw [List.all_cons, Bool.and_eq_true] at h
    rw [star_of h.1]
    have ih := nostar (pos := pos) (env := env) h.2
    unfold backTo at ih ⊢
    rw [List.map_cons, List.any_cons, ih]
    rfl
theorem as_cons {wk : Bool} {es : List Expr} {fs : PEnv → HS → Res (List D)} (h1 : ES (mdOf wk) c e f) (h2 : AS wk c es fs) (hp : plainE e = true) :
    AS wk c (e :: es) (fun ρ h => (f ρ h).bind fun x h => (fs ρ h).bind fun xs h => .ok (x :: xs) h) := by
  obtain ⟨t1, p1, q1⟩ := h1
  obtain ⟨t2, p2, q2⟩ := h2
  refine ⟨tCons t1 t2, fun X hx => pa_cons (p1 X hx) (p2 X hx) (star_of hp), fun ha B ρ hs σ H Q S p => ?_⟩
  refine q1 ha B ρ hs σ H _ S (RPost.first lifts_A p fun d hs1 _ v H1 k1 h1 r1 p2' => ?_)
  refine q2 ha B ρ hs1 σ H1 _ (S.ext k1 h1) (RPost.first lifts_A p2' fun ds hs2 _ vs H2 k2 h2 r2 p3 => ?_)
  cases wk with
  | false => exact p3 (v :: vs) H2 .refl h2 (.cons (Rep.keep (k2.imp fun b z => z ▸ h2.hB) r1) r2)
  | true => exact p3 (v :: vs) H2 .refl h2 ⟨v, vs, rfl, WRep.keep h2.hB k2 r1, r2⟩
/-- a new list -/
theorem Hnd.laid {G : Cfg} {ha : Addr} {B : Addr → Prop} {H : Hp} {hs : HS} (h : Hnd G ha B H hs) {p : Addr} {o : HO} (n : H p = none) : Hnd G ha B (upd H p o) hs := h.same (same_new n)
theorem Hnd.out {G : Cfg} {ha : Addr} {B : Addr → Prop} {H : Hp} {hs : HS} (h : Hnd G ha B H hs) {p : Addr} (n : H p = none) : ¬ B p := fun z => by
  obtain ⟨o, e, _⟩ := h.trk p z
  rw [n] at e
  cases e
theorem fresh_lst {G : Cfg} {ha : Addr} {B : Addr → Prop} {H : Hp} {hs : HS} {ds : List D} {vs : List V} {p : Addr} (h : Hnd G ha B H hs) (n : H p = none) (r : Reps G ha B H ds vs) : Fresh G ha B H (upd H p (.lst vs)) (.lst ds) (.ref p) hs := by
  refine ⟨p, vs, rfl, freshAt_none n, h.out n, upd_same, h.plus n, Reps.keep ?_ (Reps.chg (B' := fun b => B b ∨ b = p) (fun b z => z.elim .inl fun y => .inr (y ▸ freshAt_none n)) r)⟩
  exact Keep.new n
theorem rep_tup {G : Cfg} {ha : Addr} {B : Addr → Prop} {H : Hp} {ds : List D} {vs : List V} {p : Addr} (n : H p = none) (r : Reps G ha B H ds vs) : Rep G ha B (upd H p (.tup vs)) (.tup ds) (.ref p) := by
  simp only [Rep]
  exact ⟨p, vs, rfl, .inl (.inl upd_same), Reps.keep (Keep.new n) r⟩
/-- an end at a new list -/
theorem EPost.lst {G : Cfg} {ha : Addr} {B : Addr → Prop} {H : Hp} {Q : VK} {E : XK} {ds : List D} {vs : List V} {hs : HS} (p : EPost G .fr ha B H Q E (.ok (.lst ds) hs)) (hh : Hnd G ha B H hs) (r : Reps G ha B H ds vs) :
    ∀ q, H q = none → Q (.ref q) (upd H q (.lst vs)) := fun q n => p _ _ (Keep.new n) (hh.laid n) (fresh_lst hh n r)
theorem EPost.tup {G : Cfg} {ha : Addr} {B : Addr → Prop} {H : Hp} {Q : VK} {E : XK} {ds : List D} {vs : List V} {hs : HS} (p : EPost G .fr ha B H Q E (.ok (.tup ds) hs)) (hh : Hnd G ha B H hs) (r : Reps G ha B H ds vs) :
    ∀ q, H q = none → Q (.ref q) (upd H q (.tup vs)) := fun q n => p _ _ (Keep.new n) (hh.laid n) (rep_tup n r)
theorem line_eq : (sizeLine : Nat) = line := by decide
theorem es_tup {es : List Expr} {fs : PEnv → HS → Res (List D)} {j : Nat} {pos : Pos} (h : AS false c es fs) : ES .fr c (.Tuple es j pos) (fun ρ h => (fs ρ h).bind fun ds h => if ds.length ≤ line then .ok (.tup ds) h else .stuck) := by
  obtain ⟨t, p, q⟩ := h
  refine ⟨tTup t, fun X hx => pe_tup (p X hx), fun ha B ρ hs σ H Q S p => ?_⟩
  refine q ha B ρ hs σ H _ S (RPost.first lifts_E p fun ds hs1 _ vs H1 k1 h1 r1 p1 => ?_)
  replace r1 : Reps c.G ha B H1 ds vs := r1
  split at p1
  · rename_i hl
    exact ⟨by rw [line_eq, ← r1.length]; exact hl, EPost.tup (E := c.E) p1 h1 r1⟩
  · exact p1.elim
theorem es_lst {es : List Expr} {fs : PEnv → HS → Res (List D)} {pos : Pos} (h : AS false c es fs) : ES .fr c (.List es pos) (fun ρ h => (fs ρ h).bind fun ds h => if ds.length ≤ line then .ok (.lst ds) h else .stuck) := by
  obtain ⟨t, p, q⟩ := h
  refine ⟨tLst t, fun X hx => pe_lst (p X hx), fun ha B ρ hs σ H Q S p => ?_⟩
  refine q ha B ρ hs σ H _ S (RPost.first lifts_E p fun ds hs1 _ vs H1 k1 h1 r1 p1 => ?_)
  replace r1 : Reps c.G ha B H1 ds vs := r1
  split at p1
  · rename_i hl
    exact ⟨by rw [line_eq, ← r1.length]; exact hl, EPost.lst (E := c.E) p1 h1 r1⟩
  · exact p1.elim
end
end PD

set_option Elab.async false
set_option linter.all false
set_option maxRecDepth 100000
set_option maxHeartbeats 2000000
/-! P4: operators, tests. -/
namespace PD
open PySem PySem.Spec PyProof.Rows L2
section
variable {G : Cfg} {ha : Addr} {B : Addr → Prop} {H : Hp} {hs : HS} {E : XK} {Q : VK}
mutual
theorem Rep.dp : ∀ {d : D} {v : V} {p : PyData}, Rep G ha B H d v → d.py = some p → Dp G.K H v p
  | .non, v, p, h, e => by
    simp only [Rep] at h
    simp only [D.py, Option.some.injEq] at e
    subst h e
    exact .non
  | .bl b, v, p, h, e => by
    simp only [Rep] at h
    simp only [D.py, Option.some.injEq] at e
    subst h e
    exact .bl b
  | .int b, v, p, h, e => by
    simp only [Rep] at h
    simp only [D.py, Option.some.injEq] at e
    subst h e
    exact .int b
  | .str b, v, p, h, e => by
    simp only [Rep] at h
    simp only [D.py, Option.some.injEq] at e
    subst h e
    exact .str b
  | .tup ds, v, p, h, e => by
    simp only [Rep] at h
    obtain ⟨a, vs, rfl, s, r⟩ := h
    simp only [D.py, Option.map_eq_some_iff] at e
    obtain ⟨ps, e, rfl⟩ := e
    exact .tup s (Reps.dp r e)
  | .lst ds, v, p, h, e => by
    simp only [Rep] at h
    obtain ⟨a, vs, rfl, _, s, r⟩ := h
    simp only [D.py, Option.map_eq_some_iff] at e
    obtain ⟨ps, e, rfl⟩ := e
    exact .lst (.inl (.inl s)) (Reps.dp r e)
  | .dct _ _, v, p, h, e => by simp only [D.py] at e; cases e
  | .fn _, v, p, h, e => by simp only [D.py] at e; cases e
  | .hnd, v, p, h, e => by simp only [D.py] at e; cases e
theorem Reps.dp : ∀ {ds : List D} {vs : List V} {ps : List PyData}, Reps G ha B H ds vs → D.pys ds = some ps → DpAll G.K H vs ps
  | [], vs, ps, h, e => by
    simp only [Reps] at h
    simp only [D.pys, Option.some.injEq] at e
    subst h e
    exact .nil
  | d :: ds, vs, ps, h, e => by
    simp only [Reps] at h
    obtain ⟨v, r, rfl, h1, h2⟩ := h
    simp only [D.pys] at e
    split at e
    · rename_i p q e1 e2
      cases e
      exact .cons (Rep.dp h1 e1) (Reps.dp h2 e2)
    · cases e
end
theorem WRep.dp {d : D} {v : V} {p : PyData} (h : WRep G ha B H d v) (e : d.py = some p) : Dp G.K H v p := by
  cases d with
  | lst ds =>
    simp only [WRep] at h
    obtain ⟨a, vs, rfl, _, s, r⟩ := h
    simp only [D.py, Option.map_eq_some_iff] at e
    obtain ⟨ps, e, rfl⟩ := e
    exact .lst (.inl (.inl s)) (Reps.dp r e)
  | dct ks xs => simp only [D.py] at e; cases e
  | _ => exact Rep.dp h e

/-! ### two-place operators -/
def bop : BOp → Operator
  | .add => .Add | .sub => .Sub | .mul => .Mult | .fdiv => .FloorDiv | .mod => .Mod | .pow => .Pow | .band => .BitAnd | .shl => .LShift
def rBin (K : PySem.W.Frag) : BOp → R2
  | .add => fun x y H Q => rI0 (fun i j => .int (i + j)) x y H Q ∨ (rCat x y H Q ∨ rCatA K x y H Q)
  | .sub => rI0 fun i j => .int (i - j)
  | .mul => fun x y H Q => rI CMul (fun i j => .int (i * j)) x y H Q ∨ rRep x y H Q
  | .fdiv => rI CDivN fun i j => .int (i.fdiv j)
  | .mod => rI (fun _ j => j ≠ 0) fun i j => .int (i.fmod j)
  | .pow => rI CPow fun i j => .int (i ^ j.toNat)
  | .band => fun _ _ _ _ => False
  | .shl => fun _ _ _ _ => False
theorem rBin_ok (X : Cx) : ∀ o : BOp, OpR X (binaryOp (bop o)) (rBin X.K o)
  | .add => op_add.or (op_cat.or op_catA)
  | .sub => op_sub
  | .mul => op_mul.or op_rep
  | .fdiv => op_fdivN
  | .mod => op_modN
  | .pow => op_pow
  | .band => fun _ _ _ _ _ _ _ _ _ _ _ _ h => h.elim
  | .shl => fun _ _ _ _ _ _ _ _ _ _ _ _ h => h.elim
theorem EPost.int {i : Int} (p : EPost G .fr ha B H Q E (.ok (.int i) hs)) (hh : Hnd G ha B H hs) : Q (.int i) H := EPost.atom p hh (by simp only [Rep]) rfl
theorem EPost.bl {i : Bool} (p : EPost G .fr ha B H Q E (.ok (.bl i) hs)) (hh : Hnd G ha B H hs) : Q (.bl i) H := EPost.atom p hh (by simp only [Rep]) rfl
theorem WRep.int_ {i : Int} {v : V} (h : WRep G ha B H (.int i) v) : v = .int i := by
  simp only [WRep, Rep] at h
  exact h
theorem WRep.bl_ {i : Bool} {v : V} (h : WRep G ha B H (.bl i) v) : v = .bl i := by
  simp only [WRep, Rep] at h
  exact h
theorem WRep.str_ {i : Str} {v : V} (h : WRep G ha B H (.str i) v) : v = .str i := by
  simp only [WRep, Rep] at h
  exact h
theorem WRep.non_ {v : V} (h : WRep G ha B H .non v) : v = .non := by
  simp only [WRep, Rep] at h
  exact h
theorem WRep.lst_ {ds : List D} {v : V} (h : WRep G ha B H (.lst ds) v) : ∃ a vs, v = .ref a ∧ H a = some (.lst vs) ∧ Reps G ha B H ds vs := by
  simp only [WRep] at h
  obtain ⟨a, vs, e, _, s, r⟩ := h
  exact ⟨a, vs, e, s, r⟩
theorem WRep.tup_ {ds : List D} {v : V} (h : WRep G ha B H (.tup ds) v) : ∃ a vs, v = .ref a ∧ SqT G.K H a vs ∧ Reps G ha B H ds vs := by
  simp only [WRep, Rep] at h
  exact h
theorem bin_sem {o : BOp} {x y d : D} {vx vy : V} (h : binD o x y = some d) (hh : Hnd G ha B H hs) (rx : WRep G ha B H x vx) (ry : WRep G ha B H y vy)
    (p : EPost G .fr ha B H Q E (.ok d hs)) : rBin G.K o vx vy H Q := by
  cases o with
  | add =>
    simp only [binD] at h
    split at h
    · cases h
      exact .inl ⟨_, _, rx.int_, ry.int_, EPost.int p hh⟩
    · split at h
      · rename_i xs ys hl
        cases h
        obtain ⟨a, us, rfl, s1, r1⟩ := rx.lst_
        obtain ⟨b, ws, rfl, s2, r2⟩ := ry.lst_
        refine .inr (.inl ⟨a, b, us, ws, rfl, rfl, s1, s2, ?_, EPost.lst p hh (r1.append r2)⟩)
        rw [line_eq, ← r1.length, ← r2.length]
        exact hl
      · cases h
    · split at h
      · rename_i xs ys hl
        cases h
        obtain ⟨a, us, rfl, s1, r1⟩ := rx.tup_
        obtain ⟨b, ws, rfl, s2, r2⟩ := ry.tup_
        refine .inr (.inr ⟨a, b, us, ws, rfl, rfl, s1, s2, ?_, fun e => ?_, fun n e => ?_, fun n1 n2 => EPost.tup p hh (r1.append r2)⟩)
        · rw [line_eq, ← r1.length, ← r2.length]
          exact hl
        · subst e
          have e0 : xs = [] := List.length_eq_zero_iff.mp r1.length
          subst e0
          refine EPost.atom p hh ?_ rfl
          simp only [Rep]
          exact ⟨b, ws, rfl, s2, r2⟩
        · subst e
          have e0 : ys = [] := List.length_eq_zero_iff.mp r2.length
          subst e0
          rw [List.append_nil] at p
          refine EPost.atom p hh ?_ rfl
          simp only [Rep]
          exact ⟨a, us, rfl, s1, r1⟩
      · cases h
    · cases h
  | sub =>
    simp only [binD] at h
    split at h
    · cases h
      exact ⟨_, _, rx.int_, ry.int_, EPost.int p hh⟩
    · cases h
  | mul =>
    simp only [binD] at h
    split at h
    · split at h
      · rename_i i j hc
        cases h
        refine .inl ⟨_, _, rx.int_, ry.int_, ?_, EPost.int p hh⟩
        simp only [cmulOk, Bool.or_eq_true, Bool.and_eq_true, decide_eq_true_eq] at hc
        exact hc
      · cases h
    · split at h
      · rename_i xs k hc
        cases h
        obtain ⟨a, us, rfl, s1, r1⟩ := rx.lst_
        simp only [Bool.and_eq_true, decide_eq_true_eq] at hc
        exact .inr ⟨a, _, us, rfl, ry.int_, s1, hc.1.1, hc.1.2, by rw [line_eq, ← r1.length]; exact hc.2, EPost.lst p hh (r1.rep _)⟩
      · cases h
    · cases h
  | fdiv =>
    simp only [binD] at h
    split at h
    · split at h
      · rename_i hc
        cases h
        simp only [Bool.and_eq_true, decide_eq_true_eq] at hc
        exact ⟨_, _, rx.int_, ry.int_, hc, EPost.int p hh⟩
      · cases h
    · cases h
  | mod =>
    simp only [binD] at h
    split at h
    · split at h
      · rename_i hc
        cases h
        exact ⟨_, _, rx.int_, ry.int_, hc, EPost.int p hh⟩
      · cases h
    · cases h
  | pow =>
    simp only [binD] at h
    split at h
    · split at h
      · rename_i hc
        cases h
        simp only [Bool.and_eq_true, decide_eq_true_eq] at hc
        exact ⟨_, _, rx.int_, ry.int_, ⟨hc.1.1, hc.1.2, hc.2⟩, EPost.int p hh⟩
      · cases h
    · cases h
  | band => cases h
  | shl => cases h

/-! ### comparisons -/
def cop : COp → CmpOp
  | .eq => .Eq | .ne => .NotEq | .lt => .Lt | .le => .LtE | .gt => .Gt | .ge => .GtE | .is => .Is | .isn => .IsNot | .inn => .In | .nin => .NotIn
def rCmp (K : PySem.W.Frag) : COp → R2
  | .eq => rEqD K
  | .ne => rNeD K
  | .lt => rI0 fun i j => .bl (decide (i < j))
  | .le => rI0 fun i j => .bl (decide (i ≤ j))
  | .gt => rI0 fun i j => .bl (decide (j < i))
  | .ge => rI0 fun i j => .bl (decide (j ≤ i))
  | .is => fun x y H Q => (y = .non ∧ Q (.bl (decide (x = .non))) H) ∨ rIsB x y H Q
  | .isn => fun x y H Q => (y = .non ∧ Q (.bl (!decide (x = .non))) H) ∨ rNotB x y H Q
  | .inn => fun x y H Q => rInD K x y H Q ∨ rIn K false x y H Q
  | .nin => fun x y H Q => rNotInD K x y H Q ∨ rIn K true x y H Q
theorem rCmp_ok {X : Cx} (hu : X.A.units + 80 < cLine) : ∀ o : COp, OpR X (compareOp (cop o)) (rCmp X.K o)
  | .eq => op_eqD (by omega)
  | .ne => op_neD (by omega)
  | .lt => op_lt
  | .le => op_le
  | .gt => op_gt
  | .ge => op_ge
  | .is => op_isN.or op_isBl
  | .isn => op_notN.or op_notBl
  | .inn => (op_inD (by omega)).or op_in_seq
  | .nin => (op_notInD (by omega)).or op_notIn_seq
theorem eqD_some {x y : D} {k : Bool} (h : eqD x y = some k) : ∃ p q, x.py = some p ∧ y.py = some q ∧ SeqAt.shaped p = true ∧ SeqAt.shaped q = true ∧ PyData.eqv p q = k := by
  unfold eqD at h
  split at h
  · rename_i p q e1 e2
    split at h
    · rename_i hs
      rw [Bool.and_eq_true] at hs
      cases h
      exact ⟨p, q, e1, e2, hs.1, hs.2, rfl⟩
    · cases h
  · cases h
theorem memD_some {x : D} {xs : List D} {k : Bool} (h : memD x xs = some k) : ∃ p qs, x.py = some p ∧ D.pys xs = some qs ∧ SeqAt.shaped p = true ∧ SeqAt.shaped (.list qs) = true ∧ (qs.any fun z => PyData.eqv z p) = k := by
  unfold memD at h
  split at h
  · rename_i p qs e1 e2
    split at h
    · rename_i hs
      rw [Bool.and_eq_true] at hs
      cases h
      exact ⟨p, qs, e1, e2, hs.1, hs.2, rfl⟩
    · cases h
  · cases h
theorem flat_rep {d : D} {v : V} (f : flatD d = true) (r : Rep G ha B H d v) : flatV v = true ∧ ∀ p, d.py = some p → (∀ e w, flatD e = true → Rep G ha B H e w → ∀ q, e.py = some q → eqV w v = PyData.eqv q p) := by
  cases d with
  | non =>
    simp only [Rep] at r
    subst r
    refine ⟨rfl, fun p e e2 w f2 r2 q e3 => ?_⟩
    simp only [D.py, Option.some.injEq] at e
    subst e
    cases e2 with
    | non => simp only [Rep] at r2; simp only [D.py, Option.some.injEq] at e3; subst r2 e3; rfl
    | bl _ => simp only [Rep] at r2; simp only [D.py, Option.some.injEq] at e3; subst r2 e3; rfl
    | int _ => simp only [Rep] at r2; simp only [D.py, Option.some.injEq] at e3; subst r2 e3; rfl
    | str _ => simp only [Rep] at r2; simp only [D.py, Option.some.injEq] at e3; subst r2 e3; rfl
    | _ => cases f2
  | bl _ =>
    simp only [Rep] at r
    subst r
    refine ⟨rfl, fun p e e2 w f2 r2 q e3 => ?_⟩
    simp only [D.py, Option.some.injEq] at e
    subst e
    cases e2 with
    | non => simp only [Rep] at r2; simp only [D.py, Option.some.injEq] at e3; subst r2 e3; rfl
    | bl _ => simp only [Rep] at r2; simp only [D.py, Option.some.injEq] at e3; subst r2 e3; simp only [eqV, PyData.eqv]
    | int _ => simp only [Rep] at r2; simp only [D.py, Option.some.injEq] at e3; subst r2 e3; simp only [eqV, PyData.eqv]
    | str _ => simp only [Rep] at r2; simp only [D.py, Option.some.injEq] at e3; subst r2 e3; rfl
    | _ => cases f2
  | int _ =>
    simp only [Rep] at r
    subst r
    refine ⟨rfl, fun p e e2 w f2 r2 q e3 => ?_⟩
    simp only [D.py, Option.some.injEq] at e
    subst e
    cases e2 with
    | non => simp only [Rep] at r2; simp only [D.py, Option.some.injEq] at e3; subst r2 e3; rfl
    | bl _ => simp only [Rep] at r2; simp only [D.py, Option.some.injEq] at e3; subst r2 e3; simp only [eqV, PyData.eqv]
    | int _ => simp only [Rep] at r2; simp only [D.py, Option.some.injEq] at e3; subst r2 e3; simp only [eqV, PyData.eqv]
    | str _ => simp only [Rep] at r2; simp only [D.py, Option.some.injEq] at e3; subst r2 e3; rfl
    | _ => cases f2
  | str _ =>
    simp only [Rep] at r
    subst r
    refine ⟨rfl, fun p e e2 w f2 r2 q e3 => ?_⟩
    simp only [D.py, Option.some.injEq] at e
    subst e
    cases e2 with
    | non => simp only [Rep] at r2; simp only [D.py, Option.some.injEq] at e3; subst r2 e3; rfl
    | bl _ => simp only [Rep] at r2; simp only [D.py, Option.some.injEq] at e3; subst r2 e3; rfl
    | int _ => simp only [Rep] at r2; simp only [D.py, Option.some.injEq] at e3; subst r2 e3; rfl
    | str _ => simp only [Rep] at r2; simp only [D.py, Option.some.injEq] at e3; subst r2 e3; simp only [eqV, PyData.eqv]
    | _ => cases f2
  | _ => cases f
theorem flat_reps {x : D} {v : V} {p : PyData} (f : flatD x = true) (rx : Rep G ha B H x v) (ex : x.py = some p) : ∀ {xs : List D} {vs : List V} {qs : List PyData}, xs.all flatD = true → Reps G ha B H xs vs → D.pys xs = some qs →
    vs.all flatV = true ∧ inV v vs = qs.any fun z => PyData.eqv z p
  | [], _, _, _, r, e => by
    simp only [Reps] at r
    simp only [D.pys, Option.some.injEq] at e
    subst r e
    exact ⟨rfl, rfl⟩
  | d :: ds, _, _, fl, r, e => by
    simp only [Reps] at r
    obtain ⟨w, ws, rfl, r1, r2⟩ := r
    rw [List.all_cons, Bool.and_eq_true] at fl
    simp only [D.pys] at e
    split at e
    · rename_i q qs e1 e2
      cases e
      obtain ⟨i1, i2⟩ := flat_reps f rx ex fl.2 r2 e2
      have i2' : (ws.any fun y => eqV y v) = qs.any fun z => PyData.eqv z p := i2
      refine ⟨by rw [List.all_cons, i1, (flat_rep fl.1 r1).1]; rfl, ?_⟩
      show ((w :: ws).any fun y => eqV y v) = _
      rw [List.any_cons, List.any_cons, i2', (flat_rep f rx).2 p ex d w fl.1 r1 q e1]
    · cases e
theorem flat_w {d : D} {v : V} (f : flatD d = true) (h : WRep G ha B H d v) : Rep G ha B H d v := by
  cases d <;> first | exact h | cases f
theorem cmp_sem {o : COp} {x y : D} {k : Bool} {vx vy : V} (h : cmpD o x y = some k) (hh : Hnd G ha B H hs) (rx : WRep G ha B H x vx) (ry : WRep G ha B H y vy)
    (p : EPost G .fr ha B H Q E (.ok (.bl k) hs)) : rCmp G.K o vx vy H Q := by
  have q : Q (.bl k) H := EPost.bl p hh
  cases o with
  | eq =>
    obtain ⟨a, b, e1, e2, s1, s2, e⟩ := eqD_some h
    exact ⟨a, b, rx.dp e1, ry.dp e2, s1, s2, by rw [e]; exact q⟩
  | ne =>
    simp only [cmpD, Option.map_eq_some_iff] at h
    obtain ⟨j, h, e0⟩ := h
    obtain ⟨a, b, e1, e2, s1, s2, e⟩ := eqD_some h
    exact ⟨a, b, rx.dp e1, ry.dp e2, s1, s2, by rw [e, e0]; exact q⟩
  | lt =>
    simp only [cmpD] at h
    split at h
    · cases h
      exact ⟨_, _, rx.int_, ry.int_, q⟩
    · cases h
  | le =>
    simp only [cmpD] at h
    split at h
    · cases h
      exact ⟨_, _, rx.int_, ry.int_, q⟩
    · cases h
  | gt =>
    simp only [cmpD] at h
    split at h
    · cases h
      exact ⟨_, _, rx.int_, ry.int_, q⟩
    · cases h
  | ge =>
    simp only [cmpD] at h
    split at h
    · cases h
      exact ⟨_, _, rx.int_, ry.int_, q⟩
    · cases h
  | is =>
    simp only [cmpD] at h
    split at h
    · cases h
      rw [rx.non_]
      exact .inl ⟨ry.non_, q⟩
    · cases h
      exact .inr ⟨_, _, rx.bl_, ry.bl_, q⟩
    · cases h
      rw [rx.bl_]
      exact .inl ⟨ry.non_, q⟩
    · cases h
      rw [rx.int_]
      exact .inl ⟨ry.non_, q⟩
    · cases h
      rw [rx.str_]
      exact .inl ⟨ry.non_, q⟩
    · cases h
      obtain ⟨a, vs, rfl, _⟩ := rx.tup_
      exact .inl ⟨ry.non_, q⟩
    · cases h
      obtain ⟨a, vs, rfl, _⟩ := rx.lst_
      exact .inl ⟨ry.non_, q⟩
    · cases h
  | isn =>
    simp only [cmpD] at h
    split at h
    · cases h
      rw [rx.non_]
      exact .inl ⟨ry.non_, q⟩
    · cases h
      exact .inr ⟨_, _, rx.bl_, ry.bl_, q⟩
    · cases h
      rw [rx.bl_]
      exact .inl ⟨ry.non_, q⟩
    · cases h
      rw [rx.int_]
      exact .inl ⟨ry.non_, q⟩
    · cases h
      rw [rx.str_]
      exact .inl ⟨ry.non_, q⟩
    · cases h
      obtain ⟨a, vs, rfl, _⟩ := rx.tup_
      exact .inl ⟨ry.non_, q⟩
    · cases h
      obtain ⟨a, vs, rfl, _⟩ := rx.lst_
      exact .inl ⟨ry.non_, q⟩
    · cases h
  | inn =>
    simp only [cmpD] at h
    split at h
    · obtain ⟨a, qs, e1, e2, s1, s2, e⟩ := memD_some h
      exact .inl ⟨a, qs, rx.dp e1, ry.dp (by simp only [D.py, e2, Option.map_some]), s1, s2, by rw [e]; exact q⟩
    · split at h
      · rename_i fl
        rw [Bool.and_eq_true] at fl
        obtain ⟨a, qs, e1, e2, s1, s2, e⟩ := memD_some h
        obtain ⟨l, vs, rfl, s, r⟩ := ry.tup_
        obtain ⟨i1, i2⟩ := flat_reps fl.1 (flat_w fl.1 rx) e1 fl.2 r e2
        refine .inr ⟨l, vs, rfl, .inr s, (flat_rep fl.1 (flat_w fl.1 rx)).1, i1, ?_⟩
        rw [i2, e]
        exact q
      · cases h
    · cases h
  | nin =>
    simp only [cmpD] at h
    split at h
    · simp only [Option.map_eq_some_iff] at h
      obtain ⟨j, h, e0⟩ := h
      obtain ⟨a, qs, e1, e2, s1, s2, e⟩ := memD_some h
      exact .inl ⟨a, qs, rx.dp e1, ry.dp (by simp only [D.py, e2, Option.map_some]), s1, s2, by rw [e, e0]; exact q⟩
    · split at h
      · rename_i fl
        rw [Bool.and_eq_true] at fl
        simp only [Option.map_eq_some_iff] at h
        obtain ⟨j, h, e0⟩ := h
        obtain ⟨a, qs, e1, e2, s1, s2, e⟩ := memD_some h
        obtain ⟨l, vs, rfl, s, r⟩ := ry.tup_
        obtain ⟨i1, i2⟩ := flat_reps fl.1 (flat_w fl.1 rx) e1 fl.2 r e2
        refine .inr ⟨l, vs, rfl, .inr s, (flat_rep fl.1 (flat_w fl.1 rx)).1, i1, ?_⟩
        rw [i2, e]
        show Q (.bl (!j)) H
        rw [e0]
        exact q
      · cases h
    · cases h
/-- a value's truth -/
theorem truth_sem {x : D} {k : Bool} {v : V} (h : truthD x = some k) (rx : WRep G ha B H x v) : TruV G.K v H k := by
  cases x with
  | non =>
    cases h
    rw [rx.non_]
    exact rfl
  | bl b =>
    cases h
    rw [rx.bl_]
    exact rfl
  | int i =>
    cases h
    rw [rx.int_]
    exact rfl
  | lst xs =>
    cases h
    obtain ⟨a, vs, rfl, s, r⟩ := rx.lst_
    refine .inl ⟨vs, .inl (.inl s), ?_⟩
    have := r.length
    cases xs <;> cases vs <;> first | rfl | (simp at this)
  | tup xs =>
    cases h
    obtain ⟨a, vs, rfl, s, r⟩ := rx.tup_
    refine .inr (.inl ⟨vs, s, ?_⟩)
    have := r.length
    cases xs <;> cases vs <;> first | rfl | (simp at this)
  | _ => cases h
end
end PD

set_option Elab.async false
set_option linter.all false
set_option maxRecDepth 100000
set_option maxHeartbeats 2000000
/-! P5: expressions: operators, tests, subscripts, calls. -/
namespace PD
open PySem PySem.Spec PyProof.Rows L2
section
variable {c : Ctx} {e a b : Expr} {f g k : PEnv → HS → Res D} {m : Md}
/-- what a reading owes a meaning -/
def SemE (m : Md) (c : Ctx) (t : TE) (f : PEnv → HS → Res D) : Prop := ∀ ha B ρ hs σ H Q, ESim c.G ha B ρ hs σ H → EPost c.G m ha B H Q c.E (f ρ hs) → t σ H Q
/-- two operands, then an operation -/
theorem op2_sem {r : R2} {z : D → D → HS → Res D} {ta tb : TE} (q1 : SemE .wk c ta f) (q2 : SemE .wk c tb g)
    (hr : ∀ ha B H hs x y vx vy Q, Hnd c.G ha B H hs → WRep c.G ha B H x vx → WRep c.G ha B H y vy → EPost c.G m ha B H Q c.E (z x y hs) → r vx vy H Q) :
    SemE m c (tOp r ta tb) (fun ρ h => (f ρ h).bind fun x h => (g ρ h).bind fun y h => z x y h) := fun ha B ρ hs σ H Q S p => by
  refine q1 ha B ρ hs σ H _ S (RPost.first lifts_E p fun x hs1 _ v H1 k1 h1 r1 p' => ?_)
  refine q2 ha B ρ hs1 σ H1 _ (S.ext k1 h1) (RPost.first lifts_E p' fun y hs2 _ w H2 k2 h2 r2 p3 => ?_)
  exact hr ha B H2 hs2 x y v w Q h2 (WRep.keep h2.hB k2 r1) r2 p3
theorem es_op2 {r : R2} {z : D → D → HS → Res D} {e : Expr} (h1 : ES .wk c a f) (h2 : ES .wk c b g)
    (hp : ∀ X ta tb, XOk c X → PE X a ta → PE X b tb → PE X e (tOp r ta tb))
    (hr : ∀ ha B H hs x y vx vy Q, Hnd c.G ha B H hs → WRep c.G ha B H x vx → WRep c.G ha B H y vy → EPost c.G m ha B H Q c.E (z x y hs) → r vx vy H Q) :
    ES m c e (fun ρ h => (f ρ h).bind fun x h => (g ρ h).bind fun y h => z x y h) := by
  obtain ⟨ta, p1, q1⟩ := h1
  obtain ⟨tb, p2, q2⟩ := h2
  exact ⟨tOp r ta tb, fun X hx => hp X ta tb hx (p1 X hx) (p2 X hx), op2_sem q1 q2 hr⟩
theorem re_w {G : Cfg} {ha : Addr} {B : Addr → Prop} {H H1 : Hp} {d : D} {v : V} {hs : HS} (r : RE G .wk ha B H d v hs H1) : WRep G ha B H1 d v := r
theorem ofO_ok {α β : Type} {G : Cfg} {ha : Addr} {B : Addr → Prop} {H : Hp} {R : Rl α β} {Q : β → Hp → Prop} {E : XK} {o : Option α} {hs : HS} (p : RPost G ha B H R Q E (ofO o hs)) : ∃ d, o = some d ∧ RPost G ha B H R Q E (.ok d hs) := by
  cases o with
  | none => exact p.elim
  | some d => exact ⟨d, rfl, p⟩
theorem es_bin {o : BOp} {pos : Pos} (h1 : ES .wk c a f) (h2 : ES .wk c b g) : ES .fr c (.BinOp a (bop o) b pos) (fun ρ h => (f ρ h).bind fun x h => (g ρ h).bind fun y h => ofO (binD o x y) h) :=
  es_op2 (r := rBin c.G.K o) h1 h2 (fun X ta tb hx p1 p2 => pe_op (by rw [← hx.eK]; exact rBin_ok X o) p1 p2) fun ha B H hs x y vx vy Q hh rx ry p => by
    obtain ⟨d, e, p⟩ := ofO_ok p
    exact bin_sem e hh rx ry p
def plainIn : Expr → Bool
  | .Set _ _ _ => false
  | _ => true
theorem nomark' {o : CmpOp} {b : Expr} (h : plainIn b = true) : behindInMarks o b = false := by
  cases b <;> first | rfl | cases h
theorem es_cmp {o : COp} {pos : Pos} (h1 : ES .wk c a f) (h2 : ES .wk c b g) (hm : plainIn b = true) :
    ES .fr c (.Compare a [cop o] [b] pos) (fun ρ h => (f ρ h).bind fun x h => (g ρ h).bind fun y h => ofO ((cmpD o x y).map .bl) h) :=
  es_op2 (r := rCmp c.G.K o) h1 h2 (fun X ta tb hx p1 p2 => pe_cmpR (by rw [← hx.eK]; exact rCmp_ok hx.hu o) p1 p2 (nomark' hm)) fun ha B H hs x y vx vy Q hh rx ry p => by
    obtain ⟨d, e, p⟩ := ofO_ok p
    rw [Option.map_eq_some_iff] at e
    obtain ⟨k, e, rfl⟩ := e
    exact cmp_sem e hh rx ry p
theorem chain_sem {o o' : COp} {ta tb tc : TE} (q1 : SemE .wk c ta f) (q2 : SemE .wk c tb g) (q3 : SemE .wk c tc k) :
    SemE .fr c (tChain (rCmp c.G.K o) (rCmp c.G.K o') ta tb tc) (fun ρ h => (f ρ h).bind fun x h => (g ρ h).bind fun y h => match cmpD o x y with
      | some true => (k ρ h).bind fun z h => ofO ((cmpD o' y z).map .bl) h
      | some false => .ok (.bl false) h
      | none => .stuck) := fun ha B ρ hs σ H Q S p => by
  refine q1 ha B ρ hs σ H _ S (RPost.first lifts_E p fun x hs1 _ v H1 k1 h1 r1 p' => ?_)
  refine q2 ha B ρ hs1 σ H1 _ (S.ext k1 h1) (RPost.first lifts_E p' fun y hs2 _ w H2 k2 h2 r2 p3' => ?_)
  have rx := WRep.keep h2.hB k2 r1
  have S2 := (S.ext k1 h1).ext k2 h2
  split at p3'
  · rename_i e
    refine cmp_sem (E := c.E) e h2 rx r2 fun u H3 k3 h3 r3 => ?_
    have r3 : Rep c.G ha B H3 (.bl true) u := r3
    simp only [Rep] at r3
    subst r3
    refine ⟨true, rfl, ?_⟩
    rw [if_pos rfl]
    refine q3 ha B ρ hs2 σ H3 _ (S2.ext k3 h3) (RPost.first lifts_E (RPost.base lifts_E p3' k3 h3) fun z hs4 _ w4 H4 k4 h4 r4 p4 => ?_)
    obtain ⟨d, e, p4⟩ := ofO_ok p4
    rw [Option.map_eq_some_iff] at e
    obtain ⟨k, e, rfl⟩ := e
    exact cmp_sem e h4 (WRep.keep h4.hB (k3.trans k4) r2) r4 p4
  · rename_i e
    refine cmp_sem (E := c.E) e h2 rx r2 fun u H3 k3 h3 r3 => ?_
    have r3 : Rep c.G ha B H3 (.bl false) u := r3
    simp only [Rep] at r3
    subst r3
    refine ⟨false, rfl, ?_⟩
    rw [if_neg Bool.false_ne_true]
    exact EPost.bl (RPost.base lifts_E p3' k3 h3) h3
  · exact p3'.elim
theorem es_chain {o o' : COp} {pos : Pos} {d : Expr} (h1 : ES .wk c a f) (h2 : ES .wk c b g) (h3 : ES .wk c d k) (hm : plainIn d = true) :
    ES .fr c (.Compare a [cop o, cop o'] [b, d] pos) (fun ρ h => (f ρ h).bind fun x h => (g ρ h).bind fun y h => match cmpD o x y with
      | some true => (k ρ h).bind fun z h => ofO ((cmpD o' y z).map .bl) h
      | some false => .ok (.bl false) h
      | none => .stuck) := by
  obtain ⟨ta, p1, q1⟩ := h1
  obtain ⟨tb, p2, q2⟩ := h2
  obtain ⟨tc, p3, q3⟩ := h3
  exact ⟨tChain (rCmp c.G.K o) (rCmp c.G.K o') ta tb tc, fun X hx => pe_chain (by rw [← hx.eK]; exact rCmp_ok hx.hu o) (by rw [← hx.eK]; exact rCmp_ok hx.hu o') (p1 X hx) (p2 X hx) (p3 X hx) (nomark' hm), chain_sem q1 q2 q3⟩
theorem es_neg {pos : Pos} (h1 : ES .wk c a f) : ES .fr c (.UnaryOp .USub a pos) (fun ρ h => (f ρ h).bind fun x h => ofO (negD x) h) := by
  obtain ⟨ta, p1, q1⟩ := h1
  refine ⟨_, fun X hx => pe_un un_neg (p1 X hx), fun ha B ρ hs σ H Q S p => ?_⟩
  refine q1 ha B ρ hs σ H _ S (RPost.first lifts_E p fun x hs1 _ v H1 k1 h1 r1 p' => ?_)
  obtain ⟨d, e, p'⟩ := ofO_ok p'
  cases x with
  | int i =>
    cases e
    exact ⟨i, (re_w r1).int_, EPost.int p' h1⟩
  | _ => cases e
theorem es_not {pos : Pos} (h1 : ES .wk c a f) : ES .fr c (.UnaryOp .Not a pos) (fun ρ h => (f ρ h).bind fun x h => ofO ((truthD x).map fun k => .bl (!k)) h) := by
  obtain ⟨ta, p1, q1⟩ := h1
  refine ⟨tNotT c.G.K ta, fun X hx => by rw [← hx.eK]; exact pe_notT (p1 X hx), fun ha B ρ hs σ H Q S p => ?_⟩
  refine q1 ha B ρ hs σ H _ S (RPost.first lifts_E p fun x hs1 _ v H1 k1 h1 r1 p' => ?_)
  obtain ⟨d, e, p'⟩ := ofO_ok p'
  rw [Option.map_eq_some_iff] at e
  obtain ⟨k, e, rfl⟩ := e
  exact ⟨k, truth_sem e r1, EPost.bl p' h1⟩
theorem es_one {op : BoolOp} {pos : Pos} (h1 : ES m c a f) : ES m c (.BoolOp op [a] pos) f := by
  obtain ⟨ta, p1, q1⟩ := h1
  exact ⟨ta, fun X hx => pe_one (p1 X hx), q1⟩
theorem es_and {pos : Pos} {rest : List Expr} (h1 : ES .wk c a f) (h2 : ES m c (.BoolOp .And (b :: rest) pos) g) : ES m c (.BoolOp .And (a :: b :: rest) pos) (fun ρ h => (f ρ h).bind fun x h => match x with
    | .bl true => g ρ h
    | .bl false => .ok (.bl false) h
    | _ => .stuck) := by
  obtain ⟨ta, p1, q1⟩ := h1
  obtain ⟨tb, p2, q2⟩ := h2
  refine ⟨_, fun X hx => pe_and (p1 X hx) (p2 X hx), fun ha B ρ hs σ H Q S p => ?_⟩
  refine q1 ha B ρ hs σ H _ S (RPost.first lifts_E p fun x hs1 _ v H1 k1 h1 r1 p' => ?_)
  split at p'
  · exact ⟨true, (re_w r1).bl_, by rw [if_pos rfl]; exact q2 ha B ρ hs1 σ H1 _ (S.ext k1 h1) p'⟩
  · exact ⟨false, (re_w r1).bl_, by rw [if_neg Bool.false_ne_true]; exact EPost.atom p' h1 (by simp only [Rep]) rfl⟩
  · exact p'.elim
theorem es_or {pos : Pos} {rest : List Expr} (h1 : ES .wk c a f) (h2 : ES m c (.BoolOp .Or (b :: rest) pos) g) : ES m c (.BoolOp .Or (a :: b :: rest) pos) (fun ρ h => (f ρ h).bind fun x h => match x with
    | .bl true => .ok (.bl true) h
    | .bl false => g ρ h
    | _ => .stuck) := by
  obtain ⟨ta, p1, q1⟩ := h1
  obtain ⟨tb, p2, q2⟩ := h2
  refine ⟨_, fun X hx => pe_or (p1 X hx) (p2 X hx), fun ha B ρ hs σ H Q S p => ?_⟩
  refine q1 ha B ρ hs σ H _ S (RPost.first lifts_E p fun x hs1 _ v H1 k1 h1 r1 p' => ?_)
  split at p'
  · exact ⟨true, (re_w r1).bl_, by rw [if_pos rfl]; exact EPost.atom p' h1 (by simp only [Rep]) rfl⟩
  · exact ⟨false, (re_w r1).bl_, by rw [if_neg Bool.false_ne_true]; exact q2 ha B ρ hs1 σ H1 _ (S.ext k1 h1) p'⟩
  · exact p'.elim
theorem es_ite {pos : Pos} {d : Expr} {cc : PEnv → HS → Res Bool} (h0 : CS c d cc) (h1 : ES m c a f) (h2 : ES m c b g) : ES m c (.IfExp d a b pos) (fun ρ h => (cc ρ h).bind fun k h => if k then f ρ h else g ρ h) := by
  obtain ⟨t0, p0, q0⟩ := h0
  obtain ⟨ta, p1, q1⟩ := h1
  obtain ⟨tb, p2, q2⟩ := h2
  refine ⟨_, fun X hx => pe_ifExp (p0 X hx) (p1 X hx) (p2 X hx), fun ha B ρ hs σ H Q S p => ?_⟩
  refine q0 ha B ρ hs σ H _ S (RPost.first lifts_E p fun x hs1 _ v H1 k1 h1 r1 p' => ?_)
  have r1 : v = x := r1
  subst r1
  cases v with
  | true =>
    rw [if_pos rfl] at p' ⊢
    exact q1 ha B ρ hs1 σ H1 _ (S.ext k1 h1) p'
  | false =>
    rw [if_neg Bool.false_ne_true] at p' ⊢
    exact q2 ha B ρ hs1 σ H1 _ (S.ext k1 h1) p'

/-! ### tests -/
def plainT : Expr → Bool
  | .UnaryOp _ _ _ => false
  | .BoolOp _ _ _ => false
  | .IfExp _ _ _ _ => false
  | .Compare _ _ _ _ => false
  | _ => true
theorem istrue_of {e : Expr} {env : PySem.Env} (h : plainT e = true) : ∀ whole, isTrue e env whole = (do let v ← whole; standAt e.pos; holding [v] (truthy v)) := by
  intro whole
  cases e <;> first | rfl | cases h
/-- by the value's truth -/
theorem cs_val (h1 : ES .wk c a f) (hp : plainT a = true) : CS c a (fun ρ h => (f ρ h).bind fun x h => ofO (truthD x) h) := by
  obtain ⟨ta, p1, q1⟩ := h1
  refine ⟨fun σ H Q => ta σ H fun x H' => ∃ k, TruV c.G.K x H' k ∧ Q k H', fun X hx => by rw [← hx.eK]; exact pt_truth (p1 X hx) (istrue_of hp), fun ha B ρ hs σ H Q S p => ?_⟩
  refine q1 ha B ρ hs σ H _ S (RPost.first lifts_T p fun x hs1 _ v H1 k1 h1 r1 p' => ?_)
  obtain ⟨k, e, p'⟩ := ofO_ok p'
  exact ⟨k, truth_sem e r1, p' k H1 .refl h1 rfl⟩
theorem cs_cmp {o : COp} {pos : Pos} (h1 : ES .wk c a f) (h2 : ES .wk c b g) (hm : plainIn b = true) :
    CS c (.Compare a [cop o] [b] pos) (fun ρ h => ((f ρ h).bind fun x h => (g ρ h).bind fun y h => ofO ((cmpD o x y).map .bl) h).bind fun x h => ofO (truthD x) h) := by
  obtain ⟨ta, p1, q1⟩ := h1
  obtain ⟨tb, p2, q2⟩ := h2
  refine ⟨_, fun X hx => pt_cmpR (r := rCmp c.G.K o) (by rw [← hx.eK]; exact rCmp_ok hx.hu o) (p1 X hx) (p2 X hx) (nomark' hm), fun ha B ρ hs σ H Q S p => ?_⟩
  refine op2_sem (m := .fr) (z := fun x y h => ofO ((cmpD o x y).map .bl) h) q1 q2 (fun ha B H hs x y vx vy Q hh rx ry p => by
    obtain ⟨d, e, p⟩ := ofO_ok p
    rw [Option.map_eq_some_iff] at e
    obtain ⟨k, e, rfl⟩ := e
    exact cmp_sem e hh rx ry p) ha B ρ hs σ H _ S ?_
  have isb : ∀ (x : D) (hs1 : HS), ((f ρ hs).bind fun x h => (g ρ h).bind fun y h => ofO ((cmpD o x y).map .bl) h) = Res.ok x hs1 → ∃ k, x = D.bl k := fun x hs1 e => by
    cases e1 : f ρ hs with
    | stuck => rw [e1] at e; cases e
    | exc _ _ => rw [e1] at e; cases e
    | ok y h1 =>
      rw [e1] at e
      simp only [Res.bind] at e
      cases e2 : g ρ h1 with
      | stuck => rw [e2] at e; cases e
      | exc _ _ => rw [e2] at e; cases e
      | ok z h2 =>
        rw [e2] at e
        simp only at e
        cases e3 : cmpD o y z with
        | none => rw [e3] at e; cases e
        | some k =>
          rw [e3] at e
          cases e
          exact ⟨k, rfl⟩
  refine RPost.first lifts_T p fun x hs1 ex v H1 k1 h1 r1 p' => ?_
  obtain ⟨k, rfl⟩ := isb x hs1 ex
  have r1 : Rep c.G ha B H1 (.bl k) v := r1
  simp only [Rep] at r1
  exact ⟨k, r1, p' k H1 .refl h1 rfl⟩
theorem cs_chain {o o' : COp} {pos : Pos} {d : Expr} (h1 : ES .wk c a f) (h2 : ES .wk c b g) (h3 : ES .wk c d k) (hm : plainIn d = true) :
    CS c (.Compare a [cop o, cop o'] [b, d] pos) (fun ρ h => ((f ρ h).bind fun x h => (g ρ h).bind fun y h => match cmpD o x y with
      | some true => (k ρ h).bind fun z h => ofO ((cmpD o' y z).map .bl) h
      | some false => .ok (.bl false) h
      | none => .stuck).bind fun x h => ofO (truthD x) h) := by
  obtain ⟨ta, p1, q1⟩ := h1
  obtain ⟨tb, p2, q2⟩ := h2
  obtain ⟨tc, p3, q3⟩ := h3
  refine ⟨_, fun X hx => pt_chain (r := rCmp c.G.K o) (r' := rCmp c.G.K o') (by rw [← hx.eK]; exact rCmp_ok hx.hu o) (by rw [← hx.eK]; exact rCmp_ok hx.hu o') (p1 X hx) (p2 X hx) (p3 X hx) (nomark' hm), fun ha B ρ hs σ H Q S p => ?_⟩
  refine chain_sem q1 q2 q3 ha B ρ hs σ H _ S ?_
  have isb : ∀ (x : D) (hs1 : HS), ((f ρ hs).bind fun x h => (g ρ h).bind fun y h => match cmpD o x y with
      | some true => (k ρ h).bind fun z h => ofO ((cmpD o' y z).map .bl) h
      | some false => .ok (.bl false) h
      | none => .stuck) = Res.ok x hs1 → ∃ k, x = D.bl k := fun x hs1 e => by
    cases e1 : f ρ hs with
    | stuck => rw [e1] at e; cases e
    | exc _ _ => rw [e1] at e; cases e
    | ok y h1 =>
      rw [e1] at e
      simp only [Res.bind] at e
      cases e2 : g ρ h1 with
      | stuck => rw [e2] at e; cases e
      | exc _ _ => rw [e2] at e; cases e
      | ok z h2 =>
        rw [e2] at e
        simp only at e
        cases e3 : cmpD o y z with
        | none => rw [e3] at e; cases e
        | some j =>
          rw [e3] at e
          cases j with
          | false =>
            cases e
            exact ⟨_, rfl⟩
          | true =>
            simp only at e
            cases e4 : k ρ h2 with
            | stuck => rw [e4] at e; cases e
            | exc _ _ => rw [e4] at e; cases e
            | ok w h3 =>
              rw [e4] at e
              simp only at e
              cases e5 : cmpD o' z w with
              | none => rw [e5] at e; cases e
              | some j =>
                rw [e5] at e
                cases e
                exact ⟨_, rfl⟩
  refine RPost.first lifts_T p fun x hs1 ex v H1 k1 h1 r1 p' => ?_
  obtain ⟨k, rfl⟩ := isb x hs1 ex
  have r1 : Rep c.G ha B H1 (.bl k) v := r1
  simp only [Rep] at r1
  exact ⟨k, r1, p' k H1 .refl h1 rfl⟩
theorem cs_not {f : PEnv → HS → Res Bool} {pos : Pos} (h1 : CS c a f) : CS c (.UnaryOp .Not a pos) (fun ρ h => (f ρ h).bind fun k h => .ok (!k) h) := by
  obtain ⟨ta, p1, q1⟩ := h1
  refine ⟨_, fun X hx => pt_not (p1 X hx), fun ha B ρ hs σ H Q S p => ?_⟩
  refine q1 ha B ρ hs σ H _ S (RPost.first lifts_T p fun x hs1 _ v H1 k1 h1 r1 p' => ?_)
  have r1 : v = x := r1
  subst r1
  exact p' (!v) H1 .refl h1 rfl
/-- a test of a chain of and, or -/
def CW (c : Ctx) (e : Expr) (f : PEnv → HS → Res Bool) : Prop :=
  ∃ t : TT, (∀ X, XOk c X → PW X e t) ∧ ∀ ha B ρ hs σ H Q, ESim c.G ha B ρ hs σ H → TPost c.G ha B H Q c.E (f ρ hs) → t σ H Q
theorem CW.cs {f : PEnv → HS → Res Bool} (h : CW c e f) : CS c e f := by
  obtain ⟨t, p, q⟩ := h
  exact ⟨t, fun X hx => (p X hx).pt, q⟩
theorem cw_and1 {f : PEnv → HS → Res Bool} {pos : Pos} (h1 : CS c a f) : CW c (.BoolOp .And [a] pos) f := by
  obtain ⟨ta, p1, q1⟩ := h1
  exact ⟨ta, fun X hx => pw_and1 (p1 X hx), q1⟩
theorem cw_or1 {f : PEnv → HS → Res Bool} {pos : Pos} (h1 : CS c a f) : CW c (.BoolOp .Or [a] pos) f := by
  obtain ⟨ta, p1, q1⟩ := h1
  exact ⟨ta, fun X hx => pw_or1 (p1 X hx), q1⟩
theorem cw_and {f g : PEnv → HS → Res Bool} {rest : List Expr} {pos : Pos} (h1 : CS c a f) (h2 : CW c (.BoolOp .And (b :: rest) pos) g) :
    CW c (.BoolOp .And (a :: b :: rest) pos) (fun ρ h => (f ρ h).bind fun k h => if k then g ρ h else .ok false h) := by
  obtain ⟨ta, p1, q1⟩ := h1
  obtain ⟨tb, p2, q2⟩ := h2
  refine ⟨_, fun X hx => pw_and (p1 X hx) (p2 X hx), fun ha B ρ hs σ H Q S p => ?_⟩
  refine q1 ha B ρ hs σ H _ S (RPost.first lifts_T p fun x hs1 _ v H1 k1 h1 r1 p' => ?_)
  have r1 : v = x := r1
  subst r1
  cases v with
  | true =>
    rw [if_pos rfl] at p' ⊢
    exact q2 ha B ρ hs1 σ H1 _ (S.ext k1 h1) p'
  | false =>
    rw [if_neg Bool.false_ne_true] at p' ⊢
    exact p' false H1 .refl h1 rfl
theorem cw_or {f g : PEnv → HS → Res Bool} {rest : List Expr} {pos : Pos} (h1 : CS c a f) (h2 : CW c (.BoolOp .Or (b :: rest) pos) g) :
    CW c (.BoolOp .Or (a :: b :: rest) pos) (fun ρ h => (f ρ h).bind fun k h => if k then .ok true h else g ρ h) := by
  obtain ⟨ta, p1, q1⟩ := h1
  obtain ⟨tb, p2, q2⟩ := h2
  refine ⟨_, fun X hx => pw_or (p1 X hx) (p2 X hx), fun ha B ρ hs σ H Q S p => ?_⟩
  refine q1 ha B ρ hs σ H _ S (RPost.first lifts_T p fun x hs1 _ v H1 k1 h1 r1 p' => ?_)
  have r1 : v = x := r1
  subst r1
  cases v with
  | true =>
    rw [if_pos rfl] at p' ⊢
    exact p' true H1 .refl h1 rfl
  | false =>
    rw [if_neg Bool.false_ne_true] at p' ⊢
    exact q2 ha B ρ hs1 σ H1 _ (S.ext k1 h1) p'
end
end PD

set_option Elab.async false
set_option linter.all false
set_option maxRecDepth 100000
set_option maxHeartbeats 2000000
/-! P6: subscripts, slices, calls. -/
namespace PD
open PySem PySem.Spec PyProof.Rows L2
section
variable {c : Ctx} {e a b : Expr} {f g k : PEnv → HS → Res D} {m : Md}
theorem atI_eq {α : Type} (xs : List α) (i : Int) : PD.atI xs i = L2.atI xs i := rfl
theorem Rep.tup_ {G : Cfg} {ha : Addr} {B : Addr → Prop} {H : Hp} {ds : List D} {v : V} (h : Rep G ha B H (.tup ds) v) : ∃ a vs, v = .ref a ∧ SqT G.K H a vs ∧ Reps G ha B H ds vs := by
  simp only [Rep] at h
  exact h
theorem Reps.atI {G : Cfg} {ha : Addr} {B : Addr → Prop} {H : Hp} {ds : List D} {vs : List V} {i : Int} {d : D} (r : Reps G ha B H ds vs) (h : PD.atI ds i = some d) : ∃ v, L2.atI vs i = some v ∧ Rep G ha B H d v := by
  unfold PD.atI at h
  rw [Option.bind_eq_some_iff] at h
  obtain ⟨j, h1, h2⟩ := h
  obtain ⟨v, e1, e2⟩ := r.get h2
  refine ⟨v, ?_, e2⟩
  unfold L2.atI
  rw [← r.length]
  show (PD.ixN ds.length i).bind _ = _
  rw [h1]
  exact e1
def plainIx : Expr → Bool
  | .Slice _ _ _ _ => false
  | _ => true
theorem plainIx_of {b : Expr} (h : plainIx b = true) : PlainIx b := by
  intro o i
  cases b <;> first | rfl | cases h
/-- x[i] -/
theorem es_ix {pos : Pos} (h1 : ES .wk c a f) (h2 : ES .wk c b g) (hp : plainIx b = true) : ES .st c (.Subscript a b pos) (fun ρ h => (f ρ h).bind fun x h => (g ρ h).bind fun y h => ofO (ixD h x y) h) :=
  es_op2 (z := fun x y h => ofO (ixD h x y) h) (r := fun x y H Q => rIxL c.G.K x y H Q ∨ rIxT c.G.K x y H Q) h1 h2 (fun X ta tb hx p1 p2 => pe_ix (by rw [← hx.eK]; exact ix_list.or ix_tup) p1 p2 (plainIx_of hp)) fun ha B H hs x y vx vy Q hh rx ry p => by
    obtain ⟨d, e, p2⟩ := ofO_ok p
    unfold ixD at e
    split at e
    · obtain ⟨l, vs, rfl, s, r⟩ := rx.lst_
      obtain ⟨v, e1, r1⟩ := r.atI e
      exact .inl ⟨l, vs, _, v, rfl, ry.int_, .inl (.inl s), e1, p2 v H .refl hh r1⟩
    · obtain ⟨l, vs, rfl, s, r⟩ := rx.tup_
      obtain ⟨v, e1, r1⟩ := r.atI e
      exact .inr ⟨l, vs, _, v, rfl, ry.int_, s, e1, p2 v H .refl hh r1⟩
    · simp only [WRep, Rep] at rx
      subst rx
      obtain ⟨vs, s, r⟩ := hh.at_
      obtain ⟨v, e1, r1⟩ := r.atI e
      exact .inl ⟨ha, vs, _, v, rfl, ry.int_, .inl (.inl s), e1, p2 v H .refl hh r1⟩
    · cases e
/-! ### slices -/
def OS (c : Ctx) (e : Option Expr) (f : PEnv → HS → Res (Option Int)) : Prop :=
  ∃ t : TO, (∀ X, XOk c X → PO X e t) ∧ ∀ ha B ρ hs σ H Q, ESim c.G ha B ρ hs σ H → RPost c.G ha B H (fun _ o o' _ _ => o' = o) Q c.E (f ρ hs) → t σ H Q
theorem os_none : OS c none (fun _ h => .ok none h) := ⟨tNoPart, fun X _ => po_none, fun ha B ρ hs σ H Q S p => p none H .refl S.hnd rfl⟩
theorem os_some (h1 : ES .wk c a f) : OS c (some a) (fun ρ h => (f ρ h).bind fun x h => ofO ((intOf x).map some) h) := by
  obtain ⟨ta, p1, q1⟩ := h1
  refine ⟨tPart ta, fun X hx => po_some (p1 X hx), fun ha B ρ hs σ H Q S p => ?_⟩
  refine q1 ha B ρ hs σ H _ S (RPost.first (fun _ _ _ _ _ _ _ _ _ h => h) p fun x hs1 _ v H1 k1 h1 r1 p' => ?_)
  obtain ⟨d, e, p'⟩ := ofO_ok p'
  cases x with
  | int i =>
    cases e
    exact ⟨i, (re_w r1).int_, p' _ H1 .refl h1 rfl⟩
  | _ => cases e
theorem cut_eq {α : Type} (xs : List α) (lo hi : Option Int) : cutL xs lo hi = (xs.drop (HT.sIx xs.length 0 lo)).take (HT.sIx xs.length xs.length hi - HT.sIx xs.length 0 lo) := rfl
theorem Reps.cut {G : Cfg} {ha : Addr} {B : Addr → Prop} {H : Hp} {ds : List D} {vs : List V} (r : Reps G ha B H ds vs) (lo hi : Option Int) : Reps G ha B H (cutL ds lo hi) (cutV vs lo hi) := by
  rw [cut_eq, r.length]
  exact (r.drop _).take _
theorem cut_whole {α : Type} {xs : List α} {lo hi : Option Int} (h : HT.sIx xs.length 0 lo = 0 ∧ HT.sIx xs.length xs.length hi = xs.length) : cutL xs lo hi = xs := by
  rw [cut_eq, h.1, h.2]
  simp
theorem es_slc {lo hi : Option Expr} {fl fh : PEnv → HS → Res (Option Int)} {p2 pos : Pos} (h1 : ES .wk c a f) (h2 : OS c lo fl) (h3 : OS c hi fh) :
    ES .fr c (.Subscript a (.Slice lo hi none p2) pos) (fun ρ h => (f ρ h).bind fun x h => (fl ρ h).bind fun l h => (fh ρ h).bind fun u h => ofO (slcD x l u) h) := by
  obtain ⟨ta, p1, q1⟩ := h1
  obtain ⟨tl, p2', q2⟩ := h2
  obtain ⟨th, p3, q3⟩ := h3
  refine ⟨tSl (fun x lo hi H Q => rSlL c.G.K x lo hi H Q ∨ rSlA c.G.K x lo hi H Q) ta tl th, fun X hx => pe_slice (by rw [← hx.eK]; exact sl_list.or sl_tupA) (p1 X hx) (p2' X hx) (p3 X hx), fun ha B ρ hs σ H Q S p => ?_⟩
  refine q1 ha B ρ hs σ H _ S (RPost.first lifts_E p fun x hs1 _ v H1 k1 h1 r1 p' => ?_)
  refine q2 ha B ρ hs1 σ H1 _ (S.ext k1 h1) (RPost.first lifts_E p' fun l hs2 _ l' H2 k2 h2 r2 p3 => ?_)
  refine q3 ha B ρ hs2 σ H2 _ ((S.ext k1 h1).ext k2 h2) (RPost.first lifts_E p3 fun u hs3 _ u' H3 k3 h3 r3 p4 => ?_)
  have r2 : l' = l := r2
  have r3 : u' = u := r3
  subst r2 r3
  have rx := WRep.keep h3.hB (k2.trans k3) r1
  obtain ⟨d, e, p4⟩ := ofO_ok p4
  cases x with
  | lst xs =>
    cases e
    obtain ⟨q, vs, rfl, s, r⟩ := rx.lst_
    exact .inl ⟨q, vs, rfl, .inl (.inl s), EPost.lst p4 h3 (r.cut _ _)⟩
  | tup xs =>
    cases e
    obtain ⟨q, vs, rfl, s, r⟩ := rx.tup_
    refine .inr ⟨q, vs, rfl, s, fun z => ?_, fun _ => EPost.tup p4 h3 (r.cut _ _)⟩
    rw [← r.length] at z
    rw [cut_whole z] at p4
    refine EPost.atom p4 h3 ?_ rfl
    simp only [Rep]
    exact ⟨q, vs, rfl, s, r⟩
  | _ => cases e
theorem es_rev {j : Nat} {p1 p2 p3 pos : Pos} (h1 : ES .wk c a f) : ES .fr c (.Subscript a (.Slice none none (some (.UnaryOp .USub (.Constant (.int 1) j p1) p2)) p3) pos) (fun ρ h => (f ρ h).bind fun x h => ofO (revD x) h) := by
  obtain ⟨ta, p1, q1⟩ := h1
  refine ⟨tRevL c.G.K ta, fun X hx => by rw [← hx.eK]; exact pe_revL (p1 X hx), fun ha B ρ hs σ H Q S p => ?_⟩
  refine q1 ha B ρ hs σ H _ S (RPost.first lifts_E p fun x hs1 _ v H1 k1 h1 r1 p' => ?_)
  obtain ⟨d, e, p'⟩ := ofO_ok p'
  cases x with
  | lst xs =>
    cases e
    obtain ⟨q, vs, rfl, s, r⟩ := (re_w r1).lst_
    exact ⟨q, vs, rfl, .inl (.inl s), EPost.lst p' h1 r.reverse⟩
  | _ => cases e

/-! ### calls -/
/-- φ takes as many as the def has parameters -/
def Arity (c : Ctx) : Prop := ∀ f ds h, c.Φ f ds h ≠ .stuck → ds.length = (c.G.ps f).length
theorem call_sem {fn : Nat} {ha : Addr} {B : Addr → Prop} {H : Hp} {Q : VK} {hs : HS} {ds : List D} {vs : List V} (ar : Arity c) (r : Reps c.G ha B H ds vs) (hh : Hnd c.G ha B H hs) (p : EPost c.G .st ha B H Q c.E (c.Φ fn ds hs)) :
    spD c.G (c.Φ fn) (c.G.ps fn).length vs H Q c.E := by
  refine ⟨?_, ha, B, ds, hs, r, hh, p⟩
  rw [← r.length]
  refine ar fn ds hs fun z => ?_
  rw [z] at p
  exact p
theorem es_call {x : Str} {p pos : Pos} {es : List Expr} {fs : PEnv → HS → Res (List D)} {fn : Nat} (st : Stat c.G) (ar : Arity c) (hf : c.G.nm[fn]? = some x) (hg : c.sc.names.lookup x = some .globalImplicit) (hk : c.calm = true)
    (h : AS false c (a :: es) fs) (hp : (a :: es).all plainE = true) (hd : (x == ("__debug__" : Str)) = false) : ES .st c (.Call (.Name x p) (a :: es) [] pos) (fun ρ h => (fs ρ h).bind fun ds h => c.Φ fn ds h) := by
  obtain ⟨t, p1, q1⟩ := h
  obtain ⟨e1, e2, e3⟩ := st.fn fn x hf
  rw [List.all_cons, Bool.and_eq_true] at hp
  refine ⟨tCall (spD c.G (c.Φ fn) (c.G.ps fn).length) [] c.E t, fun X hx => pe_call (hx.fns fn) (hx.hr hk) (hx.gl hg) (by rw [hx.eM]; exact e1) (by rw [hx.eK]; exact e2) (by rw [hx.eK]; exact e3) .nil hx.px (p1 X hx) hd (star_of hp.1) (nostar hp.2), fun ha B ρ hs σ H Q S p => ?_⟩
  refine q1 ha B ρ hs σ H _ S (RPost.first lifts_E p fun ds hs1 _ vs H1 k1 h1 r1 p' => ?_)
  show spD c.G (c.Φ fn) (c.G.ps fn).length (vs ++ []) H1 Q c.E
  rw [List.append_nil]
  exact call_sem ar r1 h1 p'
/-- a call of what a name holds -/
theorem es_callv {x : Str} {p pos : Pos} {es : List Expr} {fs : PEnv → HS → Res (List D)} {i : Nat} (st : Stat c.G) (ar : Arity c) (hN : c.N[i]? = some x) (hv : Vis c.sc x) (hk : c.calm = true)
    (h : AS false c (a :: es) fs) (hp : (a :: es).all plainE = true) (hd : (x == ("__debug__" : Str)) = false) (hcd : (x == ("__classdict__" : Str)) = false) : ES .st c (.Call (.Name x p) (a :: es) [] pos) (fun ρ h => match ρ[i]? with
      | some (.val (.fn f)) => (fs ρ h).bind fun ds h => c.Φ f ds h
      | _ => .stuck) := by
  obtain ⟨t, p1, q1⟩ := h
  rw [List.all_cons, Bool.and_eq_true] at hp
  refine ⟨fun σ H Q => ∃ (fn : Nat) (y : Str), c.G.nm[fn]? = some y ∧ tCallL i (c.G.fa fn) (spD c.G (c.Φ fn) (c.G.ps fn).length) [] c.E t σ H Q, fun X hx => ⟨fun pins s σ H Q I q => ?_⟩, fun ha B ρ hs σ H Q S p => ?_⟩
  · obtain ⟨fn, y, hy, q⟩ := q
    obtain ⟨e1, e2, e3⟩ := st.fn fn y hy
    exact (pe_callL (hx.fns fn) (hx.hr hk) (by rw [hx.eN]; exact hN) (hx.vis hv) (by rw [hx.eK]; exact e2) (by rw [hx.eK]; exact e3) .nil hx.px (p1 X hx) hd hcd (star_of hp.1) (nostar hp.2)).run pins s σ H Q I q
  · dsimp only at p
    split at p
    · rename_i fn e
      obtain ⟨v, e1, r⟩ := S.at_ i _ e
      simp only [Rep] at r
      obtain ⟨rfl, r2⟩ := r
      obtain ⟨y, hy⟩ := Option.isSome_iff_exists.mp r2
      refine ⟨fn, y, hy, e1, ?_⟩
      refine q1 ha B ρ hs σ H _ S (RPost.first lifts_E p fun ds hs1 _ vs H1 k1 h1 r1 p' => ?_)
      show spD c.G (c.Φ fn) (c.G.ps fn).length (vs ++ []) H1 Q c.E
      rw [List.append_nil]
      exact call_sem ar r1 h1 p'
    · exact p.elim
end
end PD

set_option Elab.async false
set_option linter.all false
set_option maxRecDepth 100000
set_option maxHeartbeats 2000000
/-! P7: built-ins over data. -/
namespace PD
open PySem PySem.Spec PyProof.Rows L2
section
variable {X : Cx}
theorem alikeB_all {ps : List PyData} (h : alikeB ps = true) : W.AlikeAll ps ∧ W.AllAlike ps := by
  unfold alikeB at h
  rw [List.all_eq_true] at h
  have h1 : ∀ x ∈ ps, ∀ y ∈ ps, W.alike x y = true := fun x hx y hy => by
    have q := h x hx
    rw [Bool.and_eq_true] at q
    exact List.all_eq_true.mp q.2 y hy
  refine ⟨⟨h1, fun x hx z => ?_⟩, h1⟩
  have q := h x hx
  rw [z] at q
  cases q
theorem sortB_all {ps : List PyData} (h : sortB ps = true) : W.Sortable ps := by
  unfold sortB at h
  rw [Bool.or_eq_true] at h
  rcases h with h | h
  · rw [List.all_eq_true] at h
    refine .inl fun d hd => ?_
    have q := h d hd
    unfold isTup1 at q
    split at q
    · exact ⟨_, _, rfl⟩
    · cases q
  · rw [List.all_eq_true] at h
    refine .inr fun d hd => ?_
    have q := h d hd
    unfold notTup at q
    split at q
    · cases q
    · cases q
    · rename_i n1 n2
      exact ⟨fun z => n1 z, fun xs z => n2 xs z⟩
theorem depthB_le {ps : List PyData} (h : depthB ps = true) : PyData.depthAll ps ≤ 40 := of_decide_eq_true h
/-- min (max) of a list of alike data: one of its items, that reads as it -/
def rBest (K : PySem.W.Frag) (best : PyData → List PyData → PyData) : List V → Hp → VK → Prop := fun vs H Q => ∃ (a : Addr) (ys : List V) (p : PyData) (ps : List PyData), vs = [.ref a] ∧ SqL K H a ys ∧ DpAll K H ys (p :: ps) ∧
  alikeB (p :: ps) = true ∧ depthB (p :: ps) = true ∧ PyData.plainAll (p :: ps) = true ∧ ∀ (i : Nat) (v : V), ys[i]? = some v → (p :: ps)[i]? = some (best p ps) → Q v H
theorem plain_of_all : ∀ {xs : List PyData} {x : PyData}, PyData.plainAll xs = true → x ∈ xs → x.plain = true
  | y :: ys, x, h, hx => by
    rw [PyData.plainAll, Bool.and_eq_true] at h
    rcases List.mem_cons.mp hx with rfl | hx
    · exact h.1
    · exact plain_of_all h.2 hx
theorem best_end {pins : List (Addr × Obj)} {σ : St} {H : Hp} {s : Shared} {ys : List V} {p : PyData} {ps : List PyData} {its : List Value} {as : List Addr} {Q : VK} {best : PyData}
    (I : Inv X pins σ H s) (rv : Vals ys its) (hr : ReadsAll s.heap its (p :: ps) as) (hp : PyData.plainAll (p :: ps) = true) (q : ∀ (i : Nat) (v : V), ys[i]? = some v → (p :: ps)[i]? = some best → Q v H)
    {i : Nat} {v : Value} {h' : Heap} {tk : Nat} {bs : List Addr} (hv : its.toArray[i]? = some v) (hb : Reads h' v best bs) (hk : ∀ b o, s.heap.get? b = some o → h'.get? b = some o) :
    EP X pins σ Q v { s with heap := h', toks := tk } := by
  have hv' : its[i]? = some v := by simpa using hv
  obtain ⟨hi, e⟩ := List.getElem?_eq_some_iff.mp hv'
  have hl := rv.length
  have hy : ys[i]? = some ys[i] := List.getElem?_eq_getElem (by omega)
  obtain ⟨u, hu, ru⟩ := rv.get hy
  have eu : u = v := Option.some.inj (hu.symm.trans hv')
  subst eu
  obtain ⟨cs, r, hlt, hmem, _⟩ := PySem.W.readsAll_at hr i u hv'
  have e1 := PySem.SeqAt.plain_unique _ _ _ _ _ (plain_of_all hp hmem) (PySem.W.reads_keeps hk r) hb
  refine ⟨ys[i], H, I.kept hk, ru, q i _ hy ?_⟩
  rw [← e1, List.getD_eq_getElem?_getD, List.getElem?_eq_getElem hlt]
  rfl
theorem cr_minD (hc : X.calm = true) (hu : X.A.units + 80 < cLine) : CallR X (.builtin "min") (rBest X.K W.minD) := by
  intro pins s σ H vs us Q I r h
  obtain ⟨a, ys, p, ps, rfl, hs, hd, ha, hz, hp, q⟩ := h
  obtain ⟨its, rv, hl, _⟩ := I.list hs
  rw [Vals.ref1 r]
  obtain ⟨as, hr⟩ := Dp.readsAll I (p :: ps) ys its hd rv
  have hz := depthB_le hz
  exact PySem.W.min_list_data (I.ok.hd hc) hl.isList hr (alikeB_all ha).1 (by omega) fun i v h' tk bs hv hb hk => best_end I rv hr hp q hv hb hk
theorem cr_maxD (hc : X.calm = true) (hu : X.A.units + 80 < cLine) : CallR X (.builtin "max") (rBest X.K W.maxD) := by
  intro pins s σ H vs us Q I r h
  obtain ⟨a, ys, p, ps, rfl, hs, hd, ha, hz, hp, q⟩ := h
  obtain ⟨its, rv, hl, _⟩ := I.list hs
  rw [Vals.ref1 r]
  obtain ⟨as, hr⟩ := Dp.readsAll I (p :: ps) ys its hd rv
  have hz := depthB_le hz
  exact PySem.W.max_list_data (I.ok.hd hc) hl.isList hr (alikeB_all ha).1 (by omega) fun i v h' tk bs hv hb hk => best_end I rv hr hp q hv hb hk
/-- sorted: the pairs of values and data in the data's order -/
def rSortD (K : PySem.W.Frag) : List V → Hp → VK → Prop := fun vs H Q => ∃ (a : Addr) (bs : List (V × D)) (ps : List PyData), vs = [.ref a] ∧ SqL K H a (bs.map (·.1)) ∧ D.pys (bs.map (·.2)) = some ps ∧ DpAll K H (bs.map (·.1)) ps ∧
  alikeB ps = true ∧ sortB ps = true ∧ depthB ps = true ∧ bs.length ≤ sizeLine ∧ ∀ q, H q = none → Q (.ref q) (upd H q (.lst ((bs.mergeSort (W.dataLe false fun b => b.2.pyD)).map (·.1))))
theorem each_vals : ∀ {us : List Value} {bs : List (V × D)}, Vals (bs.map (·.1)) us → W.EachIs (fun u (b : V × D) => RelV b.1 u) us bs
  | _, [], h => by
    cases h
    exact .nil
  | _, b :: bs, h => by
    rw [List.map_cons] at h
    cases h with
    | cons r t => exact .cons r (each_vals t)
theorem vals_each : ∀ {us : List Value} {bs : List (V × D)}, W.EachIs (fun u (b : V × D) => RelV b.1 u) us bs → Vals (bs.map (·.1)) us
  | _, _, .nil => .nil
  | _, _, .cons r t => .cons r (vals_each t)
theorem each_reads {h : Heap} : ∀ {us : List Value} {bs : List (V × D)} {as : List Addr}, ReadsAll h us (bs.map fun b => b.2.pyD) as → W.EachIs (fun u (b : V × D) => ∃ as, Reads h u b.2.pyD as) us bs
  | _, [], _, h => by
    cases h
    exact .nil
  | _, b :: bs, _, h => by
    rw [List.map_cons] at h
    cases h with
    | cons r t => exact .cons ⟨_, r⟩ (each_reads t)
theorem depth_mem {ps : List PyData} {x : PyData} (h : x ∈ ps) : x.depth ≤ PyData.depthAll ps := by
  induction ps with
  | nil => cases h
  | cons p ps ih =>
    simp only [PyData.depthAll]
    rcases List.mem_cons.mp h with rfl | h
    · exact Nat.le_max_left _ _
    · exact Nat.le_trans (ih h) (Nat.le_max_right _ _)
theorem cr_sortD (hu : X.A.units + 80 < cLine) : CallR X (.builtin "sorted") (rSortD X.K) := by
  intro pins s σ H vs us Q I r h
  obtain ⟨a, bs, ps, rfl, hs, hps, hd, ha, hso, hz, hlen, q⟩ := h
  obtain ⟨its, rv, hl, _⟩ := I.list hs
  rw [Vals.ref1 r]
  obtain ⟨as, hr⟩ := Dp.readsAll I ps _ its hd rv
  have hz := depthB_le hz
  obtain ⟨eps, _⟩ := pys_get hps
  have em : ps = bs.map fun b => b.2.pyD := by
    rw [eps, List.map_map]
    rfl
  rw [em] at hr ha hso
  refine PySem.W.sorted_data hl.isList (each_vals rv) (each_reads hr) (alikeB_all ha).2 (sortB_all hso) hlen (fun b hb => ?_) fun out ho he => ?_
  · have := depth_mem (ps := ps) (x := b.2.pyD) (by rw [em]; exact List.mem_map.mpr ⟨b, hb, rfl⟩)
    omega
  · obtain ⟨ep, he'⟩ := PyProof.Rows.sortedAll_at s.heap its out.toArray
    have rv2 := vals_each he
    refine ⟨.ref _, upd H (s.heap.objs.size + 1) (.lst ((bs.mergeSort (W.dataLe false fun b => b.2.pyD)).map (·.1))), I.laid (t' := s.toks) (fun _ _ => PyProof.Rows.sortedAll_old) (Nat.le_succ _) ⟨?_, out, ep, rv2, he'⟩, rfl, q _ (I.hok.fresh (Nat.le_succ _))⟩
    rw [List.length_map, List.length_mergeSort]
    exact hlen
/-- l.count(x) over data -/
def rCountD (K : PySem.W.Frag) : V → List V → Hp → VK → Prop := fun x xs H Q => ∃ (a : Addr) (y : V) (d : PyData) (ds : List PyData), x = V.ref a ∧ xs = [y] ∧ Dp K H (V.ref a) (.list ds) ∧ Dp K H y d ∧
  SeqAt.shaped (.list ds) = true ∧ SeqAt.shaped d = true ∧ Q (.int ((ds.countP fun z => PyData.eqv z d : Nat) : Int)) H
theorem mt_countD (hu : X.A.units + 80 < cLine) : MtR X "list.count" (rCountD X.K) := by
  intro pins s σ H x xs v us Q I rx rxs h
  obtain ⟨a, y, d, ds, rfl, rfl, hl, hy, sl, sd, q⟩ := h
  cases rx
  cases rxs with
  | cons ry rt =>
    rename_i uy ut
    cases rt
    obtain ⟨cs, r1⟩ := Dp.reads I d y uy hy ry
    cases hl with
    | lst hs hda =>
      obtain ⟨its, rv, hpl, _⟩ := I.list hs
      obtain ⟨as, r2⟩ := Dp.readsAll I ds _ its hda rv
      have h1 := SeqAt.canLay_of_shaped sl
      have h2 := SeqAt.canLay_of_shaped sd
      have h3 := SeqAt.depth_of_shaped sd
      have h4 : min (PyData.depthAll ds) d.depth ≤ d.depth := Nat.min_le_right _ _
      refine PySem.SeqAt.count_list_data hpl.isList r2 r1 (PyData.plainAll_of_canLay0 ds (by simpa only [PyData.canLay0] using h1)) (PyData.plain_of_canLay0 d h2) (by omega) ?_
      exact ⟨.int _, H, I.tok _, ⟨_, rfl⟩, q⟩
end
end PD

set_option Elab.async false
set_option linter.all false
set_option maxRecDepth 100000
set_option maxHeartbeats 2000000
/-! P8: built-ins as expressions. -/
namespace PD
open PySem PySem.Spec PyProof.Rows L2
def biNm : BI → Str
  | .len => "len" | .abs => "abs" | .int => "int" | .max => "max" | .min => "min" | .sum => "sum" | .sorted => "sorted" | .any => "any" | .all => "all" | .list => "list" | .tuple => "tuple" | .repr => "repr"
def biV : BI → Value
  | .len => .builtin "len" | .abs => .builtin "abs" | .int => .type "int" | .max => .builtin "max" | .min => .builtin "min" | .sum => .builtin "sum" | .sorted => .builtin "sorted" | .any => .builtin "any" | .all => .builtin "all"
  | .list => .type "list" | .tuple => .type "tuple" | .repr => .builtin "repr"
def biFr : BI → Bool
  | .max => false
  | .min => false
  | _ => true
abbrev RV := List V → Hp → VK → Prop
def rNo : RV := fun _ _ _ => False
def rBi (K : PySem.W.Frag) : BI → RV
  | .len => fun xs H Q => ∃ p ys, xs = [.ref p] ∧ (SqL K H p ys ∨ SqT K H p ys) ∧ Q (.int ys.length) H
  | .abs => fun xs H Q => ∃ i, xs = [.int i] ∧ Q (.int (if i < 0 then -i else i)) H
  | .int => fun xs H Q => (∃ i, xs = [.int i] ∧ Q (.int i) H) ∨ ∃ k, xs = [.bl k] ∧ Q (.int (if k then 1 else 0)) H
  | .max => fun xs H Q => (∃ i j, xs = [.int i, .int j] ∧ Q (.int (if j > i then j else i)) H) ∨ rBest K W.maxD xs H Q
  | .min => fun xs H Q => (∃ i j, xs = [.int i, .int j] ∧ Q (.int (if j < i then j else i)) H) ∨ rBest K W.minD xs H Q
  | .sum => rSum K
  | .sorted => rSortD K
  | .any => rAny K
  | .all => rAll K
  | .list => fun xs H Q => ∃ p ys, xs = [.ref p] ∧ (SqL K H p ys ∨ SqT K H p ys) ∧ ∀ l, H l = none → Q (.ref l) (upd H l (.lst ys))
  | .tuple => fun xs H Q => ∃ p ys, xs = [.ref p] ∧ ((SqL K H p ys ∧ ∀ l, H l = none → Q (.ref l) (upd H l (.tup ys))) ∨ (SqT K H p ys ∧ Q (.ref p) H))
  | .repr => rNo
theorem rNo_ok {X : Cx} {f : Value} : CallR X f rNo := fun _ _ _ _ _ _ _ _ _ h => h.elim
theorem rBi_ok {X : Cx} (hc : X.calm = true) (hu : X.A.units + 80 < cLine) : ∀ b : BI, CallR X (biV b) (rBi X.K b)
  | .len => call_len_seq
  | .abs => call_abs
  | .int => call_int1
  | .max => (call_max2 hc).or (cr_maxD hc hu)
  | .min => (call_min2 hc).or (cr_minD hc hu)
  | .sum => cr_sum hc
  | .sorted => cr_sortD hu
  | .any => cr_any hc
  | .all => cr_all hc
  | .list => call_list_of
  | .tuple => call_tuple_of
  | .repr => rNo_ok
theorem pe_bi {X : Cx} {b : BI} {r : RV} {p pos : Pos} {e : Expr} {es : List Expr} {t : TA} (hc : CallR X (biV b) r) (hg : Gl X (biNm b)) (hm : X.mg (biNm b) = none) (ha : PA X (e :: es) t)
    (he : starEach (e :: es) X.env = (false, eval e X.env) :: starEach es X.env) (hpl : (backTo pos (starEach es X.env)).any (·.1) = false) : PE X (.Call (.Name (biNm b) p) (e :: es) [] pos) (tCB r t) := by
  cases b with
  | len => exact pe_callB hc hg hm (by decide +kernel) ha (by decide) (by decide) he hpl
  | abs => exact pe_callB hc hg hm PyProof.Rows.boot_abs ha (by decide) (by decide) he hpl
  | int => exact pe_callTy hc hg hm PyProof.Rows.boot_int ha (by decide) (by decide) he hpl
  | max => exact pe_callB hc hg hm PyProof.Rows.boot_max ha (by decide) (by decide) he hpl
  | min => exact pe_callB hc hg hm PyProof.Rows.boot_min ha (by decide) (by decide) he hpl
  | sum => exact pe_callB hc hg hm PyProof.Rows.boot_sum ha (by decide) (by decide) he hpl
  | sorted => exact pe_callB hc hg hm PyProof.Rows.boot_sorted ha (by decide) (by decide) he hpl
  | any => exact pe_callB hc hg hm PyProof.Rows.boot_any ha (by decide) (by decide) he hpl
  | all => exact pe_callB hc hg hm PyProof.Rows.boot_all ha (by decide) (by decide) he hpl
  | list => exact pe_callTy hc hg hm PyProof.Rows.boot_list ha (by decide) (by decide) he hpl
  | tuple => exact pe_callTy hc hg hm PyProof.Rows.boot_tuple ha (by decide) (by decide) he hpl
  | repr => exact pe_callB hc hg hm (by decide +kernel) ha (by decide) (by decide) he hpl
section
variable {G : Cfg} {ha : Addr} {B : Addr → Prop} {H : Hp} {hs : HS} {Q : VK} {E : XK}
theorem WReps.one {d : D} {vs : List V} (h : WReps G ha B H [d] vs) : ∃ v, vs = [v] ∧ WRep G ha B H d v := by
  obtain ⟨v, r, rfl, h1, h2⟩ := h
  have h2 : r = [] := h2
  subst h2
  exact ⟨v, rfl, h1⟩
theorem WReps.two {d e : D} {vs : List V} (h : WReps G ha B H [d, e] vs) : ∃ v w, vs = [v, w] ∧ WRep G ha B H d v ∧ WRep G ha B H e w := by
  obtain ⟨v, r, rfl, h1, h2⟩ := h
  obtain ⟨w, rfl, h3⟩ := WReps.one h2
  exact ⟨v, w, rfl, h1, h3⟩
theorem Reps.ints : ∀ {ds : List D} {vs : List V} {ns : List Int}, Reps G ha B H ds vs → dInts ds = some ns → vs = ns.map V.int
  | [], vs, ns, r, e => by
    simp only [Reps] at r
    simp only [dInts, Option.some.injEq] at e
    subst r e
    rfl
  | .int i :: ds, vs, ns, r, e => by
    simp only [Reps] at r
    obtain ⟨v, us, rfl, r1, r2⟩ := r
    simp only [dInts, Option.map_eq_some_iff] at e
    obtain ⟨ms, e, rfl⟩ := e
    simp only [Rep] at r1
    rw [r1, Reps.ints r2 e]
    rfl
  | .non :: _, _, _, _, e => by simp [dInts] at e
  | .bl _ :: _, _, _, _, e => by simp [dInts] at e
  | .str _ :: _, _, _, _, e => by simp [dInts] at e
  | .tup _ :: _, _, _, _, e => by simp [dInts] at e
  | .lst _ :: _, _, _, _, e => by simp [dInts] at e
  | .dct _ _ :: _, _, _, _, e => by simp [dInts] at e
  | .fn _ :: _, _, _, _, e => by simp [dInts] at e
  | .hnd :: _, _, _, _, e => by simp [dInts] at e
theorem Reps.bls : ∀ {ds : List D} {vs : List V} {ns : List Bool}, Reps G ha B H ds vs → dBls ds = some ns → vs = ns.map V.bl
  | [], vs, ns, r, e => by
    simp only [Reps] at r
    simp only [dBls, Option.some.injEq] at e
    subst r e
    rfl
  | .bl i :: ds, vs, ns, r, e => by
    simp only [Reps] at r
    obtain ⟨v, us, rfl, r1, r2⟩ := r
    simp only [dBls, Option.map_eq_some_iff] at e
    obtain ⟨ms, e, rfl⟩ := e
    simp only [Rep] at r1
    rw [r1, Reps.bls r2 e]
    rfl
  | .non :: _, _, _, _, e => by simp [dBls] at e
  | .int _ :: _, _, _, _, e => by simp [dBls] at e
  | .str _ :: _, _, _, _, e => by simp [dBls] at e
  | .tup _ :: _, _, _, _, e => by simp [dBls] at e
  | .lst _ :: _, _, _, _, e => by simp [dBls] at e
  | .dct _ _ :: _, _, _, _, e => by simp [dBls] at e
  | .fn _ :: _, _, _, _, e => by simp [dBls] at e
  | .hnd :: _, _, _, _, e => by simp [dBls] at e
theorem pys_cons {x : D} {r : List D} {ps : List PyData} (h : D.pys (x :: r) = some ps) : ∃ p qs, ps = p :: qs ∧ x.py = some p ∧ D.pys r = some qs := by
  simp only [D.pys] at h
  split at h
  · rename_i p q e1 e2
    cases h
    exact ⟨p, q, rfl, e1, e2⟩
  · cases h
theorem pyD_of {x : D} {p : PyData} (h : x.py = some p) : x.pyD = p := by
  unfold D.pyD
  rw [h]
  rfl
/-- the least of the data is the least's data -/
theorem minD_pyD : ∀ (r : List D) (x : D), (minF x r).pyD = W.minD x.pyD (r.map D.pyD)
  | [], _ => rfl
  | y :: r, x => by
    unfold minF W.minD
    rw [List.foldl_cons, List.map_cons, List.foldl_cons]
    have ih := minD_pyD r (if W.dataLt y.pyD x.pyD then y else x)
    unfold minF W.minD at ih
    rw [ih]
    congr 1
    split <;> rfl
theorem maxD_pyD : ∀ (r : List D) (x : D), (maxF x r).pyD = W.maxD x.pyD (r.map D.pyD)
  | [], _ => rfl
  | y :: r, x => by
    unfold maxF W.maxD
    rw [List.foldl_cons, List.map_cons, List.foldl_cons]
    have ih := maxD_pyD r (if W.dataLt x.pyD y.pyD then y else x)
    unfold maxF W.maxD at ih
    rw [ih]
    congr 1
    split <;> rfl
theorem minF_mem : ∀ (r : List D) (x : D), minF x r ∈ x :: r
  | [], x => List.mem_cons_self
  | y :: r, x => by
    have ih := minF_mem r (if W.dataLt y.pyD x.pyD then y else x)
    unfold minF at ih ⊢
    rw [List.foldl_cons]
    rcases List.mem_cons.mp ih with h | h
    · rw [h]
      split <;> simp
    · exact List.mem_cons_of_mem _ (List.mem_cons_of_mem _ h)
theorem maxF_mem : ∀ (r : List D) (x : D), maxF x r ∈ x :: r
  | [], x => List.mem_cons_self
  | y :: r, x => by
    have ih := maxF_mem r (if W.dataLt x.pyD y.pyD then y else x)
    unfold maxF at ih ⊢
    rw [List.foldl_cons]
    rcases List.mem_cons.mp ih with h | h
    · rw [h]
      split <;> simp
    · exact List.mem_cons_of_mem _ (List.mem_cons_of_mem _ h)
theorem best_sem {best : PyData → List PyData → PyData} {bd : D → List D → D} {x : D} {r : List D} {ps : List PyData} {v : V} (hb : (bd x r).pyD = best x.pyD (r.map D.pyD)) (hm : bd x r ∈ x :: r) (e1 : D.pys (x :: r) = some ps) (e2 : alikeB ps = true) (e3 : depthB ps = true)
    (hh : Hnd G ha B H hs) (rx : WRep G ha B H (.lst (x :: r)) v) (p : EPost G .st ha B H Q E (.ok (bd x r) hs)) : rBest G.K best [v] H Q := by
  obtain ⟨a, vs, rfl, s, rv⟩ := rx.lst_
  obtain ⟨p0, qs, rfl, h1, h2⟩ := pys_cons e1
  obtain ⟨m1, m2⟩ := pys_get e1
  refine ⟨a, vs, p0, qs, rfl, .inl (.inl s), Reps.dp rv e1, e2, e3, pys_plain e1, fun i v hv he => ?_⟩
  obtain ⟨d, hd, rd⟩ := rv.get' hv
  have ed : d.pyD = best p0 qs := by
    rw [m1, List.getElem?_map, hd] at he
    exact Option.some.inj he
  have edb : d = bd x r := by
    have q1 := m2 d (List.mem_of_getElem? hd)
    have q2 := m2 _ hm
    rw [← ofPy_py q1, ← ofPy_py q2, ed, hb]
    rw [List.map_cons] at m1
    cases m1
    rfl
  subst edb
  exact p v H .refl hh rd
theorem minL_ok {xs : List D} {d : D} (h : minL xs = some d) : ∃ x r ps, xs = x :: r ∧ D.pys (x :: r) = some ps ∧ alikeB ps = true ∧ depthB ps = true ∧ d = minF x r := by
  unfold minL at h
  split at h
  · rename_i x r ps e
    split at h
    · rename_i c
      rw [Bool.and_eq_true] at c
      cases h
      exact ⟨x, r, ps, rfl, e, c.1, c.2, rfl⟩
    · cases h
  · cases h
theorem maxL_ok {xs : List D} {d : D} (h : maxL xs = some d) : ∃ x r ps, xs = x :: r ∧ D.pys (x :: r) = some ps ∧ alikeB ps = true ∧ depthB ps = true ∧ d = maxF x r := by
  unfold maxL at h
  split at h
  · rename_i x r ps e
    split at h
    · rename_i c
      rw [Bool.and_eq_true] at c
      cases h
      exact ⟨x, r, ps, rfl, e, c.1, c.2, rfl⟩
    · cases h
  · cases h
theorem Reps.zip1 : ∀ {ds : List D} {vs : List V}, Reps G ha B H ds vs → (vs.zip ds).map (·.1) = vs ∧ (vs.zip ds).map (·.2) = ds ∧ ∀ b ∈ vs.zip ds, Rep G ha B H b.2 b.1
  | [], vs, h => by
    simp only [Reps] at h
    subst h
    exact ⟨rfl, rfl, fun _ z => nomatch z⟩
  | d :: ds, vs, h => by
    simp only [Reps] at h
    obtain ⟨v, r, rfl, h1, h2⟩ := h
    obtain ⟨i1, i2, i3⟩ := Reps.zip1 h2
    refine ⟨by rw [List.zip_cons_cons, List.map_cons, i1], by rw [List.zip_cons_cons, List.map_cons, i2], fun b hb => ?_⟩
    rw [List.zip_cons_cons] at hb
    rcases List.mem_cons.mp hb with rfl | hb
    · exact h1
    · exact i3 b hb
theorem Reps.of_all : ∀ {bs : List (V × D)}, (∀ b ∈ bs, Rep G ha B H b.2 b.1) → Reps G ha B H (bs.map (·.2)) (bs.map (·.1))
  | [], _ => .nil
  | b :: bs, h => .cons (h b List.mem_cons_self) (Reps.of_all fun c hc => h c (List.mem_cons_of_mem _ hc))
theorem ef_st {d : D} (p : EPost G .st ha B H Q E (.ok d hs)) : EPost G .fr ha B H Q E (.ok d hs) := p.rel fun a v H' hs' k hh r => Fresh.rep r
theorem bi_sem {b : BI} {ds : List D} {d : D} {vs : List V} (e : biD b ds = some d) (hh : Hnd G ha B H hs) (r : WReps G ha B H ds vs) (p : EPost G (if biFr b = true then .fr else .st) ha B H Q E (.ok d hs)) : rBi G.K b vs H Q := by
  unfold biD at e
  split at e
  · cases e
    obtain ⟨v, rfl, rv⟩ := r.one
    obtain ⟨a, us, rfl, s, ru⟩ := rv.lst_
    refine ⟨a, us, rfl, .inl (.inl (.inl s)), ?_⟩
    rw [← ru.length]
    exact EPost.int p hh
  · cases e
    obtain ⟨v, rfl, rv⟩ := r.one
    obtain ⟨a, us, rfl, s, ru⟩ := rv.tup_
    refine ⟨a, us, rfl, .inr s, ?_⟩
    rw [← ru.length]
    exact EPost.int p hh
  · cases e
    obtain ⟨v, rfl, rv⟩ := r.one
    exact ⟨_, by rw [rv.int_], EPost.int p hh⟩
  · cases e
    obtain ⟨v, rfl, rv⟩ := r.one
    exact .inl ⟨_, by rw [rv.int_], EPost.int p hh⟩
  · cases e
    obtain ⟨v, rfl, rv⟩ := r.one
    exact .inr ⟨_, by rw [rv.bl_], EPost.int p hh⟩
  · cases e
    obtain ⟨v, w, rfl, rv, rw_⟩ := r.two
    exact .inl ⟨_, _, by rw [rv.int_, rw_.int_], EPost.int (ef_st p) hh⟩
  · obtain ⟨v, rfl, rv⟩ := r.one
    obtain ⟨x, zs, ps, rfl, e1, e2, e3, rfl⟩ := maxL_ok e
    exact .inr (best_sem (maxD_pyD zs x) (maxF_mem zs x) e1 e2 e3 hh rv p)
  · cases e
    obtain ⟨v, w, rfl, rv, rw_⟩ := r.two
    exact .inl ⟨_, _, by rw [rv.int_, rw_.int_], EPost.int (ef_st p) hh⟩
  · obtain ⟨v, rfl, rv⟩ := r.one
    obtain ⟨x, zs, ps, rfl, e1, e2, e3, rfl⟩ := minL_ok e
    exact .inr (best_sem (minD_pyD zs x) (minF_mem zs x) e1 e2 e3 hh rv p)
  · rw [Option.map_eq_some_iff] at e
    obtain ⟨ns, e, rfl⟩ := e
    obtain ⟨v, rfl, rv⟩ := r.one
    obtain ⟨a, us, rfl, s, ru⟩ := rv.lst_
    have := ru.ints e
    subst this
    exact ⟨a, ns, rfl, .inl (.inl s), EPost.int p hh⟩
  · rw [Option.map_eq_some_iff] at e
    obtain ⟨ns, e, rfl⟩ := e
    obtain ⟨v, rfl, rv⟩ := r.one
    obtain ⟨a, us, rfl, s, ru⟩ := rv.lst_
    have := ru.bls e
    subst this
    exact ⟨a, ns, rfl, .inl (.inl s), EPost.bl p hh⟩
  · rw [Option.map_eq_some_iff] at e
    obtain ⟨ns, e, rfl⟩ := e
    obtain ⟨v, rfl, rv⟩ := r.one
    obtain ⟨a, us, rfl, s, ru⟩ := rv.lst_
    have := ru.bls e
    subst this
    exact ⟨a, ns, rfl, .inl (.inl s), EPost.bl p hh⟩
  · rename_i xs
    rw [Option.map_eq_some_iff] at e
    obtain ⟨ys, e, rfl⟩ := e
    obtain ⟨v, rfl, rv⟩ := r.one
    obtain ⟨a, us, rfl, s, ru⟩ := rv.lst_
    unfold sortL at e
    split at e
    · rename_i ps e1
      split at e
      · rename_i c
        rw [Bool.and_eq_true, Bool.and_eq_true, Bool.and_eq_true, decide_eq_true_eq] at c
        cases e
        obtain ⟨z1, z2, z3⟩ := ru.zip1
        have hl := ru.length
        refine ⟨a, us.zip xs, ps, rfl, by rw [z1]; exact .inl (.inl s), by rw [z2]; exact e1, by rw [z1]; exact Reps.dp ru e1, c.1.1.1, c.1.1.2, c.1.2, ?_, ?_⟩
        · rw [List.length_zip, line_eq]
          omega
        · refine EPost.lst p hh ?_
          have m := Reps.of_all (G := G) (ha := ha) (B := B) (H := H) (bs := (us.zip xs).mergeSort (W.dataLe false fun b => b.2.pyD)) fun b hb => z3 b (List.mem_mergeSort.mp hb)
          rw [List.map_mergeSort (r := W.dataLe false fun b : V × D => b.2.pyD) (s := W.dataLe false D.pyD) (f := (·.2)) (fun a _ b _ => rfl), z2] at m
          exact m
      · cases e
    · cases e
  · cases e
    obtain ⟨v, rfl, rv⟩ := r.one
    obtain ⟨a, us, rfl, s, ru⟩ := rv.lst_
    exact ⟨a, us, rfl, .inl (.inl (.inl s)), EPost.lst p hh ru⟩
  · cases e
    obtain ⟨v, rfl, rv⟩ := r.one
    obtain ⟨a, us, rfl, s, ru⟩ := rv.tup_
    exact ⟨a, us, rfl, .inr s, EPost.lst p hh ru⟩
  · cases e
    obtain ⟨v, rfl, rv⟩ := r.one
    obtain ⟨a, us, rfl, s, ru⟩ := rv.lst_
    exact ⟨a, us, rfl, .inl ⟨.inl (.inl s), EPost.tup p hh ru⟩⟩
  · cases e
    obtain ⟨v, rfl, rv⟩ := r.one
    obtain ⟨a, us, rfl, s, ru⟩ := rv.tup_
    refine ⟨a, us, rfl, .inr ⟨s, EPost.atom p hh ?_ rfl⟩⟩
    simp only [Rep]
    exact ⟨a, us, rfl, s, ru⟩
  · cases e
end
section
variable {c : Ctx} {e a b : Expr} {f g k : PEnv → HS → Res D} {m : Md}
theorem XOk.mg0 {X : Cx} (st : Stat c.G) (hx : XOk c X) {y : Str} (h : c.G.fr.contains y = true) : X.mg y = none := by
  rw [hx.eM]
  exact st.fr y h
theorem es_bi {b : BI} {p pos : Pos} {es : List Expr} {fs : PEnv → HS → Res (List D)} (st : Stat c.G) (hc : c.calm = true) (hg : c.sc.names.lookup (biNm b) = some .globalImplicit) (hf : c.G.fr.contains (biNm b) = true)
    (h : AS true c (a :: es) fs) (hp : (a :: es).all plainE = true) : ES (if biFr b = true then .fr else .st) c (.Call (.Name (biNm b) p) (a :: es) [] pos) (fun ρ h => (fs ρ h).bind fun ds h => ofO (biD b ds) h) := by
  obtain ⟨t, p1, q1⟩ := h
  rw [List.all_cons, Bool.and_eq_true] at hp
  refine ⟨tCB (rBi c.G.K b) t, fun X hx => pe_bi (by rw [← hx.eK]; exact rBi_ok (hx.eC.trans hc) hx.hu b) (hx.gl hg) (hx.mg0 st hf) (p1 X hx) (star_of hp.1) (nostar hp.2), fun ha B ρ hs σ H Q S p => ?_⟩
  refine q1 ha B ρ hs σ H _ S (RPost.first lifts_E p fun ds hs1 _ vs H1 k1 h1 r1 p' => ?_)
  obtain ⟨d, e, p'⟩ := ofO_ok p'
  exact bi_sem e h1 r1 p'
end
end PD

set_option Elab.async false
set_option linter.all false
set_option maxRecDepth 100000
set_option maxHeartbeats 2000000
/-! P9: ranges as lists, isinstance, a list's methods. -/
namespace PD
open PySem PySem.Spec PyProof.Rows L2
section
variable {c : Ctx} {e a b : Expr} {f g k : PEnv → HS → Res D} {m : Md}
theorem inR_ok {i : Int} (h : inR i = true) : -(2 ^ 62) ≤ i ∧ i < 2 ^ 62 := by
  unfold inR at h
  rw [Bool.and_eq_true, decide_eq_true_eq, decide_eq_true_eq] at h
  exact h
theorem reps_range {G : Cfg} {ha : Addr} {B : Addr → Prop} {H : Hp} (lo : Int) (n : Nat) : Reps G ha B H (rangeD lo n) ((List.range n).map fun i => V.int (lo + (i : Nat))) := by
  unfold rangeD
  generalize List.range n = l
  induction l with
  | nil => exact .nil
  | cons x r ih => exact .cons (by simp only [Rep]) ih
theorem rg_sem {m : Md} {t : Bool} {G : Cfg} {ha : Addr} {B : Addr → Prop} {H : Hp} {hs : HS} {Q : VK} {E : XK} {x y : D} {v w : V} (hh : Hnd G ha B H hs) (rx : WRep G ha B H x v) (ry : WRep G ha B H y w)
    (p : EPost G .fr ha B H Q E (ofO (rngD t x y) hs)) : ∃ i j, v = .int i ∧ w = .int j ∧ RgOk i j ∧ ∀ q, H q = none → Q (.ref q) (upd H q (if t then .tup (rgV i j) else .lst (rgV i j))) := by
  obtain ⟨d, e, p⟩ := ofO_ok p
  unfold rngD at e
  split at e
  · rename_i lo hi
    split at e
    · rename_i z
      cases e
      rw [Bool.and_eq_true, Bool.and_eq_true, decide_eq_true_eq] at z
      obtain ⟨z1, z2⟩ := inR_ok z.1.1
      obtain ⟨z3, z4⟩ := inR_ok z.1.2
      refine ⟨lo, hi, rx.int_, ry.int_, ⟨z1, z2, z3, z4, ?_⟩, ?_⟩
      · have := z.2
        unfold line at this
        omega
      · cases t with
        | false =>
          rw [if_neg Bool.false_ne_true] at p
          exact EPost.lst p hh (reps_range lo _)
        | true =>
          rw [if_pos rfl] at p
          exact EPost.tup p hh (reps_range lo _)
    · cases e
  · cases e
def rgNm (t : Bool) : Str := if t then "tuple" else "list"
theorem pe_rg {X : Cx} {t : Bool} {e : Expr} {te : St → Hp → (Int → Int → Hp → Prop) → Prop} {p pos : Pos} (hc : X.calm = true) (hg : Gl X (rgNm t)) (hm : X.mg (rgNm t) = none) (he : PRg X e te) (na : starEach [e] X.env = (false, eval e X.env) :: starEach [] X.env) :
    PE X (.Call (.Name (rgNm t) p) [e] [] pos) (fun σ H Q => te σ H fun i j H1 => RgOk i j ∧ ∀ q, H1 q = none → Q (.ref q) (upd H1 q (if t then .tup (rgV i j) else .lst (rgV i j)))) := by
  cases t with
  | false => exact pe_listRg hc hg hm he na
  | true => exact pe_tupRg hc hg hm he na
theorem es_rg2 {t : Bool} {p p2 pos pos2 : Pos} (st : Stat c.G) (hc : c.calm = true) (hg : c.sc.names.lookup (rgNm t) = some .globalImplicit) (hf : c.G.fr.contains (rgNm t) = true)
    (hg2 : c.sc.names.lookup ("range" : Str) = some .globalImplicit) (hf2 : c.G.fr.contains "range" = true) (h1 : ES .wk c a f) (h2 : ES .wk c b g) (hp : plainE a = true) (hq : plainE b = true) :
    ES .fr c (.Call (.Name (rgNm t) p) [.Call (.Name "range" p2) [a, b] [] pos2] [] pos) (fun ρ h => (f ρ h).bind fun x h => (g ρ h).bind fun y h => ofO (rngD t x y) h) := by
  obtain ⟨ta, p1, q1⟩ := h1
  obtain ⟨tb, p2', q2⟩ := h2
  refine ⟨_, fun X hx => pe_rg (hx.eC.trans hc) (hx.gl hg) (hx.mg0 st hf) (prg_2 (hx.gl hg2) (hx.mg0 st hf2) (p1 X hx) (p2' X hx) (star_of hp) (star_of hq) (nostar (by rw [List.all_cons, hq]; rfl))) rfl, fun ha B ρ hs σ H Q S p => ?_⟩
  refine q1 ha B ρ hs σ H _ S (RPost.first lifts_E p fun x hs1 _ v H1 k1 h1 r1 p' => ?_)
  refine q2 ha B ρ hs1 σ H1 _ (S.ext k1 h1) (RPost.first lifts_E p' fun y hs2 _ w H2 k2 h2 r2 p3 => ?_)
  exact rg_sem (m := .fr) h2 (WRep.keep h2.hB k2 r1) r2 p3
theorem es_rg1 {t : Bool} {p p2 pos pos2 : Pos} (st : Stat c.G) (hc : c.calm = true) (hg : c.sc.names.lookup (rgNm t) = some .globalImplicit) (hf : c.G.fr.contains (rgNm t) = true)
    (hg2 : c.sc.names.lookup ("range" : Str) = some .globalImplicit) (hf2 : c.G.fr.contains "range" = true) (h2 : ES .wk c b g) (hq : plainE b = true) :
    ES .fr c (.Call (.Name (rgNm t) p) [.Call (.Name "range" p2) [b] [] pos2] [] pos) (fun ρ h => (Res.ok (D.int 0) h).bind fun x h => (g ρ h).bind fun y h => ofO (rngD t x y) h) := by
  obtain ⟨tb, p2', q2⟩ := h2
  refine ⟨_, fun X hx => pe_rg (hx.eC.trans hc) (hx.gl hg) (hx.mg0 st hf) (prg_1 (hx.gl hg2) (hx.mg0 st hf2) (p2' X hx) (star_of hq)) rfl, fun ha B ρ hs σ H Q S p => ?_⟩
  refine q2 ha B ρ hs σ H _ S (RPost.first lifts_E p fun y hs2 _ w H2 k2 h2 r2 p3 => ?_)
  obtain ⟨i, j, e1, e2, ok, q⟩ := rg_sem (m := .fr) h2 (x := .int 0) (v := .int 0) (by simp only [WRep, Rep]) r2 p3
  cases e1
  exact ⟨j, e2, ok, q⟩

/-! ### isinstance -/
def tyS : Ty → String
  | .int => "int" | .bool => "bool" | .str => "str" | .tuple => "tuple" | .list => "list" | .dict => "dict"
def tyN : Ty → Str
  | .int => "int" | .bool => "bool" | .str => "str" | .tuple => "tuple" | .list => "list" | .dict => "dict"
theorem tyN_boot : ∀ t : Ty, bootBuiltins (tyN t) = some (.type (tyS t))
  | .int => by decide +kernel
  | .bool => by decide +kernel
  | .str => by decide +kernel
  | .tuple => by decide +kernel
  | .list => by decide +kernel
  | .dict => by decide +kernel
theorem pe_tyN {X : Cx} {t : Ty} {p : Pos} (hg : Gl X (tyN t)) (hm : X.mg (tyN t) = none) : PE X (.Name (tyN t) p) (tC (.ty (tyS t))) :=
  ⟨fun _ _ _ H _ I h => ld_blt I hg hm (tyN_boot t) ⟨.ty (tyS t), H, I, rfl, h⟩ (by cases t <;> decide) (by cases t <;> decide)⟩
def tyD : D → Option String
  | .non => some "NoneType" | .bl _ => some "bool" | .int _ => some "int" | .str _ => some "str" | .tup _ => some "tuple" | .lst _ => some "list" | .dct _ _ => some "dict" | .fn _ => none | .hnd => some "list"
def tyTab : List (String × Ty × Bool) := [("NoneType", .int, false), ("NoneType", .bool, false), ("NoneType", .str, false), ("NoneType", .tuple, false), ("NoneType", .list, false), ("NoneType", .dict, false),
  ("bool", .int, true), ("bool", .bool, true), ("bool", .str, false), ("bool", .tuple, false), ("bool", .list, false), ("bool", .dict, false),
  ("int", .int, true), ("int", .bool, false), ("int", .str, false), ("int", .tuple, false), ("int", .list, false), ("int", .dict, false),
  ("str", .int, false), ("str", .bool, false), ("str", .str, true), ("str", .tuple, false), ("str", .list, false), ("str", .dict, false),
  ("tuple", .int, false), ("tuple", .bool, false), ("tuple", .str, false), ("tuple", .tuple, true), ("tuple", .list, false), ("tuple", .dict, false),
  ("list", .int, false), ("list", .bool, false), ("list", .str, false), ("list", .tuple, false), ("list", .list, true), ("list", .dict, false),
  ("dict", .int, false), ("dict", .bool, false), ("dict", .str, false), ("dict", .tuple, false), ("dict", .list, false), ("dict", .dict, true)]
theorem tyTab_ok : ∀ x ∈ tyTab, kitB x.1 (tyS x.2.1) = some x.2.2 := by
  unfold tyTab
  simp only [List.forall_mem_cons]
  refine ⟨?_, ?_, ?_, ?_, ?_, ?_, ?_, ?_, ?_, ?_, ?_, ?_, ?_, ?_, ?_, ?_, ?_, ?_, ?_, ?_, ?_, ?_, ?_, ?_, ?_, ?_, ?_, ?_, ?_, ?_, ?_, ?_, ?_, ?_, ?_, ?_, ?_, ?_, ?_, ?_, ?_, ?_, fun _ z => nomatch z⟩ <;> decide +kernel
theorem isTy_tab {d : D} {t : Ty} {b : Bool} (h : isTy d t = some b) : ∃ T, tyD d = some T ∧ kitB T (tyS t) = some b := by
  have key : ∀ {T : String}, tyD d = some T → (T, t, b) ∈ tyTab → ∃ T, tyD d = some T ∧ kitB T (tyS t) = some b := fun {T} e hm => ⟨T, e, tyTab_ok _ hm⟩
  cases d <;> cases t <;> simp only [isTy, Option.some.injEq, reduceCtorEq] at h <;> first | (subst h; exact key rfl (by simp [tyTab])) | cases h
theorem tyD_X {G : Cfg} {ha : Addr} {B : Addr → Prop} {H : Hp} {hs : HS} {d : D} {v : V} {T : String} (e : tyD d = some T) (hh : Hnd G ha B H hs) (r : WRep G ha B H d v) : TyX G.K H v (.type T) := by
  cases d with
  | non => cases e; rw [r.non_]; exact .base .non
  | bl b => cases e; rw [r.bl_]; exact .base (.bl b)
  | int i => cases e; rw [r.int_]; exact .base (.int i)
  | str x => cases e; rw [r.str_]; exact .base (.str x)
  | tup ds =>
    cases e
    obtain ⟨a, vs, rfl, s, _⟩ := r.tup_
    rcases s with (s | ⟨o, s⟩) | ⟨o, its, n, s1, s2, _⟩
    · exact .base (.tup s)
    · exact .fTuple s
    · exact .kTuple s1 s2
  | lst ds =>
    cases e
    obtain ⟨a, vs, rfl, s, _⟩ := r.lst_
    exact .base (.lst s)
  | dct ks vs =>
    cases e
    simp only [WRep] at r
    obtain ⟨a, kvs, rfl, _, s, _⟩ := r
    exact .base (.dK s)
  | fn n => cases e
  | hnd =>
    cases e
    simp only [WRep, Rep] at r
    subst r
    obtain ⟨vs, s, _⟩ := hh.at_
    exact .base (.lst s)
theorem isTys_kit {K : PySem.W.Frag} {d : D} {T : String} (eT : tyD d = some T) : ∀ {ts : List Ty} {b : Bool}, isTys d ts = some b → PySem.W.kitAny K (.type T) (ts.map fun t => Value.type (tyS t)) = some b
  | [], b, h => by
    cases h
    exact kitAny_nil
  | t :: ts, b, h => by
    simp only [isTys] at h
    split at h
    · rename_i x y e1 e2
      cases h
      obtain ⟨T', e3, e4⟩ := isTy_tab e1
      rw [eT] at e3
      cases e3
      refine kitAny_cons (kit_ty e4) (fun hx => ?_) (fun hx => by rw [hx]; rfl)
      rw [hx]
      exact isTys_kit eT e2
    · cases h
theorem isTys_ty {d : D} : ∀ {ts : List Ty} {b : Bool}, isTys d ts = some b → ts ≠ [] → ∃ T, tyD d = some T
  | t :: ts, b, h, _ => by
    simp only [isTys] at h
    split at h
    · rename_i x y e1 e2
      obtain ⟨T, e, _⟩ := isTy_tab e1
      exact ⟨T, e⟩
    · cases h
theorem es_isi1 {t : Ty} {p p2 pos : Pos} (st : Stat c.G) (hg : c.sc.names.lookup ("isinstance" : Str) = some .globalImplicit) (hf : c.G.fr.contains "isinstance" = true) (hg2 : c.sc.names.lookup (tyN t) = some .globalImplicit) (hf2 : c.G.fr.contains (tyN t) = true)
    (h1 : ES .wk c a f) (hp : plainE a = true) : ES .fr c (.Call (.Name "isinstance" p) [a, .Name (tyN t) p2] [] pos) (fun ρ h => (f ρ h).bind fun x h => ofO ((isTys x [t]).map .bl) h) := by
  obtain ⟨ta, p1, q1⟩ := h1
  refine ⟨tCB (rIsi c.G.K) (tCons ta (tCons (tC (.ty (tyS t))) tNil)), fun X hx => pe_callB (by rw [← hx.eK]; exact call_isi) (hx.gl hg) (hx.mg0 st hf) PyProof.Rows.boot_isinstance (pa_cons (p1 X hx) (pa_cons (pe_tyN (hx.gl hg2) (hx.mg0 st hf2)) pa_nil rfl) (star_of hp)) (by decide) (by decide) (star_of hp) rfl, fun ha B ρ hs σ H Q S p => ?_⟩
  refine q1 ha B ρ hs σ H _ S (RPost.first lifts_E p fun x hs1 _ v H1 k1 h1 r1 p' => ?_)
  obtain ⟨d, e, p'⟩ := ofO_ok p'
  rw [Option.map_eq_some_iff] at e
  obtain ⟨k, e, rfl⟩ := e
  obtain ⟨T, eT⟩ := isTys_ty e (by simp)
  refine ⟨v, .ty (tyS t), .type T, .type (tyS t), k, rfl, .ty _, tyD_X eT h1 r1, ?_, EPost.bl p' h1⟩
  simp only [isTys] at e
  split at e
  · rename_i x y e1 e2
    cases e
    cases e2
    obtain ⟨T', e3, e4⟩ := isTy_tab e1
    rw [eT] at e3
    cases e3
    rw [Bool.or_false]
    exact kit_ty e4
  · cases e
def tyNs (ts : List (Ty × Pos)) : List Expr := ts.map fun t => .Name (tyN t.1) t.2
theorem pa_tyNs {X : Cx} : ∀ {ts : List (Ty × Pos)}, (∀ t ∈ ts, Gl X (tyN t.1) ∧ X.mg (tyN t.1) = none) → ∃ tt : TA, PA X (tyNs ts) tt ∧ ∀ σ H Q, Q (ts.map fun t => V.ty (tyS t.1)) H → tt σ H Q
  | [], _ => ⟨tNil, pa_nil, fun _ _ _ h => h⟩
  | t :: ts, h => by
    obtain ⟨tt, p, q⟩ := pa_tyNs (X := X) (ts := ts) fun u hu => h u (List.mem_cons_of_mem _ hu)
    obtain ⟨g1, g2⟩ := h t List.mem_cons_self
    exact ⟨tCons (tC (.ty (tyS t.1))) tt, pa_cons (pe_tyN g1 g2) p rfl, fun σ H Q z => q _ _ _ z⟩
def taTys (ts : List (Ty × Pos)) : TA := fun _ H Q => Q (ts.map fun t => V.ty (tyS t.1)) H
theorem pa_tys {X : Cx} {ts : List (Ty × Pos)} (h : ∀ t ∈ ts, Gl X (tyN t.1) ∧ X.mg (tyN t.1) = none) : PA X (tyNs ts) (taTys ts) := by
  obtain ⟨tt, p, q⟩ := pa_tyNs h
  exact ⟨fun pos pins s σ H Q I z => p.run pos pins s σ H Q I (q σ H Q z)⟩
theorem clsV_tys : ∀ (ts : List Ty), Paired ClsV (ts.map fun t => V.ty (tyS t)) (ts.map fun t => Value.type (tyS t))
  | [] => .nil
  | t :: ts => .cons (.ty _) (clsV_tys ts)
theorem es_isi {ts : List (Ty × Pos)} {j : Nat} {p p2 pos : Pos} (st : Stat c.G) (hg : c.sc.names.lookup ("isinstance" : Str) = some .globalImplicit) (hf : c.G.fr.contains "isinstance" = true)
    (hg2 : ∀ t ∈ ts, c.sc.names.lookup (tyN t.1) = some .globalImplicit ∧ c.G.fr.contains (tyN t.1) = true) (hne : ts ≠ []) (hl : ts.length ≤ line)
    (h1 : ES .wk c a f) (hp : plainE a = true) : ES .fr c (.Call (.Name "isinstance" p) [a, .Tuple (tyNs ts) j p2] [] pos) (fun ρ h => (f ρ h).bind fun x h => ofO ((isTys x (ts.map (·.1))).map .bl) h) := by
  obtain ⟨ta, p1, q1⟩ := h1
  refine ⟨tCB (rIsiT c.G.K) (tCons ta (tCons (tTup (taTys ts)) tNil)), fun X hx => pe_callB (by rw [← hx.eK]; exact call_isiT) (hx.gl hg) (hx.mg0 st hf) PyProof.Rows.boot_isinstance
    (pa_cons (p1 X hx) (pa_cons (pe_tup (pa_tys fun t ht => ⟨hx.gl (hg2 t ht).1, hx.mg0 st (hg2 t ht).2⟩)) pa_nil rfl) (star_of hp)) (by decide) (by decide) (star_of hp) rfl, fun ha B ρ hs σ H Q S p => ?_⟩
  refine q1 ha B ρ hs σ H _ S (RPost.first lifts_E p fun x hs1 _ v H1 k1 h1 r1 p' => ?_)
  obtain ⟨d, e, p'⟩ := ofO_ok p'
  rw [Option.map_eq_some_iff] at e
  obtain ⟨k, e, rfl⟩ := e
  obtain ⟨T, eT⟩ := isTys_ty e (by simpa using hne)
  refine ⟨by rw [line_eq, List.length_map]; exact hl, fun q n => ?_⟩
  refine ⟨v, q, ts.map fun t => V.ty (tyS t.1), .type T, (ts.map (·.1)).map fun t => Value.type (tyS t), k, rfl, upd_same, ?_, ?_, isTys_kit eT e, ?_⟩
  · have z := clsV_tys (ts.map (·.1))
    rw [List.map_map] at z
    exact z
  · exact tyD_X eT (h1.laid n) (WRep.keep h1.hB ((Keep.new n)) r1)
  · exact EPost.bl (RPost.base lifts_E p' (Keep.new n) (h1.laid n)) (h1.laid n)

/-! ### o.index(x), o.count(x) -/
def mtN : MT → Str
  | .index => "index" | .count => "count"
def mtI : MT → String
  | .index => "list.index" | .count => "list.count"
def rMt (K : PySem.W.Frag) : MT → V → List V → Hp → VK → Prop
  | .index => rIndexD K
  | .count => rCountD K
def plainB : Expr → Bool
  | .Call _ _ _ _ => false
  | _ => true
theorem base_of {o : Expr} {x : Str} {env : PySem.Env} {w : Sem Value} (h : plainB o = true) : attributeBase o x env w = w := by
  cases o <;> first | rfl | cases h
theorem few_of {pos : Pos} {env : PySem.Env} (hp : plainE b = true) : ((backTo pos (starEach [b] env)).all (fun x => !x.1) && (backToKw pos (keywordEach [] env)).all (fun x => x.1.isSome)
      && decide ([b].length + ([] : List Keyword).length + (if ([] : List Keyword).isEmpty then 0 else 1) < 30)) = true := by
  rw [star_of hp]
  rfl
theorem mt_sem {mt : MT} {G : Cfg} {ha : Addr} {B : Addr → Prop} {H : Hp} {hs : HS} {Q : VK} {E : XK} {x d : D} {ds : List D} {v : V} {vs : List V} (e : mtD mt x ds = some d) (hh : Hnd G ha B H hs) (rx : WRep G ha B H x v) (ry : WReps G ha B H ds vs)
    (p : EPost G .fr ha B H Q E (.ok d hs)) : tyV G.K "list" v H ∧ rMt G.K mt v vs H Q := by
  unfold mtD at e
  split at e
  · rename_i xs y
    rw [Option.map_eq_some_iff] at e
    obtain ⟨j, e, rfl⟩ := e
    obtain ⟨w, rfl, rw_⟩ := ry.one
    have dx := fun {ps : List PyData} (h : D.pys xs = some ps) => WRep.dp rx (p := .list ps) (by simp only [D.py, h]; rfl)
    obtain ⟨a, us, rfl, s, r⟩ := rx.lst_
    unfold idxD at e
    split at e
    · rename_i pd qs e1 e2
      split at e
      · rename_i z
        rw [Bool.and_eq_true] at z
        rw [List.findIdx?_eq_some_iff_getElem] at e
        obtain ⟨hj, h1, h2⟩ := e
        refine ⟨.inl ⟨rfl, us, .inl (.inl s)⟩, a, w, pd, qs, j, qs[j], rfl, rfl, dx e2, WRep.dp rw_ e1, z.2, z.1, List.getElem?_eq_getElem hj, h1, fun m z' hm hz => ?_, EPost.int p hh⟩
        obtain ⟨hm', ez⟩ := List.getElem?_eq_some_iff.mp hz
        have q := h2 m hm
        rw [ez] at q
        cases q2 : PyData.eqv z' pd with
        | false => rfl
        | true => exact absurd q2 q
      · cases e
    · cases e
  · rename_i xs y
    rw [Option.map_eq_some_iff] at e
    obtain ⟨j, e, rfl⟩ := e
    obtain ⟨w, rfl, rw_⟩ := ry.one
    have dx := fun {ps : List PyData} (h : D.pys xs = some ps) => WRep.dp rx (p := .list ps) (by simp only [D.py, h]; rfl)
    obtain ⟨a, us, rfl, s, r⟩ := rx.lst_
    unfold cntD at e
    split at e
    · rename_i pd qs e1 e2
      split at e
      · rename_i z
        rw [Bool.and_eq_true] at z
        cases e
        exact ⟨.inl ⟨rfl, us, .inl (.inl s)⟩, a, w, pd, qs, rfl, rfl, dx e2, WRep.dp rw_ e1, z.2, z.1, EPost.int p hh⟩
      · cases e
    · cases e
  · cases e
theorem pe_mt {X : Cx} {mt : MT} {r : V → List V → Hp → VK → Prop} {o : Expr} {to : TE} {t : TA} {apos pos : Pos} (hm : MtR X (mtI mt) r) (ho : PE X o to) (ha : PA X [b] t) (hb : plainB o = true) (hp : plainE b = true) (hl : (apos.endLine == pos.line) = true) :
    PE X (.Call (.Attribute o (mtN mt) apos) [b] [] pos) (tBM X.K "list" r to t) := by
  cases mt with
  | index => exact pe_bm PySem.F.plainAttrs_list PySem.F.slot_list_index PySem.F.type_list_index hm ho ha (base_of hb) (few_of hp) hl (star_of hp) rfl
  | count => exact pe_bm PySem.F.plainAttrs_list PySem.F.slot_list_count PySem.F.type_list_count hm ho ha (base_of hb) (few_of hp) hl (star_of hp) rfl
theorem es_mt {mt : MT} {apos pos : Pos} {fs : PEnv → HS → Res (List D)} (h1 : ES .wk c a f) (h2 : AS true c [b] fs) (hb : plainB a = true) (hp : plainE b = true) (hl : (apos.endLine == pos.line) = true) :
    ES .fr c (.Call (.Attribute a (mtN mt) apos) [b] [] pos) (fun ρ h => (f ρ h).bind fun x h => if isLst x then (fs ρ h).bind fun ds h => ofO (mtD mt x ds) h else .stuck) := by
  obtain ⟨ta, p1, q1⟩ := h1
  obtain ⟨t, p2, q2⟩ := h2
  refine ⟨tBM c.G.K "list" (rMt c.G.K mt) ta t, fun X hx => by
    have hr : MtR X (mtI mt) (rMt c.G.K mt) := by
      rw [← hx.eK]
      have hu := hx.hu
      cases mt with
      | index => exact mt_indexD (by omega)
      | count => exact mt_countD hu
    have z := pe_mt (apos := apos) (pos := pos) hr (p1 X hx) (p2 X hx) hb hp hl
    rw [hx.eK] at z
    exact z, fun ha B ρ hs σ H Q S p => ?_⟩
  refine q1 ha B ρ hs σ H _ S (RPost.first lifts_E p fun x hs1 _ v H1 k1 h1 r1 p' => ?_)
  have ex : ∃ xs, x = .lst xs := by
    cases x <;> first | exact ⟨_, rfl⟩ | exact (p' : False).elim
  obtain ⟨xs, rfl⟩ := ex
  rw [if_pos (show isLst (.lst xs) = true from rfl)] at p'
  refine ⟨?_, q2 ha B ρ hs1 σ H1 _ (S.ext k1 h1) (RPost.first lifts_E p' fun ds hs2 _ vs H2 k2 h2 r2 p3 => ?_)⟩
  · obtain ⟨q, us, rfl, s, _⟩ := (re_w r1).lst_
    exact .inl ⟨rfl, us, .inl (.inl s)⟩
  · obtain ⟨d, e, p3⟩ := ofO_ok p3
    exact (mt_sem e h2 (WRep.keep h2.hB k2 r1) r2 p3).2
end
end PD

set_option Elab.async false
set_option linter.all false
set_option maxRecDepth 100000
set_option maxHeartbeats 2000000
/-! P10: targets, what is walked, comprehensions. -/
namespace PD
open PySem PySem.Spec PyProof.Rows L2 RZ
mutual
def itSl : IT → List Nat
  | .nm i => [i]
  | .tp ts => itsSl ts
def itsSl : ITs → List Nat
  | .nil => []
  | .cons t ts => itSl t ++ itsSl ts
end
/-- slots in ss have new values -/
structure Stored (R : D → V → Prop) (ss : List Nat) (ρ ρ' : PEnv) (σ σ' : St) : Prop where
  l1 : ρ'.length = ρ.length
  l2 : σ'.length = σ.length
  out : ∀ i, i ∉ ss → ρ'[i]? = ρ[i]? ∧ σ'[i]? = σ[i]?
  at_ : ∀ i, i ∈ ss → i < ρ.length → ∃ d v, ρ'[i]? = some (.val d) ∧ σ'[i]? = some (some v) ∧ R d v
theorem Stored.one {R : D → V → Prop} {ρ : PEnv} {σ : St} {i : Nat} {d : D} {v : V} (r : R d v) (hl : σ.length = ρ.length) : Stored R [i] ρ (ρ.set i (.val d)) σ (σ.set i (some v)) := by
  refine ⟨List.length_set, List.length_set, fun j hj => ?_, fun j hj hl' => ?_⟩
  · have hne : i ≠ j := fun e => hj (by rw [e]; exact List.mem_singleton_self _)
    exact ⟨List.getElem?_set_ne hne, List.getElem?_set_ne hne⟩
  · have e : j = i := List.mem_singleton.mp hj
    subst e
    exact ⟨d, v, List.getElem?_set_self hl', List.getElem?_set_self (by omega), r⟩
theorem Stored.trans {R : D → V → Prop} {s t : List Nat} {ρ ρ1 ρ2 : PEnv} {σ σ1 σ2 : St} (a : Stored R s ρ ρ1 σ σ1) (b : Stored R t ρ1 ρ2 σ1 σ2) : Stored R (s ++ t) ρ ρ2 σ σ2 := by
  refine ⟨b.l1.trans a.l1, b.l2.trans a.l2, fun i hi => ?_, fun i hi hl => ?_⟩
  · rw [List.mem_append, not_or] at hi
    obtain ⟨b1, b2⟩ := b.out i hi.2
    obtain ⟨a1, a2⟩ := a.out i hi.1
    exact ⟨b1.trans a1, b2.trans a2⟩
  · by_cases ht : i ∈ t
    · exact b.at_ i ht (by rw [a.l1]; exact hl)
    · have hs : i ∈ s := (List.mem_append.mp hi).resolve_right ht
      obtain ⟨d, v, e1, e2, r⟩ := a.at_ i hs hl
      obtain ⟨b1, b2⟩ := b.out i ht
      exact ⟨d, v, b1.trans e1, b2.trans e2, r⟩
theorem Stored.nil {R : D → V → Prop} {ρ : PEnv} {σ : St} : Stored R [] ρ ρ σ σ := ⟨rfl, rfl, fun _ _ => ⟨rfl, rfl⟩, fun _ h => nomatch h⟩
def GS (c : Ctx) (t : Expr) (it : IT) : Prop :=
  ∃ g : TG, (∀ X, XOk c X → PG X t g) ∧ ∀ ha B H d v σ ρ ρ' Q, Rep c.G ha B H d v → asgT it d ρ = some ρ' → σ.length = ρ.length → (∀ σ', Stored (Rep c.G ha B H) (itSl it) ρ ρ' σ σ' → Q σ' H) → g v σ H Q
def GSs (c : Ctx) (ts : List Expr) (its : ITs) : Prop :=
  ∃ g : TGs, (∀ X, XOk c X → PGs X ts g) ∧ ∀ ha B H ds vs σ ρ ρ' Q, Reps c.G ha B H ds vs → asgTs its ds ρ = some ρ' → σ.length = ρ.length → (∀ σ', Stored (Rep c.G ha B H) (itsSl its) ρ ρ' σ σ' → Q σ' H) → g vs σ H Q
section
variable {c : Ctx}
theorem gs_name {x : Str} {p : Pos} {i : Nat} (hN : c.N[i]? = some x) (hv : Loc c.sc x) (hs : c.sto x = true) : GS c (.Name x p) (.nm i) := by
  refine ⟨gName i, fun X hx => pg_name (by rw [hx.eN]; exact hx.nd) (by rw [hx.eN]; exact hN) (by rw [hx.eS]; exact hv) (by rw [hx.eS]; exact hx.fnl x hs), fun ha B H d v σ ρ ρ' Q r e hl q => ?_⟩
  simp only [asgT, Option.some.injEq] at e
  subst e
  exact q _ (.one r hl)
theorem gss_nil : GSs c [] .nil := by
  refine ⟨gNil, fun X hx => pgs_nil, fun ha B H ds vs σ ρ ρ' Q r e hl q => ?_⟩
  cases ds with
  | nil =>
    simp only [asgTs, Option.some.injEq] at e
    simp only [Reps] at r
    subst e
    exact ⟨r, q _ .nil⟩
  | cons d ds => simp only [asgTs] at e; cases e
theorem ase_of {t : Expr} {ts : List Expr} {env : PySem.Env} (h : plainE t = true) : assignEach (t :: ts) env = (false, assign t env) :: assignEach ts env := by
  cases t <;> first | rfl | cases h
theorem gss_cons {t : Expr} {ts : List Expr} {it : IT} {its : ITs} (h1 : GS c t it) (h2 : GSs c ts its) (hp : plainE t = true) : GSs c (t :: ts) (.cons it its) := by
  obtain ⟨g1, p1, q1⟩ := h1
  obtain ⟨g2, p2, q2⟩ := h2
  refine ⟨gCons g1 g2, fun X hx => pgs_cons (p1 X hx) (p2 X hx) (by rw [ase_of hp]; rfl), fun ha B H ds vs σ ρ ρ' Q r e hl q => ?_⟩
  cases ds with
  | nil => simp only [asgTs] at e; cases e
  | cons d ds =>
    simp only [asgTs, Option.bind_eq_some_iff] at e
    obtain ⟨ρ1, e1, e2⟩ := e
    simp only [Reps] at r
    obtain ⟨v, us, rfl, r1, r2⟩ := r
    refine ⟨v, us, rfl, q1 ha B H d v σ ρ ρ1 _ r1 e1 hl fun σ1 s1 => ?_⟩
    refine q2 ha B H ds us σ1 ρ1 ρ' _ r2 e2 (by rw [s1.l1, s1.l2]; exact hl) fun σ2 s2 => ?_
    exact q _ (s1.trans s2)
theorem ase_len {env : PySem.Env} : ∀ {ts : List Expr}, (assignEach ts env).length = ts.length
  | [] => rfl
  | t :: ts => by
    have ih := ase_len (env := env) (ts := ts)
    cases t <;> exact congrArg (· + 1) ih
theorem ase_star {env : PySem.Env} : ∀ {ts : List Expr}, ts.all plainE = true → (assignEach ts env).findIdx? (·.1) = none
  | [], _ => rfl
  | t :: ts, h => by
    rw [List.all_cons, Bool.and_eq_true] at h
    rw [ase_of h.1, List.findIdx?_cons]
    show Option.map _ _ = none
    rw [ase_star h.2]
    rfl
def itsLen : ITs → Nat
  | .nil => 0
  | .cons _ ts => itsLen ts + 1
theorem asgTs_len : ∀ {its : ITs} {ds : List D} {ρ ρ' : PEnv}, asgTs its ds ρ = some ρ' → ds.length = itsLen its
  | .nil, [], _, _, _ => rfl
  | .nil, _ :: _, _, _, e => by simp only [asgTs] at e; cases e
  | .cons _ _, [], _, _, e => by simp only [asgTs] at e; cases e
  | .cons t ts, d :: ds, ρ, ρ', e => by
    simp only [asgTs, Option.bind_eq_some_iff] at e
    obtain ⟨ρ1, _, e2⟩ := e
    rw [List.length_cons, asgTs_len e2]
    rfl
theorem gs_tup {ts : List Expr} {its : ITs} {j : Nat} {p : Pos} (hc : c.calm = true) (h : GSs c ts its) (hp : ts.all plainE = true) (hl : ts.length = itsLen its) : GS c (.Tuple ts j p) (.tp its) := by
  obtain ⟨g, p1, q1⟩ := h
  refine ⟨gTup c.G.K ts.length g, fun X hx => by rw [← hx.eK]; exact pg_tup (hx.eC.trans hc) (p1 X hx) ase_len (ase_star hp), fun ha B H d v σ ρ ρ' Q r e hls q => ?_⟩
  simp only [asgT] at e
  split at e
  · rename_i xs
    obtain ⟨a, vs, rfl, s, rv⟩ := r.tup_
    refine ⟨a, vs, rfl, s, ?_, q1 ha B H _ vs σ ρ ρ' Q rv e hls fun σ' st => q σ' (by simp only [itSl]; exact st)⟩
    rw [← rv.length, asgTs_len e, hl]
  · cases e
theorem ESim.stored {G : Cfg} {ha : Addr} {B : Addr → Prop} {ρ ρ' : PEnv} {hs : HS} {σ σ' : St} {H : Hp} {ss : List Nat} (S : ESim G ha B ρ hs σ H) (t : Stored (Rep G ha B H) ss ρ ρ' σ σ') : ESim G ha B ρ' hs σ' H := by
  refine ⟨by rw [t.l2, t.l1]; exact S.len, fun i s e => ?_, S.hnd⟩
  by_cases hi : i ∈ ss
  · have hl : i < ρ.length := by
      rw [← t.l1]
      exact (List.getElem?_eq_some_iff.mp e).1
    obtain ⟨d, v, e1, e2, r⟩ := t.at_ i hi hl
    rw [e1] at e
    cases e
    exact ⟨v, e2, r⟩
  · obtain ⟨e1, e2⟩ := t.out i hi
    rw [e1] at e
    rw [e2]
    exact S.at_ i s e
/-- a slot is forgotten -/
theorem ESim.no {G : Cfg} {ha : Addr} {B : Addr → Prop} {ρ : PEnv} {hs : HS} {σ : St} {H : Hp} (S : ESim G ha B ρ hs σ H) (i : Nat) (o : Option V) : ESim G ha B (ρ.set i .no) hs (σ.set i o) H := by
  refine ⟨by rw [List.length_set, List.length_set]; exact S.len, fun j s e => ?_, S.hnd⟩
  by_cases h : i = j
  · subst h
    have hl : i < ρ.length := by
      have z := (List.getElem?_eq_some_iff.mp e).1
      rwa [List.length_set] at z
    rw [List.getElem?_set_self hl] at e
    cases e
    trivial
  · rw [List.getElem?_set_ne h] at e ⊢
    exact S.at_ j s e
theorem ESim.wipe {G : Cfg} {ha : Addr} {B : Addr → Prop} {ρ : PEnv} {hs : HS} {σ : St} {H : Hp} (S : ESim G ha B ρ hs σ H) : ∀ vs : List Nat, ESim G ha B (wipeP ρ vs) hs (wipe σ vs) H
  | [] => S
  | v :: vs => (ESim.wipe S vs).no v none
theorem wipe_at (σ : St) (i : Nat) : ∀ vs : List Nat, (i ∉ vs → (wipe σ vs)[i]? = σ[i]?) ∧ (i ∈ vs → i < σ.length → (wipe σ vs)[i]? = some none)
  | [] => ⟨fun _ => rfl, fun h => nomatch h⟩
  | v :: vs => by
    obtain ⟨i1, i2⟩ := wipe_at σ i vs
    show (_ → ((wipe σ vs).set v none)[i]? = _) ∧ (_ → _ → ((wipe σ vs).set v none)[i]? = _)
    by_cases h : v = i
    · subst h
      refine ⟨fun n => absurd List.mem_cons_self n, fun _ hl => ?_⟩
      rw [List.getElem?_set_self (by rw [wipe_length]; exact hl)]
    · rw [List.getElem?_set_ne h]
      refine ⟨fun n => i1 fun z => n (List.mem_cons_of_mem _ z), fun m hl => i2 ?_ hl⟩
      rcases List.mem_cons.mp m with z | z
      · exact absurd z.symm h
      · exact z
theorem wipe_same {σ σ' : St} {vs : List Nat} (hl : σ'.length = σ.length) (h : ∀ i, i ∉ vs → σ'[i]? = σ[i]?) : wipe σ' vs = wipe σ vs := by
  refine List.ext_getElem? fun i => ?_
  by_cases hi : i ∈ vs
  · by_cases hlt : i < σ.length
    · rw [(wipe_at σ i vs).2 hi hlt, (wipe_at σ' i vs).2 hi (by omega)]
    · rw [List.getElem?_eq_none (by rw [wipe_length]; omega), List.getElem?_eq_none (by rw [wipe_length]; omega)]
  · rw [(wipe_at σ i vs).1 hi, (wipe_at σ' i vs).1 hi, h i hi]
theorem wipe_twice {σ : St} {vs : List Nat} : wipe (wipe σ vs) vs = wipe σ vs := wipe_same (wipe_length _ _) fun i hi => (wipe_at σ i vs).1 hi

/-! ### what is walked -/
def BOk (ha : Addr) (B B' : Addr → Prop) (H1 : Hp) : Prop := B' ha ∧ ∀ b, B' b → B b ∨ FreshAt H1 b
def KS (wk : Bool) (ha : Addr) (B' : Addr → Prop) : Addr → Prop := if wk = true then fun b => b = ha else B'
def Std (wk : Bool) (ha : Addr) (B : Addr → Prop) (H1 H : Hp) : Prop := ∃ B', BOk ha B B' H1 ∧ Keep (KS wk ha B') H1 H
def YW (G : Cfg) (wk : Bool) (ha : Addr) (B : Addr → Prop) (H1 : Hp) (its : List D) : Nat → Hp → V → Hp → Prop := fun i H x H' => Same H H' ∧ ∃ d, its[i]? = some d ∧ ∀ B', BOk ha B B' H1 → Keep (KS wk ha B') H1 H → Rep G ha B' H' d x
def RW (G : Cfg) (wk : Bool) (ha : Addr) (B : Addr → Prop) : Rl (List D) It := fun _ its J _ H1 => Walk J its.length (Std wk ha B H1) (YW G wk ha B H1 its)
theorem lifts_W {G : Cfg} {wk : Bool} {ha : Addr} {B : Addr → Prop} : Lifts G ha B (RW G wk ha B) := fun _ _ _ _ _ _ _ _ _ h => h
def WS (c : Ctx) (tg iter : Expr) (wk : Bool) (f : PEnv → HS → Res (List D)) : Prop :=
  ∃ wi : TI, (∀ X, XOk c X → PI X tg iter wi) ∧ ∀ ha B ρ hs σ H (R : It → Hp → Prop), ESim c.G ha B ρ hs σ H → RPost c.G ha B H (RW c.G wk ha B) R c.E (f ρ hs) → wi σ H R
section
variable {G : Cfg} {ha : Addr} {B B' : Addr → Prop} {H H1 : Hp} {wk : Bool}
theorem KS.keepB (hb : B' ha) (k : Keep (KS wk ha B') H1 H) : Keep B' H1 H := by
  cases wk with
  | false => exact k
  | true =>
    refine k.imp fun b z => ?_
    have z : b = ha := z
    rw [z]
    exact hb
theorem items_std {ds : List D} {vs : List V} (r : Reps G ha B H1 ds vs) (b : BOk ha B B' H1) (k : Keep (KS wk ha B') H1 H) : Reps G ha B' H ds vs := Reps.keep (KS.keepB b.1 k) (Reps.chg b.2 r)
theorem Std.refl (hb : B ha) : Std wk ha B H1 H1 := ⟨B, ⟨hb, fun b z => .inl z⟩, .refl⟩
/-- a list that is walked, as it stands -/
theorem lst_std {H0 : Hp} {ds : List D} {v : V} {hs : HS} (hh : Hnd G ha B H1 hs) {hs0 : HS} (r : RepM G (mdOf wk) ha B H0 H1 (.lst ds) v hs0) : ∃ a vs, v = .ref a ∧ H1 a = some (.lst vs) ∧ Reps G ha B H1 ds vs ∧ ∀ H, Std wk ha B H1 H → H a = some (.lst vs) := by
  cases wk with
  | true =>
    have r : WRep G ha B H1 (.lst ds) v := r
    simp only [WRep] at r
    obtain ⟨a, vs, e, n, s, r⟩ := r
    refine ⟨a, vs, e, s, r, fun H st => ?_⟩
    obtain ⟨B', b, k⟩ := st
    exact k.at_ a _ n s nt_lst
  | false =>
    have r : Rep G ha B H1 (.lst ds) v := r
    simp only [Rep] at r
    obtain ⟨a, vs, e, n, s, r⟩ := r
    refine ⟨a, vs, e, s, r, fun H st => ?_⟩
    obtain ⟨B', b, k⟩ := st
    exact k.at_ a _ (fun z => (b.2 a z).elim n fun y => y _ s nt_lst) s nt_lst
theorem tup_std {H0 : Hp} {ds : List D} {v : V} {hs : HS} (hh : Hnd G ha B H1 hs) {hs0 : HS} (r : RepM G (mdOf wk) ha B H0 H1 (.tup ds) v hs0) : ∃ a vs, v = .ref a ∧ SqT G.K H1 a vs ∧ Reps G ha B H1 ds vs ∧ ∀ H, Std wk ha B H1 H → SqT G.K H a vs := by
  have r : Rep G ha B H1 (.tup ds) v := by cases wk <;> exact r
  obtain ⟨a, vs, e, s, r⟩ := r.tup_
  refine ⟨a, vs, e, s, r, fun H st => ?_⟩
  obtain ⟨B', b, k⟩ := st
  exact k.sqT s
theorem yw_at {ds : List D} {vs : List V} (r : Reps G ha B H1 ds vs) {i : Nat} {x : V} {H' : Hp} (y : YAt vs i H x H') : YW G wk ha B H1 ds i H x H' := by
  obtain ⟨rfl, e⟩ := y
  obtain ⟨d, hd, _⟩ := r.get' e
  refine ⟨fun _ _ z => z, d, hd, fun B' b k => ?_⟩
  obtain ⟨d', hd', r'⟩ := (items_std r b k).get' e
  rw [hd] at hd'
  cases hd'
  exact r'
end
theorem walk_l {G : Cfg} {ha : Addr} {B : Addr → Prop} {H0 H1 : Hp} {wk : Bool} {ds : List D} {v : V} {hs : HS} (hh : Hnd G ha B H1 hs) {hs0 : HS} (r : RepM G (mdOf wk) ha B H0 H1 (.lst ds) v hs0) :
    ∃ a, v = .ref a ∧ (∃ xs, SqL G.K H1 a xs) ∧ Walk (Itl G.K a) ds.length (Std wk ha B H1) (YW G wk ha B H1 ds) := by
  obtain ⟨a, vs, e, s, rs, st⟩ := lst_std hh r
  refine ⟨a, e, ⟨vs, .inl (.inl s)⟩, ?_⟩
  rw [rs.length]
  exact walk_list.mono (fun H z => .inl (.inl (st H z))) fun i H x H' _ _ y => yw_at rs y
theorem walk_t {G : Cfg} {ha : Addr} {B : Addr → Prop} {H0 H1 : Hp} {wk : Bool} {ds : List D} {v : V} {hs : HS} (hh : Hnd G ha B H1 hs) {hs0 : HS} (r : RepM G (mdOf wk) ha B H0 H1 (.tup ds) v hs0) :
    ∃ a, v = .ref a ∧ (∃ xs, SqT G.K H1 a xs) ∧ Walk (Itt G.K a) ds.length (Std wk ha B H1) (YW G wk ha B H1 ds) := by
  obtain ⟨a, vs, e, s, rs, st⟩ := tup_std hh r
  refine ⟨a, e, ⟨vs, s⟩, ?_⟩
  rw [rs.length]
  exact walk_tup.mono (fun H z => st H z) fun i H x H' _ _ y => yw_at rs y
def iSeq (K : PySem.W.Frag) (te : TE) : TI := fun σ H R => te σ H fun x H1 => ∃ a, x = .ref a ∧ (((∃ xs, SqL K H1 a xs) ∧ R (Itl K a) H1) ∨ ((∃ xs, SqT K H1 a xs) ∧ R (Itt K a) H1))
/-- a list or a tuple, walked -/
theorem pi_seq {X : Cx} {tg l : Expr} {te : TE} (hl : PE X l te) : PI X tg l (iSeq X.K te) := by
  refine ⟨fun pins s0 σ H R I z => thn (hl.run pins s0 σ H _ I z) fun u s1 ⟨y, H1, I1, ry, qy⟩ => ?_⟩
  obtain ⟨a, rfl, qy⟩ := qy
  cases ry
  have new : ∀ b o, s1.heap.get? b = some o → ∀ x : Obj, (s1.heap.push x).get? b = some o := fun b o e x => Heap.get?_push_of_some _ e
  have nf : ∀ b ∈ [s1.heap.objs.size], FpOk X pins H1 b := fun b hb => by
    obtain rfl : b = s1.heap.objs.size := List.mem_singleton.mp hb
    exact I1.fpOk (Nat.le_refl _) (I1.hok.fresh (Nat.le_refl _))
  rcases qy with ⟨⟨xs, hq⟩, q⟩ | ⟨⟨xs, hq⟩, q⟩
  · obtain ⟨us, ru, pu, hu⟩ := I1.list hq
    exact wpAny_pyIter_list pu.isList ⟨s1.heap.objs.size, [s1.heap.objs.size], _, _, H1, rfl, I1.kept (t' := s1.toks) (fun b o e => new b o e _), turn_list a _, ⟨_, Heap.get?_push_size _ rfl, rfl, rfl⟩, nf, q⟩
  · obtain ⟨us, ru, pu, hu⟩ := I1.tuple hq
    exact wpAny_pyIter_tuple (show s1.heap.IsTuple a us.toArray from pu) ⟨s1.heap.objs.size, [s1.heap.objs.size], _, _, H1, rfl, I1.kept (t' := s1.toks) (fun b o e => new b o e _), turn_tuple a _, ⟨_, Heap.get?_push_size _ rfl, rfl, rfl⟩, nf, q⟩
section
variable {tg a b : Expr} {f g : PEnv → HS → Res D} {wk : Bool}
theorem ws_val (h : ES (mdOf wk) c a f) : WS c tg a wk (fun ρ h => (f ρ h).bind fun x h => ofO (seqOf x) h) := by
  obtain ⟨ta, p1, q1⟩ := h
  refine ⟨iSeq c.G.K ta, fun X hx => by rw [← hx.eK]; exact pi_seq (p1 X hx), fun ha B ρ hs σ H R S p => ?_⟩
  refine q1 ha B ρ hs σ H _ S (RPost.first lifts_W p fun x hs1 _ v H1 k1 h1 r1 p' => ?_)
  obtain ⟨its, e, p'⟩ := ofO_ok p'
  cases x with
  | lst ds =>
    cases e
    obtain ⟨q, rfl, s, w⟩ := walk_l h1 r1
    exact ⟨q, rfl, .inl ⟨s, p' _ H1 .refl h1 w⟩⟩
  | tup ds =>
    cases e
    obtain ⟨q, rfl, s, w⟩ := walk_t h1 r1
    exact ⟨q, rfl, .inr ⟨s, p' _ H1 .refl h1 w⟩⟩
  | _ => cases e
theorem walk_r {G : Cfg} {ha : Addr} {B : Addr → Prop} {H1 : Hp} {lo : Int} {n : Nat} : Walk (Itr lo n) (rangeD lo n).length (Std wk ha B H1) (YW G wk ha B H1 (rangeD lo n)) := by
  have hl : (rangeD lo n).length = n := by
    unfold rangeD
    rw [List.length_map, List.length_range]
  rw [hl]
  refine walk_range.mono (fun _ _ => trivial) fun i H x H' hi _ y => ?_
  obtain ⟨rfl, rfl⟩ := y
  refine ⟨fun _ _ z => z, .int (lo + i), ?_, fun B' _ _ => by simp only [Rep]⟩
  unfold rangeD
  rw [List.getElem?_map, List.getElem?_range hi]
  rfl
theorem ws_rng1 {p pos : Pos} (st : Stat c.G) (hg : c.sc.names.lookup ("range" : Str) = some .globalImplicit) (hf : c.G.fr.contains ("range" : Str) = true) (h : ES .wk c a f) (hp : plainE a = true) :
    WS c tg (.Call (.Name "range" p) [a] [] pos) wk (fun ρ h => (f ρ h).bind fun x h => match x with
    | .int n => if inR n then .ok (rangeD 0 n.toNat) h else .stuck
    | _ => .stuck) := by
  obtain ⟨ta, p1, q1⟩ := h
  refine ⟨iRng1 (tCons ta tNil), fun X hx => pi_range1 (hx.gl hg) (hx.mg0 st hf) (pa_cons (p1 X hx) pa_nil (star_of hp)) (star_of hp), fun ha B ρ hs σ H R S p => ?_⟩
  refine q1 ha B ρ hs σ H _ S (RPost.first lifts_W p fun x hs1 _ v H1 k1 h1 r1 p' => ?_)
  cases x with
  | int n =>
    dsimp only at p'
    split at p'
    · rename_i z
      obtain ⟨z1, z2⟩ := inR_ok z
      exact ⟨n, by rw [(re_w r1).int_], z1, z2, p' _ H1 .refl h1 walk_r⟩
    · exact p'.elim
  | _ => exact (p' : False).elim
theorem ws_rng2 {p pos : Pos} (st : Stat c.G) (hg : c.sc.names.lookup ("range" : Str) = some .globalImplicit) (hf : c.G.fr.contains ("range" : Str) = true) (h : ES .wk c a f) (h2 : ES .wk c b g) (hp : plainE a = true) (hq : plainE b = true) :
    WS c tg (.Call (.Name "range" p) [a, b] [] pos) wk (fun ρ h => (f ρ h).bind fun x h => (g ρ h).bind fun y h => match x, y with
    | .int lo, .int hi => if inR lo && inR hi then .ok (rangeD lo (hi - lo).toNat) h else .stuck
    | _, _ => .stuck) := by
  obtain ⟨ta, p1, q1⟩ := h
  obtain ⟨tb, p2, q2⟩ := h2
  refine ⟨iRng2 (tCons ta (tCons tb tNil)), fun X hx => pi_range2 (hx.gl hg) (hx.mg0 st hf) (pa_cons (p1 X hx) (pa_cons (p2 X hx) pa_nil (star_of hq)) (star_of hp)) (by rw [star_of hp, star_of hq]; rfl) (star_of hq), fun ha B ρ hs σ H R S p => ?_⟩
  refine q1 ha B ρ hs σ H _ S (RPost.first lifts_W p fun x hs1 _ v H1 k1 h1 r1 p' => ?_)
  refine q2 ha B ρ hs1 σ H1 _ (S.ext k1 h1) (RPost.first lifts_W p' fun y hs2 _ w H2 k2 h2 r2 p3 => ?_)
  have rx := WRep.keep h2.hB k2 r1
  have ry := re_w r2
  cases x with
  | int lo =>
    cases y with
    | int hi =>
      dsimp only at p3
      split at p3
      · rename_i z
        rw [Bool.and_eq_true] at z
        obtain ⟨z1, z2⟩ := inR_ok z.1
        obtain ⟨z3, z4⟩ := inR_ok z.2
        exact ⟨lo, hi, by rw [rx.int_, ry.int_], ⟨z1, z2, z3, z4⟩, p3 _ H2 .refl h2 walk_r⟩
      · exact p3.elim
    | _ => exact (p3 : False).elim
  | _ => exact (p3 : False).elim
/-- new pairs -/
theorem yw_pair {G : Cfg} {ha : Addr} {B : Addr → Prop} {H1 : Hp} {fx fy : Nat → Option V} {dx dy : Nat → Option D} {its : List D} {i : Nat} {H H' : Hp} {v : V} (y : YPair fx fy i H v H')
    (hi : ∀ x y, fx i = some x → fy i = some y → ∃ d e, its[i]? = some (.tup [d, e]) ∧ ∀ B', BOk ha B B' H1 → Keep (KS wk ha B') H1 H → Rep G ha B' H d x ∧ Rep G ha B' H e y) : YW G wk ha B H1 its i H v H' := by
  obtain ⟨T, x, y, rfl, n, rfl, e1, e2⟩ := y
  obtain ⟨d, e, hd, r⟩ := hi x y e1 e2
  refine ⟨same_new n, _, hd, fun B' b k => ?_⟩
  obtain ⟨r1, r2⟩ := r B' b k
  exact rep_tup n (.cons r1 (.cons r2 .nil))
theorem get_pair {G : Cfg} {ha : Addr} {B : Addr → Prop} {H H1 : Hp} {ds : List D} {vs : List V} {i : Nat} {x : V} (r : Reps G ha B H1 ds vs) (e : vs[i]? = some x) : ∃ d, ds[i]? = some d ∧ ∀ B', BOk ha B B' H1 → Keep (KS wk ha B') H1 H → Rep G ha B' H d x := by
  obtain ⟨d, hd, _⟩ := r.get' e
  refine ⟨d, hd, fun B' b k => ?_⟩
  obtain ⟨d', hd', r'⟩ := (items_std r b k).get' e
  rw [hd] at hd'
  cases hd'
  exact r'
theorem zip_at {xs ys : List D} {i : Nat} {d e : D} (h1 : xs[i]? = some d) (h2 : ys[i]? = some e) : ((xs.zip ys).map fun p => D.tup [p.1, p.2])[i]? = some (.tup [d, e]) := by
  have z : (xs.zip ys)[i]? = some (d, e) := List.getElem?_zip_eq_some.mpr ⟨h1, h2⟩
  rw [List.getElem?_map, z]
  rfl
theorem walk_zipT {K : PySem.W.Frag} {a b : Addr} {xs ys : List V} {n : Nat} (hn : n = min xs.length ys.length) : Walk (ItzT K a b) n (fun H => SqT K H a xs ∧ SqT K H b ys) (YPair (fun i => xs[i]?) (fun i => ys[i]?)) where
  goes := fun i H hi q => ⟨xs, ys, xs[i]'(by omega), ys[i]'(by omega), q.1, q.2, List.getElem?_eq_getElem _, List.getElem?_eq_getElem _⟩
  stops := fun H q => ⟨xs, ys, q.1, q.2, by omega⟩
  yields := fun i H v H' _ q ⟨T, x, z, e1, e2, e3, e4, e5⟩ => ⟨T, x, z, e1, e2, e3, e4 xs q.1, e5 ys q.2⟩
theorem ws_zip {p pos tp : Pos} {elts : List Expr} {kk : Nat} (st : Stat c.G) (hg : c.sc.names.lookup ("zip" : Str) = some .globalImplicit) (hf : c.G.fr.contains ("zip" : Str) = true) (h : ES (mdOf wk) c a f) (h2 : ES (mdOf wk) c b g) (hp : plainE a = true) (hq : plainE b = true) :
    WS c (.Tuple elts kk tp) (.Call (.Name "zip" p) [a, b] [] pos) wk (fun ρ h => (f ρ h).bind fun x h => (g ρ h).bind fun y h => match x, y with
    | .lst xs, .lst ys => .ok ((xs.zip ys).map fun p => .tup [p.1, p.2]) h
    | .tup xs, .tup ys => .ok ((xs.zip ys).map fun p => .tup [p.1, p.2]) h
    | _, _ => .stuck) := by
  obtain ⟨ta, p1, q1⟩ := h
  obtain ⟨tb, p2, q2⟩ := h2
  refine ⟨iZipA c.G.K (tCons ta (tCons tb tNil)), fun X hx => by
    rw [← hx.eK]
    exact pi_zipA (hx.gl hg) (hx.mg0 st hf) (pa_cons (p1 X hx) (pa_cons (p2 X hx) pa_nil (star_of hq)) (star_of hp)) (star_of hp) (nostar (by rw [List.all_cons, hq]; rfl)), fun ha B ρ hs σ H R S p => ?_⟩
  refine q1 ha B ρ hs σ H _ S (RPost.first lifts_W p fun x hs1 _ v H1 k1 h1 r1 p' => ?_)
  refine q2 ha B ρ hs1 σ H1 _ (S.ext k1 h1) (RPost.first lifts_W p' fun y hs2 _ w H2 k2 h2 r2 p3 => ?_)
  have rx : RepM c.G (mdOf wk) ha B H2 H2 x v hs2 := by
    cases wk with
    | true => exact WRep.keep h2.hB k2 r1
    | false => exact Rep.keep (k2.imp fun b z => z ▸ h2.hB) r1
  cases x with
  | lst xs =>
    cases y with
    | lst ys =>
      obtain ⟨q, us, rfl, s, rs, sd⟩ := lst_std h2 rx
      obtain ⟨q', us', rfl, s', rs', sd'⟩ := lst_std h2 r2
      refine ⟨q, q', us, us', rfl, .inl ⟨.inl (.inl s), .inl (.inl s'), p3 _ H2 .refl h2 ?_⟩⟩
      refine (walk_zip (n := ((xs.zip ys).map fun p => D.tup [p.1, p.2]).length) (by rw [List.length_map, List.length_zip, rs.length, rs'.length])).mono (fun H z => ⟨.inl (.inl (sd H z)), .inl (.inl (sd' H z))⟩) fun i H x H' _ _ y => ?_
      refine yw_pair (dx := fun _ => none) (dy := fun _ => none) y fun x y e1 e2 => ?_
      obtain ⟨d, hd, r1⟩ := get_pair (wk := wk) (H := H) rs e1
      obtain ⟨e, he, r2⟩ := get_pair (wk := wk) (H := H) rs' e2
      exact ⟨d, e, zip_at hd he, fun B' b k => ⟨r1 B' b k, r2 B' b k⟩⟩
    | _ => exact (p3 : False).elim
  | tup xs =>
    cases y with
    | tup ys =>
      obtain ⟨q, us, rfl, s, rs, sd⟩ := tup_std h2 rx
      obtain ⟨q', us', rfl, s', rs', sd'⟩ := tup_std h2 r2
      refine ⟨q, q', us, us', rfl, .inr ⟨s, s', p3 _ H2 .refl h2 ?_⟩⟩
      refine (walk_zipT (n := ((xs.zip ys).map fun p => D.tup [p.1, p.2]).length) (by rw [List.length_map, List.length_zip, rs.length, rs'.length])).mono (fun H z => ⟨sd H z, sd' H z⟩) fun i H x H' _ _ y => ?_
      refine yw_pair (dx := fun _ => none) (dy := fun _ => none) y fun x y e1 e2 => ?_
      obtain ⟨d, hd, r1⟩ := get_pair (wk := wk) (H := H) rs e1
      obtain ⟨e, he, r2⟩ := get_pair (wk := wk) (H := H) rs' e2
      exact ⟨d, e, zip_at hd he, fun B' b k => ⟨r1 B' b k, r2 B' b k⟩⟩
    | _ => exact (p3 : False).elim
  | _ => exact (p3 : False).elim
theorem ws_enum {p pos tp : Pos} {elts : List Expr} {kk : Nat} (st : Stat c.G) (hg : c.sc.names.lookup ("enumerate" : Str) = some .globalImplicit) (hf : c.G.fr.contains ("enumerate" : Str) = true) (h : ES (mdOf wk) c a f) (hp : plainE a = true) :
    WS c (.Tuple elts kk tp) (.Call (.Name "enumerate" p) [a] [] pos) wk (fun ρ h => (f ρ h).bind fun x h => match x with
    | .lst xs => .ok (xs.zipIdx.map fun p => .tup [.int (p.2 : Nat), p.1]) h
    | _ => .stuck) := by
  obtain ⟨ta, p1, q1⟩ := h
  refine ⟨iEnum c.G.K (tCons ta tNil), fun X hx => by rw [← hx.eK]; exact pi_enum (hx.gl hg) (hx.mg0 st hf) (pa_cons (p1 X hx) pa_nil (star_of hp)) (star_of hp), fun ha B ρ hs σ H R S p => ?_⟩
  refine q1 ha B ρ hs σ H _ S (RPost.first lifts_W p fun x hs1 _ v H1 k1 h1 r1 p' => ?_)
  cases x with
  | lst xs =>
    obtain ⟨q, us, rfl, s, rs, sd⟩ := lst_std h1 r1
    refine ⟨q, us, rfl, .inl (.inl s), p' _ H1 .refl h1 ?_⟩
    have hl : (xs.zipIdx.map fun p => D.tup [.int (p.2 : Nat), p.1]).length = us.length := by rw [List.length_map, List.length_zipIdx, rs.length]
    show Walk _ (xs.zipIdx.map fun p => D.tup [.int (p.2 : Nat), p.1]).length _ _
    rw [hl]
    refine walk_enum.mono (fun H z => .inl (.inl (sd H z))) fun i H x H' _ _ y => ?_
    refine yw_pair (dx := fun _ => none) (dy := fun _ => none) y fun x y e1 e2 => ?_
    obtain ⟨d, hd, r1⟩ := get_pair (wk := wk) (H := H) rs e2
    cases e1
    refine ⟨.int (i : Nat), d, ?_, fun B' b k => ⟨by simp only [Rep], r1 B' b k⟩⟩
    rw [List.getElem?_map, List.getElem?_zipIdx, hd]
    simp
  | _ => exact (p' : False).elim
end
end
end PD

set_option Elab.async false
set_option linter.all false
set_option maxRecDepth 100000
set_option maxHeartbeats 2000000
/-! P11: list comprehensions. -/
namespace PD
open PySem PySem.Spec PyProof.Rows L2 RZ
/-- a comprehension's block -/
def Ctx.inn (c : Ctx) (scope : Scope) : Ctx := { c with sc := relS scope c.sc, sto := fun x => scope.names.lookup x == some .cell || (relS scope c.sc).names.lookup x == some .local, E := fun _ _ _ => False, tx := none }
theorem XOk.inn {c : Ctx} {X : Cx} (hx : XOk c X) (scope : Scope) (s : Shared) (H : Hp) (C : Addr) (cl : List (Str × Addr)) (fp : List Addr) : XOk (c.inn scope) (X.blk s H scope (compEnvC scope cl C X.env) fp) where
  eN := hx.eN
  eS := by
    show relS scope X.env.scope = relS scope c.sc
    rw [hx.eS]
  eC := hx.eC
  eK := hx.eK
  eM := hx.eM
  fns := hx.fns
  px := fun pins σ H s e s' I h => by
    obtain ⟨_, _, _, _, _, _, _, _, _, _, _, _, h⟩ := h
    exact h
  hr := hx.hr
  hu := hx.hu
  nd := hx.nd
  fnl := fun x h => by
    have h : (scope.names.lookup x == some .cell || (relS scope c.sc).names.lookup x == some .local) = true := h
    rw [Bool.or_eq_true] at h
    rcases h with h | h
    · exact .inl h
    · exact .inr (eq_of_beq (α := Option NameKind) h)
  own := fun _ _ h => h.elim
  thk := fun x p1 p2 h => by cases h
section
variable {c : Ctx}
def TSs (c : Ctx) (ifs : List Expr) (f : PEnv → HS → Res Bool) : Prop :=
  ∃ t : TT, (∀ X, XOk c X → PTs X ifs t) ∧ ∀ ha B ρ hs σ H Q, ESim c.G ha B ρ hs σ H → TPost c.G ha B H Q c.E (f ρ hs) → t σ H Q
theorem tss_nil : TSs c [] (fun _ h => .ok true h) := ⟨tYes, fun X _ => pts_nil, fun ha B ρ hs σ H Q S p => p true H .refl S.hnd rfl⟩
theorem tss_one {e : Expr} {f : PEnv → HS → Res Bool} (h : CS c e f) : TSs c [e] f := by
  obtain ⟨t, p, q⟩ := h
  exact ⟨t, fun X hx => pts_one (p X hx), q⟩
section
variable {G : Cfg} {ha : Addr} {B : Addr → Prop} {H : Hp} {hs : HS}
abbrev addB (B : Addr → Prop) (D : Addr) : Addr → Prop := fun b => B b ∨ b = D
theorem WRep.chg {B' : Addr → Prop} (k : ∀ b, B' b → B b ∨ FreshAt H b) {d : D} {v : V} (h : WRep G ha B H d v) : WRep G ha B' H d v := by
  cases d with
  | lst ds =>
    simp only [WRep] at h ⊢
    obtain ⟨a, vs, e, na, s, r⟩ := h
    exact ⟨a, vs, e, na, s, Reps.chg k r⟩
  | dct ks ys =>
    simp only [WRep] at h ⊢
    obtain ⟨a, vs, e, na, s, q, r⟩ := h
    exact ⟨a, vs, e, na, s, q, Reps.chg k r⟩
  | _ => exact Rep.chg k h
/-- the slots as they stood, seen from later -/
theorem ESim.later {H' : Hp} {B' : Addr → Prop} {hs' : HS} {ρ : PEnv} {σ : St} (S : ESim G ha B ρ hs σ H) (ch : ∀ b, B' b → B b ∨ FreshAt H b) (k : Ext ha H H') (h : Hnd G ha B' H' hs') : ESim G ha B' ρ hs' σ H' := by
  refine ⟨S.len, fun i s e => ?_, h⟩
  have kB : Keep B' H H' := k.imp fun b z => by rw [z]; exact h.hB
  have q := S.at_ i s e
  cases s with
  | no => trivial
  | exn _ => trivial
  | val d =>
    obtain ⟨v, e1, r⟩ := q
    exact ⟨v, e1, Rep.keep kB (Rep.chg ch r)⟩
  | own d =>
    obtain ⟨v, e1, r⟩ := q
    exact ⟨v, e1, WRep.keep h.hB k (WRep.chg ch r)⟩
theorem addB_ch {D : Addr} (n : H D = none) : ∀ b, addB B D b → B b ∨ FreshAt H b := fun b z => z.elim .inl fun y => .inr (y ▸ freshAt_none n)
theorem tabs_put {T : List (Addr × Str)} {a : Addr} {u o : HO} (t : LamX.Tabs T H) (e : H a = some u) (h1 : ∀ ps, u ≠ .tbl ps) (h2 : ∀ c q, u ≠ LamX.CodeO c q) : LamX.Tabs T (upd H a o) := fun p hp => by
  obtain ⟨ps, q1, q2, q3⟩ := t p hp
  refine ⟨ps, ?_, q2, fun pos cv z => ?_⟩
  · rw [upd_ne fun y => h1 ps (by rw [y, e] at q1; exact Option.some.inj q1)]
    exact q1
  · obtain ⟨c, ec, q4⟩ := q3 pos cv z
    refine ⟨c, ec, ?_⟩
    have hne : c ≠ a := fun y => by
      rw [y, e] at q4
      exact h2 a p.2 (Option.some.inj q4)
    rw [upd_ne hne]
    exact q4
/-- a tracked list is written -/
theorem Hnd.wrl {a : Addr} {xs ys : List V} (h : Hnd G ha B H hs) (hb : B a) (hne : a ≠ ha) (e : H a = some (.lst xs)) : Hnd G ha B (upd H a (.lst ys)) hs := by
  obtain ⟨vs, e1, r⟩ := h.at_
  have kp : Keep B H (upd H a (.lst ys)) := Keep.wr hb e (fun _ z => nomatch z) (fun _ _ z => nomatch z)
  refine ⟨h.hB, ⟨vs, by rw [upd_ne (Ne.symm hne)]; exact e1, Reps.keep kp r⟩, fun b z => ?_, ?_⟩
  · by_cases hba : b = a
    · rw [hba, upd_same]
      exact ⟨_, rfl, nt_lst⟩
    · rw [upd_ne hba]
      exact h.trk b z
  · exact tabs_put h.tab e (fun _ z => nomatch z) (fun _ _ z => nomatch z)
end
theorem lcL_ok {f : D → HS → Res (Option D)} {d : D} {r : List D} {h hE : HS} {ds : List D} (e : lcL f (d :: r) h = .ok ds hE) : ∃ o h1 ds', f d h = .ok o h1 ∧ lcL f r h1 = .ok ds' hE ∧ ds = (match o with
    | some x => x :: ds'
    | none => ds') := by
  simp only [lcL] at e
  cases e1 : f d h with
  | stuck => rw [e1] at e; cases e
  | exc _ _ => rw [e1] at e; cases e
  | ok o h1 =>
    rw [e1] at e
    simp only [Res.bind] at e
    cases e2 : lcL f r h1 with
    | stuck => rw [e2] at e; cases e
    | exc _ _ => rw [e2] at e; cases e
    | ok ds' h2 =>
      rw [e2] at e
      cases e
      exact ⟨o, h1, ds', rfl, e2, rfl⟩
theorem calmR_ok {α β : Type} {G : Cfg} {ha : Addr} {B : Addr → Prop} {H : Hp} {R : Rl α β} {Q : β → Hp → Prop} {E : XK} {γ : Type} {r : Res γ} {g : γ → HS → Res α} (p : RPost G ha B H R Q E ((calmR r).bind g)) : ∃ a h, r = .ok a h ∧ RPost G ha B H R Q E (g a h) := by
  cases r with
  | ok a h => exact ⟨a, h, rfl, p⟩
  | exc _ _ => exact p.elim
  | stuck => exact p.elim
def plainS : Expr → Bool
  | .Set _ _ _ => false
  | _ => true
theorem set_of {e : Expr} {env : PySem.Env} (h : plainS e = true) : ∀ x, foldedSetIterable e env x = pure x := by
  intro x
  cases e <;> first | rfl | cases h
/-- a turn's meaning -/
def lcF (it : IT) (vs : List Nat) (fc : PEnv → HS → Res Bool) (fe : PEnv → HS → Res D) (ρ : PEnv) : D → HS → Res (Option D) := fun d h => match asgT it d (wipeP ρ vs) with
  | some ρ' => (fc ρ' h).bind fun k h => if k then (fe ρ' h).bind fun x h => .ok (some x) h else .ok none h
  | none => .stuck
theorem tLc_ok {tg iter elt : Expr} {it : IT} {ifs : List Expr} {fs : PEnv → HS → Res (List D)} {fc : PEnv → HS → Res Bool} {fe : PEnv → HS → Res D} {own : List (Str × Nat)} {scope : Scope}
    {wi : TI} {g : TG} {tt : TT} {te : TE} (hsl : ∀ i ∈ itSl it, i ∈ own.map (·.2))
    (qw : ∀ ha B ρ hs σ H (R : It → Hp → Prop), ESim c.G ha B ρ hs σ H → RPost c.G ha B H (RW c.G true ha B) R c.E (fs ρ hs) → wi σ H R)
    (qg : ∀ ha B H d v σ ρ ρ' Q, Rep c.G ha B H d v → asgT it d ρ = some ρ' → σ.length = ρ.length → (∀ σ', Stored (Rep c.G ha B H) (itSl it) ρ ρ' σ σ' → Q σ' H) → g v σ H Q)
    (qt : ∀ ha B ρ hs σ H Q, ESim c.G ha B ρ hs σ H → TPost c.G ha B H Q (fun _ _ _ => False) (fc ρ hs) → tt σ H Q)
    (qe : ∀ ha B ρ hs σ H Q, ESim c.G ha B ρ hs σ H → EPost c.G .st ha B H Q (fun _ _ _ => False) (fe ρ hs) → te σ H Q)
    (ha : Addr) (B : Addr → Prop) (ρ : PEnv) (hs : HS) (σ : St) (H : Hp) (Q : VK) (S : ESim c.G ha B ρ hs σ H)
    (p : EPost c.G .fr ha B H Q c.E ((fs ρ hs).bind fun its h => (calmR (lcL (lcF it (own.map (·.2)) fc fe ρ) its h)).bind fun ds h => if its.length ≤ line then .ok (.lst ds) h else .stuck)) : tLc wi g tt te (own.map (·.2)) σ H Q := by
  refine qw ha B ρ hs σ H _ S (RPost.first lifts_E p fun its hs1 _ J H1 k1 h1 w p' => ?_)
  intro D nD
  obtain ⟨ds, hE, eL, p'⟩ := calmR_ok p'
  split at p'
  case isFalse => exact p'.elim
  rename_i hlen
  have S1 := S.ext k1 h1
  have tha : ∃ vs, H1 ha = some (.lst vs) := by
    obtain ⟨vs, e, _⟩ := h1.at_
    exact ⟨vs, e⟩
  have hDha : D ≠ ha := fun z => by
    obtain ⟨vs, e⟩ := tha
    rw [← z, nD] at e
    cases e
  have w : Walk J its.length (Std true ha B H1) (YW c.G true ha B H1 its) := w
  have bD : BOk ha B (addB B D) H1 := ⟨.inl h1.hB, fun b z => z.elim .inl fun y => .inr (y ▸ freshAt_none nD)⟩
  refine lc_it w (fun i Hi => ∃ (acc : List PD.D) (av : List V) (hi : HS) (rest : List PD.D), Ext ha H1 Hi ∧ Hi D = some (.lst av) ∧ Reps c.G ha (addB B D) Hi acc av ∧ Hnd c.G ha (addB B D) Hi hi ∧
    lcL (lcF it (own.map (·.2)) fc fe ρ) (its.drop i) hi = .ok rest hE ∧ acc ++ rest = ds ∧ acc.length ≤ i) ?_ ?_ ?_ ?_
  · exact ⟨[], [], hs1, ds, Keep.new nD, upd_same, .nil, h1.plus nD, by rw [List.drop_zero]; exact eL, rfl, Nat.le_refl _⟩
  · rintro i Hi _ ⟨acc, av, hi, rest, kx, _⟩
    exact ⟨addB B D, bD, kx⟩
  · rintro i x Hi Hi' hlt ⟨acc, av, hi, rest, kx, eD, ra, Si, el, ed, hal⟩ ⟨sm, d, hd, hr⟩
    have hlt' : i < its.length := hlt
    have ed' : its.drop i = d :: its.drop (i + 1) := by
      obtain ⟨hlt2, e⟩ := List.getElem?_eq_some_iff.mp hd
      rw [List.drop_eq_getElem_cons hlt', e]
    rw [ed'] at el
    obtain ⟨o, h2, rest', ef, el', er⟩ := lcL_ok el
    have rx : Rep c.G ha (addB B D) Hi' d x := hr (addB B D) bD kx
    have Si' : ESim c.G ha (addB B D) (wipeP ρ (own.map (·.2))) hi (wipe σ (own.map (·.2))) Hi' := (S1.wipe _).later (addB_ch nD) (kx.trans (Keep.of_same sm)) (Si.same sm)
    unfold lcF at ef
    cases ea : asgT it d (wipeP ρ (own.map (·.2))) with
    | none => rw [ea] at ef; cases ef
    | some ρ' =>
      rw [ea] at ef
      dsimp only at ef
      refine qg ha (addB B D) Hi' d x _ _ ρ' _ rx ea Si'.len fun σ2 st => ⟨?_, ?_⟩
      · refine (wipe_same st.l2 fun j hj => (st.out j fun z => hj (hsl j z)).2).trans wipe_twice
      · have S2 := Si'.stored st
        cases ec : fc ρ' hi with
        | stuck => rw [ec] at ef; cases ef
        | exc _ _ => rw [ec] at ef; cases ef
        | ok kb hs3 =>
          rw [ec] at ef
          simp only [Res.bind] at ef
          refine qt ha (addB B D) ρ' hi σ2 Hi' _ S2 ?_
          rw [ec]
          intro kb' H3 k3 hh3 ek
          have ek : kb' = kb := ek
          subst ek
          have S3 := S2.ext k3 hh3
          have sD3 : H3 D = some (.lst av) := k3.at_ D _ hDha (sm _ _ eD) nt_lst
          have kB3 : Keep (addB B D) Hi H3 := (Keep.of_same sm).trans (k3.imp fun b z => by rw [z]; exact .inl h1.hB)
          cases kb' with
          | false =>
            rw [if_neg Bool.false_ne_true] at ef ⊢
            cases ef
            exact ⟨acc, av, h2, rest, kx.trans ((Keep.of_same sm).trans k3), sD3, Reps.keep kB3 ra, hh3, by rw [er]; exact el', ed, by omega⟩
          | true =>
            rw [if_pos rfl] at ef ⊢
            cases ee : fe ρ' hs3 with
            | stuck => rw [ee] at ef; cases ef
            | exc _ _ => rw [ee] at ef; cases ef
            | ok e hs4 =>
              rw [ee] at ef
              simp only at ef
              cases ef
              refine qe ha (addB B D) ρ' hs3 σ2 H3 _ S3 ?_
              rw [ee]
              intro y H4 k4 hh4 ry
              have ry : Rep c.G ha (addB B D) H4 e y := ry
              have sD4 : H4 D = some (.lst av) := k4.at_ D _ hDha sD3 nt_lst
              have kB4 : Keep (addB B D) Hi H4 := kB3.trans (k4.imp fun b z => by rw [z]; exact .inl h1.hB)
              have ra4 := Reps.keep kB4 ra
              have kw : Keep (addB B D) H4 (upd H4 D (.lst (av ++ [y]))) := Keep.wr (.inr rfl) sD4 (fun _ z => nomatch z) (fun _ _ z => nomatch z)
              refine ⟨av, sD4, ?_, acc ++ [e], av ++ [y], h2, rest', ?_, upd_same, Reps.keep kw (ra4.append (.cons ry .nil)), ?_, el', ?_, ?_⟩
              · rw [line_eq, ← ra4.length]
                omega
              · have z : Ext ha H1 H4 := kx.trans ((Keep.of_same sm).trans (k3.trans k4))
                refine ⟨fun b o n q t => ?_, fun b xs q => ?_, fun b o u q => ?_⟩
                · rw [upd_ne (fun y => by rw [y, nD] at q; cases q)]
                  exact z.at_ b o n q t
                · rw [upd_ne (fun y => by rw [y, nD] at q; cases q)]
                  exact z.tup b xs q
                · rw [upd_ne (fun y => by rw [y, nD] at q; cases q)]
                  exact z.frz b o u q
              · exact hh4.wrl (.inr rfl) hDha sD4
              · rw [← ed, er, List.append_assoc]
                rfl
              · rw [List.length_append]
                exact Nat.succ_le_succ hal
  · rintro Hn ⟨acc, av, hi, rest, kx, eD, ra, Si, el, ed, hal⟩
    rw [List.drop_length] at el
    cases el
    rw [List.append_nil] at ed
    subst ed
    refine p' _ Hn kx ?_ ⟨D, av, rfl, freshAt_none nD, ?_, eD, Si, ra⟩
    · exact Si.chg h1.hB (fun b z => .inl (.inl z)) fun b z => Si.trk b (.inl z)
    · exact h1.out nD
end
end PD

set_option Elab.async false
set_option linter.all false
set_option maxRecDepth 100000
set_option maxHeartbeats 2000000
/-! P12: comprehensions as values and stored; blocks. -/
namespace PD
open PySem PySem.Spec PyProof.Rows L2 RZ
section
variable {c : Ctx}
/-- a comprehension's parts -/
structure LcOk (c : Ctx) (elt tg iter : Expr) (ifs : List Expr) (scope : Scope) (own : List (Str × Nat)) (it : IT) (fs : PEnv → HS → Res (List D)) (fc : PEnv → HS → Res Bool) (fe : PEnv → HS → Res D) : Prop where
  calm : c.calm = true
  w : WS c tg iter true fs
  blk : blkC c.N c.sc scope own = true
  g : GS (c.inn scope) tg it
  t : TSs (c.inn scope) ifs fc
  e : ES .st (c.inn scope) elt fe
  sl : ∀ i ∈ itSl it, i ∈ own.map (·.2)
  ps : plainS iter = true
def lcM (own : List (Str × Nat)) (it : IT) (fs : PEnv → HS → Res (List D)) (fc : PEnv → HS → Res Bool) (fe : PEnv → HS → Res D) : PEnv → HS → Res D := fun ρ h =>
  (fs ρ h).bind fun its h => (calmR (lcL (lcF it (own.map (·.2)) fc fe ρ) its h)).bind fun ds h => if its.length ≤ line then .ok (.lst ds) h else .stuck
theorem es_lc {elt tg iter : Expr} {ifs : List Expr} {scope : Scope} {own : List (Str × Nat)} {it : IT} {fs : PEnv → HS → Res (List D)} {fc : PEnv → HS → Res Bool} {fe : PEnv → HS → Res D} {pos : Pos}
    (L : LcOk c elt tg iter ifs scope own it fs fc fe) : ES .fr c (.ListComp elt [⟨tg, iter, ifs, 0⟩] scope pos) (lcM own it fs fc fe) := by
  obtain ⟨wi, pw, qw⟩ := L.w
  obtain ⟨g, pg, qg⟩ := L.g
  obtain ⟨tt, pt, qt⟩ := L.t
  obtain ⟨te, pe, qe⟩ := L.e
  refine ⟨tLc wi g tt te (own.map (·.2)), fun X hx => pe_lc (hx.eC.trans L.calm) (by rw [hx.eN]; exact hx.nd) (pw X hx) (by rw [hx.eN, hx.eS]; exact blkOk_by L.blk) (fun s H C cl fp => pg _ (hx.inn scope s H C cl fp)) (fun s H C cl fp => pt _ (hx.inn scope s H C cl fp)) (fun s H C cl fp => pe _ (hx.inn scope s H C cl fp)) (set_of L.ps), fun ha B ρ hs σ H Q S p => ?_⟩
  exact tLc_ok (tg := tg) (iter := iter) (elt := elt) (ifs := ifs) (scope := scope) (c := c) L.sl qw qg qt qe ha B ρ hs σ H Q S p

/-! ### the slots of a def at work -/
abbrev Own := Nat → Option Addr
def BB (B0 : Addr → Prop) (own : Own) : Addr → Prop := fun b => B0 b ∨ ∃ i, own i = some b
structure SSim (G : Cfg) (ha : Addr) (B0 Wr : Addr → Prop) (H0 : Hp) (own : Own) (ρ : PEnv) (hs : HS) (σ : St) (H : Hp) : Prop where
  inj : ∀ i j a, own i = some a → own j = some a → i = j
  fr : ∀ i a, own i = some a → (Wr a ∨ FreshAt H0 a) ∧ ¬ B0 a
  ext : Keep Wr H0 H
  hW : Wr ha
  hB : B0 ha
  sim : ESim G ha (BB B0 own) ρ hs σ H
  at_ : ∀ (i : Nat) d, ρ[i]? = some (.own d) → atom d = false ∧ ∃ a, own i = some a ∧ σ[i]? = some (some (.ref a))
  of : ∀ i a, own i = some a → ∃ d, ρ[i]? = some (.own d)
def NPost (G : Cfg) (ha : Addr) (B0 Wr : Addr → Prop) (H0 : Hp) (N : St → Hp → Prop) (ρ : PEnv) (hs : HS) : Prop := ∀ own σ H, SSim G ha B0 Wr H0 own ρ hs σ H → N σ H
/-- an exception leaves -/
def YPost (G : Cfg) (ha : Addr) (B0 Wr : Addr → Prop) (H0 : Hp) (E : XK) (e : Exc) (hs : HS) : Prop := ∀ dx H', Keep Wr H0 H' → Hnd G ha B0 H' hs → ExcAt e dx H' → E (.ref (G.ca e.c)) dx H'
def SPost (G : Cfg) (ha : Addr) (B0 Wr : Addr → Prop) (H0 : Hp) (D : Ends) (E : XK) : Res Fl → Prop
  | .ok (.nx ρ) hs => NPost G ha B0 Wr H0 D.nx ρ hs
  | .ok (.bk ρ) hs => NPost G ha B0 Wr H0 D.bk ρ hs
  | .ok (.ct ρ) hs => NPost G ha B0 Wr H0 D.ct ρ hs
  | .ok (.rt d) hs => ∀ v H', Keep Wr H0 H' → Hnd G ha B0 H' hs → Rep G ha B0 H' d v → D.rt v H'
  | .exc e hs => YPost G ha B0 Wr H0 E e hs
  | .stuck => False
section
variable {G : Cfg} {ha : Addr} {B0 Wr : Addr → Prop} {H0 H H1 : Hp} {own : Own} {ρ : PEnv} {hs hs1 : HS} {σ : St}
theorem SSim.later (S : SSim G ha B0 Wr H0 own ρ hs σ H) (k : Ext ha H H1) (h : Hnd G ha (BB B0 own) H1 hs1) : SSim G ha B0 Wr H0 own ρ hs1 σ H1 := ⟨S.inj, S.fr, S.ext.trans (k.imp fun b z => z ▸ S.hW), S.hW, S.hB, S.sim.ext k h, S.at_, S.of⟩
theorem Hnd.sub {B B' : Addr → Prop} (h : Hnd G ha B H hs) (hb : B' ha) (k : ∀ b, B' b → B b) : Hnd G ha B' H hs := h.chg hb (fun b z => .inl (k b z)) fun b z => h.trk b (k b z)
theorem Rep.sub {B B' : Addr → Prop} {d : D} {v : V} (h : Rep G ha B H d v) (k : ∀ b, B' b → B b) : Rep G ha B' H d v := Rep.chg (fun b z => .inl (k b z)) h
theorem WRep.sub {B B' : Addr → Prop} {d : D} {v : V} (h : WRep G ha B H d v) (k : ∀ b, B' b → B b) : WRep G ha B' H d v := WRep.chg (fun b z => .inl (k b z)) h
theorem SSim.h0 (S : SSim G ha B0 Wr H0 own ρ hs σ H) : Hnd G ha B0 H hs := S.sim.hnd.sub S.hB fun b z => .inl z
theorem SPost.first {α β : Type} {R : Rl α β} {Q : β → Hp → Prop} {D : Ends} {E : XK} {r : Res α} {g : α → HS → Res Fl} (S : SSim G ha B0 Wr H0 own ρ hs σ H) (p : SPost G ha B0 Wr H0 D E (r.bind g))
    (h : ∀ a hs1, r = .ok a hs1 → ∀ v H1, Ext ha H H1 → Hnd G ha (BB B0 own) H1 hs1 → R H a v hs1 H1 → SPost G ha B0 Wr H0 D E (g a hs1) → Q v H1) : RPost G ha (BB B0 own) H R Q E r := by
  cases r with
  | ok a hs1 => exact fun v H1 k hh q => h a hs1 rfl v H1 k hh q p
  | exc e hs1 => exact fun dx H1 k hh q => (show YPost G ha B0 Wr H0 E e hs1 from p) dx H1 (S.ext.trans (k.imp fun b z => z ▸ S.hW)) (hh.sub S.hB fun b z => .inl z) q
  | stuck => exact p.elim
def unown (own : Own) (i : Nat) : Own := fun j => if j = i then none else own j
theorem unown_some {i j : Nat} {a : Addr} (h : unown own i j = some a) : own j = some a ∧ j ≠ i := by
  unfold unown at h
  split at h
  · cases h
  · exact ⟨h, by assumption⟩
theorem unown_sub {i : Nat} : ∀ b, BB B0 (unown own i) b → BB B0 own b := fun b z => z.elim .inl fun ⟨j, e⟩ => .inr ⟨j, (unown_some e).1⟩
theorem set_get {α : Type} {l : List α} {i j : Nat} {x y : α} (h : (l.set i x)[j]? = some y) : (i = j ∧ x = y ∧ i < l.length) ∨ (i ≠ j ∧ l[j]? = some y) := by
  by_cases e : i = j
  · subst e
    have hl : i < l.length := by
      have z := (List.getElem?_eq_some_iff.mp h).1
      rwa [List.length_set] at z
    rw [List.getElem?_set_self hl] at h
    exact .inl ⟨rfl, Option.some.inj h, hl⟩
  · rw [List.getElem?_set_ne e] at h
    exact .inr ⟨e, h⟩
theorem set_out {α : Type} {l : List α} {i j : Nat} {x : α} (h : i ≠ j) : (l.set i x)[j]? = l[j]? := List.getElem?_set_ne h
/-- a slot gets what is not owned -/
theorem SSim.val {i : Nat} {d : D} {v : V} (S : SSim G ha B0 Wr H0 own ρ hs σ H) (r : Rep G ha (BB B0 own) H d v) : SSim G ha B0 Wr H0 (unown own i) (ρ.set i (.val d)) hs (σ.set i (some v)) H := by
  have sub : ∀ b, BB B0 (unown own i) b → BB B0 own b := unown_sub
  refine ⟨fun j k a e1 e2 => S.inj j k a (unown_some e1).1 (unown_some e2).1, fun j a e => S.fr j a (unown_some e).1, S.ext, S.hW, S.hB, ⟨by rw [List.length_set, List.length_set]; exact S.sim.len, fun j s e => ?_, S.sim.hnd.sub (.inl S.hB) sub⟩, fun j d' e => ?_, fun j a e => ?_⟩
  · rcases set_get e with ⟨rfl, rfl, hl⟩ | ⟨hne, e⟩
    · exact ⟨v, List.getElem?_set_self (by rw [S.sim.len]; exact hl), r.sub sub⟩
    · rw [set_out hne]
      have q := S.sim.at_ j s e
      cases s with
      | no => trivial
      | exn _ => trivial
      | val d =>
        obtain ⟨v, e1, r⟩ := q
        exact ⟨v, e1, r.sub sub⟩
      | own d =>
        obtain ⟨v, e1, r⟩ := q
        exact ⟨v, e1, r.sub sub⟩
  · rcases set_get e with ⟨_, h, _⟩ | ⟨hne, e⟩
    · cases h
    · obtain ⟨h1, a, h2, h3⟩ := S.at_ j d' e
      refine ⟨h1, a, ?_, by rw [set_out hne]; exact h3⟩
      unfold unown
      rw [if_neg (Ne.symm hne)]
      exact h2
  · obtain ⟨e, hne⟩ := unown_some e
    obtain ⟨d', h⟩ := S.of j a e
    exact ⟨d', by rw [set_out (Ne.symm hne)]; exact h⟩
/-- a slot is forgotten -/
theorem SSim.no {i : Nat} {o : Option V} {x : Option Exc} (S : SSim G ha B0 Wr H0 own ρ hs σ H) : SSim G ha B0 Wr H0 (unown own i) (ρ.set i (match x with
    | some e => .exn e
    | none => .no)) hs (σ.set i o) H := by
  have sub : ∀ b, BB B0 (unown own i) b → BB B0 own b := unown_sub
  refine ⟨fun j k a e1 e2 => S.inj j k a (unown_some e1).1 (unown_some e2).1, fun j a e => S.fr j a (unown_some e).1, S.ext, S.hW, S.hB, ⟨by rw [List.length_set, List.length_set]; exact S.sim.len, fun j s e => ?_, S.sim.hnd.sub (.inl S.hB) sub⟩, fun j d' e => ?_, fun j a e => ?_⟩
  · rcases set_get e with ⟨rfl, rfl, hl⟩ | ⟨hne, e⟩
    · cases x <;> trivial
    · rw [set_out hne]
      have q := S.sim.at_ j s e
      cases s with
      | no => trivial
      | exn _ => trivial
      | val d =>
        obtain ⟨v, e1, r⟩ := q
        exact ⟨v, e1, r.sub sub⟩
      | own d =>
        obtain ⟨v, e1, r⟩ := q
        exact ⟨v, e1, r.sub sub⟩
  · rcases set_get e with ⟨_, h, _⟩ | ⟨hne, e⟩
    · cases x <;> cases h
    · obtain ⟨h1, a, h2, h3⟩ := S.at_ j d' e
      refine ⟨h1, a, ?_, by rw [set_out hne]; exact h3⟩
      unfold unown
      rw [if_neg (Ne.symm hne)]
      exact h2
  · obtain ⟨e, hne⟩ := unown_some e
    obtain ⟨d', h⟩ := S.of j a e
    exact ⟨d', by rw [set_out (Ne.symm hne)]; exact h⟩
/-- an owned one is no longer changed -/
theorem SSim.frz1 {i : Nat} (S : SSim G ha B0 Wr H0 own ρ hs σ H) : ∃ own', SSim G ha B0 Wr H0 own' (match ρ[i]? with
    | some (.own d) => ρ.set i (.val d)
    | _ => ρ) hs σ H := by
  split
  · rename_i d e
    obtain ⟨hd, a, e1, e2⟩ := S.at_ i d e
    have sub : ∀ b, BB B0 (unown own i) b → BB B0 own b := unown_sub
    have na : ¬ BB B0 (unown own i) a := fun z => by
      rcases z with z | ⟨j, z⟩
      · exact (S.fr i a e1).2 z
      · obtain ⟨z, hne⟩ := unown_some z
        exact hne (S.inj j i a z e1)
    have rv : Rep G ha (BB B0 (unown own i)) H d (.ref a) := by
      obtain ⟨v, q1, q2⟩ := S.sim.at_ i _ e
      rw [e2] at q1
      cases q1
      cases d with
      | lst ds =>
        simp only [WRep, Rep] at q2 ⊢
        obtain ⟨a', vs, h1, _, h3, h4⟩ := q2
        cases h1
        exact ⟨a, vs, rfl, na, h3, Reps.chg (fun b z => .inl (sub b z)) h4⟩
      | dct ks ys =>
        simp only [WRep, Rep] at q2 ⊢
        obtain ⟨a', vs, h1, _, h3, h4, h5⟩ := q2
        cases h1
        exact ⟨a, vs, rfl, na, h3, h4, Reps.chg (fun b z => .inl (sub b z)) h5⟩
      | _ => cases hd
    refine ⟨unown own i, fun j k a e1 e2 => S.inj j k a (unown_some e1).1 (unown_some e2).1, fun j a e => S.fr j a (unown_some e).1, S.ext, S.hW, S.hB, ⟨by rw [List.length_set]; exact S.sim.len, fun j s e => ?_, S.sim.hnd.sub (.inl S.hB) sub⟩, fun j d' e => ?_, fun j a e => ?_⟩
    · rcases set_get e with ⟨rfl, rfl, hl⟩ | ⟨hne, e⟩
      · exact ⟨_, e2, rv⟩
      · have q := S.sim.at_ j s e
        cases s with
        | no => trivial
        | exn _ => trivial
        | val d =>
          obtain ⟨v, e1, r⟩ := q
          exact ⟨v, e1, r.sub sub⟩
        | own d =>
          obtain ⟨v, e1, r⟩ := q
          exact ⟨v, e1, r.sub sub⟩
    · rcases set_get e with ⟨_, h, _⟩ | ⟨hne, e⟩
      · cases h
      · obtain ⟨h1, a, h2, h3⟩ := S.at_ j d' e
        refine ⟨h1, a, ?_, h3⟩
        unfold unown
        rw [if_neg (Ne.symm hne)]
        exact h2
    · obtain ⟨e, hne⟩ := unown_some e
      obtain ⟨d', h⟩ := S.of j a e
      exact ⟨d', by rw [set_out (Ne.symm hne)]; exact h⟩
  · exact ⟨own, S⟩
theorem SSim.frz : ∀ {is : List Nat} {own : Own} {ρ : PEnv} (S : SSim G ha B0 Wr H0 own ρ hs σ H), ∃ own', SSim G ha B0 Wr H0 own' (frzL is ρ) hs σ H
  | [], own, _, S => ⟨own, S⟩
  | i :: is, own, ρ, S => by
    obtain ⟨own1, S1⟩ := S.frz1 (i := i)
    obtain ⟨own2, S2⟩ := SSim.frz (is := is) S1
    refine ⟨own2, ?_⟩
    simp only [frzL]
    exact S2
def reown (own : Own) (i : Nat) (p : Addr) : Own := fun j => if j = i then some p else own j
theorem reown_some {i j : Nat} {p a : Addr} (h : reown own i p j = some a) : (j = i ∧ p = a) ∨ (j ≠ i ∧ own j = some a) := by
  unfold reown at h
  split at h
  · exact .inl ⟨by assumption, Option.some.inj h⟩
  · exact .inr ⟨by assumption, h⟩
/-- a slot gets a new list or dict -/
theorem SSim.new {i : Nat} {d : D} {v : V} (S : SSim G ha B0 Wr H0 own ρ hs σ H) (hi : i < ρ.length) (k : Ext ha H H1) (ht : atom d = false) (r : Fresh G ha (BB B0 own) H H1 d v hs1) :
    ∃ p, SSim G ha B0 Wr H0 (reown own i p) (ρ.set i (.own d)) hs1 (σ.set i (some v)) H1 := by
  have key : ∀ p, v = .ref p → FreshAt H p → ¬ BB B0 own p → Hnd G ha (fun b => BB B0 own b ∨ b = p) H1 hs1 → WRep G ha (fun b => BB B0 own b ∨ b = p) H1 d v → SSim G ha B0 Wr H0 (reown own i p) (ρ.set i (.own d)) hs1 (σ.set i (some v)) H1 := fun p ev fp np hh rd => by
    have sub : ∀ b, BB B0 (reown own i p) b → BB B0 own b ∨ b = p := fun b z => z.elim (fun y => .inl (.inl y)) fun ⟨j, e⟩ => (reown_some e).elim (fun y => .inr y.2.symm) fun y => .inl (.inr ⟨j, y.2⟩)
    have fp0 : Wr p ∨ FreshAt H0 p := by
      by_cases hp : Wr p
      · exact .inl hp
      · exact .inr fun o e n => fp o (S.ext.at_ p o hp e n) n
    have ch : ∀ b, BB B0 (reown own i p) b → BB B0 own b ∨ FreshAt H b := fun b z => (sub b z).elim .inl fun y => .inr (by rw [y]; exact fp)
    have h1 : Hnd G ha (BB B0 (reown own i p)) H1 hs1 := hh.sub (.inl S.hB) sub
    have S1 := S.sim.later ch k h1
    refine ⟨fun j l a e1 e2 => ?_, fun j a e => ?_, S.ext.trans (k.imp fun b z => z ▸ S.hW), S.hW, S.hB, ⟨by rw [List.length_set, List.length_set]; exact S.sim.len, fun j s e => ?_, h1⟩, fun j d' e => ?_, fun j a e => ?_⟩
    · rcases reown_some e1 with ⟨q1, q2⟩ | ⟨q1, q2⟩ <;> rcases reown_some e2 with ⟨q3, q4⟩ | ⟨q3, q4⟩
      · rw [q1, q3]
      · exact absurd (.inr ⟨l, by rw [q2]; exact q4⟩) np
      · exact absurd (.inr ⟨j, by rw [q4]; exact q2⟩) np
      · exact S.inj j l a q2 q4
    · rcases reown_some e with ⟨_, rfl⟩ | ⟨_, q⟩
      · exact ⟨fp0, fun z => np (.inl z)⟩
      · exact S.fr j a q
    · rcases set_get e with ⟨rfl, rfl, hl⟩ | ⟨hne, e⟩
      · exact ⟨v, List.getElem?_set_self (by rw [S.sim.len]; exact hl), rd.sub sub⟩
      · rw [set_out hne]
        exact S1.at_ j s e
    · rcases set_get e with ⟨rfl, h, hl⟩ | ⟨hne, e⟩
      · cases h
        refine ⟨ht, p, ?_, by rw [List.getElem?_set_self (by rw [S.sim.len]; exact hl), ev]⟩
        unfold reown
        rw [if_pos rfl]
      · obtain ⟨h1, a, h2, h3⟩ := S.at_ j d' e
        refine ⟨h1, a, ?_, by rw [set_out hne]; exact h3⟩
        unfold reown
        rw [if_neg (Ne.symm hne)]
        exact h2
    · rcases reown_some e with ⟨rfl, _⟩ | ⟨hne, e⟩
      · exact ⟨d, List.getElem?_set_self hi⟩
      · obtain ⟨d', h⟩ := S.of j a e
        exact ⟨d', by rw [set_out (Ne.symm hne)]; exact h⟩
  cases d with
  | lst ds =>
    obtain ⟨p, vs, ev, fp, np, s, hh, rs⟩ := r
    refine ⟨p, key p ev fp np hh ?_⟩
    simp only [WRep]
    exact ⟨p, vs, ev, fun z => np (.inl (z ▸ S.hB)), s, rs⟩
  | dct ks ys =>
    obtain ⟨p, vs, ev, fp, np, s, hh, q, rs⟩ := r
    refine ⟨p, key p ev fp np hh ?_⟩
    simp only [WRep]
    exact ⟨p, vs, ev, fun z => np (.inl (z ▸ S.hB)), s, q, rs⟩
  | _ => cases ht
/-- an owned list is written -/
theorem SSim.wrt {i : Nat} {ds ds' : List D} {a : Addr} {vs' : List V} (S : SSim G ha B0 Wr H0 own ρ hs σ H) (e : ρ[i]? = some (.own (.lst ds))) (ea : σ[i]? = some (some (.ref a))) (r : Reps G ha (BB B0 own) H ds' vs') :
    SSim G ha B0 Wr H0 own (ρ.set i (.own (.lst ds'))) hs σ (upd H a (.lst vs')) := by
  obtain ⟨hi, _⟩ := List.getElem?_eq_some_iff.mp e
  obtain ⟨_, a', e1, e2⟩ := S.at_ i _ e
  rw [ea] at e2
  cases e2
  obtain ⟨v, q1, q2⟩ := S.sim.at_ i _ e
  rw [ea] at q1
  cases q1
  obtain ⟨a', vs, h1, na, s, _⟩ : ∃ a' vs, V.ref a = .ref a' ∧ a' ≠ ha ∧ H a' = some (.lst vs) ∧ Reps G ha (BB B0 own) H ds vs := by
    simpa only [WRep] using q2
  cases h1
  have bA : BB B0 own a := .inr ⟨i, e1⟩
  have kp : Keep (BB B0 own) H (upd H a (.lst vs')) := Keep.wr bA s (fun _ z => nomatch z) (fun _ _ z => nomatch z)
  obtain ⟨fr0, _⟩ := S.fr i a e1
  refine ⟨S.inj, S.fr, ?_, S.hW, S.hB, ⟨by rw [List.length_set]; exact S.sim.len, fun j t ej => ?_, S.sim.hnd.wrl bA na s⟩, fun j d' ej => ?_, fun j b eb => ?_⟩
  · rcases fr0 with fr0 | fr0
    · exact S.ext.trans (Keep.wr fr0 s (fun _ z => nomatch z) (fun _ _ z => nomatch z))
    refine ⟨fun b o n q t => ?_, fun b xs q => ?_, fun b o u q => ?_⟩
    · rw [upd_ne fun y => fr0 o (by rw [← y]; exact q) t]
      exact S.ext.at_ b o n q t
    · rw [upd_ne fun y => fr0 _ (by rw [← y]; exact q) nt_tup]
      exact S.ext.tup b xs q
    · rw [upd_ne fun y => fr0 (.frz o u) (by rw [← y]; exact q) (fun _ z => nomatch z)]
      exact S.ext.frz b o u q
  · rcases set_get ej with ⟨rfl, rfl, hl⟩ | ⟨hne, ej⟩
    · refine ⟨_, ea, ?_⟩
      simp only [WRep]
      exact ⟨a, vs', rfl, na, upd_same, Reps.keep kp r⟩
    · have q := S.sim.at_ j t ej
      cases t with
      | no => trivial
      | exn _ => trivial
      | val d =>
        obtain ⟨v, e1, r⟩ := q
        exact ⟨v, e1, Rep.keep kp r⟩
      | own d =>
        obtain ⟨v, e1', r1⟩ := q
        refine ⟨v, e1', ?_⟩
        obtain ⟨hd, b, eb, eb2⟩ := S.at_ j d ej
        have hba : b ≠ a := fun z => hne (S.inj i j a e1 (z ▸ eb))
        rw [eb2] at e1'
        cases e1'
        cases d with
        | lst zs =>
          simp only [WRep] at r1 ⊢
          obtain ⟨b', us, w1, w2, w3, w4⟩ := r1
          cases w1
          exact ⟨b, us, rfl, w2, by rw [upd_ne hba]; exact w3, Reps.keep kp w4⟩
        | dct ks ys =>
          simp only [WRep] at r1 ⊢
          obtain ⟨b', us, w1, w2, w3, w4, w5⟩ := r1
          cases w1
          exact ⟨b, us, rfl, w2, by rw [upd_ne hba]; exact w3, w4, Reps.keep kp w5⟩
        | _ => cases hd
  · rcases set_get ej with ⟨rfl, h, _⟩ | ⟨hne, ej⟩
    · cases h
      exact ⟨rfl, a, e1, ea⟩
    · exact S.at_ j d' ej
  · obtain ⟨d', h⟩ := S.of j b eb
    by_cases hne : i = j
    · subst hne
      exact ⟨_, List.getElem?_set_self hi⟩
    · exact ⟨d', by rw [set_out hne]; exact h⟩
/-- the hand is written -/
theorem SSim.wrh {hs' : HS} {vs' : List V} (S : SSim G ha B0 Wr H0 own ρ hs σ H) (r : Reps G ha (BB B0 own) H hs' vs') : SSim G ha B0 Wr H0 own ρ hs' σ (upd H ha (.lst vs')) := by
  obtain ⟨vs, s, _⟩ := S.sim.hnd.at_
  have kx : Ext ha H (upd H ha (.lst vs')) := Keep.wr (S := fun b => b = ha) rfl s (fun _ z => nomatch z) (fun _ _ z => nomatch z)
  have kp : Keep (BB B0 own) H (upd H ha (.lst vs')) := kx.imp fun b z => by rw [z]; exact .inl S.hB
  refine S.later kx ⟨.inl S.hB, ⟨vs', upd_same, Reps.keep kp r⟩, fun b z => ?_, tabs_put S.sim.hnd.tab s (fun _ z => nomatch z) (fun _ _ z => nomatch z)⟩
  by_cases h : b = ha
  · rw [h, upd_same]
    exact ⟨_, rfl, nt_lst⟩
  · rw [upd_ne h]
    exact S.sim.hnd.trk b z
end
end
end PD

set_option Elab.async false
set_option linter.all false
set_option maxRecDepth 100000
set_option maxHeartbeats 2000000
/-! P13: statements. -/
namespace PD
open PySem PySem.Spec PyProof.Rows L2 RZ
abbrev Mng := PEnv → HS → Res Fl
def MS (c : Ctx) (sts : List Stmt) (f : Mng) : Prop :=
  ∃ t : TS, (∀ X, XOk c X → PSs X sts t) ∧ ∀ ha B0 Wr H0 own ρ hs σ H D, SSim c.G ha B0 Wr H0 own ρ hs σ H → SPost c.G ha B0 Wr H0 D c.E (f ρ hs) → t D σ H
def MO (c : Ctx) (st : Stmt) (f : Mng) : Prop :=
  ∃ t : TS, (∀ X, XOk c X → PS X st t) ∧ ∀ ha B0 Wr H0 own ρ hs σ H D, SSim c.G ha B0 Wr H0 own ρ hs σ H → SPost c.G ha B0 Wr H0 D c.E (f ρ hs) → t D σ H
section
variable {c : Ctx}
theorem ms_nil : MS c [] (fun ρ h => .ok (.nx ρ) h) := ⟨tNext, fun X _ => pss_nil, fun ha B0 Wr H0 own ρ hs σ H D S p => p own σ H S⟩
def thenM (f g : Mng) : Mng := fun ρ h => (f ρ h).bind fun x h => match x with
  | .nx ρ' => g ρ' h
  | x => .ok x h
section
variable {G : Cfg} {ha : Addr} {B0 Wr : Addr → Prop} {H0 H H1 : Hp} {own : Own} {ρ : PEnv} {hs hs1 : HS} {σ : St} {D D' : Ends} {E : XK}
/-- the first part of a block -/
theorem SPost.seq {f : Res Fl} {g : Fl → HS → Res Fl} (p : SPost G ha B0 Wr H0 D E (f.bind g)) (hn : ∀ ρ h, f = .ok (.nx ρ) h → SPost G ha B0 Wr H0 D E (g (.nx ρ) h) → NPost G ha B0 Wr H0 D'.nx ρ h)
    (hb : ∀ ρ h, f = .ok (.bk ρ) h → SPost G ha B0 Wr H0 D E (g (.bk ρ) h) → NPost G ha B0 Wr H0 D'.bk ρ h) (hc : ∀ ρ h, f = .ok (.ct ρ) h → SPost G ha B0 Wr H0 D E (g (.ct ρ) h) → NPost G ha B0 Wr H0 D'.ct ρ h)
    (hr : ∀ d h, f = .ok (.rt d) h → SPost G ha B0 Wr H0 D E (g (.rt d) h) → SPost G ha B0 Wr H0 D' E (.ok (.rt d) h)) : SPost G ha B0 Wr H0 D' E f := by
  cases f with
  | stuck => exact p.elim
  | exc e h => exact p
  | ok x h =>
    cases x with
    | nx ρ => exact hn ρ h rfl p
    | bk ρ => exact hb ρ h rfl p
    | ct ρ => exact hc ρ h rfl p
    | rt d => exact hr d h rfl p
end
theorem ms_cons {st : Stmt} {rest : List Stmt} {f g : Mng} (h1 : MO c st f) (h2 : MS c rest g) : MS c (st :: rest) (thenM f g) := by
  obtain ⟨t1, p1, q1⟩ := h1
  obtain ⟨t2, p2, q2⟩ := h2
  refine ⟨tSeq t1 t2, fun X hx => pss_cons (p1 X hx) (p2 X hx), fun ha B0 Wr H0 own ρ hs σ H D S p => ?_⟩
  refine q1 ha B0 Wr H0 own ρ hs σ H { D with nx := t2 D } S (p.seq (fun ρ h _ p => ?_) (fun ρ h _ p => p) (fun ρ h _ p => p) (fun d h _ p => p))
  exact fun own σ H S => q2 ha B0 Wr H0 own ρ h σ H D S p
theorem ms_frz {sts : List Stmt} {f : Mng} {is : List Nat} (h : MS c sts f) : MS c sts (fun ρ h => f (frzL is ρ) h) := by
  obtain ⟨t, p, q⟩ := h
  refine ⟨t, p, fun ha B0 Wr H0 own ρ hs σ H D S p => ?_⟩
  obtain ⟨own', S'⟩ := S.frz (is := is)
  exact q ha B0 Wr H0 own' _ hs σ H D S' p
theorem mo_dead {st : Stmt} : MO c st (fun _ _ => .stuck) := ⟨tNever, fun X _ => ps_never, fun ha B0 Wr H0 own ρ hs σ H D S p => p.elim⟩
theorem ms_dead {sts : List Stmt} : MS c sts (fun _ _ => .stuck) := ⟨tNever, fun X _ => pss_never, fun ha B0 Wr H0 own ρ hs σ H D S p => p.elim⟩
theorem mo_pass {pos : Pos} : MO c (.Pass pos) (fun ρ h => .ok (.nx ρ) h) := ⟨tNext, fun X _ => ps_pass, fun ha B0 Wr H0 own ρ hs σ H D S p => p own σ H S⟩
theorem mo_doc {x : Str} {j : Nat} {pos pos' : Pos} : MO c (.Expr (.Constant (.str x) j pos) pos') (fun ρ h => .ok (.nx ρ) h) := ⟨tNext, fun X _ => ps_doc, fun ha B0 Wr H0 own ρ hs σ H D S p => p own σ H S⟩
theorem mo_brk {pos : Pos} : MO c (.Break pos) (fun ρ h => .ok (.bk ρ) h) := ⟨tBreak, fun X _ => ps_break, fun ha B0 Wr H0 own ρ hs σ H D S p => p own σ H S⟩
theorem mo_cnt {pos : Pos} : MO c (.Continue pos) (fun ρ h => .ok (.ct ρ) h) := ⟨tCont, fun X _ => ps_continue, fun ha B0 Wr H0 own ρ hs σ H D S p => p own σ H S⟩
theorem mo_retN {pos : Pos} : MO c (.Return none pos) (fun _ h => .ok (.rt .non) h) := ⟨tRetN, fun X _ => ps_retN, fun ha B0 Wr H0 own ρ hs σ H D S p => p .non H S.ext S.h0 (by simp only [Rep])⟩
theorem mo_ret {e : Expr} {f : PEnv → HS → Res D} {pos : Pos} (h : ES .st c e f) : MO c (.Return (some e) pos) (fun ρ h => (f ρ h).bind fun d h => .ok (.rt d) h) := by
  obtain ⟨t, p, q⟩ := h
  refine ⟨tRet t, fun X hx => ps_ret (p X hx), fun ha B0 Wr H0 own ρ hs σ H D S p => ?_⟩
  refine q ha _ ρ hs σ H _ S.sim (SPost.first S p fun d hs1 _ v H1 k1 h1 r1 p' => ?_)
  exact p' v H1 (S.ext.trans (k1.imp fun b z => z ▸ S.hW)) (h1.sub S.hB fun b z => .inl z) (Rep.sub r1 fun b z => .inl z)
def plainV : Expr → Bool
  | .ListComp _ _ _ _ => false
  | .SetComp _ _ _ _ => false
  | .DictComp _ _ _ _ _ => false
  | _ => true
theorem sw_of {e : Expr} {t : Option Expr} {l : Nat} {env : PySem.Env} (h : plainV e = true) : swapsWith e t l env = pure false := by
  cases e <;> first | rfl | cases h
theorem mo_expr {e : Expr} {f : PEnv → HS → Res D} {pos : Pos} {m : Md} (h : ES m c e f) (hv : plainV e = true) : MO c (.Expr e pos) (fun ρ h => (f ρ h).bind fun _ h => .ok (.nx ρ) h) := by
  obtain ⟨t, p, q⟩ := h
  refine ⟨tDrop t, fun X hx => ps_expr (p X hx) (sw_of hv), fun ha B0 Wr H0 own ρ hs σ H D S p => ?_⟩
  refine q ha _ ρ hs σ H _ S.sim (SPost.first S p fun d hs1 _ v H1 k1 h1 r1 p' => ?_)
  exact p' _ _ _ (S.later k1 h1)
theorem mo_ite {e : Expr} {a b : List Stmt} {f : PEnv → HS → Res Bool} {g k : Mng} {pos : Pos} (h : CS c e f) (ha : MS c a g) (hb : MS c b k) : MO c (.If e a b pos) (fun ρ h => (f ρ h).bind fun x h => if x then g ρ h else k ρ h) := by
  obtain ⟨t, p, q⟩ := h
  obtain ⟨ta, pa, qa⟩ := ha
  obtain ⟨tb, pb, qb⟩ := hb
  refine ⟨tIfS t ta tb, fun X hx => ps_if (p X hx) (pa X hx) (pb X hx), fun ha B0 Wr H0 own ρ hs σ H D S p => ?_⟩
  refine q ha _ ρ hs σ H _ S.sim (SPost.first S p fun x hs1 _ v H1 k1 h1 r1 p' => ?_)
  have r1 : v = x := r1
  subst r1
  cases v with
  | true =>
    rw [if_pos rfl] at p' ⊢
    exact qa ha B0 Wr H0 own ρ hs1 σ H1 D (S.later k1 h1) p'
  | false =>
    rw [if_neg Bool.false_ne_true] at p' ⊢
    exact qb ha B0 Wr H0 own ρ hs1 σ H1 D (S.later k1 h1) p'

/-! ### stores -/
theorem SSim.lt {G : Cfg} {ha : Addr} {B0 Wr : Addr → Prop} {H0 H : Hp} {own : Own} {ρ : PEnv} {hs : HS} {σ : St} (S : SSim G ha B0 Wr H0 own ρ hs σ H) {i : Nat} (h : ¬ i < ρ.length) (x : Slot) (o : Option V) : ρ.set i x = ρ ∧ σ.set i o = σ := by
  have := S.sim.len
  exact ⟨List.set_eq_of_length_le (by omega), List.set_eq_of_length_le (by omega)⟩
theorem set_sem {te : TE} {f : PEnv → HS → Res D} {i : Nat} (q : SemE .st c te f) : ∀ ha B0 Wr H0 own ρ hs σ H D, SSim c.G ha B0 Wr H0 own ρ hs σ H → SPost c.G ha B0 Wr H0 D c.E ((f ρ hs).bind fun d h => .ok (.nx (ρ.set i (.val d))) h) → tAsg te (gName i) D σ H := fun ha B0 Wr H0 own ρ hs σ H D S p => by
  refine q ha _ ρ hs σ H _ S.sim (SPost.first S p fun d hs1 _ v H1 k1 h1 r1 p' => ?_)
  exact p' _ _ _ ((S.later k1 h1).val r1)
theorem setO_sem {te : TE} {f : PEnv → HS → Res D} {i : Nat} (q : SemE .fr c te f) : ∀ ha B0 Wr H0 own ρ hs σ H D, SSim c.G ha B0 Wr H0 own ρ hs σ H → SPost c.G ha B0 Wr H0 D c.E ((f ρ hs).bind fun d h => .ok (.nx (ρ.set i (slotOf true d))) h) → tAsg te (gName i) D σ H := fun ha B0 Wr H0 own ρ hs σ H D S p => by
  refine q ha _ ρ hs σ H _ S.sim (SPost.first S p fun d hs1 _ v H1 k1 h1 r1 p' => ?_)
  have r1 : Fresh c.G ha (BB B0 own) H H1 d v hs1 := r1
  show D.nx (σ.set i (some v)) H1
  cases ht : atom d with
  | true =>
    unfold slotOf at p'
    rw [ht] at p'
    exact p' _ _ _ ((S.later k1 h1).val (Fresh.rep r1))
  | false =>
    unfold slotOf at p'
    rw [ht] at p'
    by_cases hi : i < ρ.length
    · obtain ⟨pp, S'⟩ := S.new hi k1 ht r1
      exact p' _ _ _ S'
    · obtain ⟨e1, e2⟩ := S.lt hi (.own d) (some v)
      rw [e2]
      have p2 : NPost c.G ha B0 Wr H0 D.nx (ρ.set i (.own d)) hs1 := p'
      rw [e1] at p2
      exact p2 _ _ _ (S.later k1 h1)
theorem XOk.set {X : Cx} (hx : XOk c X) {x : Str} {i : Nat} {e : Expr} {te : TE} {p pos : Pos} (hN : c.N[i]? = some x) (hv : Loc c.sc x) (hs : c.sto x = true) (he : PE X e te) (hw : plainV e = true) : PS X (.Assign [.Name x p] e pos) (tAsg te (gName i)) :=
  ps_set (by rw [hx.eN]; exact hx.nd) (by rw [hx.eN]; exact hN) (by rw [hx.eS]; exact hv) he (sw_of hw) (by rw [hx.eS]; exact hx.fnl x hs)
theorem mo_set {x : Str} {i : Nat} {e : Expr} {f : PEnv → HS → Res D} {p pos : Pos} (hN : c.N[i]? = some x) (hv : Loc c.sc x) (hs : c.sto x = true) (hw : plainV e = true) (h : ES .st c e f) :
    MO c (.Assign [.Name x p] e pos) (fun ρ h => (f ρ h).bind fun d h => .ok (.nx (ρ.set i (.val d))) h) := by
  obtain ⟨t, pt, q⟩ := h
  exact ⟨tAsg t (gName i), fun X hx => hx.set hN hv hs (pt X hx) hw, set_sem q⟩
theorem mo_setO {x : Str} {i : Nat} {e : Expr} {f : PEnv → HS → Res D} {p pos : Pos} (hN : c.N[i]? = some x) (hv : Loc c.sc x) (hs : c.sto x = true) (hw : plainV e = true) (h : ES .fr c e f) :
    MO c (.Assign [.Name x p] e pos) (fun ρ h => (f ρ h).bind fun d h => .ok (.nx (ρ.set i (slotOf true d))) h) := by
  obtain ⟨t, pt, q⟩ := h
  exact ⟨tAsg t (gName i), fun X hx => hx.set hN hv hs (pt X hx) hw, setO_sem q⟩
/-- does the value go to the name before the block's names come back -/
def swB (sc : Scope) (y : Str) (l1 l2 : Nat) (scope : Scope) : Bool := (if sc.kind.isAnnotationScope then .function else sc.kind) == ScopeKind.function && sc.names.lookup y == some .local && l1 == l2 && !(scope.names.any fun (n, k) => n == y && (k == .local || k == .cell))
theorem swB_ok {elt : Expr} {gens : List Comprehension} {scope : Scope} {pos py : Pos} {y : Str} {l : Nat} {env : PySem.Env} : swapsWith (.ListComp elt gens scope pos) (some (.Name y py)) l env = pure (swB env.scope y py.line pos.line scope) := rfl
theorem ps_lcs {X : Cx} (hx : XOk c X) {elt tg iter : Expr} {ifs : List Expr} {scope : Scope} {own : List (Str × Nat)} {it : IT} {fs : PEnv → HS → Res (List D)} {fc : PEnv → HS → Res Bool} {fe : PEnv → HS → Res D} {pos spos py : Pos} {y : Str} {i : Nat}
    {wi : TI} {g : TG} {tt : TT} {te : TE} (L : LcOk c elt tg iter ifs scope own it fs fc fe) (hN : c.N[i]? = some y) (hv : Loc c.sc y) (hs : c.sto y = true) (pw : ∀ X, XOk c X → PI X tg iter wi) (pg : ∀ X, XOk (c.inn scope) X → PG X tg g) (pt : ∀ X, XOk (c.inn scope) X → PTs X ifs tt)
    (pe : ∀ X, XOk (c.inn scope) X → PE X elt te) : PS X (.Assign [.Name y py] (.ListComp elt [⟨tg, iter, ifs, 0⟩] scope pos) spos) (tAsg (tLc wi g tt te (own.map (·.2))) (gName i)) := by
  have nd : X.N.Nodup := by rw [hx.eN]; exact hx.nd
  have bk : BlkOk X.N X.env.scope scope own := by rw [hx.eN, hx.eS]; exact blkOk_by L.blk
  cases hw : swB X.env.scope y py.line pos.line scope with
  | true =>
    have hl : X.env.scope.names.lookup y = some .local := by
      unfold swB at hw
      simp only [Bool.and_eq_true] at hw
      exact eq_of_beq (α := Option NameKind) hw.1.1.2
    exact ps_setLc (hx.eC.trans L.calm) nd (by rw [hx.eN]; exact hN) hl (by rw [swB_ok, hw]) (pw X hx) bk (fun s H C cl fp => pg _ (hx.inn scope s H C cl fp)) (fun s H C cl fp => pt _ (hx.inn scope s H C cl fp)) (fun s H C cl fp => pe _ (hx.inn scope s H C cl fp)) (set_of L.ps)
  | false =>
    exact ps_set nd (by rw [hx.eN]; exact hN) (by rw [hx.eS]; exact hv) (pe_lc (hx.eC.trans L.calm) nd (pw X hx) bk (fun s H C cl fp => pg _ (hx.inn scope s H C cl fp)) (fun s H C cl fp => pt _ (hx.inn scope s H C cl fp)) (fun s H C cl fp => pe _ (hx.inn scope s H C cl fp)) (set_of L.ps)) (by rw [swB_ok, hw]) (by rw [hx.eS]; exact hx.fnl y hs)
theorem mo_setLc {elt tg iter : Expr} {ifs : List Expr} {scope : Scope} {own : List (Str × Nat)} {it : IT} {fs : PEnv → HS → Res (List D)} {fc : PEnv → HS → Res Bool} {fe : PEnv → HS → Res D} {pos spos py : Pos} {y : Str} {i : Nat} (o : Bool)
    (L : LcOk c elt tg iter ifs scope own it fs fc fe) (hN : c.N[i]? = some y) (hv : Loc c.sc y) (hs : c.sto y = true) :
    MO c (.Assign [.Name y py] (.ListComp elt [⟨tg, iter, ifs, 0⟩] scope pos) spos) (fun ρ h => (lcM own it fs fc fe ρ h).bind fun d h => .ok (.nx (ρ.set i (if o then slotOf true d else .val d))) h) := by
  obtain ⟨wi, pw, qw⟩ := L.w
  obtain ⟨g, pg, qg⟩ := L.g
  obtain ⟨tt, pt, qt⟩ := L.t
  obtain ⟨te, pe, qe⟩ := L.e
  refine ⟨tAsg (tLc wi g tt te (own.map (·.2))) (gName i), fun X hx => ps_lcs hx L hN hv hs pw pg pt pe, ?_⟩
  have sem : SemE .fr c (tLc wi g tt te (own.map (·.2))) (lcM own it fs fc fe) := fun ha B ρ hs σ H Q S p => tLc_ok (tg := tg) (iter := iter) (elt := elt) (ifs := ifs) (scope := scope) (c := c) L.sl qw qg qt qe ha B ρ hs σ H Q S p
  cases o with
  | true => exact setO_sem sem
  | false => exact set_sem (fun ha B ρ hs σ H Q S p => sem ha B ρ hs σ H Q S (p.rel fun a v H' hs' k hh r => Fresh.rep r))
theorem SSim.stored {G : Cfg} {ha : Addr} {B0 Wr : Addr → Prop} {H0 H : Hp} {own : Own} {ρ ρ' : PEnv} {hs : HS} {σ σ' : St} {ss : List Nat} (S : SSim G ha B0 Wr H0 own ρ hs σ H) (t : Stored (Rep G ha (BB B0 own) H) ss ρ ρ' σ σ') : ∃ own', SSim G ha B0 Wr H0 own' ρ' hs σ' H := by
  let own' : Own := fun j => if j ∈ ss then none else own j
  have os : ∀ {j a}, own' j = some a → own j = some a ∧ j ∉ ss := fun {j a} h => by
    by_cases hj : j ∈ ss
    · simp only [own', if_pos hj] at h
      cases h
    · simp only [own', if_neg hj] at h
      exact ⟨h, hj⟩
  have sub : ∀ b, BB B0 own' b → BB B0 own b := fun b z => z.elim .inl fun ⟨j, e⟩ => .inr ⟨j, (os e).1⟩
  have S1 : ESim G ha (BB B0 own') ρ' hs σ' H := (S.sim.stored t).later (fun b z => .inl (sub b z)) .refl (S.sim.hnd.sub (.inl S.hB) sub)
  refine ⟨own', fun j k a e1 e2 => S.inj j k a (os e1).1 (os e2).1, fun j a e => S.fr j a (os e).1, S.ext, S.hW, S.hB, S1, fun j d e => ?_, fun j a e => ?_⟩
  · by_cases hj : j ∈ ss
    · have hl : j < ρ.length := by
        rw [← t.l1]
        exact (List.getElem?_eq_some_iff.mp e).1
      obtain ⟨d', v, e1, _, _⟩ := t.at_ j hj hl
      rw [e1] at e
      cases e
    · obtain ⟨e1, e2⟩ := t.out j hj
      rw [e1] at e
      obtain ⟨h1, a, h2, h3⟩ := S.at_ j d e
      exact ⟨h1, a, by simp only [own', if_neg hj]; exact h2, by rw [e2]; exact h3⟩
  · obtain ⟨e, hj⟩ := os e
    obtain ⟨d, h⟩ := S.of j a e
    exact ⟨d, by rw [(t.out j hj).1]; exact h⟩
theorem sole_of {tg e : Expr} {l : Nat} {env : PySem.Env} (hv : plainV e = true) : swapsWithSole [tg] e l env = pure false := sw_of hv
def notTupE : Expr → Bool
  | .Tuple _ _ _ => false
  | _ => true
theorem sws_of {ts : List Expr} {e : Expr} {env : PySem.Env} (hv : notTupE e = true) : swappedStores ts e env = pure none := by
  unfold swappedStores
  split
  · rename_i h
    split at h <;> first | cases hv | cases h
  · rfl
theorem mo_setT {tg e : Expr} {it : IT} {f : PEnv → HS → Res D} {pos : Pos} (hg : GS c tg it) (h : ES .st c e f) (hw : plainV e = true) (hv : notTupE e = true) (hp : plainE tg = true) :
    MO c (.Assign [tg] e pos) (fun ρ h => (f ρ h).bind fun d h => ofO ((asgT it d ρ).map .nx) h) := by
  obtain ⟨t, pt, q⟩ := h
  obtain ⟨g, pg, qg⟩ := hg
  refine ⟨tAsg t g, fun X hx => ps_asg (pt X hx) (pg X hx) (sole_of hw) (sws_of hv) (by rw [ase_of hp]; rfl), fun ha B0 Wr H0 own ρ hs σ H D S p => ?_⟩
  refine q ha _ ρ hs σ H _ S.sim (SPost.first S p fun d hs1 _ v H1 k1 h1 r1 p' => ?_)
  cases e1 : asgT it d ρ with
  | none => rw [e1] at p'; exact p'.elim
  | some ρ' =>
    rw [e1] at p'
    refine qg ha _ H1 d v σ ρ ρ' _ r1 e1 S.sim.len fun σ' st => ?_
    obtain ⟨own', S'⟩ := (S.later k1 h1).stored st
    exact p' _ _ _ S'
end
end PD

set_option Elab.async false
set_option linter.all false
set_option maxRecDepth 100000
set_option maxHeartbeats 2000000
/-! P14: statements: writes, loops. -/
namespace PD
open PySem PySem.Spec PyProof.Rows L2 RZ
section
variable {c : Ctx}
/-! ### x op= e -/
def augOp (o : BOp) : Operator := bop o
def ipB : BOp → TIp
  | .add => ipI fun i j => i + j
  | .sub => ipI fun i j => i - j
  | _ => fun _ _ _ _ => False
theorem ipB_ok {X : Cx} : ∀ o : BOp, PIp X (bop o) (ipB o)
  | .add => ip_add
  | .sub => ip_sub
  | .mul => fun _ _ _ _ _ _ _ _ _ _ _ _ h => h.elim
  | .fdiv => fun _ _ _ _ _ _ _ _ _ _ _ _ h => h.elim
  | .mod => fun _ _ _ _ _ _ _ _ _ _ _ _ h => h.elim
  | .pow => fun _ _ _ _ _ _ _ _ _ _ _ _ h => h.elim
  | .band => fun _ _ _ _ _ _ _ _ _ _ _ _ h => h.elim
  | .shl => fun _ _ _ _ _ _ _ _ _ _ _ _ h => h.elim
theorem mo_aug {x : Str} {i : Nat} {o : BOp} {e : Expr} {f : PEnv → HS → Res D} {p pos : Pos} (hN : c.N[i]? = some x) (hv : Loc c.sc x) (hs : c.sto x = true) (h : ES .wk c e f) :
    MO c (.AugAssign (.Name x p) (bop o) e pos) (fun ρ h => match ρ[i]? with
    | some (.val (.int x)) => (f ρ h).bind fun y h => (match o, y with
      | .add, .int y => .ok (.nx (ρ.set i (.val (.int (x + y))))) h
      | .sub, .int y => .ok (.nx (ρ.set i (.val (.int (x - y))))) h
      | _, _ => .stuck)
    | _ => .stuck) := by
  obtain ⟨t, pt, q⟩ := h
  refine ⟨tAug i t (ipB o), fun X hx => ps_aug (by rw [hx.eN]; exact hx.nd) (by rw [hx.eN]; exact hN) (by rw [hx.eS]; exact hv) (pt X hx) (ipB_ok o) (by rw [hx.eS]; exact hx.fnl x hs), fun ha B0 Wr H0 own ρ hs σ H D S p => ?_⟩
  dsimp only at p
  split at p
  · rename_i n e1
    obtain ⟨v, e2, r⟩ := S.sim.at_ i _ e1
    simp only [Rep] at r
    subst r
    refine ⟨_, e2, ?_⟩
    refine q ha _ ρ hs σ H _ S.sim (SPost.first S p fun y hs1 _ v H1 k1 h1 r1 p' => ?_)
    have ry := re_w r1
    split at p'
    · exact ⟨n, _, rfl, ry.int_, p' _ _ _ ((S.later k1 h1).val (by simp only [Rep]))⟩
    · exact ⟨n, _, rfl, ry.int_, p' _ _ _ ((S.later k1 h1).val (by simp only [Rep]))⟩
    · exact p'.elim
  · exact p.elim

/-! ### x.append(e), x.extend(e) -/
theorem bm_of {X : Cx} {id : String} {name : Str} {r : V → List V → Hp → VK → Prop} {o e : Expr} {to te : TE} {apos cpos : Pos} (slot : PySem.Slot "list" name id) (hty : typeOf (.builtin id) = pure (.type "method_descriptor")) (hm : MtM X id r) (ho : PE X o to) (he : PE X e te) (hb : plainB o = true) (hp : plainE e = true) (hl : (apos.endLine == cpos.line) = true) :
    PE X (.Call (.Attribute o name apos) [e] [] cpos) (tBM X.K "list" r to (tCons te tNil)) :=
  pe_bm PySem.F.plainAttrs_list slot hty hm ho (pa_cons he pa_nil (star_of hp)) (base_of hb) (few_of hp) hl (star_of hp) rfl
theorem mo_app {x : Str} {i : Nat} {e : Expr} {f : PEnv → HS → Res D} {p apos cpos pos : Pos} (hN : c.N[i]? = some x) (hv : Vis c.sc x) (hd : (x == ("__debug__" : Str)) = false) (hcd : (x == ("__classdict__" : Str)) = false) (hp : plainE e = true) (hl : (apos.endLine == cpos.line) = true) (h : ES .st c e f) :
    MO c (.Expr (.Call (.Attribute (.Name x p) "append" apos) [e] [] cpos) pos) (fun ρ h => match ρ[i]? with
    | some (.own (.lst xs)) => (f ρ h).bind fun d h => if xs.length < line then .ok (.nx (ρ.set i (.own (.lst (xs ++ [d]))))) h else .stuck
    | _ => .stuck) := by
  obtain ⟨t, pt, q⟩ := h
  refine ⟨tDrop (tBM c.G.K "list" rAppend (tVar i) (tCons t tNil)), fun X hx => ps_expr (by rw [← hx.eK]; exact bm_of PySem.F.slot_list_append PySem.F.type_list_append mt_append (pe_var (by rw [hx.eN]; exact hN) (hx.vis hv) hd hcd) (pt X hx) rfl hp hl) rfl, fun ha B0 Wr H0 own ρ hs σ H D S p => ?_⟩
  dsimp only at p
  split at p
  · rename_i xs e1
    obtain ⟨_, a, e2, e3⟩ := S.at_ i _ e1
    have at_ : ∀ {hs H}, ESim c.G ha (BB B0 own) ρ hs σ H → ∃ vs, a ≠ ha ∧ H a = some (.lst vs) ∧ Reps c.G ha (BB B0 own) H xs vs := fun {hs H} S => by
      obtain ⟨v, q1, q2⟩ := S.at_ i _ e1
      rw [e3] at q1
      cases q1
      simp only [WRep] at q2
      obtain ⟨a', vs, w1, w2, w3, w4⟩ := q2
      cases w1
      exact ⟨vs, w2, w3, w4⟩
    obtain ⟨vs, _, s, _⟩ := at_ S.sim
    refine ⟨_, e3, .inl ⟨rfl, vs, .inl (.inl s)⟩, ?_⟩
    refine q ha _ ρ hs σ H _ S.sim (SPost.first S p fun d hs1 _ v H1 k1 h1 r1 p' => ?_)
    have S1 := S.later k1 h1
    obtain ⟨us, _, s1, rs⟩ := at_ S1.sim
    split at p'
    · rename_i hl
      refine ⟨a, us, v, rfl, rfl, s1, by rw [line_eq, ← rs.length]; exact hl, ?_⟩
      exact p' _ _ _ (S1.wrt e1 e3 (rs.append (.cons r1 .nil)))
    · exact p'.elim
  · exact p.elim
theorem mo_ext {x : Str} {i : Nat} {e : Expr} {f : PEnv → HS → Res D} {p apos cpos pos : Pos} (hN : c.N[i]? = some x) (hv : Vis c.sc x) (hd : (x == ("__debug__" : Str)) = false) (hcd : (x == ("__classdict__" : Str)) = false) (hp : plainE e = true) (hl : (apos.endLine == cpos.line) = true) (h : ES .wk c e f) :
    MO c (.Expr (.Call (.Attribute (.Name x p) "extend" apos) [e] [] cpos) pos) (fun ρ h => match ρ[i]? with
    | some (.own (.lst xs)) => (f ρ h).bind fun d h => match d with
      | .lst ys => if xs.length + ys.length ≤ line then .ok (.nx (ρ.set i (.own (.lst (xs ++ ys))))) h else .stuck
      | _ => .stuck
    | _ => .stuck) := by
  obtain ⟨t, pt, q⟩ := h
  refine ⟨tDrop (tBM c.G.K "list" rExtend (tVar i) (tCons t tNil)), fun X hx => ps_expr (by rw [← hx.eK]; exact bm_of PySem.F.slot_list_extend PySem.F.type_list_extend mt_extend (pe_var (by rw [hx.eN]; exact hN) (hx.vis hv) hd hcd) (pt X hx) rfl hp hl) rfl, fun ha B0 Wr H0 own ρ hs σ H D S p => ?_⟩
  dsimp only at p
  split at p
  · rename_i xs e1
    obtain ⟨_, a, e2, e3⟩ := S.at_ i _ e1
    have at_ : ∀ {hs H}, ESim c.G ha (BB B0 own) ρ hs σ H → ∃ vs, a ≠ ha ∧ H a = some (.lst vs) ∧ Reps c.G ha (BB B0 own) H xs vs := fun {hs H} S => by
      obtain ⟨v, q1, q2⟩ := S.at_ i _ e1
      rw [e3] at q1
      cases q1
      simp only [WRep] at q2
      obtain ⟨a', vs, w1, w2, w3, w4⟩ := q2
      cases w1
      exact ⟨vs, w2, w3, w4⟩
    obtain ⟨vs, _, s, _⟩ := at_ S.sim
    refine ⟨_, e3, .inl ⟨rfl, vs, .inl (.inl s)⟩, ?_⟩
    refine q ha _ ρ hs σ H _ S.sim (SPost.first S p fun d hs1 _ v H1 k1 h1 r1 p' => ?_)
    have S1 := S.later k1 h1
    obtain ⟨us, _, s1, rs⟩ := at_ S1.sim
    split at p'
    · split at p'
      · rename_i ys hl
        obtain ⟨b, ws, rfl, s2, rs2⟩ := (re_w r1).lst_
        refine ⟨a, b, us, ws, rfl, rfl, s1, s2, by rw [line_eq, ← rs.length, ← rs2.length]; exact hl, ?_⟩
        exact p' _ _ _ (S1.wrt e1 e3 (rs.append rs2))
      · exact p'.elim
    · exact p'.elim
  · exact p.elim

/-! ### x[k] = e -/
theorem setD_ok {xs ys : List D} {z d : D} (h : setD xs z d = some ys) : ∃ k j, z = .int k ∧ PD.ixN xs.length k = some j ∧ ys = xs.set j d := by
  unfold setD at h
  cases z with
  | int k =>
    simp only [Option.map_eq_some_iff] at h
    obtain ⟨j, e, rfl⟩ := h
    exact ⟨k, j, rfl, e, rfl⟩
  | _ => cases h
theorem mo_setIx {x : Str} {i : Nat} {b e : Expr} {f g : PEnv → HS → Res D} {p tp pos : Pos} (hN : c.N[i]? = some x) (hv : Vis c.sc x) (hd : (x == ("__debug__" : Str)) = false) (hcd : (x == ("__classdict__" : Str)) = false) (hw : plainV e = true) (hix : plainIx b = true) (h : ES .st c e f) (h2 : ES .wk c b g) :
    MO c (.Assign [.Subscript (.Name x p) b tp] e pos) (fun ρ h => (f ρ h).bind fun d h => match ρ[i]? with
    | some (.own (.lst xs)) => (g ρ h).bind fun z h => ofO ((setD xs z d).map fun ys => .nx (ρ.set i (.own (.lst ys)))) h
    | some (.val .hnd) => (g ρ h).bind fun z h => (match setD h z d with
      | some h' => .ok (.nx ρ) h'
      | none => .stuck)
    | _ => .stuck) := by
  obtain ⟨t, pt, q⟩ := h
  obtain ⟨u, pu, q2⟩ := h2
  refine ⟨tAsg t (gSub (tVar i) u rSetL), fun X hx => ps_asg (pt X hx) (pg_sub (pe_var (by rw [hx.eN]; exact hN) (hx.vis hv) hd hcd) (pu X hx) set_list (fun v => by cases b <;> first | rfl | cases hix)) (by cases e <;> first | rfl | cases hw) (by cases e <;> rfl) rfl, fun ha B0 Wr H0 own ρ hs σ H D S p => ?_⟩
  refine q ha _ ρ hs σ H _ S.sim (SPost.first S p fun d hs1 _ v H1 k1 h1 r1 p' => ?_)
  have S1 := S.later k1 h1
  have r1 : Rep c.G ha (BB B0 own) H1 d v := r1
  split at p'
  · rename_i xs e1
    obtain ⟨_, a, e2, e3⟩ := S.at_ i _ e1
    refine ⟨_, e3, q2 ha _ ρ hs1 σ H1 _ S1.sim (SPost.first S1 p' fun z hs2 ez vz H2 k2 h2 r2 p3 => ?_)⟩
    have S2 := S1.later k2 h2
    have rd : Rep c.G ha (BB B0 own) H2 d v := Rep.keep (k2.imp fun b z => by rw [z]; exact .inl S.hB) r1
    cases ej : setD xs z d with
    | none => rw [ej] at p3; exact p3.elim
    | some ys =>
      rw [ej] at p3
      obtain ⟨k, j, rfl, e4, rfl⟩ := setD_ok ej
      obtain ⟨v', q1, q2'⟩ := S2.sim.at_ i _ e1
      rw [e3] at q1
      cases q1
      simp only [WRep] at q2'
      obtain ⟨a', vs, w1, w2, w3, w4⟩ := q2'
      cases w1
      refine ⟨a, vs, k, j, rfl, (re_w r2).int_, w3, ?_, ?_⟩
      · rw [← w4.length]
        exact e4
      · exact p3 _ _ _ (S2.wrt e1 e3 (Reps.set rd j w4))
  · rename_i hh
    obtain ⟨w, ew, rw_⟩ := S.sim.at_ i _ hh
    simp only [Rep] at rw_
    subst rw_
    refine ⟨_, ew, q2 ha _ ρ hs1 σ H1 _ S1.sim (SPost.first S1 p' fun z hs2 ez vz H2 k2 h2 r2 p3 => ?_)⟩
    have S2 := S1.later k2 h2
    have rd : Rep c.G ha (BB B0 own) H2 d v := Rep.keep (k2.imp fun b z => by rw [z]; exact .inl S.hB) r1
    cases ej : setD hs2 z d with
    | none => rw [ej] at p3; exact p3.elim
    | some ys =>
      rw [ej] at p3
      obtain ⟨k, j, rfl, e4, rfl⟩ := setD_ok ej
      obtain ⟨vs, w3, w4⟩ := h2.at_
      refine ⟨ha, vs, k, j, rfl, (re_w r2).int_, w3, ?_, ?_⟩
      · rw [← w4.length]
        exact e4
      · exact p3 _ _ _ (S2.wrh (Reps.set rd j w4))
  · exact p'.elim

/-! ### loops -/
section
variable {G : Cfg} {ha : Addr} {B0 Wr : Addr → Prop} {H0 H H1 : Hp} {own : Own} {ρ : PEnv} {hs hs1 : HS} {σ : St}
theorem mo_whl {e : Expr} {b : List Stmt} {f : PEnv → HS → Res Bool} {g : Mng} {pos : Pos} (h : CS c e f) (hb : MS c b g) : MO c (.While e b [] pos) (fun ρ h => whileL f g ρ h) := by
  obtain ⟨t, pt, q⟩ := h
  obtain ⟨u, pu, q2⟩ := hb
  refine ⟨tWhile t u, fun X hx => ps_while hx.own (pt X hx) (pu X hx), fun ha B0 Wr H0 own ρ hs σ H D S p => ?_⟩
  have hne : whileL f g ρ hs ≠ .stuck := fun z => by
    dsimp only at p
    rw [z] at p
    exact p
  obtain ⟨n, en⟩ := whileL_ex hne
  have p : SPost c.G ha B0 Wr H0 D c.E (whileL f g ρ hs) := p
  rw [en] at p
  refine ⟨fun m σ' H' => ∃ own' ρ' hs', SSim c.G ha B0 Wr H0 own' ρ' hs' σ' H' ∧ SPost c.G ha B0 Wr H0 D c.E (whileN f g m ρ' hs'), ⟨n, own, ρ, hs, S, p⟩, ?_⟩
  rintro m σ' H' ⟨own', ρ', hs', S', p'⟩
  cases m with
  | zero => exact p'.elim
  | succ m =>
    rw [whileN] at p'
    refine q ha _ ρ' hs' σ' H' _ S'.sim (SPost.first S' p' fun x hs1 _ v H1 k1 h1 r1 p2 => ?_)
    have r1 : v = x := r1
    subst r1
    cases v with
    | true =>
      rw [if_pos rfl] at p2 ⊢
      refine ⟨fun σ2 H2 => ∃ own' ρ' hs', SSim c.G ha B0 Wr H0 own' ρ' hs' σ2 H2 ∧ SPost c.G ha B0 Wr H0 D c.E (whileN f g m ρ' hs'), fun σ2 H2 z => ⟨m, Nat.lt_succ_self m, z⟩, ?_⟩
      exact q2 ha B0 Wr H0 own' ρ' hs1 σ' H1 _ (S'.later k1 h1) (p2.seq (fun ρ h _ p => fun own σ H S => ⟨own, ρ, h, S, p⟩) (fun ρ h _ p => p) (fun ρ h _ p => fun own σ H S => ⟨own, ρ, h, S, p⟩) (fun d h _ p => p))
    | false =>
      rw [if_neg Bool.false_ne_true] at p2 ⊢
      exact p2 _ _ _ (S'.later k1 h1)
/-- what may be written from here on -/
def WrOf (ha : Addr) (own : Own) : Addr → Prop := fun b => b = ha ∨ ∃ i, own i = some b
theorem SSim.enter (S : SSim G ha B0 Wr H0 own ρ hs σ H) : SSim G ha B0 (WrOf ha own) H own ρ hs σ H := ⟨S.inj, fun i a e => ⟨.inl (.inr ⟨i, e⟩), (S.fr i a e).2⟩, .refl, .inl rfl, S.hB, S.sim, S.at_, S.of⟩
theorem keep_leave (S : SSim G ha B0 Wr H0 own ρ hs σ H) (k : Keep (WrOf ha own) H H1) : Keep Wr H0 H1 := by
  refine ⟨fun b o n e t => k.at_ b o ?_ (S.ext.at_ b o n e t) t, fun b xs e => k.tup b xs (S.ext.tup b xs e), fun b o u e => k.frz b o u (S.ext.frz b o u e)⟩
  rintro (z | ⟨i, z⟩)
  · exact n (z ▸ S.hW)
  · rcases (S.fr i b z).1 with y | y
    · exact n y
    · exact y o e t
theorem SSim.leave {own' : Own} {ρ' : PEnv} {hs' : HS} {σ' : St} (S : SSim G ha B0 Wr H0 own ρ hs σ H) (S' : SSim G ha B0 (WrOf ha own) H own' ρ' hs' σ' H1) : SSim G ha B0 Wr H0 own' ρ' hs' σ' H1 := by
  refine ⟨S'.inj, fun i a e => ⟨?_, (S'.fr i a e).2⟩, keep_leave S S'.ext, S.hW, S.hB, S'.sim, S'.at_, S'.of⟩
  rcases (S'.fr i a e).1 with (z | ⟨j, z⟩) | z
  · exact .inl (z ▸ S.hW)
  · exact (S.fr j a z).1
  · by_cases hw : Wr a
    · exact .inl hw
    · exact .inr fun o e n => z o (S.ext.at_ a o hw e n) n
theorem NPost.enter {N : St → Hp → Prop} (S : SSim G ha B0 Wr H0 own ρ hs σ H) {ρ' : PEnv} {hs' : HS} (p : NPost G ha B0 Wr H0 N ρ' hs') : NPost G ha B0 (WrOf ha own) H N ρ' hs' := fun own' σ' H' S' => p own' σ' H' (S.leave S')
theorem SPost.enter {D : Ends} {E : XK} {r : Res Fl} (S : SSim G ha B0 Wr H0 own ρ hs σ H) (p : SPost G ha B0 Wr H0 D E r) : SPost G ha B0 (WrOf ha own) H D E r := by
  cases r with
  | stuck => exact p
  | exc e h => exact fun dx H' k hh q => p dx H' (keep_leave S k) hh q
  | ok x h =>
    cases x with
    | nx ρ => exact NPost.enter S p
    | bk ρ => exact NPost.enter S p
    | ct ρ => exact NPost.enter S p
    | rt d => exact fun v H' k hh q => p v H' (keep_leave S k) hh q
theorem mo_for {tg iter : Expr} {it : IT} {b : List Stmt} {fs : PEnv → HS → Res (List D)} {g : Mng} {pos : Pos} (hc : c.calm = true) (hw : WS c tg iter false fs) (hg : GS c tg it) (hb : MS c b g) (hp : plainS iter = true) :
    MO c (.For tg iter b [] pos) (fun ρ h => (fs ρ h).bind fun its h => forL (fun d ρ h => match asgT it d ρ with
    | some ρ' => g ρ' h
    | none => .stuck) its ρ h) := by
  obtain ⟨wi, pw, qw⟩ := hw
  obtain ⟨gt, pg, qg⟩ := hg
  obtain ⟨u, pu, q2⟩ := hb
  refine ⟨tFor wi gt u, fun X hx => ps_for hx.own (hx.eC.trans hc) (pw X hx) (pg X hx) (pu X hx) (set_of hp), fun ha B0 Wr H0 own ρ hs σ H D S p => ?_⟩
  refine qw ha _ ρ hs σ H _ S.sim (SPost.first S p fun its hs1 _ J H1 k1 h1 w p' => ?_)
  have S1 := S.later k1 h1
  have w : Walk J its.length (Std false ha (BB B0 own) H1) (YW c.G false ha (BB B0 own) H1 its) := w
  refine for_it w (fun i σ2 H2 => ∃ own2 ρ2 hs2, SSim c.G ha B0 (WrOf ha own) H1 own2 ρ2 hs2 σ2 H2 ∧ SPost c.G ha B0 Wr H0 D c.E (forL (fun d ρ h => match asgT it d ρ with
    | some ρ' => g ρ' h
    | none => .stuck) (its.drop i) ρ2 hs2)) ?_ ?_ ?_ ?_
  · exact ⟨own, ρ, hs1, S1.enter, by rw [List.drop_zero]; exact p'⟩
  · rintro i σ2 H2 _ ⟨own2, ρ2, hs2, S2, _⟩
    refine ⟨fun b => BB B0 own b ∨ BB B0 own2 b, ⟨.inl (.inl S.hB), fun b z => ?_⟩, ?_⟩
    · rcases z with z | z | ⟨j, z⟩
      · exact .inl z
      · exact .inl (.inl z)
      · rcases (S2.fr j b z).1 with (y | y) | y
        · exact .inl (.inl (y ▸ S.hB))
        · exact .inl (.inr y)
        · exact .inr y
    · refine S2.ext.imp fun b z => .inl ?_
      rcases z with z | z
      · exact .inl (z ▸ S.hB)
      · exact .inr z
  · rintro i x σ2 H2 H2' hlt ⟨own2, ρ2, hs2, S2, p2⟩ ⟨sm, d, hd, hr⟩
    have hlt' : i < its.length := hlt
    have ed' : its.drop i = d :: its.drop (i + 1) := by
      obtain ⟨hlt2, e⟩ := List.getElem?_eq_some_iff.mp hd
      rw [List.drop_eq_getElem_cons hlt', e]
    rw [ed'] at p2
    simp only [forL] at p2
    have bok : BOk ha (BB B0 own) (fun b => BB B0 own b ∨ BB B0 own2 b) H1 := ⟨.inl (.inl S.hB), fun b z => by
      rcases z with z | z | ⟨j, z⟩
      · exact .inl z
      · exact .inl (.inl z)
      · rcases (S2.fr j b z).1 with (y | y) | y
        · exact .inl (.inl (y ▸ S.hB))
        · exact .inl (.inr y)
        · exact .inr y⟩
    have kk : Keep (fun b => BB B0 own b ∨ BB B0 own2 b) H1 H2 := S2.ext.imp fun b z => .inl (z.elim (fun y => .inl (y ▸ S.hB)) .inr)
    have rx : Rep c.G ha (BB B0 own2) H2' d x := Rep.sub (hr _ bok kk) fun b z => .inr z
    have S2' : SSim c.G ha B0 (WrOf ha own) H1 own2 ρ2 hs2 σ2 H2' := S2.later (Keep.of_same sm) (S2.sim.hnd.same sm)
    cases ea : asgT it d ρ2 with
    | none => rw [ea] at p2; exact p2.elim
    | some ρ3 =>
      rw [ea] at p2
      dsimp only at p2
      refine qg ha _ H2' d x σ2 ρ2 ρ3 _ rx ea S2'.sim.len fun σ3 st => ?_
      obtain ⟨own3, S3⟩ := S2'.stored st
      refine q2 ha B0 (WrOf ha own) H1 own3 ρ3 hs2 σ3 H2' _ S3 ?_
      refine (SPost.enter S1 p2).seq (fun ρ h e _ => ?_) (fun ρ h e _ => ?_) (fun ρ h e _ => ?_) (fun d h e _ => ?_)
      · rw [e] at p2
        exact fun own σ H S => ⟨own, ρ, h, S, p2⟩
      · rw [e] at p2
        exact NPost.enter S1 p2
      · rw [e] at p2
        exact fun own σ H S => ⟨own, ρ, h, S, p2⟩
      · rw [e] at p2
        exact SPost.enter (D := D) (r := .ok (.rt d) h) S1 p2
  · rintro σ2 H2 ⟨own2, ρ2, hs2, S2, p2⟩
    rw [List.drop_length] at p2
    exact p2 _ _ _ (S1.leave S2)
end
end
end PD

set_option Elab.async false
set_option linter.all false
set_option maxRecDepth 100000
set_option maxHeartbeats 2000000
/-! P15: a, b = x, y. -/
namespace PD
open PySem PySem.Spec PyProof.Rows L2 RZ
/-- values made one after another; os: the new lists' addresses -/
structure ParOk (G : Cfg) (ha : Addr) (B : Addr → Prop) (H0 H : Hp) (fl : List Bool) (ds : List D) (vs : List V) (hs : HS) (os : List (Option Addr)) : Prop where
  l1 : vs.length = ds.length
  l2 : os.length = ds.length
  l3 : fl.length = ds.length
  hnd : Hnd G ha (fun b => B b ∨ some b ∈ os) H hs
  fr : ∀ p, some p ∈ os → FreshAt H0 p ∧ ¬ B p
  dist : ∀ (j k : Nat) p, os[j]? = some (some p) → os[k]? = some (some p) → j = k
  new : ∀ (k : Nat) d v p, ds[k]? = some d → vs[k]? = some v → os[k]? = some (some p) → v = .ref p ∧ atom d = false ∧ fl[k]? = some true ∧ WRep G ha (fun b => B b ∨ some b ∈ os) H d v
  old : ∀ (k : Nat) d v, ds[k]? = some d → vs[k]? = some v → os[k]? = some none → (fl[k]? = some true → atom d = true) ∧ Rep G ha (fun b => B b ∨ some b ∈ os) H d v
def RPar (G : Cfg) (ha : Addr) (B : Addr → Prop) (fl : List Bool) : Rl (List D) (List V) := fun H0 ds vs hs H => ∃ os, ParOk G ha B H0 H fl ds vs hs os
theorem lifts_P {G : Cfg} {ha : Addr} {B : Addr → Prop} {fl : List Bool} : Lifts G ha B (RPar G ha B fl) := fun H H1 H' hs hs' a v k hh ⟨os, p⟩ => by
  refine ⟨os, { p with fr := fun q hq => ?_ }⟩
  obtain ⟨f, n⟩ := p.fr q hq
  refine ⟨fun o e t => ?_, n⟩
  by_cases hp : q = ha
  · exact n (hp ▸ hh.hB)
  · exact f o (k.at_ q o hp e t) t
def PSn (c : Ctx) (fl : List Bool) (es : List Expr) (f : PEnv → HS → Res (List D)) : Prop :=
  ∃ t : TA, (∀ X, XOk c X → PA X es t) ∧ ∀ ha B ρ hs σ H Q, ESim c.G ha B ρ hs σ H → RPost c.G ha B H (RPar c.G ha B fl) Q c.E (f ρ hs) → t σ H Q
section
variable {c : Ctx}
theorem psn_nil : PSn c [] [] (fun _ h => .ok [] h) := ⟨tNil, fun X _ => pa_nil, fun ha B ρ hs σ H Q S p => p [] H .refl S.hnd ⟨[], { l1 := rfl, l2 := rfl, l3 := rfl, hnd := S.hnd.sub (.inl S.hnd.hB) (fun b z => z.elim id fun y => nomatch y), fr := fun p z => (nomatch z), dist := fun j k p z => (nomatch z), new := fun k d v p z => (nomatch z), old := fun k d v z => (nomatch z) }⟩⟩
def mdFl (o : Bool) : Md := if o = true then .fr else .st
theorem getElem?_succ_cons {α : Type} {a : α} {l : List α} {k : Nat} : (a :: l)[k + 1]? = l[k]? := List.getElem?_cons_succ
theorem psn_cons {o : Bool} {fl : List Bool} {e : Expr} {es : List Expr} {f : PEnv → HS → Res D} {fs : PEnv → HS → Res (List D)} (h1 : ES (mdFl o) c e f) (h2 : PSn c fl es fs) (hp : plainE e = true) :
    PSn c (o :: fl) (e :: es) (fun ρ h => (f ρ h).bind fun x h => (fs ρ h).bind fun xs h => .ok (x :: xs) h) := by
  obtain ⟨t1, p1, q1⟩ := h1
  obtain ⟨t2, p2, q2⟩ := h2
  refine ⟨tCons t1 t2, fun X hx => pa_cons (p1 X hx) (p2 X hx) (star_of hp), fun ha B ρ hs σ H Q S p => ?_⟩
  dsimp only at p
  have q1 := fun Q => q1 ha B ρ hs σ H Q S
  cases ef : f ρ hs with
  | stuck => rw [ef] at p; exact p.elim
  | exc e h =>
    rw [ef] at p q1
    exact q1 _ p
  | ok d hs1 =>
  rw [ef] at p q1
  have p2' : RPost c.G ha B H (RPar c.G ha B (o :: fl)) Q c.E ((fs ρ hs1).bind fun xs h => .ok (d :: xs) h) := p
  refine q1 _ fun v H1 k1 h1 r1 => ?_
  -- is it a new list
  have hcase : (∃ p, v = .ref p ∧ atom d = false ∧ o = true ∧ FreshAt H p ∧ ¬ B p ∧ Hnd c.G ha (fun b => B b ∨ b = p) H1 hs1 ∧ WRep c.G ha (fun b => B b ∨ b = p) H1 d v) ∨ ((o = true → atom d = true) ∧ Rep c.G ha B H1 d v) := by
    cases o with
    | false => exact .inr ⟨(fun z => nomatch z), r1⟩
    | true =>
      have r1 : Fresh c.G ha B H H1 d v hs1 := r1
      cases ht : atom d with
      | true => exact .inr ⟨fun _ => rfl, Fresh.rep r1⟩
      | false =>
        left
        cases d with
        | lst ds =>
          obtain ⟨p, vs, ev, fp, np, s, hh, rs⟩ := r1
          refine ⟨p, ev, rfl, rfl, fp, np, hh, ?_⟩
          simp only [WRep]
          exact ⟨p, vs, ev, fun z => np (z ▸ S.hnd.hB), s, rs⟩
        | dct ks ys =>
          obtain ⟨p, vs, ev, fp, np, s, hh, q, rs⟩ := r1
          refine ⟨p, ev, rfl, rfl, fp, np, hh, ?_⟩
          simp only [WRep]
          exact ⟨p, vs, ev, fun z => np (z ▸ S.hnd.hB), s, q, rs⟩
        | _ => cases ht
  rcases hcase with ⟨p0, ev, ht, ho, fp, np, hh, rd⟩ | ⟨ho, rd⟩
  · have S1 : ESim c.G ha (fun b => B b ∨ b = p0) ρ hs1 σ H1 := S.later (fun b z => z.elim .inl fun y => .inr (by rw [y]; exact fp)) k1 hh
    -- the end, in the larger set
    have conv : RPost c.G ha (fun b => B b ∨ b = p0) H1 (RPar c.G ha (fun b => B b ∨ b = p0) fl) (fun vs H2 => Q (v :: vs) H2) c.E (fs ρ hs1) := by
      cases e2 : fs ρ hs1 with
      | stuck => rw [e2] at p2'; exact p2'
      | exc e h =>
        rw [e2] at p2'
        exact fun dx H2 k2 h2 x => p2' dx H2 (k1.trans k2) (h2.sub S.hnd.hB fun b z => .inl z) x
      | ok ds hs2 =>
        rw [e2] at p2'
        intro vs H2 k2 h2 ⟨os, pk⟩
        have sub1 : ∀ b, (B b ∨ some b ∈ some p0 :: os) → ((B b ∨ b = p0) ∨ some b ∈ os) := fun b z => by
          rcases z with z | z
          · exact .inl (.inl z)
          · rcases List.mem_cons.mp z with z | z
            · exact .inl (.inr (Option.some.inj z))
            · exact .inr z
        refine p2' (v :: vs) H2 (k1.trans k2) (h2.sub S.hnd.hB fun b z => .inl z) ⟨some p0 :: os, ?_⟩
        have sup : ∀ b, ((B b ∨ b = p0) ∨ some b ∈ os) → (B b ∨ some b ∈ some p0 :: os) := fun b z => by
          rcases z with (z | z) | z
          · exact .inl z
          · exact .inr (List.mem_cons.mpr (.inl (by rw [z])))
          · exact .inr (List.mem_cons_of_mem _ z)
        have eqB : (fun b => B b ∨ some b ∈ some p0 :: os) = (fun b => (B b ∨ b = p0) ∨ some b ∈ os) := funext fun b => propext ⟨sub1 b, sup b⟩
        have np0 : some p0 ∉ os := fun z => (pk.fr p0 z).2 (.inr rfl)
        refine ⟨by rw [List.length_cons, List.length_cons, pk.l1], by rw [List.length_cons, List.length_cons, pk.l2], by rw [List.length_cons, List.length_cons, pk.l3], by rw [eqB]; exact pk.hnd, fun q hq => ?_, fun j k q e1 e2 => ?_, fun k d' v' q e1 e2 e3 => ?_, fun k d' v' e1 e2 e3 => ?_⟩
        · rcases List.mem_cons.mp hq with hq | hq
          · cases hq
            exact ⟨fp, np⟩
          · obtain ⟨f1, f2⟩ := pk.fr q hq
            refine ⟨fun o e t => ?_, fun z => f2 (.inl z)⟩
            by_cases hqa : q = ha
            · exact f2 (.inl (hqa ▸ S.hnd.hB))
            · exact f1 o (k1.at_ q o hqa e t) t
        · cases j with
          | zero =>
            cases k with
            | zero => rfl
            | succ k =>
              rw [List.getElem?_cons_zero] at e1
              cases e1
              rw [List.getElem?_cons_succ] at e2
              exact absurd (List.mem_of_getElem? e2) np0
          | succ j =>
            cases k with
            | zero =>
              rw [List.getElem?_cons_zero] at e2
              cases e2
              rw [List.getElem?_cons_succ] at e1
              exact absurd (List.mem_of_getElem? e1) np0
            | succ k =>
              rw [List.getElem?_cons_succ] at e1 e2
              rw [pk.dist j k q e1 e2]
        · cases k with
          | zero =>
            rw [List.getElem?_cons_zero] at e1 e2 e3
            cases e1
            cases e2
            cases e3
            refine ⟨ev, ht, by rw [List.getElem?_cons_zero, ho], ?_⟩
            rw [eqB]
            have chb : ∀ b, ((B b ∨ b = p0) ∨ some b ∈ os) → (B b ∨ b = p0) ∨ FreshAt H1 b := fun b z => z.elim .inl fun y => .inr (pk.fr b y).1
            exact WRep.keep pk.hnd.hB k2 (WRep.chg chb rd)
          | succ k =>
            rw [List.getElem?_cons_succ] at e1 e2 e3
            obtain ⟨w1, w2, w3, w4⟩ := pk.new k d' v' q e1 e2 e3
            exact ⟨w1, w2, by rw [List.getElem?_cons_succ]; exact w3, by rw [eqB]; exact w4⟩
        · cases k with
          | zero =>
            rw [List.getElem?_cons_zero] at e3
            cases e3
          | succ k =>
            rw [List.getElem?_cons_succ] at e1 e2 e3
            obtain ⟨w1, w2⟩ := pk.old k d' v' e1 e2 e3
            exact ⟨by rw [List.getElem?_cons_succ]; exact w1, by rw [eqB]; exact w2⟩
    exact q2 ha _ ρ hs1 σ H1 _ S1 conv
  · have S1 := S.ext k1 h1
    have q2 := fun Q => q2 ha B ρ hs1 σ H1 Q S1
    cases e2 : fs ρ hs1 with
    | stuck => rw [e2] at p2'; exact p2'.elim
    | exc e h =>
      rw [e2] at p2' q2
      exact q2 _ fun dx H2 k2 h2 x => p2' dx H2 (k1.trans k2) h2 x
    | ok ds hs2 =>
    rw [e2] at p2' q2
    refine q2 _ fun vs H2 k2 h2 ⟨os, pk⟩ => ?_
    refine p2' (v :: vs) H2 (k1.trans k2) h2 ⟨none :: os, ?_⟩
    have mem : ∀ b, some b ∈ none :: os ↔ some b ∈ os := fun b => by simp
    have eqB : (fun b => B b ∨ some b ∈ none :: os) = (fun b => B b ∨ some b ∈ os) := funext fun b => propext (or_congr Iff.rfl (mem b))
    refine ⟨by rw [List.length_cons, List.length_cons, pk.l1], by rw [List.length_cons, List.length_cons, pk.l2], by rw [List.length_cons, List.length_cons, pk.l3], by rw [eqB]; exact pk.hnd, fun q hq => ?_, fun j k q e1 e2 => ?_, fun k d' v' q e1 e2 e3 => ?_, fun k d' v' e1 e2 e3 => ?_⟩
    · obtain ⟨f1, f2⟩ := pk.fr q ((mem q).mp hq)
      refine ⟨fun o e t => ?_, f2⟩
      by_cases hqa : q = ha
      · exact f2 (hqa ▸ S.hnd.hB)
      · exact f1 o (k1.at_ q o hqa e t) t
    · cases j with
      | zero => rw [List.getElem?_cons_zero] at e1; cases e1
      | succ j =>
        cases k with
        | zero => rw [List.getElem?_cons_zero] at e2; cases e2
        | succ k =>
          rw [List.getElem?_cons_succ] at e1 e2
          rw [pk.dist j k q e1 e2]
    · cases k with
      | zero => rw [List.getElem?_cons_zero] at e3; cases e3
      | succ k =>
        rw [List.getElem?_cons_succ] at e1 e2 e3
        obtain ⟨w1, w2, w3, w4⟩ := pk.new k d' v' q e1 e2 e3
        exact ⟨w1, w2, by rw [List.getElem?_cons_succ]; exact w3, by rw [eqB]; exact w4⟩
    · cases k with
      | zero =>
        rw [List.getElem?_cons_zero] at e1 e2
        cases e1
        cases e2
        refine ⟨fun z => ho (by simpa using z), ?_⟩
        rw [eqB]
        have chb : ∀ b, (B b ∨ some b ∈ os) → B b ∨ FreshAt H1 b := fun b z => z.elim .inl fun y => .inr (pk.fr b y).1
        exact Rep.keep (k2.imp fun b z => by rw [z]; exact .inl h2.hB) (Rep.chg chb rd)
      | succ k =>
        rw [List.getElem?_cons_succ] at e1 e2 e3
        obtain ⟨w1, w2⟩ := pk.old k d' v' e1 e2 e3
        exact ⟨by rw [List.getElem?_cons_succ]; exact w1, by rw [eqB]; exact w2⟩
end
/-! ### stored -/
structure SPend (G : Cfg) (ha : Addr) (B0 Wr Pd : Addr → Prop) (H0 : Hp) (own : Own) (ρ : PEnv) (hs : HS) (σ : St) (H : Hp) : Prop where
  inj : ∀ i j a, own i = some a → own j = some a → i = j
  fr : ∀ i a, own i = some a → (Wr a ∨ FreshAt H0 a) ∧ ¬ B0 a
  ext : Keep Wr H0 H
  hW : Wr ha
  hB : B0 ha
  sim : ESim G ha (fun b => BB B0 own b ∨ Pd b) ρ hs σ H
  at_ : ∀ (i : Nat) d, ρ[i]? = some (.own d) → atom d = false ∧ ∃ a, own i = some a ∧ σ[i]? = some (some (.ref a))
  of : ∀ i a, own i = some a → ∃ d, ρ[i]? = some (.own d)
  pf : ∀ p, Pd p → (Wr p ∨ FreshAt H0 p) ∧ ¬ BB B0 own p
section
variable {G : Cfg} {ha : Addr} {B0 Wr Pd Pd' : Addr → Prop} {H0 H H1 : Hp} {own : Own} {ρ : PEnv} {hs hs1 : HS} {σ : St}
theorem ESim.sub {B B' : Addr → Prop} (S : ESim G ha B ρ hs σ H) (hb : B' ha) (k : ∀ b, B' b → B b) : ESim G ha B' ρ hs σ H := S.later (fun b z => .inl (k b z)) .refl (S.hnd.sub hb k)
theorem SPend.done (S : SPend G ha B0 Wr Pd H0 own ρ hs σ H) : SSim G ha B0 Wr H0 own ρ hs σ H := ⟨S.inj, S.fr, S.ext, S.hW, S.hB, S.sim.sub (.inl S.hB) fun b z => .inl z, S.at_, S.of⟩
theorem SPend.less (S : SPend G ha B0 Wr Pd H0 own ρ hs σ H) (h : ∀ p, Pd' p → Pd p) : SPend G ha B0 Wr Pd' H0 own ρ hs σ H := ⟨S.inj, S.fr, S.ext, S.hW, S.hB, S.sim.sub (.inl (.inl S.hB)) fun b z => z.imp id (h b), S.at_, S.of, fun p z => S.pf p (h p z)⟩
theorem SPend.val {i : Nat} {d : D} {v : V} (S : SPend G ha B0 Wr Pd H0 own ρ hs σ H) (r : Rep G ha (fun b => BB B0 own b ∨ Pd b) H d v) : SPend G ha B0 Wr Pd H0 (unown own i) (ρ.set i (.val d)) hs (σ.set i (some v)) H := by
  have sub : ∀ b, (BB B0 (unown own i) b ∨ Pd b) → (BB B0 own b ∨ Pd b) := fun b z => z.imp (unown_sub b) id
  have S1 := S.sim.sub (B' := fun b => BB B0 (unown own i) b ∨ Pd b) (.inl (.inl S.hB)) sub
  refine ⟨fun j k a e1 e2 => S.inj j k a (unown_some e1).1 (unown_some e2).1, fun j a e => S.fr j a (unown_some e).1, S.ext, S.hW, S.hB, ⟨by rw [List.length_set, List.length_set]; exact S.sim.len, fun j s e => ?_, S1.hnd⟩, fun j d' e => ?_, fun j a e => ?_, fun p z => ⟨(S.pf p z).1, fun y => (S.pf p z).2 (unown_sub p y)⟩⟩
  · rcases set_get e with ⟨rfl, rfl, hl⟩ | ⟨hne, e⟩
    · exact ⟨v, List.getElem?_set_self (by rw [S.sim.len]; exact hl), r.sub sub⟩
    · rw [set_out hne]
      exact S1.at_ j s e
  · rcases set_get e with ⟨_, h, _⟩ | ⟨hne, e⟩
    · cases h
    · obtain ⟨h1, a, h2, h3⟩ := S.at_ j d' e
      refine ⟨h1, a, ?_, by rw [set_out hne]; exact h3⟩
      unfold unown
      rw [if_neg (Ne.symm hne)]
      exact h2
  · obtain ⟨e, hne⟩ := unown_some e
    obtain ⟨d', h⟩ := S.of j a e
    exact ⟨d', by rw [set_out (Ne.symm hne)]; exact h⟩
theorem SPend.new {i : Nat} {d : D} {p : Addr} (S : SPend G ha B0 Wr Pd H0 own ρ hs σ H) (hi : i < ρ.length) (ht : atom d = false) (hp : Pd p) (r : WRep G ha (fun b => BB B0 own b ∨ Pd b) H d (.ref p)) :
    SPend G ha B0 Wr (fun b => Pd b ∧ b ≠ p) H0 (reown own i p) (ρ.set i (.own d)) hs (σ.set i (some (.ref p))) H := by
  obtain ⟨fp, np⟩ := S.pf p hp
  have sub : ∀ b, (BB B0 (reown own i p) b ∨ (Pd b ∧ b ≠ p)) → (BB B0 own b ∨ Pd b) := fun b z => by
    rcases z with (z | ⟨j, e⟩) | z
    · exact .inl (.inl z)
    · rcases reown_some e with ⟨_, y⟩ | ⟨_, y⟩
      · exact .inr (y ▸ hp)
      · exact .inl (.inr ⟨j, y⟩)
    · exact .inr z.1
  have S1 := S.sim.sub (B' := fun b => BB B0 (reown own i p) b ∨ (Pd b ∧ b ≠ p)) (.inl (.inl S.hB)) sub
  refine ⟨fun j l a e1 e2 => ?_, fun j a e => ?_, S.ext, S.hW, S.hB, ⟨by rw [List.length_set, List.length_set]; exact S.sim.len, fun j s e => ?_, S1.hnd⟩, fun j d' e => ?_, fun j a e => ?_, fun q z => ⟨(S.pf q z.1).1, fun y => ?_⟩⟩
  · rcases reown_some e1 with ⟨q1, q2⟩ | ⟨q1, q2⟩ <;> rcases reown_some e2 with ⟨q3, q4⟩ | ⟨q3, q4⟩
    · rw [q1, q3]
    · exact absurd (.inr ⟨l, by rw [q2]; exact q4⟩) np
    · exact absurd (.inr ⟨j, by rw [q4]; exact q2⟩) np
    · exact S.inj j l a q2 q4
  · rcases reown_some e with ⟨_, rfl⟩ | ⟨_, q⟩
    · exact ⟨fp, fun z => np (.inl z)⟩
    · exact S.fr j a q
  · rcases set_get e with ⟨rfl, rfl, hl⟩ | ⟨hne, e⟩
    · exact ⟨_, List.getElem?_set_self (by rw [S.sim.len]; exact hl), r.sub sub⟩
    · rw [set_out hne]
      exact S1.at_ j s e
  · rcases set_get e with ⟨rfl, h, hl⟩ | ⟨hne, e⟩
    · cases h
      refine ⟨ht, p, ?_, by rw [List.getElem?_set_self (by rw [S.sim.len]; exact hl)]⟩
      unfold reown
      rw [if_pos rfl]
    · obtain ⟨h1, a, h2, h3⟩ := S.at_ j d' e
      refine ⟨h1, a, ?_, by rw [set_out hne]; exact h3⟩
      unfold reown
      rw [if_neg (Ne.symm hne)]
      exact h2
  · rcases reown_some e with ⟨rfl, _⟩ | ⟨hne, e⟩
    · exact ⟨d, List.getElem?_set_self hi⟩
    · obtain ⟨d', h⟩ := S.of j a e
      exact ⟨d', by rw [set_out (Ne.symm hne)]; exact h⟩
  · rcases y with y | ⟨j, e⟩
    · exact (S.pf q z.1).2 (.inl y)
    · rcases reown_some e with ⟨_, w⟩ | ⟨_, w⟩
      · exact z.2 w.symm
      · exact (S.pf q z.1).2 (.inr ⟨j, w⟩)
/-- all stored, one after another -/
def setAll : List (Nat × Bool) → List V → St → St
  | (i, _) :: is, v :: vs, σ => setAll is vs (σ.set i (some v))
  | _, _, σ => σ
theorem par_all : ∀ {is : List (Nat × Bool)} {ds : List D} {vs : List V} {os : List (Option Addr)} {Pd : Addr → Prop} {own : Own} {ρ ρ' : PEnv} {σ : St} (S : SPend G ha B0 Wr Pd H0 own ρ hs σ H), vs.length = ds.length → os.length = ds.length →
    (∀ p, some p ∈ os → Pd p) → (∀ (j k : Nat) p, os[j]? = some (some p) → os[k]? = some (some p) → j = k) →
    (∀ (k : Nat) d v p, ds[k]? = some d → vs[k]? = some v → os[k]? = some (some p) → v = .ref p ∧ atom d = false ∧ (is.map (·.2))[k]? = some true ∧ WRep G ha (fun b => BB B0 own b ∨ Pd b) H d v) →
    (∀ (k : Nat) d v, ds[k]? = some d → vs[k]? = some v → os[k]? = some none → ((is.map (·.2))[k]? = some true → atom d = true) ∧ Rep G ha (fun b => BB B0 own b ∨ Pd b) H d v) →
    parSet is ds ρ = some ρ' → ∃ own', SSim G ha B0 Wr H0 own' ρ' hs (setAll is vs σ) H
  | [], ds, vs, os, Pd, own, ρ, ρ', σ, S, l1, l2, hp, hd, hn, ho, e => by
    cases ds with
    | nil =>
      simp only [parSet, Option.some.injEq] at e
      subst e
      have : vs = [] := List.length_eq_zero_iff.mp l1
      subst this
      exact ⟨own, S.done⟩
    | cons _ _ => simp only [parSet] at e; cases e
  | (i, o) :: is, ds, vs, os, Pd, own, ρ, ρ', σ, S, l1, l2, hp, hd, hn, ho, e => by
    cases ds with
    | nil => simp only [parSet] at e; cases e
    | cons d ds =>
      cases vs with
      | nil => cases l1
      | cons v vs =>
        cases os with
        | nil => cases l2
        | cons q os =>
          simp only [parSet] at e
          simp only [List.length_cons, Nat.add_right_cancel_iff] at l1 l2
          have hd' : ∀ (j k : Nat) p, os[j]? = some (some p) → os[k]? = some (some p) → j = k := fun j k p e1 e2 => by
            have := hd (j + 1) (k + 1) p (by rw [List.getElem?_cons_succ]; exact e1) (by rw [List.getElem?_cons_succ]; exact e2)
            omega
          have rest : ∀ {Pd' : Addr → Prop} {own' : Own} {ρ1 : PEnv}, SPend G ha B0 Wr Pd' H0 own' ρ1 hs (σ.set i (some v)) H → (∀ p, some p ∈ os → Pd' p) → (∀ b, (BB B0 own' b ∨ Pd' b) → (BB B0 own b ∨ Pd b)) → parSet is ds ρ1 = some ρ' → ∃ own', SSim G ha B0 Wr H0 own' ρ' hs (setAll ((i, o) :: is) (v :: vs) σ) H := fun {Pd' own' ρ1} S' hp' sub e' => by
            refine par_all (is := is) (ds := ds) (vs := vs) (os := os) S' l1 l2 hp' hd' (fun k d' v' p e1 e2 e3 => ?_) (fun k d' v' e1 e2 e3 => ?_) e'
            · obtain ⟨w1, w2, w3, w4⟩ := hn (k + 1) d' v' p (by rw [List.getElem?_cons_succ]; exact e1) (by rw [List.getElem?_cons_succ]; exact e2) (by rw [List.getElem?_cons_succ]; exact e3)
              rw [List.map_cons, List.getElem?_cons_succ] at w3
              exact ⟨w1, w2, w3, w4.sub sub⟩
            · obtain ⟨w1, w2⟩ := ho (k + 1) d' v' (by rw [List.getElem?_cons_succ]; exact e1) (by rw [List.getElem?_cons_succ]; exact e2) (by rw [List.getElem?_cons_succ]; exact e3)
              rw [List.map_cons, List.getElem?_cons_succ] at w1
              exact ⟨w1, w2.sub sub⟩
          cases q with
          | none =>
            obtain ⟨w1, w2⟩ := ho 0 d v rfl rfl rfl
            have es : slotOf o d = .val d := by
              unfold slotOf
              cases o with
              | false => rfl
              | true =>
                rw [w1 rfl]
                rfl
            rw [es] at e
            exact rest (S.val (i := i) w2) (fun p z => hp p (List.mem_cons_of_mem _ z)) (fun b z => z.imp (unown_sub b) id) e
          | some p =>
            obtain ⟨w1, w2, w3, w4⟩ := hn 0 d v p rfl rfl rfl
            have hob : o = true := by simpa using w3
            have es : slotOf o d = .own d := by
              unfold slotOf
              rw [hob, w2]
              rfl
            rw [es] at e
            subst w1
            have npo : some p ∉ os := fun z => by
              obtain ⟨k, hk⟩ := List.getElem?_of_mem z
              have := hd 0 (k + 1) p rfl (by rw [List.getElem?_cons_succ]; exact hk)
              omega
            by_cases hi : i < ρ.length
            · refine rest (S.new hi w2 (hp p List.mem_cons_self) w4) (fun q z => ⟨hp q (List.mem_cons_of_mem _ z), fun y => npo (y ▸ z)⟩) (fun b z => ?_) e
              rcases z with (z | ⟨j, z⟩) | z
              · exact .inl (.inl z)
              · rcases reown_some z with ⟨_, y⟩ | ⟨_, y⟩
                · exact .inr (y ▸ hp p List.mem_cons_self)
                · exact .inl (.inr ⟨j, y⟩)
              · exact .inr z.1
            · have e1 : ρ.set i (.own d) = ρ := List.set_eq_of_length_le (by omega)
              have e2 : σ.set i (some (V.ref p)) = σ := List.set_eq_of_length_le (by have := S.sim.len; omega)
              rw [e1] at e
              refine rest (Pd' := fun b => Pd b) (own' := own) (by rw [e2]; exact S) (fun q z => hp q (List.mem_cons_of_mem _ z)) (fun b z => z) e
/-- from the values made to the slots -/
theorem par_end {is : List (Nat × Bool)} {ds : List D} {vs : List V} {os : List (Option Addr)} {ρ' : PEnv} {H2 : Hp} (S : SSim G ha B0 Wr H0 own ρ hs σ H) (k : Ext ha H H1) (pk : ParOk G ha (BB B0 own) H H1 (is.map (·.2)) ds vs hs1 os) (sm : Same H1 H2) (e : parSet is ds ρ = some ρ') :
    ∃ own', SSim G ha B0 Wr H0 own' ρ' hs1 (setAll is vs σ) H2 := by
  have chb : ∀ b, (BB B0 own b ∨ some b ∈ os) → BB B0 own b ∨ FreshAt H b := fun b z => z.imp id fun y => (pk.fr b y).1
  have P : SPend G ha B0 Wr (fun b => some b ∈ os) H0 own ρ hs1 σ H2 := by
    refine ⟨S.inj, S.fr, S.ext.trans ((k.imp fun b z => z ▸ S.hW).trans (Keep.of_same sm)), S.hW, S.hB, S.sim.later chb (k.trans (Keep.of_same sm)) (pk.hnd.same sm), S.at_, S.of, fun p hp => ?_⟩
    obtain ⟨f1, f2⟩ := pk.fr p hp
    refine ⟨?_, f2⟩
    by_cases hw : Wr p
    · exact .inl hw
    · exact .inr fun o e t => f1 o (S.ext.at_ p o hw e t) t
  have kB : Keep (fun b => BB B0 own b ∨ some b ∈ os) H1 H2 := Keep.of_same sm
  refine par_all P pk.l1 pk.l2 (fun p z => z) pk.dist (fun k d v p e1 e2 e3 => ?_) (fun k d v e1 e2 e3 => ?_) e
  · obtain ⟨w1, w2, w3, w4⟩ := pk.new k d v p e1 e2 e3
    exact ⟨w1, w2, w3, WRep.keep pk.hnd.hB (Keep.of_same sm) w4⟩
  · obtain ⟨w1, w2⟩ := pk.old k d v e1 e2 e3
    exact ⟨w1, Rep.keep kB w2⟩
end
/-! ### the statements -/
section
variable {c : Ctx}
/-- are the names stored from the right, without a pair -/
def swL (sc : Scope) (ts vs : List Expr) : Option (List Str) :=
  if !(ts.length == 2 || ts.length == 3) || vs.length != ts.length || (if sc.kind.isAnnotationScope then .function else sc.kind) != ScopeKind.function then none else
  if vs.any (fun | .Starred .. => true | _ => false) then none else
  let line := (ts.head?.map (·.pos.line)).getD 0
  let names := ts.filterMap fun
    | .Name id pos => if sc.names.lookup id == some .local && pos.line == line then some id else none
    | _ => none
  if names.length != ts.length || names.eraseDups.length != names.length then none else
  if vs.all (foldedForSure 8) then none else some names
theorem swL_ok {ts vs : List Expr} {k k2 : Nat} {pt pt2 : Pos} {env : PySem.Env} (hc : vs.all (foldedForSure 8) = true ∨ vs.all (constantsAlone 8) = false) : swappedStores [.Tuple ts k pt] (.Tuple vs k2 pt2) env = pure (swL env.scope ts vs) := by
  unfold swappedStores swL
  dsimp only
  show _ = pure _
  split
  · rename_i h
    have h' := h
    unfold PySem.Env.blockKind at h'
    rw [if_pos h']
  · rename_i h
    have h' := h
    unfold PySem.Env.blockKind at h'
    rw [if_neg h']
    split
    · rename_i h2
      exact congrArg pure (if_pos h2).symm
    · rename_i h2
      refine Eq.trans ?_ (congrArg pure (if_neg h2).symm)
      split
      · rename_i h3
        exact congrArg pure (if_pos h3).symm
      · rename_i h3
        refine Eq.trans ?_ (congrArg pure (if_neg h3).symm)
        split
        · rename_i h4
          rfl
        · rename_i h4
          have hc := hc.resolve_left h4
          rw [hc]
          rfl
theorem two_of {α : Type} {vs : List α} (h : vs.length = 2) : ∃ v w, vs = [v, w] := by
  match vs, h with
  | [v, w], _ => exact ⟨v, w, rfl⟩
theorem three_of {α : Type} {vs : List α} (h : vs.length = 3) : ∃ u v w, vs = [u, v, w] := by
  match vs, h with
  | [u, v, w], _ => exact ⟨u, v, w, rfl⟩
theorem parSet_len : ∀ {is : List (Nat × Bool)} {ds : List D} {ρ ρ' : PEnv}, parSet is ds ρ = some ρ' → ds.length = is.length
  | [], [], _, _, _ => rfl
  | [], _ :: _, _, _, e => by simp only [parSet] at e; cases e
  | (_, _) :: _, [], _, _, e => by simp only [parSet] at e; cases e
  | (i, o) :: is, d :: ds, ρ, ρ', e => by
    simp only [parSet] at e
    rw [List.length_cons, List.length_cons, parSet_len e]
def parM (is : List (Nat × Bool)) (fs : PEnv → HS → Res (List D)) : Mng := fun ρ h => (fs ρ h).bind fun ds h => ofO ((parSet is ds ρ).map .nx) h
/-- what is owed behind the values -/
theorem par_sem {is : List (Nat × Bool)} {fs : PEnv → HS → Res (List D)} {t : TA} {k : List V → Hp → (St → Hp → Prop) → St → Prop}
    (q : ∀ ha B ρ hs σ H Q, ESim c.G ha B ρ hs σ H → RPost c.G ha B H (RPar c.G ha B (is.map (·.2))) Q c.E (fs ρ hs) → t σ H Q)
    (hk : ∀ vs H1 (N : St → Hp → Prop) σ, vs.length = is.length → (∀ H2, Same H1 H2 → N (setAll is vs σ) H2) → (∀ G ha B H0 hs ds os, ParOk G ha B H0 H1 (is.map (·.2)) ds vs hs os → True) → k vs H1 N σ)
    (ha : Addr) (B0 Wr : Addr → Prop) (H0 : Hp) (own : Own) (ρ : PEnv) (hs : HS) (σ : St) (H : Hp) (D : Ends) (S : SSim c.G ha B0 Wr H0 own ρ hs σ H) (p : SPost c.G ha B0 Wr H0 D c.E (parM is fs ρ hs)) : t σ H fun vs H1 => k vs H1 D.nx σ := by
  refine q ha _ ρ hs σ H _ S.sim (SPost.first S p fun ds hs1 _ vs H1 k1 h1 r1 p' => ?_)
  obtain ⟨os, pk⟩ := r1
  cases e1 : parSet is ds ρ with
  | none => rw [e1] at p'; exact p'.elim
  | some ρ' =>
    rw [e1] at p'
    refine hk vs H1 D.nx σ (by rw [pk.l1, parSet_len e1]) (fun H2 sm => ?_) (fun _ _ _ _ _ _ _ _ => trivial)
    obtain ⟨own', S'⟩ := par_end S k1 pk sm e1
    exact p' _ _ _ S'
theorem mo_par2 {x y : Str} {i j : Nat} {o o' : Bool} {a b : Expr} {fs : PEnv → HS → Res (List D)} {px py pt pt2 pos : Pos} {kt k2 : Nat} (hc : c.calm = true) (hi : c.N[i]? = some x) (hj : c.N[j]? = some y) (hij : i ≠ j)
    (hx : c.sc.names.lookup x = some .local) (hy : c.sc.names.lookup y = some .local) (hcn : [a, b].all (foldedForSure 8) = true ∨ [a, b].all (constantsAlone 8) = false) (hsw : swL c.sc [.Name x px, .Name y py] [a, b] = some [x, y])
    (h : PSn c [o, o'] [a, b] fs) : MO c (.Assign [.Tuple [.Name x px, .Name y py] kt pt] (.Tuple [a, b] k2 pt2) pos) (parM [(i, o), (j, o')] fs) := by
  obtain ⟨t, pa, q⟩ := h
  refine ⟨tPar i j t, fun X hX => ps_par (hX.eC.trans hc) (by rw [hX.eN]; exact hX.nd) (by rw [hX.eN]; exact hi) (by rw [hX.eN]; exact hj) hij (by rw [hX.eS]; exact hx) (by rw [hX.eS]; exact hy) (pa X hX) (by rw [swL_ok hcn, hX.eS, hsw]) rfl, fun ha B0 Wr H0 own ρ hs σ H D S p => ?_⟩
  refine par_sem (is := [(i, o), (j, o')]) (k := fun vs H1 N σ => ∃ v w, vs = [v, w] ∧ N ((σ.set i (some v)).set j (some w)) H1) q (fun vs H1 N σ hl hn _ => ?_) ha B0 Wr H0 own ρ hs σ H D S p
  obtain ⟨v, w, rfl⟩ := two_of hl
  exact ⟨v, w, rfl, hn H1 fun _ _ z => z⟩
theorem mo_par3 {x y z : Str} {i j l : Nat} {o o' o2 : Bool} {a b d : Expr} {fs : PEnv → HS → Res (List D)} {px py pz pt pt2 pos : Pos} {kt k2 : Nat} (hc : c.calm = true) (hi : c.N[i]? = some x) (hj : c.N[j]? = some y) (hl : c.N[l]? = some z) (hij : i ≠ j) (hil : i ≠ l) (hjl : j ≠ l)
    (hx : c.sc.names.lookup x = some .local) (hy : c.sc.names.lookup y = some .local) (hz : c.sc.names.lookup z = some .local) (hcn : [a, b, d].all (foldedForSure 8) = true ∨ [a, b, d].all (constantsAlone 8) = false) (hsw : swL c.sc [.Name x px, .Name y py, .Name z pz] [a, b, d] = some [x, y, z])
    (h : PSn c [o, o', o2] [a, b, d] fs) : MO c (.Assign [.Tuple [.Name x px, .Name y py, .Name z pz] kt pt] (.Tuple [a, b, d] k2 pt2) pos) (parM [(i, o), (j, o'), (l, o2)] fs) := by
  obtain ⟨t, pa, q⟩ := h
  refine ⟨tPar3 i j l t, fun X hX => ps_par3 (hX.eC.trans hc) (by rw [hX.eN]; exact hX.nd) (by rw [hX.eN]; exact hi) (by rw [hX.eN]; exact hj) (by rw [hX.eN]; exact hl) hij hil hjl (by rw [hX.eS]; exact hx) (by rw [hX.eS]; exact hy) (by rw [hX.eS]; exact hz) (pa X hX) (by rw [swL_ok hcn, hX.eS, hsw]) rfl, fun ha B0 Wr H0 own ρ hs σ H D S p => ?_⟩
  refine par_sem (is := [(i, o), (j, o'), (l, o2)]) (k := fun vs H1 N σ => ∃ u v w, vs = [u, v, w] ∧ N (((σ.set i (some u)).set j (some v)).set l (some w)) H1) q (fun vs H1 N σ hln hn _ => ?_) ha B0 Wr H0 own ρ hs σ H D S p
  obtain ⟨u, v, w, rfl⟩ := three_of hln
  exact ⟨u, v, w, rfl, hn H1 fun _ _ z => z⟩
/-- names with their slots -/
def NmOk (c : Ctx) : List Expr → List (Nat × Bool) → Prop
  | [], [] => True
  | .Name x _ :: ts, (i, _) :: is => (c.N[i]? = some x ∧ Loc c.sc x ∧ c.sto x = true) ∧ NmOk c ts is
  | _, _ => False
def gAll : List (Nat × Bool) → TGs
  | [] => gNil
  | (i, _) :: is => gCons (gName i) (gAll is)
theorem nm_len : ∀ {ts : List Expr} {is : List (Nat × Bool)}, NmOk c ts is → ts.length = is.length ∧ ts.all plainE = true
  | [], [], _ => ⟨rfl, rfl⟩
  | .Name x p :: ts, (i, o) :: is, h => by
    obtain ⟨h1, h2⟩ := nm_len h.2
    exact ⟨by rw [List.length_cons, List.length_cons, h1], by rw [List.all_cons, h2]; rfl⟩
theorem pgs_all {X : Cx} (hX : XOk c X) : ∀ {ts : List Expr} {is : List (Nat × Bool)}, NmOk c ts is → PGs X ts (gAll is)
  | [], [], _ => pgs_nil
  | .Name x p :: ts, (i, o) :: is, h => by
    obtain ⟨⟨h1, h2, h3⟩, h4⟩ := h
    exact pgs_cons (pg_name (by rw [hX.eN]; exact hX.nd) (by rw [hX.eN]; exact h1) (by rw [hX.eS]; exact h2) (by rw [hX.eS]; exact hX.fnl x h3)) (pgs_all hX h4) rfl
theorem gAll_sem : ∀ {is : List (Nat × Bool)} {vs : List V} {σ : St} {H : Hp} {Q : St → Hp → Prop}, vs.length = is.length → Q (setAll is vs σ) H → gAll is vs σ H Q
  | [], [], σ, H, Q, _, q => ⟨rfl, q⟩
  | (i, o) :: is, v :: vs, σ, H, Q, hl, q => ⟨v, vs, rfl, gAll_sem (by simpa using hl) q⟩
theorem mo_parT {ts es : List Expr} {is : List (Nat × Bool)} {fs : PEnv → HS → Res (List D)} {pt pt2 pos : Pos} {kt k2 : Nat} (hc : c.calm = true) (hn : NmOk c ts is) (hcn : es.all (foldedForSure 8) = true ∨ es.all (constantsAlone 8) = false) (hsw : swL c.sc ts es = none) (hz : is.length ≤ line)
    (h : PSn c (is.map (·.2)) es fs) : MO c (.Assign [.Tuple ts kt pt] (.Tuple es k2 pt2) pos) (parM is fs) := by
  obtain ⟨t, pa, q⟩ := h
  obtain ⟨hln, hpl⟩ := nm_len hn
  refine ⟨tAsg (tTup t) (gTup c.G.K ts.length (gAll is)), fun X hX => ps_asg (pe_tup (pa X hX)) (by rw [← hX.eK]; exact pg_tup (hX.eC.trans hc) (pgs_all hX hn) ase_len (ase_star hpl)) rfl (by rw [swL_ok hcn, hX.eS, hsw]) rfl, fun ha B0 Wr H0 own ρ hs σ H D S p => ?_⟩
  refine par_sem (is := is) (k := fun vs H1 N σ => vs.length ≤ sizeLine ∧ ∀ q, H1 q = none → gTup c.G.K ts.length (gAll is) (.ref q) σ (upd H1 q (.tup vs)) N) q (fun vs H1 N σ hl hN _ => ?_) ha B0 Wr H0 own ρ hs σ H D S p
  refine ⟨by rw [line_eq, hl]; exact hz, fun q n => ⟨q, vs, rfl, .inl (.inl upd_same), by rw [hl, hln], gAll_sem hl (hN _ (same_new n))⟩⟩
end
end PD

set_option Elab.async false
set_option linter.all false
set_option maxRecDepth 100000
set_option maxHeartbeats 2000000
/-! P16: does a small program stand for an expression of the text. -/
namespace PD
open PySem PySem.Spec PyProof.Rows L2 RZ
structure CE where
  N : List Str
  nm : List Str
  cs : List (Str × D)
  fr : List Str
structure Fits (K : CE) (c : Ctx) (sc : Scope) (sto : Str → Bool) : Prop where
  N : c.N = K.N
  sc : c.sc = sc
  sto : c.sto = sto
  nm : c.G.nm = K.nm
  cs : c.G.cs = K.cs
  fr : c.G.fr = K.fr
  st : Stat c.G
  ar : Arity c
  calm : c.calm = true
abbrev CF := Scope → (Str → Bool) → Bool → Expr → IE → Bool
def visB (sc : Scope) (x : Str) : Bool := sc.names.lookup x == some .local || (sc.names.lookup x == some .cell || sc.names.lookup x == some .free)
def locB (sc : Scope) (x : Str) : Bool := sc.names.lookup x == some .local || sc.names.lookup x == some .cell
def glB (sc : Scope) (x : Str) : Bool := sc.names.lookup x == some .globalImplicit
def okNm (x : Str) : Bool := !(x == ("__debug__" : Str)) && !(x == ("__classdict__" : Str))
def frE : IE → Bool
  | .lit _ => true | .tup _ => true | .lst _ => true | .rngL _ _ _ => true | .bin _ _ _ => true | .neg _ => true | .not _ => true | .cmp _ _ _ => true | .chain _ _ _ _ _ => true | .slc _ _ _ => true | .rev _ => true
  | .bi b _ => biFr b | .isi _ _ => true | .mt _ _ _ => true | .lc _ _ _ _ _ => true
  | _ => false
def mdE (esc : Bool) (ie : IE) : Md := if frE ie = true then .fr else if esc = true then .st else .wk
def sameD : D → D → Bool
  | .int i, .int j => decide (i = j)
  | .str x, .str y => decide (x = y)
  | .bl a, .bl b => a == b
  | .non, .non => true
  | .fn n, .fn m => decide (n = m)
  | _, _ => false
theorem sameD_eq {a b : D} (h : sameD a b = true) : a = b := by
  cases a <;> cases b <;> simp only [sameD, decide_eq_true_eq, beq_iff_eq] at h <;> first | rfl | (rw [h]) | cases h
def opB : Operator → BOp → Bool
  | .Add, .add => true | .Sub, .sub => true | .Mult, .mul => true | .FloorDiv, .fdiv => true | .Mod, .mod => true | .Pow, .pow => true
  | _, _ => false
theorem opB_eq {o : Operator} {b : BOp} (h : opB o b = true) : o = bop b := by
  cases o <;> cases b <;> first | rfl | cases h
def copB : CmpOp → COp → Bool
  | .Eq, .eq => true | .NotEq, .ne => true | .Lt, .lt => true | .LtE, .le => true | .Gt, .gt => true | .GtE, .ge => true | .Is, .is => true | .IsNot, .isn => true | .In, .inn => true | .NotIn, .nin => true
  | _, _ => false
theorem copB_eq {o : CmpOp} {b : COp} (h : copB o b = true) : o = cop b := by
  cases o <;> cases b <;> first | rfl | cases h
variable (K : CE)
def vN (sc : Scope) (x : Str) (i : Nat) : Bool := decide (K.N[i]? = some x) && (visB sc x && okNm x)
def eVar (sc : Scope) (e : Expr) (i : Nat) : Bool := match e with
  | .Name x _ => vN K sc x i
  | _ => false
def gN (sc : Scope) (x : Str) : Bool := glB sc x && K.fr.contains x
def eLit (sc : Scope) (e : Expr) (d : D) : Bool := match e with
  | .Constant (.int i) _ _ => sameD d (.int i)
  | .Constant (.bool i) _ _ => sameD d (.bl i)
  | .Constant (.str i) _ _ => sameD d (.str i)
  | .Constant .none _ _ => sameD d .non
  | .Name x _ => glB sc x && (okNm x && (match K.cs.lookup x with
    | some d' => sameD d d'
    | none => false))
  | _ => false
def eAll (f : Expr → IE → Bool) : List Expr → IEs → Bool
  | [], .nil => true
  | e :: es, .cons i is => (f e i && plainE e) && eAll f es is
  | _, _ => false
def ePart (f : Expr → IE → Bool) : Option Expr → IO → Bool
  | none, .no => true
  | some e, .so i => f e i
  | _, _ => false
mutual
def eTg (sc : Scope) (sto : Str → Bool) : IT → Expr → Bool
  | .nm i, e => (match e with
    | .Name x _ => decide (K.N[i]? = some x) && (locB sc x && sto x)
    | _ => false)
  | .tp ts, e => (match e with
    | .Tuple xs _ _ => eTgs sc sto ts xs
    | _ => false)
def eTgs (sc : Scope) (sto : Str → Bool) : ITs → List Expr → Bool
  | .nil, xs => xs.isEmpty
  | .cons t ts, xs => (match xs with
    | x :: r => (eTg sc sto t x && plainE x) && eTgs sc sto ts r
    | [] => false)
end
def isTupE : Expr → Bool
  | .Tuple _ _ _ => true
  | _ => false
/-- a test, m turns deep -/
def eC (f : Bool → Expr → IE → Bool) : Nat → Expr → IC → Bool
  | 0, _, _ => false
  | m + 1, e, ic => match e with
    | .BoolOp op vs p => (match op, vs, ic with
      | _, [a], ic => eC f m a ic
      | .And, a :: b :: r, .and x y => eC f m a x && eC f m (.BoolOp .And (b :: r) p) y
      | .Or, a :: b :: r, .or x y => eC f m a x && eC f m (.BoolOp .Or (b :: r) p) y
      | _, _, _ => false)
    | .UnaryOp .Not a _ => (match ic with
      | .not x => eC f m a x
      | _ => false)
    | .Compare a ops bs _ => (match ops, bs, ic with
      | [op], [b], .val (.cmp o x y) => (copB op o && plainIn b) && (f false a x && f false b y)
      | [op, op'], [b, d], .val (.chain o o' x y z) => (copB op o && (copB op' o' && plainIn d)) && (f false a x && (f false b y && f false d z))
      | _, _, _ => false)
    | e => plainT e && (match ic with
      | .val x => f false e x
      | _ => false)
def eIfs (f : Bool → Expr → IE → Bool) (m : Nat) : List Expr → IC → Bool
  | [], .tt => true
  | [e], ic => eC f m e ic
  | _, _ => false
/-- what is walked -/
def eS (f : Bool → Expr → IE → Bool) (sc : Scope) (wk : Bool) (tg iter : Expr) : IS → Bool
  | .val a => f (!wk) iter a
  | .rng1 a => (match iter with
    | .Call (.Name x _) [y] [] _ => (decide (x = ("range" : Str)) && (gN K sc ("range" : Str) && plainE y)) && f false y a
    | _ => false)
  | .rng2 a b => (match iter with
    | .Call (.Name x _) [y, z] [] _ => (decide (x = ("range" : Str)) && (gN K sc ("range" : Str) && (plainE y && plainE z))) && (f false y a && f false z b)
    | _ => false)
  | .rng3 _ _ _ => false
  | .zip a b => isTupE tg && (match iter with
    | .Call (.Name x _) [y, z] [] _ => (decide (x = ("zip" : Str)) && (gN K sc ("zip" : Str) && (plainE y && plainE z))) && (f (!wk) y a && f (!wk) z b)
    | _ => false)
  | .enum a => isTupE tg && (match iter with
    | .Call (.Name x _) [y] [] _ => (decide (x = ("enumerate" : Str)) && (gN K sc ("enumerate" : Str) && plainE y)) && f (!wk) y a
    | _ => false)
def idxN (x : Str) : List Str → Nat → Option Nat
  | [], _ => none
  | y :: r, n => if y == x then some n else idxN x r (n + 1)
def ownOf (scope : Scope) : List (Str × Nat) := scope.names.filterMap fun (x, k) => if k == .local || k == .cell then (idxN x K.N 0).map fun i => (x, i) else none
def stoI (scope sc : Scope) : Str → Bool := fun x => scope.names.lookup x == some .cell || (relS scope sc).names.lookup x == some .local
def eTys (sc : Scope) : List Expr → List Ty → Bool
  | [], [] => true
  | .Name x _ :: es, t :: ts => (decide (x = tyN t) && gN K sc (tyN t)) && eTys sc es ts
  | _, _ => false
def eIsi (f : Bool → Expr → IE → Bool) (sc : Scope) (a : IE) (ts : List Ty) : List Expr → Bool
  | [y, z] => (gN K sc ("isinstance" : Str) && (plainE y && f false y a)) && (match z, ts with
    | .Name x _, [t] => decide (x = tyN t) && gN K sc (tyN t)
    | .Tuple zs _ _, ts => eTys K sc zs ts && (!ts.isEmpty && decide (ts.length ≤ line))
    | _, _ => false)
  | _ => false
def eRng (f : Bool → Expr → IE → Bool) (sc : Scope) (a b : IE) : Expr → Bool
  | .Call (.Name x _) args [] _ => (decide (x = ("range" : Str)) && gN K sc ("range" : Str)) && (match args with
    | [z] => plainE z && ((match a with
      | .lit d => sameD d (.int 0)
      | _ => false) && f false z b)
    | [y, z] => (plainE y && plainE z) && (f false y a && f false z b)
    | _ => false)
  | _ => false
/-- a comprehension's parts -/
def eLc (ce : CF) (sc : Scope) (sto : Str → Bool) (elt tg iter : Expr) (ifs : List Expr) (scope : Scope) (t : IT) (s : IS) (c : IC) (x : IE) : Bool :=
  (blkC K.N sc scope (ownOf K scope) && ((itSl t).all fun i => ((ownOf K scope).map (·.2)).contains i)) &&
    ((plainS iter && eS K (ce sc sto) sc true tg iter s) && (eTg K (relS scope sc) (stoI scope sc) t tg && (eIfs (ce (relS scope sc) (stoI scope sc)) 40 ifs c && ce (relS scope sc) (stoI scope sc) true elt x)))
def e1 (ce : CF) (sc : Scope) (sto : Str → Bool) (esc : Bool) (e : Expr) (ie : IE) : Bool := match ie with
  | .var i => eVar K sc e i
  | .ovar i => !esc && eVar K sc e i
  | .lit d => eLit K sc e d
  | .tup es => (match e with
    | .Tuple xs _ _ => eAll (ce sc sto true) xs es
    | _ => false)
  | .lst es => (match e with
    | .List xs _ => eAll (ce sc sto true) xs es
    | _ => false)
  | .rngL t a b => (match e with
    | .Call (.Name x _) [y] [] _ => (decide (x = rgNm t) && gN K sc (rgNm t)) && eRng K (ce sc sto) sc a b y
    | _ => false)
  | .bin o a b => (match e with
    | .BinOp x op y _ => opB op o && (ce sc sto false x a && ce sc sto false y b)
    | _ => false)
  | .neg a => (match e with
    | .UnaryOp .USub x _ => ce sc sto false x a
    | _ => false)
  | .not a => (match e with
    | .UnaryOp .Not x _ => ce sc sto false x a
    | _ => false)
  | .cmp o a b => (match e with
    | .Compare x [op] [y] _ => (copB op o && plainIn y) && (ce sc sto false x a && ce sc sto false y b)
    | _ => false)
  | .chain o o' a b d => (match e with
    | .Compare x [op, op'] [y, z] _ => (copB op o && (copB op' o' && plainIn z)) && (ce sc sto false x a && (ce sc sto false y b && ce sc sto false z d))
    | _ => false)
  | .and a b => (match e with
    | .BoolOp .And (x :: y :: r) p => ce sc sto false x a && ce sc sto esc (.BoolOp .And (y :: r) p) b
    | _ => false)
  | .or a b => (match e with
    | .BoolOp .Or (x :: y :: r) p => ce sc sto false x a && ce sc sto esc (.BoolOp .Or (y :: r) p) b
    | _ => false)
  | .ite t a b => (match e with
    | .IfExp t' x y _ => eC (ce sc sto) 40 t' t && (ce sc sto esc x a && ce sc sto esc y b)
    | _ => false)
  | .ix a i => (match e with
    | .Subscript x s _ => plainIx s && (ce sc sto false x a && ce sc sto false s i)
    | _ => false)
  | .slc a lo hi => (match e with
    | .Subscript x (.Slice l h none _) _ => ce sc sto false x a && (ePart (ce sc sto false) l lo && ePart (ce sc sto false) h hi)
    | _ => false)
  | .rev a => (match e with
    | .Subscript x (.Slice none none (some (.UnaryOp .USub (.Constant (.int i) _ _) _)) _) _ => decide (i = 1) && ce sc sto false x a
    | _ => false)
  | .call f as => (match e with
    | .Call (.Name x _) (a :: es) [] _ => (decide (K.nm[f]? = some x) && (glB sc x && okNm x)) && eAll (ce sc sto true) (a :: es) as
    | _ => false)
  | .callv i as => (match e with
    | .Call (.Name x _) (a :: es) [] _ => vN K sc x i && eAll (ce sc sto true) (a :: es) as
    | _ => false)
  | .bi b as => (match e with
    | .Call (.Name x _) (a :: es) [] _ => (decide (x = biNm b) && gN K sc (biNm b)) && eAll (ce sc sto false) (a :: es) as
    | _ => false)
  | .isi a ts => (match e with
    | .Call (.Name x _) args [] _ => decide (x = ("isinstance" : Str)) && eIsi K (ce sc sto) sc a ts args
    | _ => false)
  | .mt m o as => (match e with
    | .Call (.Attribute x nm ap) [y] [] pos => (decide (nm = mtN m) && (plainB x && ap.endLine == pos.line)) && (ce sc sto false x o && eAll (ce sc sto false) [y] as)
    | _ => false)
  | .lc vs t s c x => (match e with
    | .ListComp elt [⟨tg, iter, ifs, az⟩] scope _ => (decide (az = 0) && decide (vs = (ownOf K scope).map (·.2))) && eLc K ce sc sto elt tg iter ifs scope t s c x
    | _ => false)
  | _ => false
def isOne : Expr → Bool
  | .BoolOp _ [_] _ => true
  | _ => false
def oneOf : Expr → Expr
  | .BoolOp _ [x] _ => x
  | e => e
/-- n turns deep -/
def chkE : Nat → CF
  | 0 => fun _ _ _ _ _ => false
  | n + 1 => fun sc sto esc e ie => if isOne e then chkE n sc sto esc (oneOf e) ie else e1 K (chkE n) sc sto esc e ie
/-! ### statements -/
def eNames (fs : Bool → Expr → IE → Bool) : List (Nat × Bool) → List Expr → IEs → Bool
  | [], [], .nil => true
  | (_, o) :: is, e :: es, .cons i r => ((if o then frE i else true) && (fs true e i && plainE e)) && eNames fs is es r
  | _, _, _ => false
def nmB (sc : Scope) (sto : Str → Bool) : List Expr → List (Nat × Bool) → Bool
  | [], [] => true
  | .Name x _ :: ts, (i, _) :: is => (decide (K.N[i]? = some x) && (locB sc x && sto x)) && nmB sc sto ts is
  | _, _ => false
def locN (sc : Scope) : List Expr → Bool
  | [] => true
  | .Name x _ :: ts => sc.names.lookup x == some .local && locN sc ts
  | _ => false
def nmsOf : List Expr → List Str
  | .Name x _ :: ts => x :: nmsOf ts
  | _ => []
def distinct : List Nat → Bool
  | [] => true
  | i :: r => !(r.contains i) && distinct r
def ePar (fs : Bool → Expr → IE → Bool) (sc : Scope) (sto : Str → Bool) (is : List (Nat × Bool)) (es : IEs) (ts vs : List Expr) : Bool :=
  (nmB K sc sto ts is && (eNames fs is vs es && (vs.all (foldedForSure 8) || !(vs.all (constantsAlone 8))))) && (match swL sc ts vs with
    | none => decide (is.length ≤ line)
    | some xs => locN sc ts && (distinct (is.map (·.1)) && (decide (xs = nmsOf ts) && (ts.length == 2 || ts.length == 3))))
def sAll (f : Stmt → IM → Bool) : List Stmt → IMs → Bool
  | sts, .cons m r => (match m with
    | .frz _ => sAll f sts r
    | .dead => true
    | m => (match sts with
      | st :: sts => f st m && sAll f sts r
      | [] => false))
  | sts, .nil => sts.isEmpty
def s1 (fs : Bool → Expr → IE → Bool) (ce : CF) (sc : Scope) (sto : Str → Bool) (rec_ : Stmt → IM → Bool) (st : Stmt) (im : IM) : Bool := match im with
  | .set i e => (match st with
    | .Assign [.Name x _] v _ => (decide (K.N[i]? = some x) && (locB sc x && sto x)) && (match v, e with
      | .ListComp elt [⟨tg, iter, ifs, az⟩] scope _, .lc vs t s c y => (decide (az = 0) && decide (vs = (ownOf K scope).map (·.2))) && eLc K ce sc sto elt tg iter ifs scope t s c y
      | v, e => plainV v && fs true v e)
    | _ => false)
  | .setO i e => (match st with
    | .Assign [.Name x _] v _ => (decide (K.N[i]? = some x) && (locB sc x && sto x)) && (match v, e with
      | .ListComp elt [⟨tg, iter, ifs, az⟩] scope _, .lc vs t s c y => (decide (az = 0) && decide (vs = (ownOf K scope).map (·.2))) && eLc K ce sc sto elt tg iter ifs scope t s c y
      | v, e => plainV v && (frE e && fs true v e))
    | _ => false)
  | .setT t e => (match st with
    | .Assign [tg] v _ => (eTg K sc sto t tg && plainE tg) && ((plainV v && notTupE v) && fs true v e)
    | _ => false)
  | .par is es => (match st with
    | .Assign [.Tuple ts _ _] (.Tuple vs _ _) _ => ePar K fs sc sto is es ts vs
    | _ => false)
  | .setIx i k e => (match st with
    | .Assign [.Subscript (.Name x _) b _] v _ => (vN K sc x i && (plainV v && plainIx b)) && (fs true v e && fs false b k)
    | _ => false)
  | .aug i o e => (match st with
    | .AugAssign (.Name x _) op v _ => (decide (K.N[i]? = some x) && (locB sc x && sto x)) && (opB op o && fs false v e)
    | _ => false)
  | .app i e => (match st with
    | .Expr (.Call (.Attribute (.Name x _) a ap) [v] [] cp) _ => (decide (a = ("append" : Str)) && (vN K sc x i && (plainE v && ap.endLine == cp.line))) && fs true v e
    | _ => false)
  | .ext i e => (match st with
    | .Expr (.Call (.Attribute (.Name x _) a ap) [v] [] cp) _ => (decide (a = ("extend" : Str)) && (vN K sc x i && (plainE v && ap.endLine == cp.line))) && fs false v e
    | _ => false)
  | .expr e => (match st with
    | .Expr v _ => plainV v && fs false v e
    | _ => false)
  | .ite t a b => (match st with
    | .If t' x y _ => eC fs 40 t' t && (sAll rec_ x a && sAll rec_ y b)
    | _ => false)
  | .whl t b => (match st with
    | .While t' x [] _ => eC fs 40 t' t && sAll rec_ x b
    | _ => false)
  | .for_ t s b => (match st with
    | .For tg iter x [] _ => (plainS iter && eS K fs sc false tg iter s) && (eTg K sc sto t tg && sAll rec_ x b)
    | _ => false)
  | .ret e => (match st with
    | .Return (some v) _ => fs true v e
    | _ => false)
  | .retN => (match st with
    | .Return none _ => true
    | _ => false)
  | .brk => (match st with
    | .Break _ => true
    | _ => false)
  | .cnt => (match st with
    | .Continue _ => true
    | _ => false)
  | .pass => (match st with
    | .Pass _ => true
    | .Expr (.Constant (.str _) _ _) _ => true
    | _ => false)
  | .dead => true
  | _ => false
def chkM (sc : Scope) (sto : Str → Bool) : Nat → Stmt → IM → Bool
  | 0 => fun _ _ => false
  | n + 1 => s1 K (chkE K 40 sc sto) (chkE K 40) sc sto (chkM sc sto n)
def chkB (sc : Scope) (sts : List Stmt) (b : IMs) : Bool := sAll (chkM K sc (fun _ => true) 40) sts b
end PD

set_option Elab.async false
set_option linter.all false
set_option maxRecDepth 100000
set_option maxHeartbeats 2000000
/-! P17: what is checked is so: expressions. -/
namespace PD
open PySem PySem.Spec PyProof.Rows L2 RZ
abbrev dn (c : Ctx) : IE → PEnv → HS → Res D := den c.Φ c.Ψ c.thk
/-- the checker's own part is right -/
def CeOk (K : CE) (ce : CF) : Prop := ∀ (c : Ctx) sc sto, Fits K c sc sto → ∀ esc e ie, ce sc sto esc e ie = true → ES (mdE esc ie) c e (dn c ie)
theorem ES.up_fr {c : Ctx} {e : Expr} {f : PEnv → HS → Res D} {m : Md} (h : ES .fr c e f) : ES m c e f := h.fr_any
theorem ES.up_st {c : Ctx} {e : Expr} {f : PEnv → HS → Res D} {esc : Bool} (h : ES .st c e f) : ES (if esc = true then .st else .wk) c e f := by
  cases esc with
  | true => exact h
  | false => exact h.wk
theorem ES.dw {c : Ctx} {e : Expr} {f : PEnv → HS → Res D} {esc : Bool} {ie : IE} (h : ES (mdE esc ie) c e f) : ES .wk c e f := h.wk
theorem ES.ds {c : Ctx} {e : Expr} {f : PEnv → HS → Res D} {ie : IE} (h : ES (mdE true ie) c e f) : ES .st c e f := by
  unfold mdE at h
  split at h
  · exact h.fr_st
  · exact h
theorem ES.es {c : Ctx} {e : Expr} {f : PEnv → HS → Res D} {ie : IE} {esc : Bool} (h : ES (mdE esc ie) c e f) : ES (if esc = true then .st else .wk) c e f := by
  cases esc with
  | true => exact h.ds
  | false => exact h.wk
theorem ES.walk {c : Ctx} {e : Expr} {f : PEnv → HS → Res D} {ie : IE} {wk : Bool} (h : ES (mdE (!wk) ie) c e f) : ES (mdOf wk) c e f := by
  cases wk with
  | true => exact h.wk
  | false => exact h.ds
section
variable {K : CE} {c : Ctx} {sc : Scope} {sto : Str → Bool}
theorem Fits.gl (F : Fits K c sc sto) {x : Str} (h : glB sc x = true) : c.sc.names.lookup x = some .globalImplicit := by
  rw [F.sc]
  exact eq_of_beq (α := Option NameKind) h
theorem Fits.gn (F : Fits K c sc sto) {x : Str} (h : gN K sc x = true) : c.sc.names.lookup x = some .globalImplicit ∧ c.G.fr.contains x = true := by
  unfold gN at h
  rw [Bool.and_eq_true] at h
  exact ⟨F.gl h.1, by rw [F.fr]; exact h.2⟩
theorem Fits.vis (F : Fits K c sc sto) {x : Str} (h : visB sc x = true) : Vis c.sc x := by
  rw [F.sc]
  unfold visB at h
  rw [Bool.or_eq_true, Bool.or_eq_true] at h
  rcases h with h | h | h
  · exact .inl (eq_of_beq (α := Option NameKind) h)
  · exact .inr (.inl (eq_of_beq (α := Option NameKind) h))
  · exact .inr (.inr (eq_of_beq (α := Option NameKind) h))
theorem Fits.loc (F : Fits K c sc sto) {x : Str} (h : locB sc x = true) : Loc c.sc x := by
  rw [F.sc]
  unfold locB at h
  rw [Bool.or_eq_true] at h
  rcases h with h | h
  · exact .inl (eq_of_beq (α := Option NameKind) h)
  · exact .inr (eq_of_beq (α := Option NameKind) h)
theorem okNm_ok {x : Str} (h : okNm x = true) : (x == ("__debug__" : Str)) = false ∧ (x == ("__classdict__" : Str)) = false := by
  unfold okNm at h
  rw [Bool.and_eq_true, Bool.not_eq_true', Bool.not_eq_true'] at h
  exact h
theorem Fits.vn (F : Fits K c sc sto) {x : Str} {i : Nat} (h : vN K sc x i = true) : c.N[i]? = some x ∧ Vis c.sc x ∧ (x == ("__debug__" : Str)) = false ∧ (x == ("__classdict__" : Str)) = false := by
  unfold vN at h
  rw [Bool.and_eq_true, Bool.and_eq_true, decide_eq_true_eq] at h
  exact ⟨by rw [F.N]; exact h.1, F.vis h.2.1, okNm_ok h.2.2⟩
theorem eVar_ok (F : Fits K c sc sto) {e : Expr} {i : Nat} (h : eVar K sc e i = true) : ES .st c e (dn c (.var i)) ∧ ES .wk c e (dn c (.ovar i)) := by
  unfold eVar at h
  split at h
  · obtain ⟨h1, h2, h3, h4⟩ := F.vn h
    exact ⟨es_var h1 h2 h3 h4, es_ovar h1 h2 h3 h4⟩
  · cases h
theorem eLit_ok (F : Fits K c sc sto) {e : Expr} {d : D} (h : eLit K sc e d = true) : ES .fr c e (dn c (.lit d)) := by
  have ef : dn c (.lit d) = fun _ h => .ok d h := by funext ρ h; simp only [dn, den]
  rw [ef]
  unfold eLit at h
  split at h
  · rw [sameD_eq h]; exact es_int
  · rw [sameD_eq h]; exact es_bl
  · rw [sameD_eq h]; exact es_str
  · rw [sameD_eq h]; exact es_non
  · rw [Bool.and_eq_true, Bool.and_eq_true] at h
    obtain ⟨h1, h2, h3⟩ := h
    split at h3
    · rename_i d' e'
      rw [sameD_eq h3]
      exact es_glob F.st (F.gl h1) (by rw [F.cs]; exact e') (okNm_ok h2).1
    · cases h3
  · cases h
theorem eAll_ok {wk : Bool} {f : Expr → IE → Bool} (hf : ∀ e ie, f e ie = true → ES (mdOf wk) c e (dn c ie)) : ∀ {es : List Expr} {is : IEs}, eAll f es is = true → AS wk c es (dens c.Φ c.Ψ c.thk is) ∧ es.all plainE = true
  | [], .nil, _ => by
    have ef : dens c.Φ c.Ψ c.thk .nil = fun _ h => .ok [] h := by funext ρ h; (simp only [dens]) <;> rfl
    rw [ef]
    exact ⟨as_nil, rfl⟩
  | e :: es, .cons i is, h => by
    unfold eAll at h
    rw [Bool.and_eq_true, Bool.and_eq_true] at h
    obtain ⟨⟨h1, h2⟩, h3⟩ := h
    obtain ⟨a1, a2⟩ := eAll_ok hf h3
    have ef : dens c.Φ c.Ψ c.thk (.cons i is) = fun ρ h => (dn c i ρ h).bind fun x h => (dens c.Φ c.Ψ c.thk is ρ h).bind fun xs h => .ok (x :: xs) h := by funext ρ h; (simp only [dens]) <;> rfl
    rw [ef]
    exact ⟨as_cons (hf e i h1) a1 h2, by rw [List.all_cons, h2, a2]; rfl⟩
  | [], .cons _ _, h => by unfold eAll at h; cases h
  | _ :: _, .nil, h => by unfold eAll at h; cases h
theorem ePart_ok {f : Expr → IE → Bool} (hf : ∀ e ie, f e ie = true → ES .wk c e (dn c ie)) {o : Option Expr} {io : IO} (h : ePart f o io = true) : OS c o (denO c.Φ c.Ψ c.thk io) := by
  unfold ePart at h
  split at h
  · have ef : denO c.Φ c.Ψ c.thk .no = fun _ h => .ok none h := by funext ρ h; (simp only [denO]) <;> rfl
    rw [ef]
    exact os_none
  · rename_i e i
    have ef : denO c.Φ c.Ψ c.thk (.so i) = fun ρ h => (dn c i ρ h).bind fun x h => ofO ((intOf x).map some) h := by funext ρ h; (simp only [denO]) <;> rfl
    rw [ef]
    exact os_some (hf _ _ h)
  · cases h
mutual
theorem eTg_ok (F : Fits K c sc sto) : ∀ {it : IT} {e : Expr}, eTg K sc sto it e = true → GS c e it
  | .nm i, e, h => by
    simp only [eTg] at h
    split at h
    · rw [Bool.and_eq_true, Bool.and_eq_true, decide_eq_true_eq] at h
      exact gs_name (by rw [F.N]; exact h.1) (F.loc h.2.1) (by rw [F.sto]; exact h.2.2)
    · cases h
  | .tp ts, e, h => by
    simp only [eTg] at h
    split at h
    · obtain ⟨h1, h2, h3⟩ := eTgs_ok F h
      exact gs_tup F.calm h1 h2 h3
    · cases h
theorem eTgs_ok (F : Fits K c sc sto) : ∀ {its : ITs} {es : List Expr}, eTgs K sc sto its es = true → GSs c es its ∧ es.all plainE = true ∧ es.length = itsLen its
  | .nil, es, h => by
    simp only [eTgs] at h
    cases es with
    | nil => exact ⟨gss_nil, rfl, rfl⟩
    | cons _ _ => cases h
  | .cons t ts, es, h => by
    simp only [eTgs] at h
    cases es with
    | nil => cases h
    | cons e es =>
      simp only at h
      rw [Bool.and_eq_true, Bool.and_eq_true] at h
      obtain ⟨⟨h1, h2⟩, h3⟩ := h
      obtain ⟨a1, a2, a3⟩ := eTgs_ok F h3
      exact ⟨gss_cons (eTg_ok F h1) a1 h2, by rw [List.all_cons, h2, a2]; rfl, by rw [List.length_cons, a3]; rfl⟩
end
abbrev dc (c : Ctx) : IC → PEnv → HS → Res Bool := denC c.Φ c.Ψ c.thk
theorem dc_val {a : IE} : dc c (.val a) = fun ρ h => (dn c a ρ h).bind fun x h => ofO (truthD x) h := by funext ρ h; (simp only [denC]) <;> rfl
theorem dc_and {a b : IC} : dc c (.and a b) = fun ρ h => (dc c a ρ h).bind fun k h => if k then dc c b ρ h else .ok false h := by funext ρ h; (simp only [denC]) <;> rfl
theorem dc_or {a b : IC} : dc c (.or a b) = fun ρ h => (dc c a ρ h).bind fun k h => if k then .ok true h else dc c b ρ h := by funext ρ h; (simp only [denC]) <;> rfl
theorem dc_not {a : IC} : dc c (.not a) = fun ρ h => (dc c a ρ h).bind fun k h => .ok (!k) h := by funext ρ h; (simp only [denC]) <;> rfl
theorem dc_tt : dc c .tt = fun _ h => .ok true h := by funext ρ h; (simp only [denC]) <;> rfl
theorem dn_cmp {o : COp} {a b : IE} : dn c (.cmp o a b) = fun ρ h => (dn c a ρ h).bind fun x h => (dn c b ρ h).bind fun y h => ofO ((cmpD o x y).map .bl) h := by funext ρ h; (simp only [den]) <;> rfl
theorem dn_chain {o o' : COp} {a b d : IE} : dn c (.chain o o' a b d) = fun ρ h => (dn c a ρ h).bind fun x h => (dn c b ρ h).bind fun y h => match cmpD o x y with
    | some true => (dn c d ρ h).bind fun z h => ofO ((cmpD o' y z).map .bl) h
    | some false => .ok (.bl false) h
    | none => .stuck := by funext ρ h; (simp only [den]) <;> rfl
theorem eC_ok {f : Bool → Expr → IE → Bool} (hf : ∀ esc e ie, f esc e ie = true → ES (mdE esc ie) c e (dn c ie)) : ∀ (m : Nat) {e : Expr} {ic : IC}, eC f m e ic = true → CS c e (dc c ic) ∧ ((∃ op vs p, e = .BoolOp op vs p) → CW c e (dc c ic))
  | 0, _, _, h => by unfold eC at h; cases h
  | m + 1, e, ic, h => by
    have fw : ∀ e ie, f false e ie = true → ES .wk c e (dn c ie) := fun e ie z => (hf false e ie z).wk
    unfold eC at h
    split at h
    · rename_i op vs p
      have key : CW c (.BoolOp op vs p) (dc c ic) → CS c (.BoolOp op vs p) (dc c ic) ∧ ((∃ op' vs' p', Expr.BoolOp op vs p = .BoolOp op' vs' p') → CW c (.BoolOp op vs p) (dc c ic)) := fun z => ⟨z.cs, fun _ => z⟩
      apply key
      split at h
      · have z := (eC_ok hf m h).1
        cases op with
        | And => exact cw_and1 z
        | Or => exact cw_or1 z
      · rw [Bool.and_eq_true] at h
        rw [dc_and]
        exact cw_and (eC_ok hf m h.1).1 ((eC_ok hf m h.2).2 ⟨_, _, _, rfl⟩)
      · rw [Bool.and_eq_true] at h
        rw [dc_or]
        exact cw_or (eC_ok hf m h.1).1 ((eC_ok hf m h.2).2 ⟨_, _, _, rfl⟩)
      · cases h
    · refine ⟨?_, fun ⟨_, _, _, z⟩ => by cases z⟩
      split at h
      · rw [dc_not]
        exact cs_not (eC_ok hf m h).1
      · cases h
    · refine ⟨?_, fun ⟨_, _, _, z⟩ => by cases z⟩
      split at h
      · rw [Bool.and_eq_true, Bool.and_eq_true, Bool.and_eq_true] at h
        obtain ⟨⟨h1, h2⟩, h3, h4⟩ := h
        rw [copB_eq h1, dc_val, dn_cmp]
        exact cs_cmp (fw _ _ h3) (fw _ _ h4) h2
      · rw [Bool.and_eq_true, Bool.and_eq_true, Bool.and_eq_true, Bool.and_eq_true, Bool.and_eq_true] at h
        obtain ⟨⟨h1, h2, h3⟩, h4, h5, h6⟩ := h
        rw [copB_eq h1, copB_eq h2, dc_val, dn_chain]
        exact cs_chain (fw _ _ h4) (fw _ _ h5) (fw _ _ h6) h3
      · cases h
    · rename_i n1 n2 n3
      rw [Bool.and_eq_true] at h
      refine ⟨?_, fun ⟨op, vs, p, z⟩ => absurd z (n1 op vs p)⟩
      obtain ⟨h1, h2⟩ := h
      split at h2
      · rw [dc_val]
        exact cs_val (fw _ _ h2) h1
      · cases h2
theorem eIfs_ok {f : Bool → Expr → IE → Bool} (hf : ∀ esc e ie, f esc e ie = true → ES (mdE esc ie) c e (dn c ie)) {m : Nat} {ifs : List Expr} {ic : IC} (h : eIfs f m ifs ic = true) : TSs c ifs (dc c ic) := by
  unfold eIfs at h
  split at h
  · rw [dc_tt]
    exact tss_nil
  · exact tss_one (eC_ok hf m h).1
  · cases h
abbrev dS (c : Ctx) : IS → PEnv → HS → Res (List D) := denS c.Φ c.Ψ c.thk
theorem eS_ok {f : Bool → Expr → IE → Bool} (F : Fits K c sc sto) (hf : ∀ esc e ie, f esc e ie = true → ES (mdE esc ie) c e (dn c ie)) {wk : Bool} {tg iter : Expr} {s : IS} (h : eS K f sc wk tg iter s = true) : WS c tg iter wk (dS c s) := by
  have fw : ∀ e ie, f false e ie = true → ES .wk c e (dn c ie) := fun e ie z => (hf false e ie z).wk
  unfold eS at h
  cases s with
  | val a =>
    have ef : dS c (.val a) = fun ρ h => (dn c a ρ h).bind fun x h => ofO (seqOf x) h := by funext ρ h; (simp only [denS]) <;> rfl
    rw [ef]
    exact ws_val (hf _ _ _ h).walk
  | rng1 a =>
    have ef : dS c (.rng1 a) = fun ρ h => (dn c a ρ h).bind fun x h => match x with
    | .int n => if inR n then .ok (rangeD 0 n.toNat) h else .stuck
    | _ => .stuck := by funext ρ h; (simp only [denS]) <;> rfl
    rw [ef]
    dsimp only at h
    split at h
    · simp only [Bool.and_eq_true, decide_eq_true_eq] at h
      obtain ⟨⟨rfl, h2, h3⟩, h4⟩ := h
      obtain ⟨g1, g2⟩ := F.gn h2
      exact ws_rng1 F.st g1 g2 (fw _ _ h4) h3
    · cases h
  | rng2 a b =>
    have ef : dS c (.rng2 a b) = fun ρ h => (dn c a ρ h).bind fun x h => (dn c b ρ h).bind fun y h => match x, y with
    | .int lo, .int hi => if inR lo && inR hi then .ok (rangeD lo (hi - lo).toNat) h else .stuck
    | _, _ => .stuck := by funext ρ h; (simp only [denS]) <;> rfl
    rw [ef]
    dsimp only at h
    split at h
    · simp only [Bool.and_eq_true, decide_eq_true_eq] at h
      obtain ⟨⟨rfl, h2, h3, h4⟩, h5, h6⟩ := h
      obtain ⟨g1, g2⟩ := F.gn h2
      exact ws_rng2 F.st g1 g2 (fw _ _ h5) (fw _ _ h6) h3 h4
    · cases h
  | rng3 a b d => cases h
  | zip a b =>
    have ef : dS c (.zip a b) = fun ρ h => (dn c a ρ h).bind fun x h => (dn c b ρ h).bind fun y h => match x, y with
    | .lst xs, .lst ys => .ok ((xs.zip ys).map fun p => .tup [p.1, p.2]) h
    | .tup xs, .tup ys => .ok ((xs.zip ys).map fun p => .tup [p.1, p.2]) h
    | _, _ => .stuck := by funext ρ h; (simp only [denS]) <;> rfl
    rw [ef]
    dsimp only at h
    rw [Bool.and_eq_true] at h
    obtain ⟨h0, h⟩ := h
    split at h
    · simp only [Bool.and_eq_true, decide_eq_true_eq] at h
      obtain ⟨⟨rfl, h2, h3, h4⟩, h5, h6⟩ := h
      obtain ⟨g1, g2⟩ := F.gn h2
      cases tg <;> first | exact ws_zip F.st g1 g2 (hf _ _ _ h5).walk (hf _ _ _ h6).walk h3 h4 | cases h0
    · cases h
  | enum a =>
    have ef : dS c (.enum a) = fun ρ h => (dn c a ρ h).bind fun x h => match x with
    | .lst xs => .ok (xs.zipIdx.map fun p => .tup [.int (p.2 : Nat), p.1]) h
    | _ => .stuck := by funext ρ h; (simp only [denS]) <;> rfl
    rw [ef]
    dsimp only at h
    rw [Bool.and_eq_true] at h
    obtain ⟨h0, h⟩ := h
    split at h
    · simp only [Bool.and_eq_true, decide_eq_true_eq] at h
      obtain ⟨⟨rfl, h2, h3⟩, h5⟩ := h
      obtain ⟨g1, g2⟩ := F.gn h2
      cases tg <;> first | exact ws_enum F.st g1 g2 (hf _ _ _ h5).walk h3 | cases h0
    · cases h
theorem Fits.inn (F : Fits K c sc sto) (scope : Scope) : Fits K (c.inn scope) (relS scope sc) (stoI scope sc) where
  N := F.N
  sc := by
    show relS scope c.sc = _
    rw [F.sc]
  sto := by
    show stoI scope c.sc = _
    rw [F.sc]
  nm := F.nm
  cs := F.cs
  fr := F.fr
  st := F.st
  ar := F.ar
  calm := F.calm
theorem eLc_ok {ce : CF} (F : Fits K c sc sto) (hce : CeOk K ce) {elt tg iter : Expr} {ifs : List Expr} {scope : Scope} {t : IT} {s : IS} {ic : IC} {x : IE} (h : eLc K ce sc sto elt tg iter ifs scope t s ic x = true) :
    LcOk c elt tg iter ifs scope (ownOf K scope) t (dS c s) (dc c ic) (dn c x) := by
  unfold eLc at h
  simp only [Bool.and_eq_true] at h
  obtain ⟨⟨h1, h2⟩, ⟨h3, h4⟩, h5, h6, h7⟩ := h
  have FI := F.inn scope
  refine ⟨F.calm, eS_ok F (hce c sc sto F) h4, by rw [F.N, F.sc]; exact h1, eTg_ok FI h5, eIfs_ok (c := c.inn scope) (hce _ _ _ FI) h6, (hce _ _ _ FI true _ _ h7).ds, fun i hi => ?_, h3⟩
  have z := List.all_eq_true.mp h2 i hi
  exact List.contains_iff_mem.mp z
theorem lcM_eq {t : IT} {s : IS} {ic : IC} {x : IE} {own : List (Str × Nat)} : dn c (.lc (own.map (·.2)) t s ic x) = lcM own t (dS c s) (dc c ic) (dn c x) := by
  funext ρ h
  simp only [dn, den, lcM]
  rfl
theorem eTys_ok (F : Fits K c sc sto) : ∀ {es : List Expr} {ts : List Ty}, eTys K sc es ts = true → ∃ tp : List (Ty × Pos), es = tyNs tp ∧ tp.map (·.1) = ts ∧ ∀ t ∈ tp, c.sc.names.lookup (tyN t.1) = some .globalImplicit ∧ c.G.fr.contains (tyN t.1) = true
  | [], [], _ => ⟨[], rfl, rfl, fun _ z => nomatch z⟩
  | [], _ :: _, h => by unfold eTys at h; cases h
  | e :: es, [], h => by
    unfold eTys at h
    cases e <;> cases h
  | e :: es, t :: ts, h => by
    unfold eTys at h
    split at h
    · rename_i e1 e2
      cases e1
    · rename_i x p es' t' ts' e1 e2
      cases e1
      cases e2
      simp only [Bool.and_eq_true, decide_eq_true_eq] at h
      obtain ⟨⟨rfl, h2⟩, h3⟩ := h
      obtain ⟨tp, q1, q2, q3⟩ := eTys_ok F h3
      refine ⟨(t, p) :: tp, by rw [q1]; rfl, by rw [List.map_cons, q2], fun u hu => ?_⟩
      rcases List.mem_cons.mp hu with rfl | hu
      · exact F.gn h2
      · exact q3 u hu
    · cases h
end
end PD

set_option Elab.async false
set_option linter.all false
set_option maxRecDepth 100000
set_option maxHeartbeats 2000000
/-! P18: what is checked is so: all expressions, statements. -/
namespace PD
open PySem PySem.Spec PyProof.Rows L2 RZ
section
variable {K : CE} {c : Ctx} {sc : Scope} {sto : Str → Bool}
theorem mdE_fr {esc : Bool} {ie : IE} (h : frE ie = true) : mdE esc ie = .fr := if_pos h
theorem mdE_no {esc : Bool} {ie : IE} (h : frE ie = false) : mdE esc ie = if esc = true then .st else .wk := by
  unfold mdE
  rw [if_neg (by rw [h]; exact Bool.false_ne_true)]
theorem e1_ok {ce : CF} (hce : CeOk K ce) (F : Fits K c sc sto) {esc : Bool} {e : Expr} {ie : IE} (h : e1 K ce sc sto esc e ie = true) : ES (mdE esc ie) c e (dn c ie) := by
  have fa := hce c sc sto F
  have fw : ∀ e ie, ce sc sto false e ie = true → ES .wk c e (dn c ie) := fun e ie z => (fa false e ie z).wk
  have ft : ∀ e ie, ce sc sto true e ie = true → ES .st c e (dn c ie) := fun e ie z => (fa true e ie z).ds
  cases ie with
  | var i =>
    rw [mdE_no rfl]
    exact (eVar_ok F h).1.up_st
  | ovar i =>
    have h : (!esc && eVar K sc e i) = true := h
    rw [Bool.and_eq_true, Bool.not_eq_true'] at h
    obtain ⟨rfl, h⟩ := h
    exact (eVar_ok F h).2
  | lit d => exact eLit_ok F h
  | tup es =>
    have ef : dn c (.tup es) = fun ρ h => (dens c.Φ c.Ψ c.thk es ρ h).bind fun ds h => if ds.length ≤ line then .ok (.tup ds) h else .stuck := by funext ρ h; (simp only [den]) <;> rfl
    rw [ef]
    simp only [e1] at h
    split at h
    · exact es_tup (eAll_ok (wk := false) ft h).1
    · cases h
  | lst es =>
    have ef : dn c (.lst es) = fun ρ h => (dens c.Φ c.Ψ c.thk es ρ h).bind fun ds h => if ds.length ≤ line then .ok (.lst ds) h else .stuck := by funext ρ h; (simp only [den]) <;> rfl
    rw [ef]
    simp only [e1] at h
    split at h
    · exact es_lst (eAll_ok (wk := false) ft h).1
    · cases h
  | dct ks vs => cases h
  | rngL t a b =>
    have ef : dn c (.rngL t a b) = fun ρ h => (dn c a ρ h).bind fun x h => (dn c b ρ h).bind fun y h => ofO (rngD t x y) h := by funext ρ h; (simp only [den]) <;> rfl
    simp only [e1] at h
    split at h
    · rename_i x p y p2
      simp only [Bool.and_eq_true, decide_eq_true_eq] at h
      obtain ⟨⟨rfl, h1⟩, h2⟩ := h
      obtain ⟨g1, g2⟩ := F.gn h1
      unfold eRng at h2
      split at h2
      · simp only [Bool.and_eq_true, decide_eq_true_eq] at h2
        obtain ⟨⟨rfl, h3⟩, h4⟩ := h2
        obtain ⟨g3, g4⟩ := F.gn h3
        split at h4
        · simp only [Bool.and_eq_true] at h4
          obtain ⟨h5, h6, h7⟩ := h4
          cases a with
          | lit d =>
            have := sameD_eq h6
            subst this
            have ea : dn c (.lit (.int 0)) = fun _ h => .ok (.int 0) h := by funext ρ h; (simp only [den]) <;> rfl
            rw [ef, ea]
            exact es_rg1 F.st F.calm g1 g2 g3 g4 (fw _ _ h7) h5
          | _ => cases h6
        · simp only [Bool.and_eq_true] at h4
          obtain ⟨⟨h5, h6⟩, h7, h8⟩ := h4
          rw [ef]
          exact es_rg2 F.st F.calm g1 g2 g3 g4 (fw _ _ h7) (fw _ _ h8) h5 h6
        · cases h4
      · cases h2
    · cases h
  | bin o a b =>
    have ef : dn c (.bin o a b) = fun ρ h => (dn c a ρ h).bind fun x h => (dn c b ρ h).bind fun y h => ofO (binD o x y) h := by funext ρ h; (simp only [den]) <;> rfl
    rw [ef]
    simp only [e1] at h
    split at h
    · simp only [Bool.and_eq_true] at h
      obtain ⟨h1, h2, h3⟩ := h
      rw [opB_eq h1]
      exact es_bin (fw _ _ h2) (fw _ _ h3)
    · cases h
  | neg a =>
    have ef : dn c (.neg a) = fun ρ h => (dn c a ρ h).bind fun x h => ofO (negD x) h := by funext ρ h; (simp only [den]) <;> rfl
    rw [ef]
    simp only [e1] at h
    split at h
    · exact es_neg (fw _ _ h)
    · cases h
  | not a =>
    have ef : dn c (.not a) = fun ρ h => (dn c a ρ h).bind fun x h => ofO ((truthD x).map fun k => .bl (!k)) h := by funext ρ h; (simp only [den]) <;> rfl
    rw [ef]
    simp only [e1] at h
    split at h
    · exact es_not (fw _ _ h)
    · cases h
  | cmp o a b =>
    rw [dn_cmp]
    simp only [e1] at h
    split at h
    · simp only [Bool.and_eq_true] at h
      obtain ⟨⟨h1, h2⟩, h3, h4⟩ := h
      rw [copB_eq h1]
      exact es_cmp (fw _ _ h3) (fw _ _ h4) h2
    · cases h
  | chain o o' a b d =>
    rw [dn_chain]
    simp only [e1] at h
    split at h
    · simp only [Bool.and_eq_true] at h
      obtain ⟨⟨h1, h2, h3⟩, h4, h5, h6⟩ := h
      rw [copB_eq h1, copB_eq h2]
      exact es_chain (fw _ _ h4) (fw _ _ h5) (fw _ _ h6) h3
    · cases h
  | and a b =>
    have ef : dn c (.and a b) = fun ρ h => (dn c a ρ h).bind fun x h => match x with
    | .bl true => dn c b ρ h
    | .bl false => .ok (.bl false) h
    | _ => .stuck := by funext ρ h; (simp only [den]) <;> rfl
    rw [ef, mdE_no rfl]
    simp only [e1] at h
    split at h
    · simp only [Bool.and_eq_true] at h
      exact es_and (fw _ _ h.1) (fa _ _ _ h.2).es
    · cases h
  | or a b =>
    have ef : dn c (.or a b) = fun ρ h => (dn c a ρ h).bind fun x h => match x with
    | .bl true => .ok (.bl true) h
    | .bl false => dn c b ρ h
    | _ => .stuck := by funext ρ h; (simp only [den]) <;> rfl
    rw [ef, mdE_no rfl]
    simp only [e1] at h
    split at h
    · simp only [Bool.and_eq_true] at h
      exact es_or (fw _ _ h.1) (fa _ _ _ h.2).es
    · cases h
  | ite t a b =>
    have ef : dn c (.ite t a b) = fun ρ h => (dc c t ρ h).bind fun k h => if k then dn c a ρ h else dn c b ρ h := by funext ρ h; (simp only [den]) <;> rfl
    rw [ef, mdE_no rfl]
    simp only [e1] at h
    split at h
    · simp only [Bool.and_eq_true] at h
      obtain ⟨h1, h2, h3⟩ := h
      exact es_ite (eC_ok fa 40 h1).1 (fa _ _ _ h2).es (fa _ _ _ h3).es
    · cases h
  | ix a i =>
    have ef : dn c (.ix a i) = fun ρ h => (dn c a ρ h).bind fun x h => (dn c i ρ h).bind fun y h => ofO (ixD h x y) h := by funext ρ h; (simp only [den]) <;> rfl
    rw [ef, mdE_no rfl]
    simp only [e1] at h
    split at h
    · simp only [Bool.and_eq_true] at h
      exact (es_ix (fw _ _ h.2.1) (fw _ _ h.2.2) h.1).up_st
    · cases h
  | slc a lo hi =>
    have ef : dn c (.slc a lo hi) = fun ρ h => (dn c a ρ h).bind fun x h => (denO c.Φ c.Ψ c.thk lo ρ h).bind fun l h => (denO c.Φ c.Ψ c.thk hi ρ h).bind fun u h => ofO (slcD x l u) h := by funext ρ h; (simp only [den]) <;> rfl
    rw [ef]
    simp only [e1] at h
    split at h
    · simp only [Bool.and_eq_true] at h
      obtain ⟨h1, h2, h3⟩ := h
      exact es_slc (fw _ _ h1) (ePart_ok fw h2) (ePart_ok fw h3)
    · cases h
  | rev a =>
    have ef : dn c (.rev a) = fun ρ h => (dn c a ρ h).bind fun x h => ofO (revD x) h := by funext ρ h; (simp only [den]) <;> rfl
    rw [ef]
    simp only [e1] at h
    split at h
    · simp only [Bool.and_eq_true, decide_eq_true_eq] at h
      obtain ⟨rfl, h⟩ := h
      exact es_rev (fw _ _ h)
    · cases h
  | call f as =>
    have ef : dn c (.call f as) = fun ρ h => (dens c.Φ c.Ψ c.thk as ρ h).bind fun ds h => c.Φ f ds h := by funext ρ h; (simp only [den]) <;> rfl
    rw [ef, mdE_no rfl]
    simp only [e1] at h
    split at h
    · simp only [Bool.and_eq_true, decide_eq_true_eq] at h
      obtain ⟨⟨h1, h2, h3⟩, h4⟩ := h
      obtain ⟨a1, a2⟩ := eAll_ok (wk := false) ft h4
      exact (es_call F.st F.ar (by rw [F.nm]; exact h1) (F.gl h2) F.calm a1 a2 (okNm_ok h3).1).up_st
    · cases h
  | callv i as =>
    have ef : dn c (.callv i as) = fun ρ h => match ρ[i]? with
    | some (.val (.fn f)) => (dens c.Φ c.Ψ c.thk as ρ h).bind fun ds h => c.Φ f ds h
    | _ => .stuck := by funext ρ h; (simp only [den]) <;> rfl
    rw [ef, mdE_no rfl]
    simp only [e1] at h
    split at h
    · simp only [Bool.and_eq_true] at h
      obtain ⟨h1, h2⟩ := h
      obtain ⟨q1, q2, q3, q4⟩ := F.vn h1
      obtain ⟨a1, a2⟩ := eAll_ok (wk := false) ft h2
      exact (es_callv F.st F.ar q1 q2 F.calm a1 a2 q3 q4).up_st
    · cases h
  | thk => cases h
  | said f b => cases h
  | bi b as =>
    have ef : dn c (.bi b as) = fun ρ h => (dens c.Φ c.Ψ c.thk as ρ h).bind fun ds h => ofO (biD b ds) h := by funext ρ h; (simp only [den]) <;> rfl
    rw [ef]
    simp only [e1] at h
    split at h
    · simp only [Bool.and_eq_true, decide_eq_true_eq] at h
      obtain ⟨⟨rfl, h1⟩, h2⟩ := h
      obtain ⟨g1, g2⟩ := F.gn h1
      obtain ⟨a1, a2⟩ := eAll_ok (wk := true) fw h2
      have z := fun p pos => es_bi (b := b) (p := p) (pos := pos) F.st F.calm g1 g2 a1 a2
      cases hb : biFr b with
      | true =>
        simp only [hb, if_true] at z
        rw [mdE_fr (by exact hb)]
        exact z _ _
      | false =>
        simp only [hb, Bool.false_eq_true, if_false] at z
        rw [mdE_no (by exact hb)]
        exact (z _ _).up_st
    · cases h
  | isi a ts =>
    have ef : dn c (.isi a ts) = fun ρ h => (dn c a ρ h).bind fun x h => ofO ((isTys x ts).map .bl) h := by funext ρ h; (simp only [den]) <;> rfl
    rw [ef]
    simp only [e1] at h
    split at h
    · simp only [Bool.and_eq_true, decide_eq_true_eq] at h
      obtain ⟨rfl, h⟩ := h
      unfold eIsi at h
      split at h
      · simp only [Bool.and_eq_true] at h
        obtain ⟨⟨h1, h2, h3⟩, h4⟩ := h
        obtain ⟨g1, g2⟩ := F.gn h1
        split at h4
        · simp only [Bool.and_eq_true, decide_eq_true_eq] at h4
          obtain ⟨rfl, h5⟩ := h4
          obtain ⟨g3, g4⟩ := F.gn h5
          exact es_isi1 F.st g1 g2 g3 g4 (fw _ _ h3) h2
        · simp only [Bool.and_eq_true, decide_eq_true_eq] at h4
          obtain ⟨h5, h6, h7⟩ := h4
          obtain ⟨tp, rfl, rfl, q⟩ := eTys_ok F h5
          refine es_isi F.st g1 g2 q (fun z => ?_) (by simpa using h7) (fw _ _ h3) h2
          subst z
          simp at h6
        · cases h4
      · cases h
    · cases h
  | mt m o as =>
    have ef : dn c (.mt m o as) = fun ρ h => (dn c o ρ h).bind fun x h => if isLst x then (dens c.Φ c.Ψ c.thk as ρ h).bind fun ds h => ofO (mtD m x ds) h else .stuck := by funext ρ h; (simp only [den]) <;> rfl
    rw [ef]
    simp only [e1] at h
    split at h
    · simp only [Bool.and_eq_true, decide_eq_true_eq] at h
      obtain ⟨⟨rfl, h1, h2⟩, h3, h4⟩ := h
      obtain ⟨a1, a2⟩ := eAll_ok (wk := true) fw h4
      exact es_mt (fw _ _ h3) a1 h1 (by simpa using a2) h2
    · cases h
  | lc vs t s ic x =>
    simp only [e1] at h
    split at h
    · simp only [Bool.and_eq_true, decide_eq_true_eq] at h
      obtain ⟨⟨rfl, rfl⟩, h⟩ := h
      rw [lcM_eq]
      exact es_lc (eLc_ok F hce h)
    · cases h
  | isx i k => cases h
  | xmost i => cases h
theorem chkE_ok : ∀ n, CeOk K (chkE K n)
  | 0 => fun c sc sto F esc e ie h => by cases h
  | n + 1 => fun c sc sto F esc e ie h => by
    have h : (if isOne e then chkE K n sc sto esc (oneOf e) ie else e1 K (chkE K n) sc sto esc e ie) = true := h
    split at h
    · rename_i h1
      unfold isOne at h1
      split at h1
      · exact es_one (chkE_ok n c sc sto F esc _ ie h)
      · cases h1
    · exact e1_ok (chkE_ok n) F h

/-! ### statements -/
noncomputable abbrev dM (c : Ctx) : IM → Mng := denM c.Φ c.Ψ c.thk
noncomputable abbrev dMs (c : Ctx) : IMs → Mng := denMs c.Φ c.Ψ c.thk
theorem dMs_cons {m : IM} {r : IMs} : dMs c (.cons m r) = thenM (dM c m) (dMs c r) := by
  funext ρ h
  simp only [dMs, denMs, thenM] <;> rfl
theorem sAll_ok {f : Stmt → IM → Bool} (hf : ∀ st m, f st m = true → MO c st (dM c m)) : ∀ {b : IMs} {sts : List Stmt}, sAll f sts b = true → MS c sts (dMs c b)
  | .nil, sts, h => by
    unfold sAll at h
    have e : sts = [] := by simpa using h
    subst e
    have ef : dMs c .nil = fun ρ h => .ok (.nx ρ) h := by funext ρ h; simp only [denMs]
    rw [ef]
    exact ms_nil
  | .cons m r, sts, h => by
    unfold sAll at h
    split at h
    · rename_i is
      have ef : dMs c (.cons (.frz is) r) = fun ρ h => dMs c r (frzL is ρ) h := by
        funext ρ h
        simp only [dMs, denMs, denM]
        rfl
      rw [ef]
      exact ms_frz (sAll_ok hf h)
    · have ef : dMs c (.cons .dead r) = fun _ _ => .stuck := by
        funext ρ h
        simp only [dMs, denMs, denM]
        rfl
      rw [ef]
      exact ms_dead
    · split at h
      · rw [Bool.and_eq_true] at h
        rw [dMs_cons]
        exact ms_cons (hf _ _ h.1) (sAll_ok hf h.2)
      · cases h

theorem nmB_ok (F : Fits K c sc sto) : ∀ {ts : List Expr} {is : List (Nat × Bool)}, nmB K sc sto ts is = true → NmOk c ts is
  | [], [], _ => trivial
  | [], _ :: _, h => by unfold nmB at h; cases h
  | e :: es, [], h => by
    unfold nmB at h
    cases e <;> cases h
  | e :: es, (i, o) :: is, h => by
    unfold nmB at h
    split at h
    · rename_i e1 e2
      cases e1
    · rename_i e1 e2
      cases e1
      cases e2
      simp only [Bool.and_eq_true, decide_eq_true_eq] at h
      obtain ⟨⟨h1, h2, h3⟩, h4⟩ := h
      exact ⟨⟨by rw [F.N]; exact h1, F.loc h2, by rw [F.sto]; exact h3⟩, nmB_ok F h4⟩
    · cases h
theorem eNames_ok {fs : Bool → Expr → IE → Bool} (hf : ∀ esc e ie, fs esc e ie = true → ES (mdE esc ie) c e (dn c ie)) : ∀ {is : List (Nat × Bool)} {es : List Expr} {r : IEs}, eNames fs is es r = true → PSn c (is.map (·.2)) es (dens c.Φ c.Ψ c.thk r)
  | [], [], .nil, _ => by
    have ef : dens c.Φ c.Ψ c.thk .nil = fun _ h => .ok [] h := by funext ρ h; simp only [dens]
    rw [ef]
    exact psn_nil
  | (i, o) :: is, e :: es, .cons x r, h => by
    unfold eNames at h
    simp only [Bool.and_eq_true] at h
    obtain ⟨⟨h1, h2, h3⟩, h4⟩ := h
    have ef : dens c.Φ c.Ψ c.thk (.cons x r) = fun ρ h => (dn c x ρ h).bind fun y h => (dens c.Φ c.Ψ c.thk r ρ h).bind fun xs h => .ok (y :: xs) h := by funext ρ h; simp only [dens]
    rw [ef]
    have z := hf true e x h2
    refine psn_cons (o := o) ?_ (eNames_ok hf h4) h3
    cases o with
    | true =>
      rw [if_pos rfl] at h1
      rw [mdE_fr h1] at z
      exact z
    | false => exact z.ds
  | [], [], .cons _ _, h => by unfold eNames at h; cases h
  | [], _ :: _, r, h => by cases r <;> (unfold eNames at h; cases h)
  | _ :: _, [], r, h => by cases r <;> (unfold eNames at h; cases h)
  | _ :: _, _ :: _, .nil, h => by unfold eNames at h; cases h
theorem lk_of {x : Str} {k : NameKind} (h : (sc.names.lookup x == some k) = true) : sc.names.lookup x = some k := eq_of_beq (α := Option NameKind) h
theorem ePar_ok {fs : Bool → Expr → IE → Bool} (F : Fits K c sc sto) (hf : ∀ esc e ie, fs esc e ie = true → ES (mdE esc ie) c e (dn c ie)) {is : List (Nat × Bool)} {es : IEs} {ts vs : List Expr} {kt k2 : Nat} {pt pt2 pos : Pos} (h : ePar K fs sc sto is es ts vs = true) :
    MO c (.Assign [.Tuple ts kt pt] (.Tuple vs k2 pt2) pos) (parM is (dens c.Φ c.Ψ c.thk es)) := by
  unfold ePar at h
  simp only [Bool.and_eq_true, Bool.or_eq_true, Bool.not_eq_true'] at h
  obtain ⟨⟨h1, h2, h3⟩, h4⟩ := h
  have nm := nmB_ok F h1
  have pn := eNames_ok hf h2
  split at h4
  · rename_i hs
    exact mo_parT F.calm nm h3 (by rw [F.sc]; exact hs) (by simpa using h4) pn
  · rename_i xs hs
    simp only [Bool.and_eq_true, Bool.or_eq_true, decide_eq_true_eq, beq_iff_eq] at h4
    obtain ⟨h5, h6, rfl, h7⟩ := h4
    rcases h7 with h7 | h7
    · obtain ⟨a, b, rfl⟩ := two_of h7
      match is, nm with
      | [(i, o), (j, o')], nm =>
        cases a with
        | Name x px =>
          cases b with
          | Name y py =>
            obtain ⟨⟨n1, _, _⟩, ⟨n2, _, _⟩, _⟩ := nm
            simp only [locN, Bool.and_eq_true, Bool.and_true] at h5
            have hij : i ≠ j := fun z => by
              subst z
              simp [distinct] at h6
            match vs, pn with
            | [v, w], pn => exact mo_par2 F.calm n1 n2 hij (by rw [F.sc]; exact lk_of h5.1) (by rw [F.sc]; exact lk_of h5.2) h3 (by rw [F.sc]; exact hs) pn
            | [], pn => exact absurd hs (by unfold swL; simp)
            | [_], pn => exact absurd hs (by unfold swL; simp)
            | _ :: _ :: _ :: _, pn => exact absurd hs (by unfold swL; simp)
          | _ => exact nm.2.elim
        | _ => exact nm.elim
      | [], nm => cases a <;> exact nm.elim
      | [(i, o)], nm =>
        cases a with
        | Name x px => cases b <;> exact nm.2.elim
        | _ => exact nm.elim
      | _ :: _ :: _ :: _, nm =>
        cases a with
        | Name x px =>
          cases b with
          | Name y py => exact nm.2.2.elim
          | _ => exact nm.2.elim
        | _ => exact nm.elim
    · obtain ⟨a, b, d, rfl⟩ := three_of h7
      match is, nm with
      | [(i, o), (j, o'), (l, o2)], nm =>
        cases a with
        | Name x px =>
          cases b with
          | Name y py =>
            cases d with
            | Name z pz =>
              obtain ⟨⟨n1, _, _⟩, ⟨n2, _, _⟩, ⟨n3, _, _⟩, _⟩ := nm
              simp only [locN, Bool.and_eq_true, Bool.and_true] at h5
              simp only [distinct, List.map_cons, List.map_nil, Bool.and_eq_true, Bool.not_eq_true', List.contains_cons, List.contains_nil, Bool.or_false, Bool.or_eq_false_iff, beq_eq_false_iff_ne] at h6
              match vs, pn with
              | [u, v, w], pn => exact mo_par3 F.calm n1 n2 n3 h6.1.1 h6.1.2 h6.2.1 (by rw [F.sc]; exact lk_of h5.1) (by rw [F.sc]; exact lk_of h5.2.1) (by rw [F.sc]; exact lk_of h5.2.2) h3 (by rw [F.sc]; exact hs) pn
              | [], pn => exact absurd hs (by unfold swL; simp)
              | [_], pn => exact absurd hs (by unfold swL; simp)
              | [_, _], pn => exact absurd hs (by unfold swL; simp)
              | _ :: _ :: _ :: _ :: _, pn => exact absurd hs (by unfold swL; simp)
            | _ => exact nm.2.2.elim
          | _ => exact nm.2.elim
        | _ => exact nm.elim
      | [], nm => cases a <;> exact nm.elim
      | [(i, o)], nm =>
        cases a with
        | Name x px => cases b <;> exact nm.2.elim
        | _ => exact nm.elim
      | [(i, o), (j, o')], nm =>
        cases a with
        | Name x px =>
          cases b with
          | Name y py => cases d <;> exact nm.2.2.elim
          | _ => exact nm.2.elim
        | _ => exact nm.elim
      | _ :: _ :: _ :: _ :: _, nm =>
        cases a with
        | Name x px =>
          cases b with
          | Name y py =>
            cases d with
            | Name z pz => exact nm.2.2.2.elim
            | _ => exact nm.2.2.elim
          | _ => exact nm.2.elim
        | _ => exact nm.elim
theorem dM_aug {i : Nat} {o : BOp} {e : IE} : dM c (.aug i o e) = fun ρ h => match ρ[i]? with
    | some (.val (.int x)) => (dn c e ρ h).bind fun y h => (match o, y with
      | .add, .int y => .ok (.nx (ρ.set i (.val (.int (x + y))))) h
      | .sub, .int y => .ok (.nx (ρ.set i (.val (.int (x - y))))) h
      | _, _ => .stuck)
    | _ => .stuck := by funext ρ h; (simp only [denM]) <;> rfl
theorem s1_ok {ce : CF} (F : Fits K c sc sto) (hce : CeOk K ce) {rec_ : Stmt → IM → Bool} (hr : ∀ st m, rec_ st m = true → MO c st (dM c m)) {st : Stmt} {im : IM} (h : s1 K (ce sc sto) ce sc sto rec_ st im = true) : MO c st (dM c im) := by
  have fa := hce c sc sto F
  have fw : ∀ e ie, ce sc sto false e ie = true → ES .wk c e (dn c ie) := fun e ie z => (fa false e ie z).wk
  have ft : ∀ e ie, ce sc sto true e ie = true → ES .st c e (dn c ie) := fun e ie z => (fa true e ie z).ds
  have hb : ∀ {sts b}, sAll rec_ sts b = true → MS c sts (dMs c b) := fun z => sAll_ok hr z
  cases im with
  | set i e =>
    have ef : dM c (.set i e) = fun ρ h => (dn c e ρ h).bind fun d h => .ok (.nx (ρ.set i (.val d))) h := by funext ρ h; (simp only [denM]) <;> rfl
    rw [ef]
    simp only [s1] at h
    split at h
    · simp only [Bool.and_eq_true, decide_eq_true_eq] at h
      obtain ⟨⟨h1, h2, h3⟩, h4⟩ := h
      rw [← F.N] at h1
      rw [← F.sto] at h3
      have n1 := h1
      have n3 := h3
      split at h4
      · simp only [Bool.and_eq_true, decide_eq_true_eq] at h4
        obtain ⟨⟨rfl, rfl⟩, h5⟩ := h4
        rw [lcM_eq]
        exact mo_setLc false (eLc_ok F hce h5) n1 (F.loc h2) n3
      · rw [Bool.and_eq_true] at h4
        exact mo_set n1 (F.loc h2) n3 h4.1 (ft _ _ h4.2)
    · cases h
  | setO i e =>
    have ef : dM c (.setO i e) = fun ρ h => (dn c e ρ h).bind fun d h => .ok (.nx (ρ.set i (slotOf true d))) h := by funext ρ h; (simp only [denM]) <;> rfl
    rw [ef]
    simp only [s1] at h
    split at h
    · simp only [Bool.and_eq_true, decide_eq_true_eq] at h
      obtain ⟨⟨h1, h2, h3⟩, h4⟩ := h
      rw [← F.N] at h1
      rw [← F.sto] at h3
      have n1 := h1
      have n3 := h3
      split at h4
      · simp only [Bool.and_eq_true, decide_eq_true_eq] at h4
        obtain ⟨⟨rfl, rfl⟩, h5⟩ := h4
        rw [lcM_eq]
        exact mo_setLc true (eLc_ok F hce h5) n1 (F.loc h2) n3
      · rw [Bool.and_eq_true, Bool.and_eq_true] at h4
        have z := fa _ _ _ h4.2.2
        rw [mdE_fr h4.2.1] at z
        exact mo_setO n1 (F.loc h2) n3 h4.1 z
    · cases h
  | setT t e =>
    have ef : dM c (.setT t e) = fun ρ h => (dn c e ρ h).bind fun d h => ofO ((asgT t d ρ).map .nx) h := by funext ρ h; (simp only [denM]) <;> rfl
    rw [ef]
    simp only [s1] at h
    split at h
    · simp only [Bool.and_eq_true] at h
      obtain ⟨⟨h1, h2⟩, ⟨h3, h4⟩, h5⟩ := h
      exact mo_setT (eTg_ok F h1) (ft _ _ h5) h3 h4 h2
    · cases h
  | par is es =>
    have ef : dM c (.par is es) = parM is (dens c.Φ c.Ψ c.thk es) := by funext ρ h; (simp only [denM]) <;> rfl
    rw [ef]
    simp only [s1] at h
    split at h
    · exact ePar_ok F fa h
    · cases h
  | setIx i k e =>
    have ef : dM c (.setIx i k e) = fun ρ h => (dn c e ρ h).bind fun d h => match ρ[i]? with
    | some (.own (.lst xs)) => (dn c k ρ h).bind fun z h => ofO ((setD xs z d).map fun ys => .nx (ρ.set i (.own (.lst ys)))) h
    | some (.val .hnd) => (dn c k ρ h).bind fun z h => (match setD h z d with
      | some h' => .ok (.nx ρ) h'
      | none => .stuck)
    | _ => .stuck := by funext ρ h; (simp only [denM]) <;> rfl
    rw [ef]
    simp only [s1] at h
    split at h
    · simp only [Bool.and_eq_true] at h
      obtain ⟨⟨h1, h2, h3⟩, h4, h5⟩ := h
      obtain ⟨q1, q2, q3, q4⟩ := F.vn h1
      exact mo_setIx q1 q2 q3 q4 h2 h3 (ft _ _ h4) (fw _ _ h5)
    · cases h
  | aug i o e =>
    have ef := dM_aug (c := c) (i := i) (o := o) (e := e)
    rw [ef]
    simp only [s1] at h
    split at h
    · simp only [Bool.and_eq_true, decide_eq_true_eq] at h
      obtain ⟨⟨h1, h2, h3⟩, h4, h5⟩ := h
      rw [opB_eq h4]
      exact mo_aug (by rw [F.N]; exact h1) (F.loc h2) (by rw [F.sto]; exact h3) (fw _ _ h5)
    · cases h
  | app i e =>
    have ef : dM c (.app i e) = fun ρ h => match ρ[i]? with
    | some (.own (.lst xs)) => (dn c e ρ h).bind fun d h => if xs.length < line then .ok (.nx (ρ.set i (.own (.lst (xs ++ [d]))))) h else .stuck
    | _ => .stuck := by funext ρ h; (simp only [denM]) <;> rfl
    rw [ef]
    simp only [s1] at h
    split at h
    · simp only [Bool.and_eq_true, decide_eq_true_eq] at h
      obtain ⟨⟨rfl, h1, h2, h3⟩, h4⟩ := h
      obtain ⟨q1, q2, q3, q4⟩ := F.vn h1
      exact mo_app q1 q2 q3 q4 h2 h3 (ft _ _ h4)
    · cases h
  | ext i e =>
    have ef : dM c (.ext i e) = fun ρ h => match ρ[i]? with
    | some (.own (.lst xs)) => (dn c e ρ h).bind fun d h => match d with
      | .lst ys => if xs.length + ys.length ≤ line then .ok (.nx (ρ.set i (.own (.lst (xs ++ ys))))) h else .stuck
      | _ => .stuck
    | _ => .stuck := by funext ρ h; (simp only [denM]) <;> rfl
    rw [ef]
    simp only [s1] at h
    split at h
    · simp only [Bool.and_eq_true, decide_eq_true_eq] at h
      obtain ⟨⟨rfl, h1, h2, h3⟩, h4⟩ := h
      obtain ⟨q1, q2, q3, q4⟩ := F.vn h1
      exact mo_ext q1 q2 q3 q4 h2 h3 (fw _ _ h4)
    · cases h
  | expr e =>
    have ef : dM c (.expr e) = fun ρ h => (dn c e ρ h).bind fun _ h => .ok (.nx ρ) h := by funext ρ h; (simp only [denM]) <;> rfl
    rw [ef]
    simp only [s1] at h
    split at h
    · rw [Bool.and_eq_true] at h
      exact mo_expr (fw _ _ h.2) h.1
    · cases h
  | ite t a b =>
    have ef : dM c (.ite t a b) = fun ρ h => (dc c t ρ h).bind fun x h => if x then dMs c a ρ h else dMs c b ρ h := by funext ρ h; (simp only [denM]) <;> rfl
    rw [ef]
    simp only [s1] at h
    split at h
    · simp only [Bool.and_eq_true] at h
      exact mo_ite (eC_ok fa 40 h.1).1 (hb h.2.1) (hb h.2.2)
    · cases h
  | whl t b =>
    have ef : dM c (.whl t b) = fun ρ h => whileL (dc c t) (dMs c b) ρ h := by funext ρ h; (simp only [denM]) <;> rfl
    rw [ef]
    simp only [s1] at h
    split at h
    · simp only [Bool.and_eq_true] at h
      exact mo_whl (eC_ok fa 40 h.1).1 (hb h.2)
    · cases h
  | for_ t s b =>
    have ef : dM c (.for_ t s b) = fun ρ h => (dS c s ρ h).bind fun its h => forL (fun d ρ h => match asgT t d ρ with
    | some ρ' => dMs c b ρ' h
    | none => .stuck) its ρ h := by funext ρ h; (simp only [denM]) <;> rfl
    rw [ef]
    simp only [s1] at h
    split at h
    · simp only [Bool.and_eq_true] at h
      obtain ⟨⟨h1, h2⟩, h3, h4⟩ := h
      exact mo_for F.calm (eS_ok F fa h2) (eTg_ok F h3) (hb h4) h1
    · cases h
  | ret e =>
    have ef : dM c (.ret e) = fun ρ h => (dn c e ρ h).bind fun d h => .ok (.rt d) h := by funext ρ h; (simp only [denM]) <;> rfl
    rw [ef]
    simp only [s1] at h
    split at h
    · exact mo_ret (ft _ _ h)
    · cases h
  | retN =>
    have ef : dM c .retN = fun _ h => .ok (.rt .non) h := by funext ρ h; (simp only [denM]) <;> rfl
    rw [ef]
    simp only [s1] at h
    split at h
    · exact mo_retN
    · cases h
  | rse _ _ => cases h
  | brk =>
    have ef : dM c .brk = fun ρ h => .ok (.bk ρ) h := by funext ρ h; (simp only [denM]) <;> rfl
    rw [ef]
    simp only [s1] at h
    split at h
    · exact mo_brk
    · cases h
  | cnt =>
    have ef : dM c .cnt = fun ρ h => .ok (.ct ρ) h := by funext ρ h; (simp only [denM]) <;> rfl
    rw [ef]
    simp only [s1] at h
    split at h
    · exact mo_cnt
    · cases h
  | pass =>
    have ef : dM c .pass = fun ρ h => .ok (.nx ρ) h := by funext ρ h; (simp only [denM]) <;> rfl
    rw [ef]
    simp only [s1] at h
    split at h
    · exact mo_pass
    · exact mo_doc
    · cases h
  | frz _ => cases h
  | dead =>
    have ef : dM c .dead = fun _ _ => .stuck := by funext ρ h; (simp only [denM]) <;> rfl
    rw [ef]
    exact mo_dead
  | tryE _ _ _ _ => cases h
theorem chkM_ok (F : Fits K c sc sto) : ∀ (n : Nat) (st : Stmt) (m : IM), chkM K sc sto n st m = true → MO c st (dM c m)
  | 0, _, _, h => by cases h
  | n + 1, st, m, h => s1_ok F (chkE_ok 40) (chkM_ok F n) h
/-- a def's body -/
theorem chkB_ok (F : Fits K c sc (fun _ => true)) {sts : List Stmt} {b : IMs} (h : chkB K sc sts b = true) : MS c sts (dMs c b) := sAll_ok (chkM_ok F 40) h
end
end PD

set_option Elab.async false
set_option linter.all false
set_option maxRecDepth 100000
set_option maxHeartbeats 2000000
/-! P19: defs, one after another. -/
namespace PD
open PySem PySem.Spec PyProof.Rows L2 RZ
/-- a def: its text, its slots' names, its small program -/
structure DefX where
  x : Str
  params : Arguments
  body : List Stmt
  scope : Scope
  N : List Str
  ps : List Str
  b : IMs
structure DefT where
  b : IMs
  n : Nat
  ar : Nat
def DefX.t (d : DefX) : DefT := ⟨d.b, d.N.length, d.ps.length⟩
abbrev noPsi : Nat → (HS → Res D) → HS → Res D := fun _ _ _ => .stuck
abbrev noThk : HS → Res D := fun _ => .stuck
/-- what the defs compute; the last one first -/
noncomputable def PhiL : List DefT → Nat → List D → HS → Res D
  | [], _, _, _ => .stuck
  | t :: r, f, ds, h => if f = r.length then (if ds.length = t.ar then denF (PhiL r) noPsi noThk t.b t.n ds h else .stuck) else PhiL r f ds h
def scB (N ps : List Str) (sc : Scope) : Bool :=
  (match sc.kind with | .function => true | _ => false) && ((!sc.isCoroutine && !sc.isGenerator) && (decide N.Nodup && (decide (N.take ps.length = ps) && (ps.all (fun x => locB sc x) && sc.names.all fun y => match y.2 with
    | .free => false
    | _ => true))))
theorem scB_ok {N ps : List Str} {sc : Scope} (h : scB N ps sc = true) : FnScope N ps sc := by
  unfold scB at h
  simp only [Bool.and_eq_true, decide_eq_true_eq, Bool.not_eq_true', List.all_eq_true] at h
  obtain ⟨h1, ⟨h2, h3⟩, h4, h5, h6, h7⟩ := h
  refine ⟨?_, h2, h3, h4, h5, fun x hx => ?_, fun y hy z => ?_⟩
  · split at h1
    · assumption
    · cases h1
  · have q := h6 x hx
    unfold locB at q
    rw [Bool.or_eq_true] at q
    rcases q with q | q
    · exact .inl (eq_of_beq (α := Option NameKind) q)
    · exact .inr (eq_of_beq (α := Option NameKind) q)
  · have q := h7 y hy
    rw [z] at q
    cases q
def BindP (d : DefX) : Prop := ∀ (kV doc pm : Value) (an : Option Addr) (cdv ct : Value) (us : List Value), us.length = d.ps.length → bindArgs (PySem.W.fnOf d.x d.x d.params d.body d.scope .none kV doc pm an cdv ct) ⟨us, []⟩ = pure (d.ps.zip us)
/-- a def stands as it is told -/
def DefOk (G : Cfg) (f : Nat) (d : DefX) : Prop := FunD G.K d.x d.x d.params d.body d.scope [] [] (G.fa f) (G.fd f) ∧ G.ps f = d.ps
def CE.at (K : CE) (N : List Str) : CE := { K with N := N }
/-- what is known of a law's defs -/
structure Tab (G : Cfg) (K : CE) (dx : List DefX) : Prop where
  st : Stat G
  nm : G.nm = K.nm
  cs : G.cs = K.cs
  fr : G.fr = K.fr
  ok : ∀ f d, dx[f]? = some d → DefOk G f d
  chk : ∀ d ∈ dx, scB d.N d.ps d.scope = true ∧ chkB (K.at d.N) d.scope d.body d.b = true
/-- a body's context -/
theorem okX {G : Cfg} {P : Program} {w : World} {Φ : Nat → List D → HS → Res D} {N ps : List Str} {sc : Scope} {k : Nat} {qual : Str} {f : Addr} {cdv : Value} {A : Around} {outer : List Env} {s : Shared} {H : Hp} {E : XK}
    (hS : FnScope N ps sc) (hr : Room k (A.deeper (envOfC qual sc s.heap.objs.size f cdv))) (hF : ∀ f, FnOk P w G.K G.mg G.base (L2.CX P w) k (G.fa f) (G.fd f) (G.ps f) (spD G (Φ f) (G.ps f).length)) :
    XOk ⟨G, Φ, noPsi, N, sc, fun _ => true, true, E, k, noThk, none, fun _ _ _ => False⟩ (cxOf (L2.CX P w) P w G.K G.mg G.base N qual sc f cdv A outer s H E) where
  eN := rfl
  eS := rfl
  eC := rfl
  eK := rfl
  eM := rfl
  fns := hF
  px := passes_call (takes_of rfl rfl rfl rfl) fun _ _ _ _ h => h
  hr := fun _ => hr
  hu := by
    have := hr.un
    show (A.deeper (envOfC qual sc s.heap.objs.size f cdv)).units + 80 < cLine
    omega
  nd := hS.nd
  fnl := fun _ _ => .inl rfl
  own := passes_of rfl
  thk := fun x p1 p2 h => by cases h
theorem phi_ar {G : Cfg} {dx : List DefX} (hp : ∀ f d, dx[f]? = some d → G.ps f = d.ps) : ∀ j, j ≤ dx.length → ∀ f ds h, PhiL ((dx.take j).map DefX.t).reverse f ds h ≠ .stuck → ds.length = (G.ps f).length
  | 0, _, f, ds, h, n => absurd rfl n
  | j + 1, hj, f, ds, h, n => by
    have hj' : j < dx.length := hj
    rw [List.take_succ_eq_append_getElem hj', List.map_append, List.map_cons, List.map_nil, List.reverse_append, List.reverse_singleton, List.singleton_append] at n
    unfold PhiL at n
    have hl : ((dx.take j).map DefX.t).reverse.length = j := by
      rw [List.length_reverse, List.length_map, List.length_take]
      omega
    rw [hl] at n
    split at n
    · rename_i e
      subst e
      split at n
      · rename_i e
        rw [e, hp f dx[f] (List.getElem?_eq_getElem hj')]
        rfl
      · exact absurd rfl n
    · exact phi_ar hp j (by omega) f ds h n
theorem tabs_all {G : Cfg} {K : CE} {dx : List DefX} {P : Program} {w : World} (T : Tab G K dx) : ∀ j, j ≤ dx.length → ∀ f, FnOk P w G.K G.mg G.base (L2.CX P w) j (G.fa f) (G.fd f) (G.ps f) (spD G (PhiL ((dx.take j).map DefX.t).reverse f) (G.ps f).length)
  | 0, _, f => ⟨fun vs H Q E h => h.1, fun A outer s H args us vs Q E hr e0 hb r h => by
    obtain ⟨_, ha, B, ds, hs, _, _, p⟩ := h
    exact p.elim⟩
  | j + 1, hj, f => by
    have hj' : j < dx.length := hj
    have hl : ((dx.take j).map DefX.t).reverse.length = j := by
      rw [List.length_reverse, List.length_map, List.length_take]
      omega
    have ih := tabs_all (P := P) (w := w) T j (by omega)
    rw [List.take_succ_eq_append_getElem hj', List.map_append, List.map_cons, List.map_nil, List.reverse_append, List.reverse_singleton, List.singleton_append]
    by_cases e : f = j
    · subst e
      have hd : dx[f]? = some dx[f] := List.getElem?_eq_getElem hj'
      generalize dx[f] = d at hd
      obtain ⟨F, hps⟩ := T.ok f d hd
      obtain ⟨c1, c2⟩ := T.chk d (List.mem_of_getElem? hd)
      have hS := scB_ok c1
      rw [hps]
      refine F.ok hS (fun vs H Q E h => h.1) fun cdv A outer s H vs Q E hr h => ?_
      obtain ⟨hvl, ha, B, ds, hs, rv, hh, p⟩ := h
      have X := okX (G := G) (Φ := PhiL ((dx.take f).map DefX.t).reverse) (qual := d.x) (f := G.fa f) (cdv := cdv) (outer := outer) (s := s) (H := H) (E := E) hS hr ih
      have FF : Fits (K.at d.N) ⟨G, PhiL ((dx.take f).map DefX.t).reverse, noPsi, d.N, d.scope, fun _ => true, true, E, f, noThk, none, fun _ _ _ => False⟩ d.scope (fun _ => true) := ⟨rfl, rfl, rfl, T.nm, T.cs, T.fr, T.st, phi_ar (fun f d hd => (T.ok f d hd).2) f (by omega), rfl⟩
      obtain ⟨t, pt, qt⟩ := chkB_ok FF c2
      refine ⟨t, pt _ X, ?_⟩
      have hNl : d.ps.length ≤ d.N.length := by
        have := congrArg List.length hS.pre
        rw [List.length_take] at this
        omega
      have hdl := rv.length
      have S : SSim G ha B (fun b => b = ha) H (fun _ => none) (ds.map .val ++ List.replicate (d.N.length - ds.length) .no) hs (start d.N vs) H := by
        refine ⟨fun i j a h => (nomatch h), fun i a h => (nomatch h), .refl, rfl, hh.hB, ⟨?_, fun i sl e => ?_, hh.sub (.inl hh.hB) fun b z => z.elim id fun ⟨i, y⟩ => (nomatch y)⟩, fun i d' e => ?_, fun i a h => (nomatch h)⟩
        · unfold L2.start
          rw [List.length_append, List.length_append, List.length_map, List.length_map, List.length_replicate, List.length_replicate, hdl]
        · by_cases hi : i < ds.length
          · rw [List.getElem?_append_left (by rw [List.length_map]; exact hi), List.getElem?_map] at e
            rw [List.getElem?_eq_getElem hi] at e
            cases e
            obtain ⟨v, e1, r1⟩ := rv.get (List.getElem?_eq_getElem hi)
            refine ⟨v, ?_, Rep.sub r1 fun b z => z.elim id fun ⟨i, y⟩ => (nomatch y)⟩
            unfold L2.start
            rw [List.getElem?_append_left (by rw [List.length_map, ← hdl]; exact hi), List.getElem?_map, e1]
            rfl
          · rw [List.getElem?_append_right (by rw [List.length_map]; omega), List.getElem?_replicate] at e
            split at e
            · cases e
              trivial
            · cases e
        · by_cases hi : i < ds.length
          · rw [List.getElem?_append_left (by rw [List.length_map]; exact hi), List.getElem?_map, List.getElem?_eq_getElem hi] at e
            cases e
          · rw [List.getElem?_append_right (by rw [List.length_map]; omega), List.getElem?_replicate] at e
            split at e <;> cases e
      refine qt ha B _ H _ _ hs _ H _ S ?_
      -- from the def's meaning to the block's
      have p : EPost G .st ha B H Q E (PhiL (d.t :: ((dx.take f).map DefX.t).reverse) f ds hs) := p
      unfold PhiL at p
      rw [if_pos hl.symm, if_pos (show ds.length = d.t.ar from hdl.trans hvl)] at p
      unfold denF at p
      show SPost G ha B (fun b => b = ha) H _ E (denMs _ _ _ d.b _ hs)
      cases er : denMs (PhiL ((dx.take f).map DefX.t).reverse) noPsi noThk d.b (ds.map .val ++ List.replicate (d.N.length - ds.length) .no) hs with
      | stuck =>
        have p : EPost G .st ha B H Q E ((denMs (PhiL ((dx.take f).map DefX.t).reverse) noPsi noThk d.b (ds.map .val ++ List.replicate (d.N.length - ds.length) .no) hs).bind _) := p
        rw [er] at p
        exact p.elim
      | exc e h =>
        have p : EPost G .st ha B H Q E ((denMs (PhiL ((dx.take f).map DefX.t).reverse) noPsi noThk d.b (ds.map .val ++ List.replicate (d.N.length - ds.length) .no) hs).bind _) := p
        rw [er] at p
        exact fun dx H' k hh x => p dx H' k hh x
      | ok x h =>
        have p : EPost G .st ha B H Q E ((denMs (PhiL ((dx.take f).map DefX.t).reverse) noPsi noThk d.b (ds.map .val ++ List.replicate (d.N.length - ds.length) .no) hs).bind _) := p
        rw [er] at p
        cases x with
        | rt dd => exact fun v H' k hh r => p v H' k hh r
        | nx ρ => exact fun own σ H' S' => p .non H' S'.ext S'.h0 (by simp only [RepM, Rep])
        | bk ρ => exact p.elim
        | ct ρ => exact p.elim
    · have ep : PhiL (DefX.t dx[j] :: ((dx.take j).map DefX.t).reverse) f = PhiL ((dx.take j).map DefX.t).reverse f := by
        funext ds h
        conv => lhs; unfold PhiL
        rw [hl, if_neg e]
      rw [ep]
      exact (ih f).mono (by omega)
end PD

set_option Elab.async false
set_option linter.all false
set_option maxRecDepth 100000
set_option maxHeartbeats 2000000
/-! P20: the hand, the law's own def. -/
namespace PD
open PySem PySem.Spec PyProof.Rows L2 RZ
def absI (n : Int) : Int := if n < 0 then -n else n
def cellsOf (ns : List Int) : List Int := (ns.take 63).map absI
/-- what _law_hand(script) promises -/
def spHand (K : PySem.W.Frag) : Sp := fun vs H Q _ => ∃ (a : Addr) (ns : List Int), vs = [.ref a] ∧ SqL K H a (ns.map V.int) ∧ ∀ (p D : Addr) (H' : Hp), Same H H' → H p = none → H D = none → p ≠ D →
  H' p = some (.lst [.ref D, .int 0, .int 0, .int (1 + (cellsOf ns).length), .int 0]) → H' D = some (.lst ((cellsOf ns).map V.int)) → Q (.ref p) H'
def hN : List Str := ["script", "cells", "cell"]
def isHand (sc : Scope) : List Stmt → Bool
  | [.Assign [.Name x0 _] (.ListComp (.Call (.Name xa _) [.Call (.Name xi _) [.Name xc _] [] _] [] _) [⟨.Name xt _, .Subscript (.Name xs _) (.Slice none (some (.Constant (.int m) _ _)) none _) _, [], az⟩] scope _) _,
     .Return (some (.List [.Name y1 _, .Constant (.int z1) _ _, .Constant (.int z2) _ _, .BinOp (.Constant (.int o1) _ _) .Add (.Call (.Name xl _) [.Name y2 _] [] _) _, .Constant (.int z3) _ _] _)) _] =>
    (decide (x0 = ("cells" : Str)) && (decide (xa = ("abs" : Str)) && (decide (xi = ("int" : Str)) && (decide (xc = ("cell" : Str)) && (decide (xt = ("cell" : Str)) && (decide (xs = ("script" : Str)) && (decide (y1 = ("cells" : Str)) && (decide (xl = ("len" : Str)) && decide (y2 = ("cells" : Str)))))))))) &&
    ((decide (m = 63) && (decide (az = 0) && (decide (z1 = 0) && (decide (z2 = 0) && (decide (o1 = 1) && decide (z3 = 0)))))) &&
      ((blkC hN sc scope [(("cell" : Str), 2)] && (glB (relS scope sc) ("abs" : Str) && (glB (relS scope sc) ("int" : Str) && (visB (relS scope sc) ("cell" : Str) && (locB (relS scope sc) ("cell" : Str) && stoI scope sc ("cell" : Str)))))) &&
        (visB sc ("script" : Str) && (locB sc ("cells" : Str) && (visB sc ("cells" : Str) && glB sc ("len" : Str))))))
  | _ => false
theorem pe_lenN {X : Cx} {p p2 pos : Pos} {i : Nat} {x : Str} (hg : Gl X "len") (hm : X.mg "len" = none) (h : PE X (.Name x p2) (tVar i)) : PE X (.Call (.Name "len" p) [.Name x p2] [] pos) (tCB (rBi X.K .len) (tCons (tVar i) tNil)) :=
  pe_bi (b := .len) call_len_seq hg hm (pa_cons h pa_nil) rfl rfl
theorem take_set {α β : Type} (f : α → β) (xs : List α) (i : Nat) (x : α) (h : xs[i]? = some x) : (xs.take i).map f ++ [f x] = (xs.take (i + 1)).map f := by
  obtain ⟨hi, e⟩ := List.getElem?_eq_some_iff.mp h
  rw [List.take_succ_eq_append_getElem hi, List.map_append, e]
  rfl
section
variable {G : Cfg} {P : Program} {w : World} {x qual : Str} {params : Arguments} {body : List Stmt} {scope : Scope} {f : Addr} {fd : FuncData}
theorem hand_ok (F : FunD G.K x qual params body scope [] [] f fd) (hS : scB hN ["script"] scope = true) (hb : isHand scope body = true) (mA : G.mg "abs" = none) (mI : G.mg "int" = none) (mL : G.mg "len" = none) :
    FnOk P w G.K G.mg G.base (L2.CX P w) 1 f fd ["script"] (spHand G.K) := by
  have S := scB_ok hS
  refine F.ok S (fun vs H Q E h => ?_) fun cdv A outer s H vs Q E hr h => ?_
  · obtain ⟨a, ns, rfl, _⟩ := h
    rfl
  obtain ⟨a, ns, rfl, hq, q⟩ := h
  have X := okX (G := { G with ps := fun _ => [] }) (Φ := fun _ _ _ => .stuck) (qual := qual) (f := f) (cdv := cdv) (outer := outer) (s := s) (H := H) (E := E) (P := P) (w := w) S hr (fun f => ⟨fun vs H Q E h => h.1, fun A outer s H args us vs Q E hr e0 hb r h => by
    obtain ⟨_, ha, B, ds, hs, _, _, p⟩ := h
    exact p.elim⟩)
  unfold isHand at hb
  split at hb
  case h_2 => cases hb
  simp only [Bool.and_eq_true, decide_eq_true_eq] at hb
  obtain ⟨⟨rfl, rfl, rfl, rfl, rfl, rfl, rfl, rfl, rfl⟩, ⟨rfl, rfl, rfl, rfl, rfl, rfl⟩, ⟨b1, b2, b3, b4, b5, b6⟩, b7, b8, b9, b10⟩ := hb
  rename_i px0 pa pi pxc pint pabs pt ps j1 pc1 psl psub sc2 plc pas py1 j2 pz1 j3 pz2 j4 po1 pl py2 plen pbin j5 pz3 plst pret
  have gl : ∀ {sc' : Scope} {y : Str}, glB sc' y = true → sc'.names.lookup y = some .globalImplicit := fun {sc' y} h => eq_of_beq (α := Option NameKind) h
  have vs : ∀ {sc' : Scope} {y : Str}, visB sc' y = true → Vis sc' y := fun {sc' y} h => by
    unfold visB at h
    rw [Bool.or_eq_true, Bool.or_eq_true] at h
    rcases h with h | h | h
    · exact .inl (eq_of_beq (α := Option NameKind) h)
    · exact .inr (.inl (eq_of_beq (α := Option NameKind) h))
    · exact .inr (.inr (eq_of_beq (α := Option NameKind) h))
  have lc : ∀ {sc' : Scope} {y : Str}, locB sc' y = true → Loc sc' y := fun {sc' y} h => by
    unfold locB at h
    rw [Bool.or_eq_true] at h
    rcases h with h | h
    · exact .inl (eq_of_beq (α := Option NameKind) h)
    · exact .inr (eq_of_beq (α := Option NameKind) h)
  -- the first statement's rule
  have nd : (hN : List Str).Nodup := S.nd
  have r0 : ∀ pos, PE (cxOf (L2.CX P w) P w G.K G.mg G.base hN qual scope f cdv A outer s H E) (.Name ("script" : Str) pos) (tVar 0) := fun pos => pe_var (i := 0) rfl (vs b7) (by decide) (by decide)
  have r1 : ∀ pos, PE (cxOf (L2.CX P w) P w G.K G.mg G.base hN qual scope f cdv A outer s H E) (.Name ("cells" : Str) pos) (tVar 1) := fun pos => pe_var (i := 1) rfl (vs b9) (by decide) (by decide)
  have inn := fun (s' : Shared) (H' : Hp) (C : Addr) (cl : List (Str × Addr)) (fp : List Addr) => X.inn sc2 s' H' C cl fp
  have hi := fun tg => pi_list (tg := tg) (pe_slice (pos := psub) (p2 := psl) sl_list (r0 ps) po_none (po_some (te := tC (.int 63)) (pe_int (j := j1) (pos := pc1))))
  have he : ∀ (s' : Shared) (H' : Hp) (C : Addr) (cl : List (Str × Addr)) (fp : List Addr), PE ((cxOf (L2.CX P w) P w G.K G.mg G.base hN qual scope f cdv A outer s H E).blk s' H' sc2 (compEnvC sc2 cl C (cxOf (L2.CX P w) P w G.K G.mg G.base hN qual scope f cdv A outer s H E).env) fp) (.Call (.Name ("abs" : Str) pa) [.Call (.Name ("int" : Str) pi) [.Name ("cell" : Str) pxc] [] pint] [] pabs)
      (tCB (rBi G.K .abs) (tCons (tCB (rBi G.K .int) (tCons (tVar 2) tNil)) tNil)) := fun s' H' C cl fp =>
    pe_bi (b := .abs) call_abs ((inn s' H' C cl fp).gl (gl b2)) mA (pa_cons (pe_bi (b := .int) call_int1 ((inn s' H' C cl fp).gl (gl b3)) mI (pa_cons (pe_var (i := 2) rfl ((inn s' H' C cl fp).vis (vs b4)) (by decide) (by decide)) pa_nil) rfl rfl) pa_nil) rfl rfl
  have hg : ∀ (s' : Shared) (H' : Hp) (C : Addr) (cl : List (Str × Addr)) (fp : List Addr), PG ((cxOf (L2.CX P w) P w G.K G.mg G.base hN qual scope f cdv A outer s H E).blk s' H' sc2 (compEnvC sc2 cl C (cxOf (L2.CX P w) P w G.K G.mg G.base hN qual scope f cdv A outer s H E).env) fp) (.Name ("cell" : Str) pt) (gName 2) := fun s' H' C cl fp =>
    pg_name nd rfl (by rw [(inn s' H' C cl fp).eS]; exact lc b5) (by rw [(inn s' H' C cl fp).eS]; exact (inn s' H' C cl fp).fnl _ b6)
  have bk : BlkOk hN scope sc2 [(("cell" : Str), 2)] := blkOk_by b1
  have st1 : PS (cxOf (L2.CX P w) P w G.K G.mg G.base hN qual scope f cdv A outer s H E) (.Assign [.Name ("cells" : Str) px0] (.ListComp (.Call (.Name ("abs" : Str) pa) [.Call (.Name ("int" : Str) pi) [.Name ("cell" : Str) pxc] [] pint] [] pabs) [⟨.Name ("cell" : Str) pt, .Subscript (.Name ("script" : Str) ps) (.Slice none (some (.Constant (.int 63) j1 pc1)) none psl) psub, [], 0⟩] sc2 plc) pas)
      (tAsg (tLc (iList G.K (tSl (rSlL G.K) (tVar 0) tNoPart (tPart (tC (.int 63))))) (gName 2) tYes (tCB (rBi G.K .abs) (tCons (tCB (rBi G.K .int) (tCons (tVar 2) tNil)) tNil)) [2]) (gName 1)) := by
    cases hw : swB scope ("cells" : Str) px0.line plc.line sc2 with
    | true =>
      have hl : scope.names.lookup ("cells" : Str) = some .local := by
        unfold swB at hw
        simp only [Bool.and_eq_true] at hw
        exact eq_of_beq (α := Option NameKind) hw.1.1.2
      exact ps_setLc rfl nd rfl hl (by rw [swB_ok]; exact congrArg pure hw) (hi _) bk hg (fun _ _ _ _ _ => pts_nil) he
    | false => exact ps_set nd rfl (lc b8) (pe_lc rfl nd (hi _) bk hg (fun _ _ _ _ _ => pts_nil) he) (by rw [swB_ok]; exact congrArg pure hw) (.inl rfl)
  refine ⟨_, pss_cons st1 (pss_one (ps_ret (pe_lst (pa_cons (r1 py1) (pa_cons pe_int (pa_cons pe_int (pa_cons (pe_op op_add pe_int (pe_lenN (gl b10) mL (r1 py2))) (pa_cons pe_int pa_nil)))))))), ?_⟩
  -- what it computes
  have eZ : cutV (ns.map V.int) none (some 63) = (ns.take 63).map V.int := by
    unfold cutV
    show ((ns.map V.int).drop 0).take (min 63 (ns.map V.int).length - 0) = _
    rw [List.drop_zero, Nat.sub_zero, ← List.map_take]
    congr 1
    rw [List.length_map]
    by_cases h : ns.length ≤ 63
    · rw [Nat.min_eq_right h, List.take_length, List.take_of_length_le h]
    · rw [Nat.min_eq_left (by omega)]
  refine ⟨.ref a, rfl, 63, rfl, a, ns.map V.int, rfl, hq, fun q0 n0 => ?_⟩
  rw [eZ]
  refine ⟨q0, rfl, ⟨_, .inl (.inl upd_same)⟩, fun D nD => ?_⟩
  have hD0 : D ≠ q0 := fun z => by rw [z, upd_same] at nD; cases nD
  have nDH : H D = none := by rwa [upd_ne hD0] at nD
  refine lc_it (walk_list (xs := (ns.take 63).map V.int)) (fun i Hi => Hi = upd (upd H q0 (.lst ((ns.take 63).map V.int))) D (.lst (((ns.take 63).take i).map fun n => V.int (absI n)))) rfl ?_ ?_ ?_
  · rintro i Hi _ rfl
    exact .inl (.inl (by rw [upd_ne (Ne.symm hD0), upd_same]))
  · rintro i xv Hi Hi' hlt rfl ⟨rfl, hx⟩
    rw [List.getElem?_map, Option.map_eq_some_iff] at hx
    obtain ⟨n, hn, rfl⟩ := hx
    refine ⟨?_, ?_⟩
    · rfl
    · refine ⟨_, rfl, .inl ⟨n, rfl, n, rfl, _, upd_same, ?_, ?_⟩⟩
      · rw [List.length_map, List.length_take]
        have := sizeLine_eq
        have h63 : (ns.take 63).length ≤ 63 := List.length_take_le _ _
        omega
      · rw [upd_upd]
        congr 2
        exact take_set (fun n => V.int (absI n)) (ns.take 63) i n hn
  · rintro Hn rfl
    have eC : ((ns.take 63).take ((ns.take 63).map V.int).length).map (fun n => V.int (absI n)) = (cellsOf ns).map V.int := by
      rw [List.length_map, List.take_length]
      unfold cellsOf
      rw [List.map_map]
      rfl
    rw [eC]
    refine ⟨_, rfl, _, rfl, D, (cellsOf ns).map V.int, rfl, .inl (.inl (.inl upd_same)), 1, (((cellsOf ns).map V.int).length : Int), rfl, rfl, ?_, fun p np => ?_⟩
    · show 5 ≤ sizeLine
      decide
    · have hpD : p ≠ D := fun z => by rw [z, upd_same] at np; cases np
      rw [upd_ne hpD] at np
      have hp0 : p ≠ q0 := fun z => by rw [z, upd_same] at np; cases np
      rw [upd_ne hp0] at np
      have k1 : Same H (upd H q0 (.lst ((ns.take 63).map V.int))) := same_new n0
      have k2 := k1.trans (same_new (o := .lst ((cellsOf ns).map V.int)) nD)
      have nD' : (upd (upd H q0 (.lst ((ns.take 63).map V.int))) D (.lst ((cellsOf ns).map V.int))) p = none := by rw [upd_ne hpD, upd_ne hp0]; exact np
      refine q p D _ (k2.trans (same_new nD')) np nDH hpD ?_ ?_
      · rw [upd_same, List.length_map]
      · rw [upd_ne (Ne.symm hpD), upd_same]
end
end PD

set_option Elab.async false
set_option linter.all false
set_option maxRecDepth 100000
set_option maxHeartbeats 2000000
/-! P21: the law's own def, and the facts of a head. -/
namespace PD
open PySem PySem.Spec PyProof.Rows L2 RZ
/-- the drawn hand, as it begins -/
def hand0 (ns : List Int) : HS := [.lst ((cellsOf ns).map D.int), .int 0, .int 0, .int (1 + (cellsOf ns).length), .int 0]
def spLaw (K : PySem.W.Frag) (T : List (Addr × Str)) : Sp := fun vs H Q _ => ∃ (a : Addr) (ns : List Int), vs = [.ref a] ∧ ns.length ≤ 63 ∧ (∀ z ∈ ns, Builtin.Int.intBits z ≤ 1048576) ∧ SqL K H a (ns.map V.int) ∧ LamX.Tabs T H ∧ ∀ H', Q (.bl true) H'
/-- the law's first line -/
def isLaw (sc : Scope) : List Stmt → Bool
  | .Assign [.Name x _] (.Call (.Name y _) [.Name z _] [] _) _ :: _ => (decide (x = ("hand" : Str)) && (decide (y = ("_law_hand" : Str)) && decide (z = ("script" : Str)))) && ((locB sc ("hand" : Str) && (glB sc ("_law_hand" : Str) && visB sc ("script" : Str))))
  | _ => false
def restOf : List Stmt → List Stmt
  | _ :: r => r
  | [] => []
/-- the law's small program says True at each script -/
def LawTrue (dx : List DefX) (d : DefX) : Prop := ∀ ns : List Int, ns.length ≤ 63 → (∀ z ∈ ns, Builtin.Int.intBits z ≤ 1048576) →
  ∃ hs, denMs (PhiL (dx.map DefX.t).reverse) noPsi noThk d.b (.no :: .val .hnd :: List.replicate (d.N.length - 2) .no) (hand0 ns) = .ok (.rt (.bl true)) hs
theorem reps_ints {G : Cfg} {ha : Addr} {B : Addr → Prop} {H : Hp} : ∀ (ns : List Int), Reps G ha B H (ns.map D.int) (ns.map V.int)
  | [] => .nil
  | n :: ns => .cons (by simp only [Rep]) (reps_ints ns)
theorem law_ok {G : Cfg} {K : CE} {dx : List DefX} {d : DefX} {P : Program} {w : World} {f fh : Addr} {fd fdh : FuncData} {xh qh : Str} {ph : Arguments} {bh : List Stmt} {sh : Scope} (T : Tab G K dx)
    (F : FunD G.K d.x d.x d.params d.body d.scope [] [] f fd) (hps : d.ps = [("script" : Str)]) (hS : scB d.N d.ps d.scope = true) (hN : d.N.take 2 = [("script" : Str), ("hand" : Str)]) (hl : isLaw d.scope d.body = true) (hc : chkB (K.at d.N) d.scope (restOf d.body) d.b = true)
    (FH : FunD G.K xh qh ph bh sh [] [] fh fdh) (hSh : scB PD.hN ["script"] sh = true) (hbh : isHand sh bh = true) (mA : G.mg "abs" = none) (mI : G.mg "int" = none) (mL : G.mg "len" = none) (mH : G.mg "_law_hand" = some (.ref fh)) (bH : Binds G.K fdh ["script"] [])
    (ht : LawTrue dx d) : FnOk P w G.K G.mg G.base (L2.CX P w) (dx.length + 2) f fd ["script"] (spLaw G.K G.T) := by
  have S := scB_ok hS
  rw [hps] at S
  have hand := hand_ok (P := P) (w := w) FH hSh hbh mA mI mL
  refine F.ok S (fun vs H Q E h => ?_) fun cdv A outer s H vs Q E hr h => ?_
  · obtain ⟨a, ns, rfl, _⟩ := h
    rfl
  obtain ⟨a, ns, rfl, hlen, hbits, hq, hT, q⟩ := h
  have X := okX (G := G) (Φ := PhiL (dx.map DefX.t).reverse) (qual := d.x) (f := f) (cdv := cdv) (outer := outer) (s := s) (H := H) (E := E) (P := P) (w := w) S hr (fun g => by
    have z := tabs_all (P := P) (w := w) T dx.length (Nat.le_refl _) g
    rw [List.take_length] at z
    exact z.mono (Nat.le_succ _))
  have ar := phi_ar (G := G) (fun f d hd => (T.ok f d hd).2) dx.length (Nat.le_refl _)
  rw [List.take_length] at ar
  have FF : Fits (K.at d.N) ⟨G, PhiL (dx.map DefX.t).reverse, noPsi, d.N, d.scope, fun _ => true, true, E, dx.length + 1, noThk, none, fun _ _ _ => False⟩ d.scope (fun _ => true) := ⟨rfl, rfl, rfl, T.nm, T.cs, T.fr, T.st, ar, rfl⟩
  obtain ⟨t, pt, qt⟩ := chkB_ok FF hc
  have hN0 : d.N[0]? = some ("script" : Str) := by
    have z := congrArg (fun l : List Str => l[0]?) hN
    simpa [List.getElem?_take] using z
  have hN1 : d.N[1]? = some ("hand" : Str) := by
    have z := congrArg (fun l : List Str => l[1]?) hN
    simpa [List.getElem?_take] using z
  have hNl : 2 ≤ d.N.length := by
    have := (List.getElem?_eq_some_iff.mp hN1).1
    omega
  unfold isLaw at hl
  split at hl
  case h_2 => cases hl
  rename_i x1 p1 y1 p2 z1 p3 p4 p5 rest ebody
  simp only [Bool.and_eq_true, decide_eq_true_eq] at hl
  obtain ⟨⟨rfl, rfl, rfl⟩, l1, l2, l3⟩ := hl
  have er : restOf d.body = rest := by rw [ebody]; rfl
  rw [er] at pt
  rw [ebody]
  have vs3 : Vis d.scope ("script" : Str) := by
    unfold visB at l3
    rw [Bool.or_eq_true, Bool.or_eq_true] at l3
    rcases l3 with h | h | h
    · exact .inl (eq_of_beq (α := Option NameKind) h)
    · exact .inr (.inl (eq_of_beq (α := Option NameKind) h))
    · exact .inr (.inr (eq_of_beq (α := Option NameKind) h))
  have lc1 : Loc d.scope ("hand" : Str) := by
    unfold locB at l1
    rw [Bool.or_eq_true] at l1
    rcases l1 with h | h
    · exact .inl (eq_of_beq (α := Option NameKind) h)
    · exact .inr (eq_of_beq (α := Option NameKind) h)
  have gl2 : d.scope.names.lookup ("_law_hand" : Str) = some .globalImplicit := eq_of_beq (α := Option NameKind) l2
  have hand1 := hand.mono (k := dx.length + 1) (by omega)
  have st1 : PS (cxOf (L2.CX P w) P w G.K G.mg G.base d.N d.x d.scope f cdv A outer s H E) (.Assign [.Name ("hand" : Str) p1] (.Call (.Name ("_law_hand" : Str) p2) [.Name ("script" : Str) p3] [] p4) p5) (tAsg (tCall (spHand G.K) [] E (tCons (tVar 0) tNil)) (gName 1)) :=
    ps_set S.nd hN1 lc1 (pe_call (k := dx.length + 1) hand1 hr gl2 mH FH.kp bH .nil X.px (pa_cons (pe_var hN0 vs3 (by decide) (by decide)) pa_nil)) rfl (.inl rfl)
  refine ⟨_, pss_cons st1 (pt _ X), ?_⟩
  have e0 : (L2.start d.N [V.ref a])[0]? = some (some (.ref a)) := rfl
  refine ⟨.ref a, e0, a, ns, rfl, hq, fun p Dd H' sm np nD hpD e1 e2 => ?_⟩
  show t { nx := fun _ H' => Q .non H', rt := Q } ((L2.start d.N [V.ref a]).set 1 (some (.ref p))) H'
  have eσ : (L2.start d.N [V.ref a]).set 1 (some (.ref p)) = some (.ref a) :: some (.ref p) :: List.replicate (d.N.length - 2) none := by
    unfold L2.start
    obtain ⟨m, hm⟩ : ∃ m, d.N.length = m + 2 := ⟨d.N.length - 2, by omega⟩
    rw [hm]
    show (some (V.ref a) :: List.replicate (m + 1) none).set 1 (some (.ref p)) = _
    rw [List.replicate_succ]
    rfl
  rw [eσ]
  have hh : Hnd G p (fun b => b = p) H' (hand0 ns) := by
    refine ⟨rfl, ⟨_, e1, ?_⟩, fun b (z : b = p) => ⟨.lst [.ref Dd, .int 0, .int 0, .int (1 + (cellsOf ns).length), .int 0], by rw [z]; exact e1, nt_lst⟩, hT.ext sm⟩
    refine .cons ?_ (.cons (by simp only [Rep]) (.cons (by simp only [Rep]) (.cons (by simp only [Rep]) (.cons (by simp only [Rep]) .nil))))
    simp only [Rep]
    exact ⟨Dd, _, rfl, fun z => hpD z.symm, e2, reps_ints _⟩
  have SS : SSim G p (fun b => b = p) (fun b => b = p) H' (fun _ => none) (.no :: .val .hnd :: List.replicate (d.N.length - 2) .no) (hand0 ns) (some (.ref a) :: some (.ref p) :: List.replicate (d.N.length - 2) none) H' := by
    refine ⟨fun i j a h => (nomatch h), fun i a h => (nomatch h), .refl, rfl, rfl, ⟨by simp, fun i sl e => ?_, hh.sub (.inl rfl) fun b z => z.elim id fun ⟨i, y⟩ => (nomatch y)⟩, fun i d' e => ?_, fun i a h => (nomatch h)⟩
    · match i with
      | 0 => cases e; trivial
      | 1 => cases e; exact ⟨_, rfl, by simp only [Rep]⟩
      | i + 2 =>
        simp only [List.getElem?_cons_succ, List.getElem?_replicate] at e
        split at e
        · cases e; trivial
        · cases e
    · match i with
      | 0 => cases e
      | 1 => cases e
      | i + 2 =>
        simp only [List.getElem?_cons_succ, List.getElem?_replicate] at e
        split at e <;> cases e
  refine qt p _ _ H' _ _ _ _ H' _ SS ?_
  obtain ⟨hs, e⟩ := ht ns hlen hbits
  show SPost G p (fun b => b = p) (fun b => b = p) H' _ E (denMs _ _ _ d.b _ _)
  rw [e]
  intro v H2 k hh2 r
  simp only [Rep] at r
  subst r
  exact q H2

/-! ### from a head's facts -/
def atOf (d : DefX) : He.DefD := ⟨(d.x, none), d.x, d.x, d.params, d.body, d.scope, [], []⟩
/-- the facts' list: the names of defs, free names, constants -/
def factsOf (dx : List DefX) (fr : List Str) (cs : List (Str × D)) : List He.Fa :=
  dx.map (fun d => He.Fa.glo d.x) ++ (fr.map He.Fa.free ++ cs.map fun p => match p.2 with
    | .int i => He.Fa.int p.1 i
    | .str z => He.Fa.str p.1 z
    | _ => He.Fa.free p.1)
def csB (cs : List (Str × D)) : Bool := cs.all fun p => match p.2 with
  | .int _ => true
  | .str _ => true
  | _ => false
theorem lookup_mem {x : Str} {d : D} : ∀ {cs : List (Str × D)}, cs.lookup x = some d → (x, d) ∈ cs
  | [], h => by simp at h
  | (y, e) :: r, h => by
    rw [List.lookup_cons] at h
    split at h
    · rename_i hb
      cases h
      rw [eq_of_beq hb]
      exact List.mem_cons_self
    · exact List.mem_cons_of_mem _ (lookup_mem h)

/-- a law's facts -/
theorem law_at {l : PySem.W.OpenLaw} {w : World} {KF : PySem.W.Frag} {mg : Str → Option Value} {h : Heap} {fa : Addr} {dx : List DefX} {dh d : DefX} {fr : List Str} {cs : List (Str × D)} (X : KF.In h) (Gn : h.Ns mainGlobals mg) (hfa : mg ("law" : Str) = some (.ref fa))
    (c : He.SaysD (factsOf (dx ++ [dh, d]) fr cs) ((dx ++ [dh, d]).map atOf) KF) (hcs : csB cs = true) (hb : ∀ e ∈ dx ++ [dh, d], BindP e) (hck : ∀ e ∈ dx, scB e.N e.ps e.scope = true ∧ chkB ⟨e.N, dx.map (·.x), cs, fr⟩ e.scope e.body e.b = true)
    (hdx : d.x = ("law" : Str)) (hps : d.ps = [("script" : Str)]) (hS : scB d.N d.ps d.scope = true) (hN : d.N.take 2 = [("script" : Str), ("hand" : Str)]) (hl : isLaw d.scope d.body = true) (hc : chkB ⟨d.N, dx.map (·.x), cs, fr⟩ d.scope (restOf d.body) d.b = true)
    (hhx : dh.x = ("_law_hand" : Str)) (hhp : dh.ps = [("script" : Str)]) (hSh : scB PD.hN ["script"] dh.scope = true) (hbh : isHand dh.scope dh.body = true) (fA : fr.contains ("abs" : Str) = true) (fI : fr.contains ("int" : Str) = true) (fL : fr.contains ("len" : Str) = true)
    (ht : LawTrue dx d) : LamX.LawAtS l w KF (L2.CX l.prog w) (dx.length + 2) 63 "script" mg fa h := by
  have fact : ∀ f, f ∈ factsOf (dx ++ [dh, d]) fr cs → f.ok KF = true := fun f hf => by
    obtain ⟨i, hi⟩ := List.getElem?_of_mem hf
    exact c.fact i hi
  have glo : ∀ e ∈ dx ++ [dh, d], mg e.x = some (.ref (He.ga KF e.x)) := fun e he => He.glo_ok X Gn (fact _ (List.mem_append_left _ (List.mem_map.mpr ⟨e, he, rfl⟩)))
  have fre : ∀ x, fr.contains x = true → mg x = none := fun x hx => He.free_ok X Gn (fact (.free x) (List.mem_append_right _ (List.mem_append_left _ (List.mem_map.mpr ⟨x, List.contains_iff_mem.mp hx, rfl⟩))))
  have fun_ : ∀ e ∈ dx ++ [dh, d], ∃ fd, FunD KF e.x e.x e.params e.body e.scope [] [] (He.ga KF e.x) fd := fun e he => by
    obtain ⟨i, hi⟩ := List.getElem?_of_mem he
    exact c.def_ i (d := atOf e) (by rw [List.getElem?_map, hi]; rfl)
  have mL : d ∈ dx ++ [dh, d] := by simp
  have mH : dh ∈ dx ++ [dh, d] := by simp
  have mD : ∀ e ∈ dx, e ∈ dx ++ [dh, d] := fun e he => List.mem_append_left _ he
  obtain ⟨fdL, FL⟩ := fun_ d mL
  obtain ⟨fdH, FH⟩ := fun_ dh mH
  have hall : ∀ i : Nat, ∃ fd, ∀ e, dx[i]? = some e → FunD KF e.x e.x e.params e.body e.scope [] [] (He.ga KF e.x) fd := fun i => by
    cases hi : dx[i]? with
    | none => exact ⟨fdL, fun e z => nomatch z⟩
    | some e =>
      obtain ⟨fd, F⟩ := fun_ e (mD e (List.mem_of_getElem? hi))
      refine ⟨fd, fun e' z => ?_⟩
      cases z
      exact F
  have eL : fa = He.ga KF d.x := by
    have z := glo d mL
    rw [hdx] at z ⊢
    rw [hfa] at z
    cases z
    rfl
  refine ⟨fdL, [], spLaw KF [], fun p hp => (nomatch hp), fun p hp => (nomatch hp), fun p hp => (nomatch hp), fun s u => ?_, fun H a ns h1 h2 _ h3 => ⟨a, ns, rfl, h1, h2, h3, fun p hp => (nomatch hp), fun _ => rfl⟩, fun base KB GB _ => ?_⟩
  · have z := FunD.bindsA (ps := [("script" : Str)]) FL (by have q := hb d mL; unfold BindP at q; rw [hps] at q; exact q) s [u] rfl
    exact z
  · let G : Cfg := ⟨l.prog, w, KF, mg, base, dx.map (·.x), fun i => ((dx[i]?).map fun e => He.ga KF e.x).getD 0, fun i => Classical.choose (hall i), fun i => ((dx[i]?).map fun e => e.ps).getD [], cs, fr, [], fun _ => 0, []⟩
    have gfa : ∀ {i e}, dx[i]? = some e → G.fa i = He.ga KF e.x := fun {i e} hi => by show ((dx[i]?).map fun e => He.ga KF e.x).getD 0 = _; rw [hi]; rfl
    have gps : ∀ {i e}, dx[i]? = some e → G.ps i = e.ps := fun {i e} hi => by show ((dx[i]?).map fun e => e.ps).getD [] = _; rw [hi]; rfl
    have gF : ∀ {i e}, dx[i]? = some e → FunD KF e.x e.x e.params e.body e.scope [] [] (G.fa i) (G.fd i) := fun {i e} hi => by
      rw [gfa hi]
      exact Classical.choose_spec (hall i) e hi
    have st : Stat G := by
      refine ⟨fun f x hx => ?_, fun x dd hx => ?_, fun x hx => fre x hx⟩
      · have hx : (dx.map (·.x))[f]? = some x := hx
        rw [List.getElem?_map, Option.map_eq_some_iff] at hx
        obtain ⟨e, hi, rfl⟩ := hx
        have F := gF hi
        refine ⟨?_, F.kp, ?_⟩
        · rw [gfa hi]
          exact glo e (mD e (List.mem_of_getElem? hi))
        · rw [gps hi]
          exact F.bindsN (hb e (mD e (List.mem_of_getElem? hi)))
      · have hm := lookup_mem hx
        have q := List.all_eq_true.mp hcs _ hm
        have fc := fun f hf => fact f (List.mem_append_right _ (List.mem_append_right _ (List.mem_map.mpr ⟨(x, dd), hm, hf⟩)))
        cases dd with
        | int i =>
          obtain ⟨t, e⟩ := He.int_ok X Gn (fc (.int x i) rfl)
          exact ⟨_, .int i, e, ⟨t, rfl⟩, rfl, fun _ _ _ => by simp only [Rep]⟩
        | str z =>
          obtain ⟨t, e⟩ := He.str_ok X Gn (fc (.str x z) rfl)
          exact ⟨_, .str z, e, ⟨t, rfl⟩, rfl, fun _ _ _ => by simp only [Rep]⟩
        | _ => cases q
    have T : Tab G ⟨[], dx.map (·.x), cs, fr⟩ dx := ⟨st, rfl, rfl, rfl, fun f e hi => ⟨gF hi, gps hi⟩, hck⟩
    rw [eL]
    refine law_ok (G := G) T FL hps hS hN hl hc FH hSh hbh (fre _ fA) (fre _ fI) (fre _ fL) ?_ (FH.bindsN ?_) ht
    · have z := glo dh mH
      rw [hhx] at z ⊢
      exact z
    · have q := hb dh mH
      unfold BindP at q
      rw [hhp] at q
      exact q
end PD

set_option Elab.async false
set_option linter.all false
set_option maxRecDepth 100000
set_option maxHeartbeats 2000000
/-! Q1: plain laws of the small programs' meaning. -/
namespace PD
open PySem PySem.Spec
noncomputable abbrev Ph (dx : List DefX) (j : Nat) : Nat → List D → HS → Res D := PhiL ((dx.take j).map DefX.t).reverse
/-- a call, from any later table -/
theorem ph_at (dx : List DefX) (f : Nat) (d : DefX) (hd : dx[f]? = some d) : ∀ j, f < j → j ≤ dx.length → ∀ ds h, Ph dx j f ds h = if ds.length = d.ps.length then denF (Ph dx f) noPsi noThk d.b d.N.length ds h else .stuck
  | 0, h, _, _, _ => absurd h (Nat.not_lt_zero _)
  | j + 1, hf, hj, ds, h => by
    have hj' : j < dx.length := hj
    have hl : ((dx.take j).map DefX.t).reverse.length = j := by
      rw [List.length_reverse, List.length_map, List.length_take]
      omega
    have e : Ph dx (j + 1) = PhiL (DefX.t dx[j] :: ((dx.take j).map DefX.t).reverse) := by
      unfold Ph
      rw [List.take_succ_eq_append_getElem hj', List.map_append, List.map_cons, List.map_nil, List.reverse_append, List.reverse_singleton, List.singleton_append]
    rw [e]
    unfold PhiL
    rw [hl]
    by_cases hfj : f = j
    · subst hfj
      rw [if_pos rfl]
      have : dx[f] = d := by
        rw [List.getElem?_eq_getElem hj'] at hd
        exact Option.some.inj hd
      rw [this]
      rfl
    · rw [if_neg hfj]
      exact ph_at dx f d hd j (by omega) (by omega) ds h
theorem ph_all (dx : List DefX) : PhiL (dx.map DefX.t).reverse = Ph dx dx.length := by
  unfold Ph
  rw [List.take_length]
/-- f gives r of ds (the hand h becomes h'), from each later table -/
def Does (dx : List DefX) (f : Nat) (ds : List D) (h : HS) (r : D) (h' : HS) : Prop := ∀ j, f < j → j ≤ dx.length → Ph dx j f ds h = .ok r h'
theorem Does.at {dx : List DefX} {f : Nat} {ds : List D} {h h' : HS} {r : D} (q : Does dx f ds h r h') (j : Nat) (h1 : f < j) (h2 : j ≤ dx.length) : Ph dx j f ds h = .ok r h' := q j h1 h2
theorem does_of {dx : List DefX} {f : Nat} {d : DefX} {ds : List D} {h h' : HS} {r : D} (hd : dx[f]? = some d) (hl : ds.length = d.ps.length) (e : denF (Ph dx f) noPsi noThk d.b d.N.length ds h = .ok r h') : Does dx f ds h r h' := fun j h1 h2 => by
  rw [ph_at dx f d hd j h1 h2, if_pos hl, e]
/-! ### data -/
theorem eqv_int (a b : Int) : PyData.eqv (.int a) (.int b) = decide (a = b) := by
  by_cases h : a = b
  · subst h
    simp [PyData.eqv]
  · simp [PyData.eqv, h]
theorem eqD_int (a b : Int) : eqD (.int a) (.int b) = some (decide (a = b)) := by
  have h : (SeqAt.shaped (.int a) && SeqAt.shaped (.int b)) = true := rfl
  simp only [eqD, D.py, h, if_true, eqv_int]
/-! ### comprehensions, loops -/
theorem lcL_map {f : D → HS → Res (Option D)} {g : D → D} {h : HS} : ∀ {its : List D}, (∀ d ∈ its, f d h = .ok (some (g d)) h) → lcL f its h = .ok (its.map g) h
  | [], _ => rfl
  | d :: r, q => by
    have ih := lcL_map (f := f) (g := g) (h := h) (its := r) fun e he => q e (List.mem_cons_of_mem _ he)
    simp only [lcL, q d List.mem_cons_self, Res.bind, ih, List.map_cons]
theorem lcL_opt {f : D → HS → Res (Option D)} {g : D → Option D} {h : HS} : ∀ {its : List D}, (∀ d ∈ its, f d h = .ok (g d) h) → lcL f its h = .ok (its.filterMap g) h
  | [], _ => rfl
  | d :: r, q => by
    have ih := lcL_opt (f := f) (g := g) (h := h) (its := r) fun e he => q e (List.mem_cons_of_mem _ he)
    simp only [lcL, q d List.mem_cons_self, Res.bind, ih, List.filterMap_cons]
    cases g d <;> rfl
/-- items drawn one after another -/
theorem lcL_draw {f : D → HS → Res (Option D)} {I : HS → Prop} {P : D → Prop} : ∀ {its : List D} {h : HS}, I h → (∀ d ∈ its, ∀ h, I h → ∃ x h', f d h = .ok (some x) h' ∧ I h' ∧ P x) → ∃ xs h', lcL f its h = .ok xs h' ∧ I h' ∧ xs.length = its.length ∧ ∀ x ∈ xs, P x
  | [], h, i, _ => ⟨[], h, rfl, i, rfl, fun _ z => nomatch z⟩
  | d :: r, h, i, q => by
    obtain ⟨x, h1, e1, i1, p1⟩ := q d List.mem_cons_self h i
    obtain ⟨xs, h2, e2, i2, l2, p2⟩ := lcL_draw i1 fun e he => q e (List.mem_cons_of_mem _ he)
    refine ⟨x :: xs, h2, ?_, i2, by rw [List.length_cons, List.length_cons, l2], fun y hy => ?_⟩
    · simp only [lcL, e1, Res.bind, e2]
    · rcases List.mem_cons.mp hy with rfl | hy
      · exact p1
      · exact p2 y hy
/-- a loop by an invariant of the number of turns -/
theorem forL_inv {f : D → PEnv → HS → Res Fl} (I : Nat → PEnv → HS → Prop) : ∀ {its : List D} {k : Nat} {ρ : PEnv} {h : HS}, I k ρ h → (∀ (i : Nat) d ρ h, its[i]? = some d → I (k + i) ρ h → ∃ ρ' h', (f d ρ h = .ok (.nx ρ') h' ∨ f d ρ h = .ok (.ct ρ') h') ∧ I (k + i + 1) ρ' h') → ∃ ρ' h', forL f its ρ h = .ok (.nx ρ') h' ∧ I (k + its.length) ρ' h'
  | [], k, ρ, h, i, _ => ⟨ρ, h, rfl, i⟩
  | d :: r, k, ρ, h, i, q => by
    obtain ⟨ρ1, h1, e1, i1⟩ := q 0 d ρ h rfl i
    obtain ⟨ρ2, h2, e2, i2⟩ := forL_inv I (its := r) (k := k + 1) i1 fun j e ρ h he ij => by
      have z := q (j + 1) e ρ h (by rw [List.getElem?_cons_succ]; exact he) (by rwa [show k + (j + 1) = k + 1 + j by omega])
      rwa [show k + (j + 1) + 1 = k + 1 + j + 1 by omega] at z
    refine ⟨ρ2, h2, ?_, by rwa [List.length_cons, show k + (r.length + 1) = k + 1 + r.length by omega]⟩
    rcases e1 with e1 | e1 <;> simp only [forL, e1, Res.bind, e2]
/-- a while that ends -/
theorem whileL_inv {c : PEnv → HS → Res Bool} {f : PEnv → HS → Res Fl} (I : Nat → PEnv → HS → Prop) (J : PEnv → HS → Prop) : ∀ {m : Nat} {ρ : PEnv} {h : HS}, I m ρ h → (∀ m ρ h, I m ρ h → (∃ h', c ρ h = .ok false h' ∧ J ρ h') ∨ ∃ h1 ρ' h', c ρ h = .ok true h1 ∧ (f ρ h1 = .ok (.nx ρ') h' ∨ f ρ h1 = .ok (.ct ρ') h') ∧ ∃ m', m' < m ∧ I m' ρ' h') →
    ∃ ρ' h', whileL c f ρ h = .ok (.nx ρ') h' ∧ J ρ' h' := by
  intro m
  induction m using Nat.strongRecOn with
  | ind m ih =>
    intro ρ h i q
    rw [whileL_eq]
    rcases q m ρ h i with ⟨h', e, j⟩ | ⟨h1, ρ', h', e, e2, m', hm, i'⟩
    · exact ⟨ρ, h', by rw [e]; rfl, j⟩
    · obtain ⟨ρ2, h2, e3, j⟩ := ih m' hm i' q
      refine ⟨ρ2, h2, ?_, j⟩
      rw [e]
      rcases e2 with e2 | e2 <;> simp only [Res.bind, if_true, e2, e3]
end PD

set_option Elab.async false
set_option linter.all false
set_option maxRecDepth 100000
set_option maxHeartbeats 2000000
/-! Q2: data that equal themselves; bools in lists; the least of pairs. -/
namespace PD
open PySem PySem.Spec
mutual
/-- n lists or tuples deep at most, no dict, no def -/
def nice : Nat → D → Bool
  | _, .non => true
  | _, .bl _ => true
  | _, .int _ => true
  | _, .str x => PyData.strOk x
  | 0, _ => false
  | n + 1, .tup ds => nices n ds
  | n + 1, .lst ds => nices n ds
  | _, _ => false
def nices : Nat → List D → Bool
  | _, [] => true
  | n, d :: ds => nice n d && nices n ds
end
mutual
theorem nice_py : ∀ (n : Nat) (d : D), nice n d = true → ∃ p, d.py = some p ∧ p.canLay0 = true ∧ p.depth ≤ n
  | n, .non, _ => ⟨.none, rfl, rfl, Nat.zero_le _⟩
  | n, .bl b, _ => ⟨.bool b, rfl, rfl, Nat.zero_le _⟩
  | n, .int i, _ => ⟨.int i, rfl, rfl, Nat.zero_le _⟩
  | n, .str x, h => ⟨.str x, rfl, by simpa only [nice, PyData.canLay0] using h, Nat.zero_le _⟩
  | 0, .tup ds, h => by simp only [nice] at h; cases h
  | 0, .lst ds, h => by simp only [nice] at h; cases h
  | n + 1, .tup ds, h => by
    simp only [nice] at h
    obtain ⟨ps, e, c, l⟩ := nices_py n ds h
    exact ⟨.tuple ps, by simp only [D.py, e, Option.map_some], by simpa only [PyData.canLay0] using c, Nat.succ_le_succ l⟩
  | n + 1, .lst ds, h => by
    simp only [nice] at h
    obtain ⟨ps, e, c, l⟩ := nices_py n ds h
    exact ⟨.list ps, by simp only [D.py, e, Option.map_some], by simpa only [PyData.canLay0] using c, Nat.succ_le_succ l⟩
  | 0, .dct _ _, h => by simp only [nice] at h; cases h
  | n + 1, .dct _ _, h => by simp only [nice] at h; cases h
  | 0, .fn _, h => by simp only [nice] at h; cases h
  | n + 1, .fn _, h => by simp only [nice] at h; cases h
  | 0, .hnd, h => by simp only [nice] at h; cases h
  | n + 1, .hnd, h => by simp only [nice] at h; cases h
theorem nices_py : ∀ (n : Nat) (ds : List D), nices n ds = true → ∃ ps, D.pys ds = some ps ∧ PyData.canLayAll0 ps = true ∧ PyData.depthAll ps ≤ n
  | n, [], _ => ⟨[], rfl, rfl, Nat.zero_le _⟩
  | n, d :: ds, h => by
    simp only [nices, Bool.and_eq_true] at h
    obtain ⟨p, e1, c1, l1⟩ := nice_py n d h.1
    obtain ⟨ps, e2, c2, l2⟩ := nices_py n ds h.2
    exact ⟨p :: ps, by simp only [D.pys, e1, e2], by simp only [PyData.canLayAll0, c1, c2, Bool.and_self], Nat.max_le.mpr ⟨l1, l2⟩⟩
end
theorem eqD_self {d : D} (h : nice 60 d = true) : eqD d d = some true := by
  obtain ⟨p, e, c, l⟩ := nice_py 60 d h
  have s : SeqAt.shaped p = true := by
    unfold SeqAt.shaped
    rw [c, Bool.true_and]
    exact decide_eq_true (by omega)
  unfold eqD
  rw [e]
  simp only [s, Bool.and_self, if_true, SeqAt.eqv_refl p c]
theorem neD_self {d : D} (h : nice 60 d = true) : cmpD .ne d d = some false := by
  simp only [cmpD, eqD_self h, Option.map_some, Bool.not_true]
theorem nices_all {n : Nat} : ∀ {ds : List D}, (∀ d ∈ ds, nice n d = true) → nices n ds = true
  | [], _ => by simp only [nices]
  | d :: ds, h => by
    simp only [nices, Bool.and_eq_true]
    exact ⟨h d List.mem_cons_self, nices_all fun e he => h e (List.mem_cons_of_mem _ he)⟩
/-! bools -/
theorem dBls_map (bs : List Bool) : dBls (bs.map D.bl) = some bs := by
  induction bs with
  | nil => rfl
  | cons b r ih => simp only [List.map_cons, dBls, ih, Option.map_some]
theorem dInts_map (ns : List Int) : dInts (ns.map D.int) = some ns := by
  induction ns with
  | nil => rfl
  | cons b r ih => simp only [List.map_cons, dInts, ih, Option.map_some]
theorem pys_bl (bs : List Bool) : D.pys (bs.map D.bl) = some (bs.map PyData.bool) := by
  induction bs with
  | nil => rfl
  | cons b r ih => simp only [List.map_cons, D.pys, D.py, ih]
theorem canLay_bl (bs : List Bool) : SeqAt.shaped (.list (bs.map PyData.bool)) = true := by
  have h1 : ∀ bs : List Bool, PyData.canLayAll0 (bs.map PyData.bool) = true := fun bs => by
    induction bs with
    | nil => rfl
    | cons b r ih => simp only [List.map_cons, PyData.canLayAll0, PyData.canLay0, ih, Bool.and_self]
  have h2 : ∀ bs : List Bool, PyData.depthAll (bs.map PyData.bool) = 0 := fun bs => by
    induction bs with
    | nil => rfl
    | cons b r ih => simp only [List.map_cons, PyData.depthAll, PyData.depth, ih, Nat.max_self]
  unfold SeqAt.shaped
  simp only [PyData.canLay0, h1, PyData.depth, h2]
  decide
theorem eqv_bool (a b : Bool) : PyData.eqv (.bool a) (.bool b) = (a == b) := by simp only [PyData.eqv]
theorem memD_bl (b : Bool) (bs : List Bool) : memD (.bl b) (bs.map D.bl) = some (bs.contains b) := by
  unfold memD
  rw [pys_bl]
  simp only [D.py]
  rw [if_pos (by rw [canLay_bl]; rfl), List.any_map, List.contains_eq_any_beq]
  congr 1
  congr 1
  funext x
  simp only [Function.comp, eqv_bool]
  cases x <;> cases b <;> rfl
theorem cntD_bl (b : Bool) (bs : List Bool) : cntD (.bl b) (bs.map D.bl) = some (bs.count b) := by
  unfold cntD
  rw [pys_bl]
  simp only [D.py]
  rw [if_pos (by rw [canLay_bl]; rfl), List.countP_map]
  congr 1
/-! the least of pairs of ints -/
def prD (p : Int × Int) : D := .tup [.int p.1, .int p.2]
def prP (p : Int × Int) : PyData := .tuple [.int p.1, .int p.2]
theorem prD_py (p : Int × Int) : (prD p).py = some (prP p) := by simp only [prD, prP, D.py, D.pys, Option.map_some]
theorem pys_pr (ps : List (Int × Int)) : D.pys (ps.map prD) = some (ps.map prP) := by
  induction ps with
  | nil => rfl
  | cons p r ih => simp only [List.map_cons, D.pys, prD_py, ih]
theorem alike_pr (ps : List (Int × Int)) : alikeB (ps.map prP) = true := by
  unfold alikeB
  rw [List.all_eq_true]
  intro x hx
  obtain ⟨p, _, rfl⟩ := List.mem_map.mp hx
  rw [Bool.and_eq_true]
  refine ⟨rfl, ?_⟩
  rw [List.all_eq_true]
  intro y hy
  obtain ⟨q, _, rfl⟩ := List.mem_map.mp hy
  rfl
theorem depth_pr (ps : List (Int × Int)) : depthB (ps.map prP) = true := by
  have h : ∀ ps : List (Int × Int), PyData.depthAll (ps.map prP) ≤ 1 := fun ps => by
    induction ps with
    | nil => exact Nat.zero_le _
    | cons p r ih =>
      rw [List.map_cons]
      exact Nat.max_le.mpr ⟨Nat.le_refl 1, ih⟩
  unfold depthB
  exact decide_eq_true (by have := h ps; omega)
/-- min of a list of pairs: one of them -/
theorem minL_pr {ps : List (Int × Int)} (h : ps ≠ []) : ∃ p ∈ ps, minL (ps.map prD) = some (prD p) := by
  cases ps with
  | nil => exact absurd rfl h
  | cons p r =>
    have e : minL ((p :: r).map prD) = some (minF (prD p) (r.map prD)) := by
      unfold minL
      rw [pys_pr]
      simp only [List.map_cons]
      rw [← List.map_cons (f := prP), alike_pr, depth_pr]
      rfl
    have m := minF_mem (r.map prD) (prD p)
    rw [← List.map_cons] at m
    obtain ⟨q, hq, eq⟩ := List.mem_map.mp m
    exact ⟨q, hq, by rw [e, ← eq]⟩
end PD

set_option Elab.async false
set_option linter.all false
set_option maxRecDepth 100000
set_option maxHeartbeats 2000000
/-! Q3: tracks, rounds, rows of shut seconds, in plain numbers. -/
namespace PD
abbrev Tr := Int × Int × Int
def trD (t : Tr) : D := .tup [.int t.1, .int t.2.1, .int t.2.2]
structure TrOk (t : Tr) : Prop where
  p2 : 2 ≤ t.1
  p120 : t.1 ∣ 120
  b0 : 0 ≤ t.2.1
  bp : t.2.1 < t.1
  l1 : 1 ≤ t.2.2
  lp : t.2.2 ≤ t.1
def TrsOk (ts : List Tr) : Prop := 1 ≤ ts.length ∧ ts.length ≤ 4 ∧ ∀ t ∈ ts, TrOk t
theorem TrOk.le {t : Tr} (h : TrOk t) : t.1 ≤ 120 := Int.le_of_dvd (by decide) h.p120
/-- the round: the least that all divide -/
def rndA (a : Nat) (ts : List Tr) : Nat := ts.foldl (fun a t => Nat.lcm a t.1.natAbs) a
def rnd (ts : List Tr) : Nat := rndA 1 ts
theorem natAbs_dvd {t : Tr} (h : TrOk t) : t.1.natAbs ∣ 120 := by
  have := Int.natAbs_dvd_natAbs.mpr h.p120
  simpa using this
theorem rndA_dvd : ∀ (ts : List Tr) (a : Nat), a ∣ 120 → (∀ t ∈ ts, TrOk t) → rndA a ts ∣ 120
  | [], a, h, _ => h
  | t :: ts, a, h, q => by
    unfold rndA
    rw [List.foldl_cons]
    exact rndA_dvd ts _ (Nat.lcm_dvd h (natAbs_dvd (q t List.mem_cons_self))) fun u hu => q u (List.mem_cons_of_mem _ hu)
theorem rndA_self : ∀ (ts : List Tr) (a : Nat), a ∣ rndA a ts
  | [], a => Nat.dvd_refl a
  | t :: ts, a => by
    unfold rndA
    rw [List.foldl_cons]
    exact Nat.dvd_trans (Nat.dvd_lcm_left _ _) (rndA_self ts _)
theorem rndA_mem : ∀ (ts : List Tr) (a : Nat) (t : Tr), t ∈ ts → t.1.natAbs ∣ rndA a ts
  | u :: ts, a, t, h => by
    unfold rndA
    rw [List.foldl_cons]
    rcases List.mem_cons.mp h with rfl | h
    · exact Nat.dvd_trans (Nat.dvd_lcm_right _ _) (rndA_self ts _)
    · exact rndA_mem ts _ t h
theorem rnd_dvd {ts : List Tr} (h : ∀ t ∈ ts, TrOk t) : rnd ts ∣ 120 := rndA_dvd ts 1 (Nat.one_dvd _) h
theorem rnd_le {ts : List Tr} (h : ∀ t ∈ ts, TrOk t) : rnd ts ≤ 120 := Nat.le_of_dvd (by decide) (rnd_dvd h)
theorem rnd_pos {ts : List Tr} (h : ∀ t ∈ ts, TrOk t) : 1 ≤ rnd ts := Nat.pos_of_dvd_of_pos (rnd_dvd h) (by decide)
/-- does a track shut at a second -/
def shT (t : Tr) (s : Int) : Bool := decide ((s - t.2.1).fmod t.1 < t.2.2)
def shTs (ts : List Tr) (s : Int) : Bool := ts.any fun t => shT t s
def fl (ts : List Tr) : List Bool := (List.range (rnd ts)).map fun (k : Nat) => shTs ts (0 + (k : Int))
theorem fl_length (ts : List Tr) : (fl ts).length = rnd ts := by
  unfold fl
  rw [List.length_map, List.length_range]
theorem fl_at {ts : List Tr} {k : Nat} (h : k < rnd ts) : (fl ts)[k]? = some (shTs ts k) := by
  unfold fl
  rw [List.getElem?_map, List.getElem?_range h, Option.map_some, Int.zero_add]
theorem shT_per {t : Tr} (h : TrOk t) (s : Int) (m : Int) : shT t (s + m * t.1) = shT t s := by
  unfold shT
  have e : (s + m * t.1 - t.2.1).fmod t.1 = (s - t.2.1).fmod t.1 := by
    have h0 := h.p2
    rw [Int.fmod_eq_emod_of_nonneg _ (by omega), Int.fmod_eq_emod_of_nonneg _ (by omega), show s + m * t.1 - t.2.1 = (s - t.2.1) + m * t.1 by omega, Int.add_mul_emod_self_right]
  rw [e]
/-- the round is a period -/
theorem shTs_per {ts : List Tr} (h : ∀ t ∈ ts, TrOk t) (s m : Int) : shTs ts (s + m * rnd ts) = shTs ts s := by
  unfold shTs
  have key : ∀ t ∈ ts, shT t (s + m * rnd ts) = shT t s := fun t ht => by
    obtain ⟨c, hc⟩ := rndA_mem ts 1 t ht
    have hp : ((t.1.natAbs : Nat) : Int) = t.1 := Int.natAbs_of_nonneg (by have := (h t ht).p2; omega)
    have e : m * (rnd ts : Int) = (m * c) * t.1 := by
      show m * ((rndA 1 ts : Nat) : Int) = _
      rw [hc, Int.natCast_mul, hp, Int.mul_assoc, Int.mul_comm t.1 c]
    rw [e]
    exact shT_per (h t ht) s _
  rw [Bool.eq_iff_iff, List.any_eq_true, List.any_eq_true]
  constructor
  · rintro ⟨t, ht, e⟩
    exact ⟨t, ht, by rw [← key t ht]; exact e⟩
  · rintro ⟨t, ht, e⟩
    exact ⟨t, ht, by rw [key t ht]; exact e⟩
/-! ### rows of trues, round the round -/
/-- g has period n -/
def Per (g : Nat → Bool) (n : Nat) : Prop := ∀ k, g (k + n) = g k
theorem Per.mod {g : Nat → Bool} {n : Nat} (h : Per g n) : ∀ k, g (k % n) = g k := by
  have mul : ∀ m k, g (k + n * m) = g k := fun m => by
    induction m with
    | zero => intro k; rfl
    | succ m ih =>
      intro k
      rw [Nat.mul_succ, ← Nat.add_assoc, h, ih]
  intro k
  conv => rhs; rw [← Nat.mod_add_div k n]
  rw [mul]
/-- how many trues from s on, at most m -/
def run (g : Nat → Bool) (s : Nat) : Nat → Nat
  | 0 => 0
  | m + 1 => if g s then 1 + run g (s + 1) m else 0
theorem run_le (g : Nat → Bool) : ∀ (m s : Nat), run g s m ≤ m
  | 0, _ => Nat.le_refl _
  | m + 1, s => by
    unfold run
    split
    · have := run_le g m (s + 1)
      omega
    · exact Nat.zero_le _
theorem run_true (g : Nat → Bool) : ∀ (m s k : Nat), k < run g s m → g (s + k) = true
  | 0, _, _, h => absurd h (Nat.not_lt_zero _)
  | m + 1, s, k, h => by
    unfold run at h
    split at h
    · rename_i hg
      cases k with
      | zero => exact hg
      | succ k =>
        have := run_true g m (s + 1) k (by omega)
        rwa [show s + (k + 1) = s + 1 + k by omega]
    · exact absurd h (Nat.not_lt_zero _)
theorem run_false (g : Nat → Bool) : ∀ (m s : Nat), run g s m < m → g (s + run g s m) = false
  | 0, _, h => absurd h (Nat.not_lt_zero _)
  | m + 1, s, h => by
    unfold run at h ⊢
    split
    · rename_i hg
      rw [if_pos hg] at h
      have := run_false g m (s + 1) (by omega)
      rwa [show s + (1 + run g (s + 1) m) = s + 1 + run g (s + 1) m by omega]
    · rename_i hg
      simpa using hg
/-- one false within m: more turns do not matter -/
theorem run_more (g : Nat → Bool) : ∀ (m s k : Nat), run g s m < m → run g s (m + k) = run g s m
  | 0, _, _, h => absurd h (Nat.not_lt_zero _)
  | m + 1, s, k, h => by
    rw [show m + 1 + k = (m + k) + 1 by omega]
    unfold run at h ⊢
    split
    · rename_i hg
      rw [if_pos hg] at h
      rw [run_more g m (s + 1) k (by omega)]
    · rfl
theorem run_lt {g : Nat → Bool} : ∀ {m s k : Nat}, k < m → g (s + k) = false → run g s m ≤ k
  | 0, _, _, h, _ => absurd h (Nat.not_lt_zero _)
  | m + 1, s, k, h, e => by
    unfold run
    split
    · rename_i hg
      cases k with
      | zero =>
        have e : g s = false := e
        rw [e] at hg
        cases hg
      | succ k =>
        have := run_lt (g := g) (m := m) (s := s + 1) (k := k) (by omega) (by rwa [show s + 1 + k = s + (k + 1) by omega])
        omega
    · exact Nat.zero_le _
/-- sums -/
def sumN (f : Nat → Nat) : Nat → Nat
  | 0 => 0
  | n + 1 => sumN f n + f n
theorem sumN_congr {f h : Nat → Nat} : ∀ {n : Nat}, (∀ k, k < n → f k = h k) → sumN f n = sumN h n
  | 0, _ => rfl
  | n + 1, q => by
    unfold sumN
    rw [sumN_congr fun k hk => q k (by omega), q n (by omega)]
theorem sumN_add (f h : Nat → Nat) : ∀ n, sumN (fun k => f k + h k) n = sumN f n + sumN h n
  | 0 => rfl
  | n + 1 => by
    unfold sumN
    rw [sumN_add f h n]
    omega
theorem sumN_shift (f : Nat → Nat) : ∀ n, sumN (fun k => f (k + 1)) n + f 0 = sumN f n + f n
  | 0 => by unfold sumN; omega
  | n + 1 => by
    unfold sumN
    have := sumN_shift f n
    omega
/-- a false somewhere in the round -/
theorem run_lt_per {g : Nat → Bool} {n : Nat} (h : Per g n) (hn : 0 < n) {j : Nat} (hj : g j = false) (s : Nat) : run g s n < n := by
  -- j is hit within n turns from s
  let k := (j + n * s - s) % n
  have hk : k < n := Nat.mod_lt _ hn
  have e : g (s + k) = false := by
    have e1 : (s + k) % n = j % n := by
      show (s + (j + n * s - s) % n) % n = j % n
      have hs : s ≤ n * s := Nat.le_mul_of_pos_left s hn
      rw [Nat.add_mod, Nat.mod_mod, ← Nat.add_mod, show s + (j + n * s - s) = j + n * s by omega, Nat.add_mul_mod_self_left]
    rw [← h.mod, e1, h.mod, hj]
  exact Nat.lt_of_le_of_lt (run_lt hk e) hk
theorem run_per {g : Nat → Bool} {n : Nat} (h : Per g n) : ∀ m s, run g (s + n) m = run g s m
  | 0, _ => rfl
  | m + 1, s => by
    unfold run
    rw [h, show s + n + 1 = (s + 1) + n by omega, run_per h m (s + 1)]
theorem run_step {g : Nat → Bool} {n : Nat} (h : Per g n) (hn : 0 < n) {j : Nat} (hj : g j = false) (s : Nat) : run g s n = if g s then 1 + run g (s + 1) n else 0 := by
  have e : run g s (n + 1) = run g s n := run_more g n s 1 (run_lt_per h hn hj s)
  rw [← e]
  rfl
/-- THE FACT: the rows come to the trues -/
theorem rows_sum {g : Nat → Bool} {n : Nat} (h : Per g n) (hn : 0 < n) {j : Nat} (hj : g j = false) : sumN (fun s => if g s && !g (s + n - 1) then run g s n else 0) n = sumN (fun s => if g s then 1 else 0) n := by
  have st := run_step h hn hj
  -- a(s) = run s, b(s) = if g s then run (s+1) else 0
  have h1 : sumN (fun s => run g s n) n = sumN (fun s => (if g s then 1 else 0) + (if g s then run g (s + 1) n else 0)) n := sumN_congr fun s _ => by
    rw [st s]
    split <;> rfl
  rw [sumN_add] at h1
  have h2 : sumN (fun s => run g (s + 1) n) n = sumN (fun s => run g s n) n := by
    have := sumN_shift (fun s => run g s n) n
    have e : run g n n = run g 0 n := by
      have := run_per h n 0
      rwa [Nat.zero_add] at this
    omega
  have h3 : sumN (fun s => run g (s + 1) n) n = sumN (fun s => (if g s then run g (s + 1) n else 0) + (if !g s then run g (s + 1) n else 0)) n := sumN_congr fun s _ => by
    cases g s <;> simp
  rw [sumN_add] at h3
  -- shift the rows' sum
  let f : Nat → Nat := fun s => if g s && !g (s + n - 1) then run g s n else 0
  have h4 : sumN (fun s => f (s + 1)) n = sumN f n := by
    have := sumN_shift f n
    have e : f n = f 0 := by
      show (if g n && !g (n + n - 1) then run g n n else 0) = (if g 0 && !g (0 + n - 1) then run g 0 n else 0)
      have e1 : g n = g 0 := by have := h 0; rwa [Nat.zero_add] at this
      have e2 : g (n + n - 1) = g (0 + n - 1) := by
        have := h (n - 1)
        rw [show n - 1 + n = n + n - 1 by omega] at this
        rw [this, Nat.zero_add]
      have e3 : run g n n = run g 0 n := by have := run_per h n 0; rwa [Nat.zero_add] at this
      rw [e1, e2, e3]
    omega
  have h5 : sumN (fun s => f (s + 1)) n = sumN (fun s => if !g s then run g (s + 1) n else 0) n := sumN_congr fun s _ => by
    show (if g (s + 1) && !g (s + 1 + n - 1) then run g (s + 1) n else 0) = _
    have e : g (s + 1 + n - 1) = g s := by rw [show s + 1 + n - 1 = s + n by omega, h]
    rw [e]
    cases hg : g (s + 1) with
    | true => simp
    | false =>
      have : run g (s + 1) n = 0 := by rw [st (s + 1), hg]; rfl
      rw [this]
      simp
  show sumN f n = _
  omega
end PD

set_option Elab.async false
set_option linter.all false
set_option maxRecDepth 100000
set_option maxHeartbeats 2000000
/-! Q4: plain numbers in small programs. -/
namespace PD
open PySem PySem.Spec
theorem lcL_mapm {α : Type} {f : D → HS → Res (Option D)} {u g : α → D} {h : HS} : ∀ {xs : List α}, (∀ x ∈ xs, f (u x) h = .ok (some (g x)) h) → lcL f (xs.map u) h = .ok (xs.map g) h
  | [], _ => rfl
  | x :: r, q => by
    have ih := lcL_mapm (f := f) (u := u) (g := g) (h := h) (xs := r) fun e he => q e (List.mem_cons_of_mem _ he)
    simp only [List.map_cons, lcL, q x List.mem_cons_self, Res.bind, ih]
theorem rangeD_map (lo : Int) (n : Nat) : rangeD lo n = (List.range n).map fun (k : Nat) => D.int (lo + k) := rfl
theorem rangeD_length (lo : Int) (n : Nat) : (rangeD lo n).length = n := by
  unfold rangeD
  rw [List.length_map, List.length_range]
theorem rangeD_at {lo : Int} {n i : Nat} {d : D} (h : (rangeD lo n)[i]? = some d) : d = .int (lo + i) ∧ i < n := by
  unfold rangeD at h
  rw [List.getElem?_map, Option.map_eq_some_iff] at h
  obtain ⟨k, e, rfl⟩ := h
  obtain ⟨hl, e⟩ := List.getElem?_eq_some_iff.mp e
  rw [List.getElem_range] at e
  rw [List.length_range] at hl
  subst e
  exact ⟨rfl, hl⟩
/-- l[i], i not below 0 -/
theorem ix_nat {xs : List D} {h : HS} {k : Nat} {d : D} (e : xs[k]? = some d) : ixD h (.lst xs) (.int (k : Int)) = some d := by
  obtain ⟨hl, _⟩ := List.getElem?_eq_some_iff.mp e
  unfold ixD
  simp only [PD.atI, PD.ixN]
  rw [if_pos (by omega), if_pos (by omega)]
  simpa using e
/-- l[i], i below 0 -/
theorem ix_neg {xs : List D} {h : HS} {k : Nat} {d : D} (hk : 1 ≤ k ∧ k ≤ xs.length) (e : xs[xs.length - k]? = some d) : ixD h (.lst xs) (.int (-(k : Int))) = some d := by
  unfold ixD
  simp only [PD.atI, PD.ixN]
  rw [if_neg (by omega), if_pos (by omega)]
  have e2 : (-(k : Int) + (xs.length : Int)).toNat = xs.length - k := by omega
  simp only [e2, Option.bind_some]
  exact e
theorem ixt_nat {xs : List D} {h : HS} {k : Nat} {d : D} (e : xs[k]? = some d) : ixD h (.tup xs) (.int (k : Int)) = some d := by
  obtain ⟨hl, _⟩ := List.getElem?_eq_some_iff.mp e
  unfold ixD
  simp only [PD.atI, PD.ixN]
  rw [if_pos (by omega), if_pos (by omega)]
  simpa using e
theorem ixh_nat {hs : HS} {k : Nat} {d : D} (e : hs[k]? = some d) : ixD hs .hnd (.int (k : Int)) = some d := by
  obtain ⟨hl, _⟩ := List.getElem?_eq_some_iff.mp e
  unfold ixD
  simp only [PD.atI, PD.ixN]
  rw [if_pos (by omega), if_pos (by omega)]
  simpa using e
theorem inR_small {i : Int} (h0 : -1000000000 ≤ i) (h1 : i ≤ 1000000000) : inR i = true := by
  unfold inR
  rw [Bool.and_eq_true, decide_eq_true_eq, decide_eq_true_eq]
  constructor <;> omega
theorem mul_l {i j : Int} (h0 : -(2 ^ 64) < i) (h1 : i < 2 ^ 64) : binD .mul (.int i) (.int j) = some (.int (i * j)) := by
  unfold binD
  dsimp only
  rw [if_pos]
  unfold cmulOk
  rw [Bool.or_eq_true, Bool.and_eq_true, decide_eq_true_eq, decide_eq_true_eq]
  exact .inl ⟨h0, h1⟩
theorem mul_r {i j : Int} (h0 : -(2 ^ 64) < j) (h1 : j < 2 ^ 64) : binD .mul (.int i) (.int j) = some (.int (i * j)) := by
  unfold binD
  dsimp only
  rw [if_pos]
  unfold cmulOk
  rw [Bool.or_eq_true, Bool.and_eq_true, Bool.and_eq_true, decide_eq_true_eq, decide_eq_true_eq, decide_eq_true_eq, decide_eq_true_eq]
  exact .inr ⟨h0, h1⟩
theorem fdiv_ok {i j : Int} (h : j ≠ 0) (hz : j.natAbs < 1073741824) : binD .fdiv (.int i) (.int j) = some (.int (i.fdiv j)) := by
  unfold binD
  dsimp only
  rw [if_pos]
  rw [Bool.and_eq_true, decide_eq_true_eq, decide_eq_true_eq]
  exact ⟨h, hz⟩
theorem mod_ok {i j : Int} (h : j ≠ 0) : binD .mod (.int i) (.int j) = some (.int (i.fmod j)) := by
  unfold binD
  dsimp only
  rw [if_pos h]
theorem add_int (i j : Int) : binD .add (.int i) (.int j) = some (.int (i + j)) := rfl
theorem sub_int (i j : Int) : binD .sub (.int i) (.int j) = some (.int (i - j)) := rfl
theorem fmod_nat (a b : Nat) : ((a : Int)).fmod (b : Int) = ((a % b : Nat) : Int) := by
  rw [Int.fmod_eq_emod_of_nonneg _ (by omega)]
  omega
theorem fdiv_nat (a b : Nat) : ((a : Int)).fdiv (b : Int) = ((a / b : Nat) : Int) := by
  rw [Int.fdiv_eq_ediv_of_nonneg _ (by omega)]
  omega
/-! rows, as the programs list them -/
def rowAt (g : Nat → Bool) (n s : Nat) : List (Int × Int) := if g s && !g (s + n - 1) then [((s : Int), (run g s n : Int))] else []
def rowsOf (g : Nat → Bool) (n : Nat) : List (Int × Int) := if (List.range n).all g then [(0, (n : Int))] else (List.range n).flatMap (rowAt g n)
def gOf (ts : List Tr) : Nat → Bool := fun k => shTs ts (k : Int)
theorem gOf_per {ts : List Tr} (h : ∀ t ∈ ts, TrOk t) : Per (gOf ts) (rnd ts) := fun k => by
  show shTs ts ((k + rnd ts : Nat) : Int) = shTs ts k
  have := shTs_per h k 1
  rwa [Int.one_mul, ← Int.natCast_add] at this
def rowsP (ts : List Tr) : List (Int × Int) := rowsOf (gOf ts) (rnd ts)
def flD (ts : List Tr) : D := .lst ((fl ts).map .bl)
theorem fl_ix {ts : List Tr} {h : HS} {k : Nat} (hk : k < rnd ts) : ixD h (flD ts) (.int (k : Int)) = some (.bl (gOf ts k)) := ix_nat (by rw [List.getElem?_map, fl_at hk]; rfl)
theorem fl_ixp {ts : List Tr} (ho : ∀ t ∈ ts, TrOk t) {h : HS} {k : Nat} (hk : k < rnd ts) : ixD h (flD ts) (.int ((k : Int) - 1)) = some (.bl (gOf ts (k + rnd ts - 1))) := by
  cases k with
  | zero =>
    rw [show ((0 : Nat) : Int) - 1 = -((1 : Nat) : Int) by omega]
    refine ix_neg ⟨Nat.le_refl _, by rw [List.length_map, fl_length]; exact rnd_pos ho⟩ ?_
    rw [List.length_map, fl_length, List.getElem?_map, fl_at (by have := rnd_pos ho; omega), Nat.zero_add]
    rfl
  | succ k =>
    rw [show ((k + 1 : Nat) : Int) - 1 = (k : Int) by omega, fl_ix (by omega), show k + 1 + rnd ts - 1 = k + rnd ts by omega, gOf_per ho]
theorem fl_ixm {ts : List Tr} (ho : ∀ t ∈ ts, TrOk t) {h : HS} (k : Nat) : ixD h (flD ts) (.int ((k : Int).fmod (rnd ts : Int))) = some (.bl (gOf ts k)) := by
  rw [fmod_nat, fl_ix (Nat.mod_lt _ (rnd_pos ho)), (gOf_per ho).mod]
theorem fl_no {ts : List Tr} : memD (.bl false) ((fl ts).map D.bl) = some (!(List.range (rnd ts)).all (gOf ts)) := by
  rw [memD_bl]
  congr 1
  unfold fl
  rw [Bool.eq_iff_iff, List.contains_iff_mem, List.mem_map, Bool.not_eq_true', List.all_eq_false]
  constructor
  · rintro ⟨k, hk, e⟩
    refine ⟨k, hk, ?_⟩
    unfold gOf
    rw [Int.zero_add] at e
    rw [e]
    exact Bool.false_ne_true
  · rintro ⟨k, hk, e⟩
    refine ⟨k, hk, ?_⟩
    rw [Int.zero_add]
    unfold gOf at e
    simpa using e
theorem range_all {g : Nat → Bool} {n : Nat} (h : (List.range n).all g = false) : ∃ j, j < n ∧ g j = false := by
  rw [List.all_eq_false] at h
  obtain ⟨j, hj, e⟩ := h
  exact ⟨j, List.mem_range.mp hj, by simpa using e⟩
theorem rowsUp_len (g : Nat → Bool) (n : Nat) : ∀ k, ((List.range k).flatMap (rowAt g n)).length ≤ k
  | 0 => Nat.le_refl _
  | k + 1 => by
    rw [List.range_succ, List.flatMap_append, List.length_append]
    have := rowsUp_len g n k
    have h1 : ([k].flatMap (rowAt g n)).length ≤ 1 := by
      simp only [List.flatMap_cons, List.flatMap_nil, List.append_nil]
      unfold rowAt
      split <;> simp
    omega
theorem rowsUp_succ (g : Nat → Bool) (n k : Nat) : (List.range (k + 1)).flatMap (rowAt g n) = (List.range k).flatMap (rowAt g n) ++ rowAt g n k := by
  rw [List.range_succ, List.flatMap_append]
  simp only [List.flatMap_cons, List.flatMap_nil, List.append_nil]

section
variable {Φ : Nat → List D → HS → Res D} {Ψ : Nat → (HS → Res D) → HS → Res D} {thk : HS → Res D} {m : IM} {r : IMs} {ρ ρ' : PEnv} {h h' : HS} {d : D}
theorem ms_nx (e : denM Φ Ψ thk m ρ h = .ok (.nx ρ') h') : denMs Φ Ψ thk (.cons m r) ρ h = denMs Φ Ψ thk r ρ' h' := by
  simp only [denMs, e, Res.bind]
theorem ms_rt (e : denM Φ Ψ thk m ρ h = .ok (.rt d) h') : denMs Φ Ψ thk (.cons m r) ρ h = .ok (.rt d) h' := by
  simp only [denMs, e, Res.bind]
theorem f_rt {b : IMs} {n : Nat} {ds : List D} (e : denMs Φ Ψ thk b (ds.map .val ++ List.replicate (n - ds.length) .no) h = .ok (.rt d) h') : denF Φ Ψ thk b n ds h = .ok d h' := by
  simp only [denF, e, Res.bind]
theorem f_nx {b : IMs} {n : Nat} {ds : List D} (e : denMs Φ Ψ thk b (ds.map .val ++ List.replicate (n - ds.length) .no) h = .ok (.nx ρ') h') : denF Φ Ψ thk b n ds h = .ok .non h' := by
  simp only [denF, e, Res.bind]
/-- a for, by what stands at each turn -/
theorem for_inv {t : IT} {s : IS} {b : IMs} {its : List D} {h1 : HS} (I : Nat → PEnv → HS → Prop) (hs : denS Φ Ψ thk s ρ h = .ok its h1) (i0 : I 0 ρ h1)
    (st : ∀ (i : Nat) d ρ h, its[i]? = some d → I i ρ h → ∃ ρ1 ρ' h', asgT t d ρ = some ρ1 ∧ (denMs Φ Ψ thk b ρ1 h = .ok (.nx ρ') h' ∨ denMs Φ Ψ thk b ρ1 h = .ok (.ct ρ') h') ∧ I (i + 1) ρ' h') :
    ∃ ρ' h', denM Φ Ψ thk (.for_ t s b) ρ h = .ok (.nx ρ') h' ∧ I its.length ρ' h' := by
  have z := forL_inv (f := fun d ρ h => match asgT t d ρ with
    | some ρ' => denMs Φ Ψ thk b ρ' h
    | none => .stuck) I (its := its) (k := 0) i0 fun i d ρ h hd hi => by
    rw [Nat.zero_add] at hi ⊢
    obtain ⟨ρ1, ρ', h', e1, e2, i2⟩ := st i d ρ h hd hi
    refine ⟨ρ', h', ?_, i2⟩
    rw [e1]
    exact e2
  obtain ⟨ρ', h', e, i⟩ := z
  rw [Nat.zero_add] at i
  refine ⟨ρ', h', ?_, i⟩
  simp only [denM, hs, Res.bind]
  exact e
/-- a while, by a measure -/
theorem whl_inv {c : IC} {b : IMs} (I : Nat → PEnv → HS → Prop) (J : PEnv → HS → Prop) {m : Nat} (i0 : I m ρ h)
    (st : ∀ m ρ h, I m ρ h → (∃ h', denC Φ Ψ thk c ρ h = .ok false h' ∧ J ρ h') ∨ ∃ h1 ρ' h', denC Φ Ψ thk c ρ h = .ok true h1 ∧ (denMs Φ Ψ thk b ρ h1 = .ok (.nx ρ') h' ∨ denMs Φ Ψ thk b ρ h1 = .ok (.ct ρ') h') ∧ ∃ m', m' < m ∧ I m' ρ' h') :
    ∃ ρ' h', denM Φ Ψ thk (.whl c b) ρ h = .ok (.nx ρ') h' ∧ J ρ' h' := by
  obtain ⟨ρ', h', e, j⟩ := whileL_inv (c := denC Φ Ψ thk c) (f := denMs Φ Ψ thk b) I J i0 st
  refine ⟨ρ', h', ?_, j⟩
  simp only [denM]
  exact e
theorem s_rng1 {e : IE} {n : Nat} {h1 : HS} (he : den Φ Ψ thk e ρ h = .ok (.int (n : Int)) h1) (hn : n ≤ 1000000000) : denS Φ Ψ thk (.rng1 e) ρ h = .ok (rangeD 0 n) h1 := by
  have hr : inR (n : Int) = true := inR_small (by omega) (by omega)
  simp only [denS, he, Res.bind, hr, if_true, Int.toNat_natCast]
/-- one turn of a comprehension -/
noncomputable def lcTurn (Φ : Nat → List D → HS → Res D) (Ψ : Nat → (HS → Res D) → HS → Res D) (thk : HS → Res D) (vs : List Nat) (t : IT) (c : IC) (e : IE) (ρ : PEnv) : D → HS → Res (Option D) := fun d h => match asgT t d (wipeP ρ vs) with
  | some ρ' => (denC Φ Ψ thk c ρ' h).bind fun k h => if k then (den Φ Ψ thk e ρ' h).bind fun x h => .ok (some x) h else .ok none h
  | none => .stuck
theorem turn_tt {vs : List Nat} {t : IT} {e : IE} {x : D} (ha : asgT t d (wipeP ρ vs) = some ρ') (he : den Φ Ψ thk e ρ' h = .ok x h') : lcTurn Φ Ψ thk vs t .tt e ρ d h = .ok (some x) h' := by
  unfold lcTurn
  rw [ha]
  simp only [denC, Res.bind, if_true, he]
theorem turn_if {vs : List Nat} {t : IT} {c : IC} {e : IE} {x : D} {k : Bool} {h1 : HS} (ha : asgT t d (wipeP ρ vs) = some ρ') (hc : denC Φ Ψ thk c ρ' h = .ok k h1) (he : k = true → den Φ Ψ thk e ρ' h1 = .ok x h') (hn : k = false → h' = h1) : lcTurn Φ Ψ thk vs t c e ρ d h = .ok (if k then some x else none) h' := by
  unfold lcTurn
  rw [ha]
  cases k with
  | true => simp only [hc, Res.bind, if_true, he rfl]
  | false =>
    rw [hn rfl]
    simp only [hc, Res.bind, Bool.false_eq_true, if_false]
theorem lc_of {vs : List Nat} {t : IT} {s : IS} {c : IC} {e : IE} {its xs : List D} {h1 h2 : HS} (hs : denS Φ Ψ thk s ρ h = .ok its h1) (hl : its.length ≤ line) (he : lcL (lcTurn Φ Ψ thk vs t c e ρ) its h1 = .ok xs h2) : den Φ Ψ thk (.lc vs t s c e) ρ h = .ok (.lst xs) h2 := by
  have z : den Φ Ψ thk (.lc vs t s c e) ρ h = (Res.ok its h1).bind fun its h => (calmR (lcL (lcTurn Φ Ψ thk vs t c e ρ) its h)).bind fun ds h => if its.length ≤ line then .ok (.lst ds) h else .stuck := by
    rw [← hs]
    simp only [den]
    rfl
  rw [z]
  simp only [Res.bind, he, calmR, if_pos hl]
theorem m_ret {e : IE} (he : den Φ Ψ thk e ρ h = .ok d h') : denM Φ Ψ thk (.ret e) ρ h = .ok (.rt d) h' := by
  simp only [denM, he, Res.bind]
theorem e_bi {b : BI} {a : IE} {x : D} (ha : den Φ Ψ thk a ρ h = .ok x h') (hb : biD b [x] = some d) : den Φ Ψ thk (.bi b (.cons a .nil)) ρ h = .ok d h' := by
  simp only [den, dens, ha, Res.bind, hb, ofO]
theorem ms_nil_ : denMs Φ Ψ thk .nil ρ h = .ok (.nx ρ) h := by
  simp only [denMs]
theorem m_ite_t {c : IC} {a b : IMs} {r : Res Fl} (hc : denC Φ Ψ thk c ρ h = .ok true h') (ha : denMs Φ Ψ thk a ρ h' = r) : denM Φ Ψ thk (.ite c a b) ρ h = r := by
  simp only [denM, hc, Res.bind, if_true, ha]
theorem m_ite_f {c : IC} {a b : IMs} {r : Res Fl} (hc : denC Φ Ψ thk c ρ h = .ok false h') (hb : denMs Φ Ψ thk b ρ h' = r) : denM Φ Ψ thk (.ite c a b) ρ h = r := by
  simp only [denM, hc, Res.bind, Bool.false_eq_true, if_false, hb]
end
end PD

set_option Elab.async false
set_option linter.all false
set_option maxRecDepth 100000
set_option maxHeartbeats 2000000
/-! Q5: what rows come to. -/
namespace PD
def trues (g : Nat → Bool) (n : Nat) : Nat := sumN (fun s => if g s then 1 else 0) n
theorem trues_all {g : Nat → Bool} : ∀ {n : Nat}, (∀ k, k < n → g k = true) → trues g n = n
  | 0, _ => rfl
  | n + 1, h => by
    unfold trues sumN
    rw [if_pos (h n (by omega))]
    have := trues_all (g := g) (n := n) fun k hk => h k (by omega)
    unfold trues at this
    omega
theorem trues_pos {g : Nat → Bool} : ∀ {n k : Nat}, k < n → g k = true → 1 ≤ trues g n
  | 0, k, h, _ => absurd h (Nat.not_lt_zero _)
  | n + 1, k, h, hg => by
    unfold trues sumN
    by_cases hk : k = n
    · subst hk
      rw [if_pos hg]
      omega
    · have := trues_pos (g := g) (n := n) (k := k) (by omega) hg
      unfold trues at this
      omega
theorem sum_rows (g : Nat → Bool) (n : Nat) : ∀ k, (((List.range k).flatMap (rowAt g n)).map (·.2)).sum = ((sumN (fun s => if g s && !g (s + n - 1) then run g s n else 0) k : Nat) : Int)
  | 0 => by simp [sumN]
  | k + 1 => by
    have e : sumN (fun s => if g s && !g (s + n - 1) then run g s n else 0) (k + 1) = sumN (fun s => if g s && !g (s + n - 1) then run g s n else 0) k + (if g k && !g (k + n - 1) then run g k n else 0) := rfl
    have e2 : ((rowAt g n k).map (·.2)).sum = (((if g k && !g (k + n - 1) then run g k n else 0) : Nat) : Int) := by
      unfold rowAt
      split <;> simp
    rw [rowsUp_succ, List.map_append, List.sum_append, sum_rows g n k, e, Int.natCast_add, e2]
/-- the rows come to the trues -/
theorem rowsOf_sum {g : Nat → Bool} {n : Nat} (h : Per g n) (hn : 0 < n) : ((rowsOf g n).map (·.2)).sum = (trues g n : Int) := by
  unfold rowsOf
  cases hall : (List.range n).all g with
  | true =>
    rw [if_pos rfl]
    have : trues g n = n := trues_all fun k hk => List.all_eq_true.mp hall k (List.mem_range.mpr hk)
    rw [this]
    simp
  | false =>
    rw [if_neg Bool.false_ne_true, sum_rows]
    obtain ⟨j, _, hj⟩ := range_all hall
    rw [rows_sum h hn hj]
    rfl
theorem rowsOf_ne {g : Nat → Bool} {n k : Nat} (h : Per g n) (hk : k < n) (hg : g k = true) : rowsOf g n ≠ [] := fun z => by
  have s := rowsOf_sum h (Nat.zero_lt_of_lt hk)
  rw [z] at s
  have := trues_pos hk hg
  simp at s
  omega
/-- a row's facts -/
theorem mem_rows {g : Nat → Bool} {n : Nat} (h : Per g n) (hn : 0 < n) {p : Int × Int} (hp : p ∈ rowsOf g n) : ∃ s L : Nat, p = ((s : Int), (L : Int)) ∧ s < n ∧ 1 ≤ L ∧ L ≤ n ∧ (∀ k, k < L → g (s + k) = true) ∧ (L < n → g (s + L) = false ∧ g (s + n - 1) = false) := by
  unfold rowsOf at hp
  cases hall : (List.range n).all g with
  | true =>
    rw [hall, if_pos rfl, List.mem_singleton] at hp
    have ha : ∀ k, g k = true := fun k => by
      rw [← h.mod]
      exact List.all_eq_true.mp hall _ (List.mem_range.mpr (Nat.mod_lt _ hn))
    exact ⟨0, n, hp, hn, hn, Nat.le_refl _, fun k _ => ha _, fun z => absurd z (Nat.lt_irrefl _)⟩
  | false =>
    rw [hall, if_neg Bool.false_ne_true, List.mem_flatMap] at hp
    obtain ⟨s, hs, hp⟩ := hp
    obtain ⟨j, _, hj⟩ := range_all hall
    have hs := List.mem_range.mp hs
    unfold rowAt at hp
    split at hp
    · rename_i hc
      rw [Bool.and_eq_true, Bool.not_eq_true'] at hc
      rw [List.mem_singleton] at hp
      have hlt := run_lt_per h hn hj s
      refine ⟨s, run g s n, hp, hs, ?_, Nat.le_of_lt hlt, fun k hk => run_true g n s k hk, fun _ => ⟨run_false g n s hlt, hc.2⟩⟩
      rw [run_step h hn hj s, if_pos hc.1]
      omega
    · cases hp
theorem count_false {ts : List Tr} : ((fl ts).count false : Nat) + trues (gOf ts) (rnd ts) = rnd ts := by
  unfold fl
  generalize rnd ts = n
  induction n with
  | zero => rfl
  | succ n ih =>
    rw [List.range_succ, List.map_append, List.count_append]
    unfold trues sumN
    unfold trues at ih
    simp only [List.map_cons, List.map_nil, Int.zero_add] at ih ⊢
    have e : gOf ts n = shTs ts (n : Int) := rfl
    rw [e]
    cases shTs ts (n : Int) <;> simp <;> omega
theorem shT_begin {t : Tr} (o : TrOk t) : shT t t.2.1 = true := by
  unfold shT
  rw [Int.sub_self, Int.zero_fmod]
  exact decide_eq_true (by have := o.l1; omega)
theorem rowsP_ne {ts : List Tr} (o : TrsOk ts) : rowsP ts ≠ [] := by
  obtain ⟨t, r, rfl⟩ : ∃ t r, ts = t :: r := by
    cases ts with
    | nil => exact absurd o.1 (by decide)
    | cons t r => exact ⟨t, r, rfl⟩
  have ot := o.2.2 t List.mem_cons_self
  have hb : t.2.1 = ((t.2.1.toNat : Nat) : Int) := (Int.toNat_of_nonneg ot.b0).symm
  have hp := gOf_per o.2.2
  have hg : gOf (t :: r) t.2.1.toNat = true := by
    show shTs (t :: r) ((t.2.1.toNat : Nat) : Int) = true
    rw [← hb]
    unfold shTs
    rw [List.any_cons, shT_begin ot]
    rfl
  rw [← hp.mod] at hg
  exact rowsOf_ne hp (Nat.mod_lt _ (rnd_pos o.2.2)) hg
def negP (p : Int × Int) : Int × Int := (0 - p.2, p.1)
/-- the least of the rows turned: the longest, its least begin -/
theorem rowsP_min {ts : List Tr} (o : TrsOk ts) : ∃ q, minL (((rowsP ts).map negP).map prD) = some (prD q) := by
  obtain ⟨q, _, e⟩ := minL_pr (ps := (rowsP ts).map negP) fun z => rowsP_ne o (List.map_eq_nil_iff.mp z)
  exact ⟨q, e⟩
theorem rowsP_len {ts : List Tr} (o : TrsOk ts) : (rowsP ts).length ≤ 120 := by
  have h := rnd_le o.2.2
  have h1 := rnd_pos o.2.2
  unfold rowsP rowsOf
  split
  · simp
  · have := rowsUp_len (gOf ts) (rnd ts) (rnd ts)
    omega
end PD

set_option Elab.async false
set_option linter.all false
set_option maxRecDepth 100000
set_option maxHeartbeats 0
namespace Lk86
open PySem PySem.Spec PyProof.Rows L2 PD
def top (i : Nat) : Stmt := PySem.Challenge.pw_streethouse_k86_whole_rows_of_shut_secon.main.body.getD i (.Pass ⟨0, 0, 0, 0⟩)
/-- is_integer(thing); slots 0 thing -/
def ir_is_integer : IMs := (.cons (.ret (.and (.isi (.var 0) [.int]) (.not (.isi (.var 0) [.bool]))))
  .nil)
abbrev d_is_integer : DefX := ⟨"is_integer", defArgs (top 1), defBody (top 1), defScope (top 1), [("thing" : Str)], [("thing" : Str)], ir_is_integer⟩
/-- is_within(thing, low, high); slots 0 thing, 1 low, 2 high -/
def ir_is_within : IMs := (.cons (.ret (.and (.call 0 (.cons (.var 0) .nil)) (.chain .le .le (.var 1) (.var 0) (.var 2))))
  .nil)
abbrev d_is_within : DefX := ⟨"is_within", defArgs (top 2), defBody (top 2), defScope (top 2), [("thing" : Str), ("low" : Str), ("high" : Str)], [("thing" : Str), ("low" : Str), ("high" : Str)], ir_is_within⟩
/-- is_sized(thing, low, high); slots 0 thing, 1 low, 2 high -/
def ir_is_sized : IMs := (.cons (.ret (.and (.isi (.var 0) [.tuple]) (.chain .le .le (.var 1) (.bi .len (.cons (.var 0) .nil)) (.var 2))))
  .nil)
abbrev d_is_sized : DefX := ⟨"is_sized", defArgs (top 3), defBody (top 3), defScope (top 3), [("thing" : Str), ("low" : Str), ("high" : Str)], [("thing" : Str), ("low" : Str), ("high" : Str)], ir_is_sized⟩
/-- is_track(thing); slots 0 thing -/
def ir_is_track : IMs := (.cons (.ite (.or (.not (.val (.call 2 (.cons (.var 0) (.cons (.lit (.int 3)) (.cons (.lit (.int 3)) .nil)))))) (.not (.val (.call 1 (.cons (.ix (.var 0) (.lit (.int 0))) (.cons (.lit (.int 2)) (.cons (.lit (.int 120)) .nil)))))))
    (.cons (.ret (.lit (.bl false)))
    .nil)
    .nil)
  (.cons (.ret (.and (.call 1 (.cons (.ix (.var 0) (.lit (.int 1))) (.cons (.lit (.int 0)) (.cons (.bin .sub (.ix (.var 0) (.lit (.int 0))) (.lit (.int 1))) .nil)))) (.call 1 (.cons (.ix (.var 0) (.lit (.int 2))) (.cons (.lit (.int 1)) (.cons (.ix (.var 0) (.lit (.int 0))) .nil))))))
  .nil))
abbrev d_is_track : DefX := ⟨"is_track", defArgs (top 17), defBody (top 17), defScope (top 17), [("thing" : Str)], [("thing" : Str)], ir_is_track⟩
/-- are_tracks(thing); slots 0 thing, 1 track -/
def ir_are_tracks : IMs := (.cons (.ret (.and (.call 2 (.cons (.var 0) (.cons (.lit (.int 1)) (.cons (.lit (.int 4)) .nil)))) (.bi .all (.cons (.lc [1] (.nm 1) (.val (.var 0)) .tt (.call 3 (.cons (.var 1) .nil))) .nil))))
  .nil)
abbrev d_are_tracks : DefX := ⟨"are_tracks", defArgs (top 19), defBody (top 19), defScope (top 19), [("thing" : Str), ("track" : Str)], [("thing" : Str)], ir_are_tracks⟩
/-- shuts(track, second); slots 0 track, 1 second, 2 p, 3 begin, 4 long -/
def ir_shuts : IMs := (.cons (.setT (.tp (.cons (.nm 2) (.cons (.nm 3) (.cons (.nm 4) .nil)))) (.var 0))
  (.cons (.ret (.cmp .lt (.bin .mod (.bin .sub (.var 1) (.var 3)) (.var 2)) (.var 4)))
  .nil))
abbrev d_shuts : DefX := ⟨"shuts", defArgs (top 21), defBody (top 21), defScope (top 21), [("track" : Str), ("second" : Str), ("p" : Str), ("begin" : Str), ("long" : Str)], [("track" : Str), ("second" : Str)], ir_shuts⟩
/-- is_shut(tracks, second); slots 0 tracks, 1 second, 2 track -/
def ir_is_shut : IMs := (.cons (.ret (.bi .any (.cons (.lc [2] (.nm 2) (.val (.var 0)) .tt (.call 5 (.cons (.var 2) (.cons (.var 1) .nil)))) .nil)))
  .nil)
abbrev d_is_shut : DefX := ⟨"is_shut", defArgs (top 22), defBody (top 22), defScope (top 22), [("tracks" : Str), ("second" : Str), ("track" : Str)], [("tracks" : Str), ("second" : Str)], ir_is_shut⟩
/-- shut_at(tracks, second); slots 0 tracks, 1 second -/
def ir_shut_at : IMs := (.cons (.ite (.not (.val (.call 4 (.cons (.var 0) .nil))))
    (.cons .dead
    .nil)
    .nil)
  (.cons (.ite (.not (.val (.call 1 (.cons (.var 1) (.cons (.lit (.int 0)) (.cons (.lit (.int 10000)) .nil))))))
    (.cons .dead
    .nil)
    .nil)
  (.cons (.ret (.call 6 (.cons (.var 0) (.cons (.var 1) .nil))))
  .nil)))
abbrev d_shut_at : DefX := ⟨"shut_at", defArgs (top 23), defBody (top 23), defScope (top 23), [("tracks" : Str), ("second" : Str)], [("tracks" : Str), ("second" : Str)], ir_shut_at⟩
/-- common(one, other); slots 0 one, 1 other -/
def ir_common : IMs := (.cons (.whl (.val (.cmp .ne (.var 1) (.lit (.int 0))))
    (.cons (.par [(0, false), (1, false)] (.cons (.var 1) (.cons (.bin .mod (.var 0) (.var 1)) .nil)))
    .nil))
  (.cons (.ret (.bi .abs (.cons (.var 0) .nil)))
  .nil))
abbrev d_common : DefX := ⟨"common", defArgs (top 10), defBody (top 10), defScope (top 10), [("one" : Str), ("other" : Str)], [("one" : Str), ("other" : Str)], ir_common⟩
/-- together(tracks); slots 0 tracks, 1 found, 2 p, 3 begin, 4 long -/
def ir_together : IMs := (.cons (.set 1 (.lit (.int 1)))
  (.cons (.for_ (.tp (.cons (.nm 2) (.cons (.nm 3) (.cons (.nm 4) .nil)))) (.val (.var 0))
    (.cons (.set 1 (.bin .fdiv (.bin .mul (.var 1) (.var 2)) (.call 8 (.cons (.var 1) (.cons (.var 2) .nil)))))
    .nil))
  (.cons (.ret (.var 1))
  .nil)))
abbrev d_together : DefX := ⟨"together", defArgs (top 18), defBody (top 18), defScope (top 18), [("tracks" : Str), ("found" : Str), ("p" : Str), ("begin" : Str), ("long" : Str)], [("tracks" : Str)], ir_together⟩
/-- check_tracks(tracks); slots 0 tracks -/
def ir_check_tracks : IMs := (.cons (.ite (.not (.val (.call 4 (.cons (.var 0) .nil))))
    (.cons .dead
    .nil)
    .nil)
  (.cons (.ite (.val (.cmp .gt (.call 9 (.cons (.var 0) .nil)) (.lit (.int 5000))))
    (.cons .dead
    .nil)
    .nil)
  .nil))
abbrev d_check_tracks : DefX := ⟨"check_tracks", defArgs (top 20), defBody (top 20), defScope (top 20), [("tracks" : Str)], [("tracks" : Str)], ir_check_tracks⟩
/-- flags_of(tracks); slots 0 tracks, 1 second -/
def ir_flags_of : IMs := (.cons (.ret (.lc [1] (.nm 1) (.rng1 (.call 9 (.cons (.var 0) .nil))) .tt (.call 6 (.cons (.var 0) (.cons (.var 1) .nil)))))
  .nil)
abbrev d_flags_of : DefX := ⟨"flags_of", defArgs (top 24), defBody (top 24), defScope (top 24), [("tracks" : Str), ("second" : Str)], [("tracks" : Str)], ir_flags_of⟩
/-- raw_rows(tracks); slots 0 tracks, 1 flags, 2 size, 3 found, 4 second, 5 length -/
def ir_raw_rows : IMs := (.cons (.set 1 (.call 11 (.cons (.var 0) .nil)))
  (.cons (.set 2 (.bi .len (.cons (.var 1) .nil)))
  (.cons (.ite (.val (.cmp .nin (.lit (.bl false)) (.var 1)))
    (.cons (.ret (.lst (.cons (.tup (.cons (.lit (.int 0)) (.cons (.var 2) .nil))) .nil)))
    .nil)
    .nil)
  (.cons (.setO 3 (.lst .nil))
  (.cons (.for_ (.nm 4) (.rng1 (.var 2))
    (.cons (.ite (.and (.val (.ix (.var 1) (.var 4))) (.not (.val (.ix (.var 1) (.bin .sub (.var 4) (.lit (.int 1)))))))
      (.cons (.set 5 (.lit (.int 1)))
      (.cons (.whl (.val (.ix (.var 1) (.bin .mod (.bin .add (.var 4) (.var 5)) (.var 2))))
        (.cons (.aug 5 .add (.lit (.int 1)))
        .nil))
      (.cons (.app 3 (.tup (.cons (.var 4) (.cons (.var 5) .nil))))
      .nil)))
      .nil)
    .nil))
  (.cons (.frz [3])
  (.cons (.ret (.var 3))
  .nil)))))))
abbrev d_raw_rows : DefX := ⟨"raw_rows", defArgs (top 25), defBody (top 25), defScope (top 25), [("tracks" : Str), ("flags" : Str), ("size" : Str), ("found" : Str), ("second" : Str), ("length" : Str)], [("tracks" : Str)], ir_raw_rows⟩
/-- shut_rows(tracks); slots 0 tracks -/
def ir_shut_rows : IMs := (.cons (.expr (.call 10 (.cons (.var 0) .nil)))
  (.cons (.ret (.bi .tuple (.cons (.call 12 (.cons (.var 0) .nil)) .nil)))
  .nil))
abbrev d_shut_rows : DefX := ⟨"shut_rows", defArgs (top 26), defBody (top 26), defScope (top 26), [("tracks" : Str)], [("tracks" : Str)], ir_shut_rows⟩
/-- share(top, bottom); slots 0 top, 1 bottom, 2 divisor -/
def ir_share : IMs := (.cons (.set 2 (.call 8 (.cons (.var 0) (.cons (.var 1) .nil))))
  (.cons (.set 2 (.ite (.val (.cmp .gt (.var 1) (.lit (.int 0)))) (.var 2) (.bin .sub (.lit (.int 0)) (.var 2))))
  (.cons (.ret (.tup (.cons (.bin .fdiv (.var 0) (.var 2)) (.cons (.bin .fdiv (.var 1) (.var 2)) .nil))))
  .nil)))
abbrev d_share : DefX := ⟨"share", defArgs (top 11), defBody (top 11), defScope (top 11), [("top" : Str), ("bottom" : Str), ("divisor" : Str)], [("top" : Str), ("bottom" : Str)], ir_share⟩
/-- raw_share(tracks); slots 0 tracks, 1 flags -/
def ir_raw_share : IMs := (.cons (.set 1 (.call 11 (.cons (.var 0) .nil)))
  (.cons (.ret (.call 14 (.cons (.mt .count (.var 1) (.cons (.lit (.bl false)) .nil)) (.cons (.bi .len (.cons (.var 1) .nil)) .nil))))
  .nil))
abbrev d_raw_share : DefX := ⟨"raw_share", defArgs (top 27), defBody (top 27), defScope (top 27), [("tracks" : Str), ("flags" : Str)], [("tracks" : Str)], ir_raw_share⟩
/-- open_share(tracks); slots 0 tracks -/
def ir_open_share : IMs := (.cons (.expr (.call 10 (.cons (.var 0) .nil)))
  (.cons (.ret (.call 15 (.cons (.var 0) .nil)))
  .nil))
abbrev d_open_share : DefX := ⟨"open_share", defArgs (top 28), defBody (top 28), defScope (top 28), [("tracks" : Str)], [("tracks" : Str)], ir_open_share⟩
/-- longest_shut(tracks); slots 0 tracks, 1 found, 2 begin, 3 length -/
def ir_longest_shut : IMs := (.cons (.expr (.call 10 (.cons (.var 0) .nil)))
  (.cons (.set 1 (.lc [2, 3] (.tp (.cons (.nm 2) (.cons (.nm 3) .nil))) (.val (.call 12 (.cons (.var 0) .nil))) .tt (.tup (.cons (.bin .sub (.lit (.int 0)) (.var 3)) (.cons (.var 2) .nil)))))
  (.cons (.ret (.tup (.cons (.bin .sub (.lit (.int 0)) (.ix (.bi .min (.cons (.var 1) .nil)) (.lit (.int 0)))) (.cons (.ix (.bi .min (.cons (.var 1) .nil)) (.lit (.int 1))) .nil))))
  .nil)))
abbrev d_longest_shut : DefX := ⟨"longest_shut", defArgs (top 29), defBody (top 29), defScope (top 29), [("tracks" : Str), ("found" : Str), ("begin" : Str), ("length" : Str)], [("tracks" : Str)], ir_longest_shut⟩
/-- _law_draw(hand, bound); slots 0 hand, 1 bound, 2 number, 3 cell, 4 digit -/
def ir__law_draw : IMs := (.cons (.ite (.and (.val (.cmp .eq (.ix (.var 0) (.lit (.int 2))) (.lit (.int 0)))) (.val (.cmp .lt (.ix (.var 0) (.lit (.int 1))) (.bi .len (.cons (.ix (.var 0) (.lit (.int 0))) .nil)))))
    (.cons (.set 3 (.ix (.ix (.var 0) (.lit (.int 0))) (.ix (.var 0) (.lit (.int 1)))))
    (.cons (.setIx 0 (.lit (.int 1)) (.bin .add (.ix (.var 0) (.lit (.int 1))) (.lit (.int 1))))
    (.cons (.setIx 0 (.lit (.int 3)) (.bin .mod (.bi .int (.cons (.bin .add (.bin .add (.bin .mul (.ix (.var 0) (.lit (.int 3))) (.lit (.int 69621))) (.var 3)) (.lit (.int 11))) .nil)) (.lit (.int 2147483629))))
    (.cons (.ite (.val (.cmp .ge (.var 3) (.bin .pow (.lit (.int 10)) (.lit (.int 18)))))
      (.cons (.setIx 0 (.lit (.int 2)) (.var 3))
      .nil)
      .nil)
    .nil))))
    .nil)
  (.cons (.ite (.val (.cmp .gt (.ix (.var 0) (.lit (.int 2))) (.lit (.int 0))))
    (.cons (.set 4 (.bin .mod (.bi .int (.cons (.ix (.var 0) (.lit (.int 2))) .nil)) (.var 1)))
    (.cons (.setIx 0 (.lit (.int 2)) (.bin .fdiv (.ix (.var 0) (.lit (.int 2))) (.var 1)))
    (.cons (.ret (.var 4))
    .nil)))
    .nil)
  (.cons (.setIx 0 (.lit (.int 4)) (.bin .add (.ix (.var 0) (.lit (.int 4))) (.lit (.int 1))))
  (.cons (.set 2 (.bin .mod (.bi .int (.cons (.bin .mul (.bi .int (.cons (.bin .add (.ix (.var 0) (.lit (.int 3))) (.bin .mul (.lit (.int 7919)) (.ix (.var 0) (.lit (.int 4))))) .nil)) (.lit (.int 48271))) .nil)) (.lit (.int 2147483647))))
  (.cons (.set 2 (.bin .mod (.bi .int (.cons (.bin .mul (.var 2) (.bin .add (.bin .fdiv (.var 2) (.lit (.int 1009))) (.lit (.int 69621)))) .nil)) (.lit (.int 2147483647))))
  (.cons (.set 2 (.bin .mod (.bi .int (.cons (.bin .mul (.var 2) (.bin .add (.bin .fdiv (.var 2) (.lit (.int 2003))) (.lit (.int 40692)))) .nil)) (.lit (.int 2147483399))))
  (.cons (.ret (.bin .mod (.bi .int (.cons (.bin .fdiv (.var 2) (.lit (.int 16))) .nil)) (.var 1)))
  .nil)))))))
abbrev d__law_draw : DefX := ⟨"_law_draw", defArgs (top 32), defBody (top 32), defScope (top 32), [("hand" : Str), ("bound" : Str), ("number" : Str), ("cell" : Str), ("digit" : Str)], [("hand" : Str), ("bound" : Str)], ir__law_draw⟩
/-- _law_any(hand, things); slots 0 hand, 1 things -/
def ir__law_any : IMs := (.cons (.ret (.ix (.var 1) (.call 18 (.cons (.var 0) (.cons (.bi .len (.cons (.var 1) .nil)) .nil)))))
  .nil)
abbrev d__law_any : DefX := ⟨"_law_any", defArgs (top 33), defBody (top 33), defScope (top 33), [("hand" : Str), ("things" : Str)], [("hand" : Str), ("things" : Str)], ir__law_any⟩
/-- _law_track(hand); slots 0 hand, 1 p -/
def ir__law_track : IMs := (.cons (.set 1 (.call 19 (.cons (.var 0) (.cons (.lst (.cons (.lit (.int 2)) (.cons (.lit (.int 3)) (.cons (.lit (.int 4)) (.cons (.lit (.int 5)) (.cons (.lit (.int 6)) (.cons (.lit (.int 8)) (.cons (.lit (.int 10)) (.cons (.lit (.int 12)) .nil))))))))) .nil))))
  (.cons (.ret (.tup (.cons (.var 1) (.cons (.call 18 (.cons (.var 0) (.cons (.var 1) .nil))) (.cons (.bin .add (.lit (.int 1)) (.call 18 (.cons (.var 0) (.cons (.call 19 (.cons (.var 0) (.cons (.lst (.cons (.var 1) (.cons (.bin .fdiv (.bin .add (.var 1) (.lit (.int 1))) (.lit (.int 2))) .nil))) .nil))) .nil)))) .nil)))))
  .nil))
abbrev d__law_track : DefX := ⟨"_law_track", defArgs (top 35), defBody (top 35), defScope (top 35), [("hand" : Str), ("p" : Str)], [("hand" : Str)], ir__law_track⟩
/-- _law_tracks(hand, most); slots 0 hand, 1 most, 2 track -/
def ir__law_tracks : IMs := (.cons (.ret (.bi .tuple (.cons (.lc [2] (.nm 2) (.rng1 (.bin .add (.lit (.int 1)) (.call 18 (.cons (.var 0) (.cons (.var 1) .nil))))) .tt (.call 20 (.cons (.var 0) .nil))) .nil)))
  .nil)
abbrev d__law_tracks : DefX := ⟨"_law_tracks", defArgs (top 36), defBody (top 36), defScope (top 36), [("hand" : Str), ("most" : Str), ("track" : Str)], [("hand" : Str), ("most" : Str)], ir__law_tracks⟩
/-- _law_low(top, bottom); slots 0 top, 1 bottom, 2 one, 3 other -/
def ir__law_low : IMs := (.cons (.par [(2, false), (3, false)] (.cons (.var 0) (.cons (.var 1) .nil)))
  (.cons (.whl (.val (.cmp .gt (.var 3) (.lit (.int 0))))
    (.cons (.par [(2, false), (3, false)] (.cons (.var 3) (.cons (.bin .mod (.bi .int (.cons (.var 2) .nil)) (.var 3)) .nil)))
    .nil))
  (.cons (.ret (.tup (.cons (.bin .fdiv (.var 0) (.var 2)) (.cons (.bin .fdiv (.var 1) (.var 2)) .nil))))
  .nil)))
abbrev d__law_low : DefX := ⟨"_law_low", defArgs (top 34), defBody (top 34), defScope (top 34), [("top" : Str), ("bottom" : Str), ("one" : Str), ("other" : Str)], [("top" : Str), ("bottom" : Str)], ir__law_low⟩
/-- _law_round(tracks); slots 0 tracks, 1 found, 2 p, 3 begin, 4 long -/
def ir__law_round : IMs := (.cons (.set 1 (.lit (.int 1)))
  (.cons (.for_ (.tp (.cons (.nm 2) (.cons (.nm 3) (.cons (.nm 4) .nil)))) (.val (.var 0))
    (.cons (.set 1 (.bin .fdiv (.bin .mul (.var 1) (.var 2)) (.bin .fdiv (.var 1) (.ix (.call 22 (.cons (.var 1) (.cons (.var 2) .nil))) (.lit (.int 0))))))
    .nil))
  (.cons (.ret (.var 1))
  .nil)))
abbrev d__law_round : DefX := ⟨"_law_round", defArgs (top 37), defBody (top 37), defScope (top 37), [("tracks" : Str), ("found" : Str), ("p" : Str), ("begin" : Str), ("long" : Str)], [("tracks" : Str)], ir__law_round⟩
/-- _law_is_shut(tracks, second); slots 0 tracks, 1 second, 2 p, 3 begin, 4 long -/
def ir__law_is_shut : IMs := (.cons (.ret (.bi .any (.cons (.lc [2, 3, 4] (.tp (.cons (.nm 2) (.cons (.nm 3) (.cons (.nm 4) .nil)))) (.val (.var 0)) .tt (.cmp .lt (.bin .mod (.bi .int (.cons (.bin .sub (.var 1) (.var 3)) .nil)) (.var 2)) (.var 4))) .nil)))
  .nil)
abbrev d__law_is_shut : DefX := ⟨"_law_is_shut", defArgs (top 38), defBody (top 38), defScope (top 38), [("tracks" : Str), ("second" : Str), ("p" : Str), ("begin" : Str), ("long" : Str)], [("tracks" : Str), ("second" : Str)], ir__law_is_shut⟩
/-- _law_shut(tracks); slots 0 tracks, 1 second -/
def ir__law_shut : IMs := (.cons (.ret (.lc [1] (.nm 1) (.rng1 (.call 23 (.cons (.var 0) .nil))) .tt (.call 24 (.cons (.var 0) (.cons (.var 1) .nil)))))
  .nil)
abbrev d__law_shut : DefX := ⟨"_law_shut", defArgs (top 39), defBody (top 39), defScope (top 39), [("tracks" : Str), ("second" : Str)], [("tracks" : Str)], ir__law_shut⟩
/-- _law_rows(row); slots 0 row, 1 begin, 2 size, 3 found, 4 length, 5 on -/
def ir__law_rows : IMs := (.cons (.par [(2, false), (3, true)] (.cons (.bi .len (.cons (.var 0) .nil)) (.cons (.lst .nil) .nil)))
  (.cons (.ite (.val (.cmp .nin (.lit (.bl false)) (.var 0)))
    (.cons (.ret (.lst (.cons (.tup (.cons (.lit (.int 0)) (.cons (.var 2) .nil))) .nil)))
    .nil)
    .nil)
  (.cons (.for_ (.nm 1) (.rng1 (.var 2))
    (.cons (.ite (.and (.val (.ix (.var 0) (.var 1))) (.not (.val (.ix (.var 0) (.bin .sub (.var 1) (.lit (.int 1)))))))
      (.cons (.set 4 (.lit (.int 0)))
      (.cons (.for_ (.nm 5) (.rng1 (.var 2))
        (.cons (.ite (.and (.val (.cmp .eq (.var 4) (.var 5))) (.val (.ix (.var 0) (.bin .mod (.bi .int (.cons (.bin .add (.var 1) (.var 5)) .nil)) (.var 2)))))
          (.cons (.set 4 (.bin .add (.var 5) (.lit (.int 1))))
          .nil)
          .nil)
        .nil))
      (.cons (.app 3 (.tup (.cons (.var 1) (.cons (.var 4) .nil))))
      .nil)))
      .nil)
    .nil))
  (.cons (.frz [3])
  (.cons (.ret (.var 3))
  .nil)))))
abbrev d__law_rows : DefX := ⟨"_law_rows", defArgs (top 40), defBody (top 40), defScope (top 40), [("row" : Str), ("begin" : Str), ("size" : Str), ("found" : Str), ("length" : Str), ("on" : Str)], [("row" : Str)], ir__law_rows⟩
/-- law; slots 0 script, 1 hand, 2 two, 3 lap, 4 tracks, 5 row, 6 due, 7 best, 8 share_v, 9 begin, 10 length, 11 on -/
def ir_law : IMs := (.cons (.set 2 (.tup (.cons (.tup (.cons (.lit (.int 4)) (.cons (.lit (.int 0)) (.cons (.lit (.int 1)) .nil)))) (.cons (.tup (.cons (.lit (.int 4)) (.cons (.lit (.int 2)) (.cons (.lit (.int 1)) .nil)))) .nil))))
  (.cons (.ite (.or (.val (.cmp .ne (.call 13 (.cons (.tup (.cons (.tup (.cons (.lit (.int 5)) (.cons (.lit (.int 3)) (.cons (.lit (.int 3)) .nil)))) .nil)) .nil)) (.tup (.cons (.tup (.cons (.lit (.int 3)) (.cons (.lit (.int 3)) .nil))) .nil)))) (.val (.cmp .ne (.call 13 (.cons (.var 2) .nil)) (.tup (.cons (.tup (.cons (.lit (.int 0)) (.cons (.lit (.int 1)) .nil))) (.cons (.tup (.cons (.lit (.int 2)) (.cons (.lit (.int 1)) .nil))) .nil))))))
    (.cons (.ret (.lit (.bl false)))
    .nil)
    .nil)
  (.cons (.ite (.or (.val (.cmp .ne (.call 13 (.cons (.tup (.cons (.tup (.cons (.lit (.int 2)) (.cons (.lit (.int 0)) (.cons (.lit (.int 1)) .nil)))) (.cons (.tup (.cons (.lit (.int 2)) (.cons (.lit (.int 1)) (.cons (.lit (.int 1)) .nil)))) .nil))) .nil)) (.tup (.cons (.tup (.cons (.lit (.int 0)) (.cons (.lit (.int 2)) .nil))) .nil)))) (.val (.cmp .ne (.call 17 (.cons (.tup (.cons (.tup (.cons (.lit (.int 5)) (.cons (.lit (.int 3)) (.cons (.lit (.int 3)) .nil)))) .nil)) .nil)) (.tup (.cons (.lit (.int 3)) (.cons (.lit (.int 3)) .nil))))))
    (.cons (.ret (.lit (.bl false)))
    .nil)
    .nil)
  (.cons (.ite (.or (.val (.cmp .ne (.call 17 (.cons (.var 2) .nil)) (.tup (.cons (.lit (.int 1)) (.cons (.lit (.int 0)) .nil))))) (.val (.cmp .ne (.call 17 (.cons (.tup (.cons (.tup (.cons (.lit (.int 3)) (.cons (.lit (.int 2)) (.cons (.lit (.int 3)) .nil)))) .nil)) .nil)) (.tup (.cons (.lit (.int 3)) (.cons (.lit (.int 0)) .nil))))))
    (.cons (.ret (.lit (.bl false)))
    .nil)
    .nil)
  (.cons (.for_ (.nm 3) (.rng1 (.lit (.int 6)))
    (.cons (.set 4 (.call 21 (.cons (.var 1) (.cons (.lit (.int 4)) .nil))))
    (.cons (.set 5 (.call 25 (.cons (.var 4) .nil)))
    (.cons (.set 6 (.call 26 (.cons (.var 5) .nil)))
    (.cons (.ite (.val (.cmp .ne (.call 13 (.cons (.var 4) .nil)) (.bi .tuple (.cons (.var 6) .nil))))
      (.cons (.ret (.lit (.bl false)))
      .nil)
      .nil)
    (.cons (.set 7 (.bi .min (.cons (.lc [9, 10] (.tp (.cons (.nm 9) (.cons (.nm 10) .nil))) (.val (.var 6)) .tt (.tup (.cons (.bin .sub (.lit (.int 0)) (.var 10)) (.cons (.var 9) .nil)))) .nil)))
    (.cons (.ite (.val (.cmp .ne (.call 17 (.cons (.var 4) .nil)) (.tup (.cons (.bin .sub (.lit (.int 0)) (.ix (.var 7) (.lit (.int 0)))) (.cons (.ix (.var 7) (.lit (.int 1))) .nil)))))
      (.cons (.ret (.lit (.bl false)))
      .nil)
      .nil)
    (.cons (.set 8 (.call 16 (.cons (.var 4) .nil)))
    (.cons (.ite (.val (.cmp .ne (.bin .add (.bi .sum (.cons (.lc [9, 10] (.tp (.cons (.nm 9) (.cons (.nm 10) .nil))) (.val (.var 6)) .tt (.var 10)) .nil)) (.mt .count (.var 5) (.cons (.lit (.bl false)) .nil))) (.bi .len (.cons (.var 5) .nil))))
      (.cons (.ret (.lit (.bl false)))
      .nil)
      .nil)
    (.cons (.ite (.val (.cmp .ne (.bin .mul (.ix (.var 8) (.lit (.int 0))) (.bi .len (.cons (.var 5) .nil))) (.bin .mul (.mt .count (.var 5) (.cons (.lit (.bl false)) .nil)) (.ix (.var 8) (.lit (.int 1))))))
      (.cons (.ret (.lit (.bl false)))
      .nil)
      .nil)
    (.cons (.for_ (.tp (.cons (.nm 9) (.cons (.nm 10) .nil))) (.val (.call 13 (.cons (.var 4) .nil)))
      (.cons (.ite (.and (.val (.cmp .lt (.var 10) (.bi .len (.cons (.var 5) .nil)))) (.or (.val (.call 7 (.cons (.var 4) (.cons (.bin .add (.var 9) (.var 10)) .nil)))) (.val (.call 7 (.cons (.var 4) (.cons (.bin .sub (.bin .add (.var 9) (.bi .len (.cons (.var 5) .nil))) (.lit (.int 1))) .nil))))))
        (.cons (.ret (.lit (.bl false)))
        .nil)
        .nil)
      (.cons (.ite (.not (.val (.bi .all (.cons (.lc [11] (.nm 11) (.rng1 (.var 10)) .tt (.call 7 (.cons (.var 4) (.cons (.bin .add (.var 9) (.var 11)) .nil)))) .nil))))
        (.cons (.ret (.lit (.bl false)))
        .nil)
        .nil)
      .nil)))
    .nil)))))))))))
  (.cons (.ret (.lit (.bl true)))
  .nil))))))
abbrev d_law : DefX := ⟨"law", defArgs (top 41), defBody (top 41), defScope (top 41), [("script" : Str), ("hand" : Str), ("two" : Str), ("lap" : Str), ("tracks" : Str), ("row" : Str), ("due" : Str), ("best" : Str), ("share_v" : Str), ("begin" : Str), ("length" : Str), ("on" : Str)], ["script"], ir_law⟩
abbrev d_hand : DefX := ⟨"_law_hand", defArgs (top 31), defBody (top 31), defScope (top 31), ["script", "cells", "cell"], ["script"], .nil⟩
def dx : List DefX := [d_is_integer, d_is_within, d_is_sized, d_is_track, d_are_tracks, d_shuts, d_is_shut, d_shut_at, d_common, d_together, d_check_tracks, d_flags_of, d_raw_rows, d_shut_rows, d_share, d_raw_share, d_open_share, d_longest_shut, d__law_draw, d__law_any, d__law_track, d__law_tracks, d__law_low, d__law_round, d__law_is_shut, d__law_shut, d__law_rows]
def fr : List Str := [("abs" : Str), ("all" : Str), ("any" : Str), ("bool" : Str), ("int" : Str), ("isinstance" : Str), ("len" : Str), ("min" : Str), ("range" : Str), ("sum" : Str), ("tuple" : Str)]
def cs : List (Str × D) := [("MOST_ROUND", .int 120), ("MOST_TRACKS", .int 4), ("MOST_TOGETHER", .int 5000), ("MOST_SECOND", .int 10000)]
theorem bind_is_integer : BindP d_is_integer := fun _ _ _ _ _ _ us hl => match us, hl with | [_], _ => by kernel_rfl
theorem bind_is_within : BindP d_is_within := fun _ _ _ _ _ _ us hl => match us, hl with | [_, _, _], _ => by kernel_rfl
theorem bind_is_sized : BindP d_is_sized := fun _ _ _ _ _ _ us hl => match us, hl with | [_, _, _], _ => by kernel_rfl
theorem bind_is_track : BindP d_is_track := fun _ _ _ _ _ _ us hl => match us, hl with | [_], _ => by kernel_rfl
theorem bind_are_tracks : BindP d_are_tracks := fun _ _ _ _ _ _ us hl => match us, hl with | [_], _ => by kernel_rfl
theorem bind_shuts : BindP d_shuts := fun _ _ _ _ _ _ us hl => match us, hl with | [_, _], _ => by kernel_rfl
theorem bind_is_shut : BindP d_is_shut := fun _ _ _ _ _ _ us hl => match us, hl with | [_, _], _ => by kernel_rfl
theorem bind_shut_at : BindP d_shut_at := fun _ _ _ _ _ _ us hl => match us, hl with | [_, _], _ => by kernel_rfl
theorem bind_common : BindP d_common := fun _ _ _ _ _ _ us hl => match us, hl with | [_, _], _ => by kernel_rfl
theorem bind_together : BindP d_together := fun _ _ _ _ _ _ us hl => match us, hl with | [_], _ => by kernel_rfl
theorem bind_check_tracks : BindP d_check_tracks := fun _ _ _ _ _ _ us hl => match us, hl with | [_], _ => by kernel_rfl
theorem bind_flags_of : BindP d_flags_of := fun _ _ _ _ _ _ us hl => match us, hl with | [_], _ => by kernel_rfl
theorem bind_raw_rows : BindP d_raw_rows := fun _ _ _ _ _ _ us hl => match us, hl with | [_], _ => by kernel_rfl
theorem bind_shut_rows : BindP d_shut_rows := fun _ _ _ _ _ _ us hl => match us, hl with | [_], _ => by kernel_rfl
theorem bind_share : BindP d_share := fun _ _ _ _ _ _ us hl => match us, hl with | [_, _], _ => by kernel_rfl
theorem bind_raw_share : BindP d_raw_share := fun _ _ _ _ _ _ us hl => match us, hl with | [_], _ => by kernel_rfl
theorem bind_open_share : BindP d_open_share := fun _ _ _ _ _ _ us hl => match us, hl with | [_], _ => by kernel_rfl
theorem bind_longest_shut : BindP d_longest_shut := fun _ _ _ _ _ _ us hl => match us, hl with | [_], _ => by kernel_rfl
theorem bind__law_draw : BindP d__law_draw := fun _ _ _ _ _ _ us hl => match us, hl with | [_, _], _ => by kernel_rfl
theorem bind__law_any : BindP d__law_any := fun _ _ _ _ _ _ us hl => match us, hl with | [_, _], _ => by kernel_rfl
theorem bind__law_track : BindP d__law_track := fun _ _ _ _ _ _ us hl => match us, hl with | [_], _ => by kernel_rfl
theorem bind__law_tracks : BindP d__law_tracks := fun _ _ _ _ _ _ us hl => match us, hl with | [_, _], _ => by kernel_rfl
theorem bind__law_low : BindP d__law_low := fun _ _ _ _ _ _ us hl => match us, hl with | [_, _], _ => by kernel_rfl
theorem bind__law_round : BindP d__law_round := fun _ _ _ _ _ _ us hl => match us, hl with | [_], _ => by kernel_rfl
theorem bind__law_is_shut : BindP d__law_is_shut := fun _ _ _ _ _ _ us hl => match us, hl with | [_, _], _ => by kernel_rfl
theorem bind__law_shut : BindP d__law_shut := fun _ _ _ _ _ _ us hl => match us, hl with | [_], _ => by kernel_rfl
theorem bind__law_rows : BindP d__law_rows := fun _ _ _ _ _ _ us hl => match us, hl with | [_], _ => by kernel_rfl
theorem bind_hand : BindP d_hand := fun _ _ _ _ _ _ us hl => match us, hl with | [_], _ => by kernel_rfl
theorem bind_law : BindP d_law := fun _ _ _ _ _ _ us hl => match us, hl with | [_], _ => by kernel_rfl
theorem bnd : ∀ e ∈ dx ++ [d_hand, d_law], BindP e := List.forall_mem_cons.mpr ⟨bind_is_integer, List.forall_mem_cons.mpr ⟨bind_is_within, List.forall_mem_cons.mpr ⟨bind_is_sized, List.forall_mem_cons.mpr ⟨bind_is_track, List.forall_mem_cons.mpr ⟨bind_are_tracks, List.forall_mem_cons.mpr ⟨bind_shuts, List.forall_mem_cons.mpr ⟨bind_is_shut, List.forall_mem_cons.mpr ⟨bind_shut_at, List.forall_mem_cons.mpr ⟨bind_common, List.forall_mem_cons.mpr ⟨bind_together, List.forall_mem_cons.mpr ⟨bind_check_tracks, List.forall_mem_cons.mpr ⟨bind_flags_of, List.forall_mem_cons.mpr ⟨bind_raw_rows, List.forall_mem_cons.mpr ⟨bind_shut_rows, List.forall_mem_cons.mpr ⟨bind_share, List.forall_mem_cons.mpr ⟨bind_raw_share, List.forall_mem_cons.mpr ⟨bind_open_share, List.forall_mem_cons.mpr ⟨bind_longest_shut, List.forall_mem_cons.mpr ⟨bind__law_draw, List.forall_mem_cons.mpr ⟨bind__law_any, List.forall_mem_cons.mpr ⟨bind__law_track, List.forall_mem_cons.mpr ⟨bind__law_tracks, List.forall_mem_cons.mpr ⟨bind__law_low, List.forall_mem_cons.mpr ⟨bind__law_round, List.forall_mem_cons.mpr ⟨bind__law_is_shut, List.forall_mem_cons.mpr ⟨bind__law_shut, List.forall_mem_cons.mpr ⟨bind__law_rows, List.forall_mem_cons.mpr ⟨bind_hand, List.forall_mem_cons.mpr ⟨bind_law, fun _ h => nomatch h⟩⟩⟩⟩⟩⟩⟩⟩⟩⟩⟩⟩⟩⟩⟩⟩⟩⟩⟩⟩⟩⟩⟩⟩⟩⟩⟩⟩⟩
theorem chk : ∀ e ∈ dx, scB e.N e.ps e.scope = true ∧ chkB ⟨e.N, dx.map (·.x), cs, fr⟩ e.scope e.body e.b = true := by
  have h : (dx.all fun e => scB e.N e.ps e.scope && chkB ⟨e.N, dx.map (·.x), cs, fr⟩ e.scope e.body e.b) = true := by decide +kernel
  intro e he
  have z := List.all_eq_true.mp h e he
  rwa [Bool.and_eq_true] at z
theorem chkL : chkB ⟨d_law.N, dx.map (·.x), cs, fr⟩ d_law.scope (restOf d_law.body) d_law.b = true := by decide +kernel
theorem laws : csB cs = true ∧ scB d_law.N d_law.ps d_law.scope = true ∧ isLaw d_law.scope d_law.body = true ∧ scB PD.hN ["script"] d_hand.scope = true ∧ isHand d_hand.scope d_hand.body = true := by decide +kernel
abbrev R : PySem.W.OpenRow := PySem.W.OpenLaw.row PySem.Challenge.rw_streethouse_k86_whole_rows_of_shut_secon
abbrev hk : PySem.W.Hook := He.hookD 4 (factsOf (dx ++ [d_hand, d_law]) fr cs) ((dx ++ [d_hand, d_law]).map atOf)
def ob (s : PySem.W.SharedT) : He.AlD := He.obsDG 4 (factsOf (dx ++ [d_hand, d_law]) fr cs) ((dx ++ [d_hand, d_law]).map atOf) (HandSHeadRun.getT s)
theorem ob_eq (s : PySem.W.SharedT) : ob s = hk.obs s.abs := He.obsDG_eq (HandSHeadRun.getT_eq s)
def loose : List Str := (["is_integer", "is_within", "is_sized", "common", "share", "is_track", "together", "are_tracks", "check_tracks", "shuts", "is_shut", "shut_at", "flags_of", "raw_rows", "shut_rows", "raw_share", "open_share", "longest_shut", "_law_hand", "_law_draw", "_law_any", "_law_low", "_law_track", "_law_tracks", "_law_round", "_law_is_shut", "_law_shut", "_law_rows", "MOST_ROUND", "MOST_TRACKS"] : List Str) ++ (["MOST_TOGETHER", "MOST_SECOND", "RoadError", "NoNumber", "NoTracks", "TooGreat"] : List Str)
theorem headrun (w : World) : HandSHeadRun.RunEq R (PySem.W.view R.prog [41]) hk ob 4000 loose w := by
  intro os
  kernel_rfl

end Lk86
set_option maxHeartbeats 2000000
namespace Lk86
open PySem PySem.Spec PD

theorem ok_is_integer (i : Int) (h : HS) : Does dx 0 [.int i] h (.bl true) h := by
  refine does_of rfl rfl ?_
  simp only [ir_is_integer, denF, denMs, denM, den, dens, denS, denC, denO, Res.bind, ofO, isTys, isTy, asgT, asgTs, wipeP, parSet, frzL, slotOf, atom, calmR, seqOf, intOf, negD, List.map_cons, List.map_nil, List.cons_append, List.nil_append, List.getElem?_cons_zero, List.getElem?_cons_succ, List.set_cons_zero, List.set_cons_succ, Option.map_some, Option.map_none, Option.bind_some, truthD, if_true, if_false, Bool.false_eq_true, Bool.not_true, Bool.not_false, Bool.and_true, Bool.true_and, Bool.and_false, Bool.false_and, Bool.or_false, Bool.false_or, Bool.true_or, Bool.or_true, List.length_cons, List.length_nil, ite_true, ite_false, PD.add_int, PD.sub_int, Nat.reduceAdd, Nat.reduceSub, Nat.zero_add, List.reduceReplicate, List.replicate_zero, List.append_nil]
theorem ok_is_within (i lo hi : Int) (h : HS) : Does dx 1 [.int i, .int lo, .int hi] h (.bl (decide (lo ≤ i) && decide (i ≤ hi))) h := by
  refine does_of rfl rfl ?_
  simp only [ir_is_within, denF, denMs, denM, den, dens, denS, denC, denO, Res.bind, ofO, isTys, isTy, asgT, asgTs, wipeP, parSet, frzL, slotOf, atom, calmR, seqOf, intOf, negD, List.map_cons, List.map_nil, List.cons_append, List.nil_append, List.getElem?_cons_zero, List.getElem?_cons_succ, List.set_cons_zero, List.set_cons_succ, Option.map_some, Option.map_none, Option.bind_some, truthD, if_true, if_false, Bool.false_eq_true, Bool.not_true, Bool.not_false, Bool.and_true, Bool.true_and, Bool.and_false, Bool.false_and, Bool.or_false, Bool.false_or, Bool.true_or, Bool.or_true, List.length_cons, List.length_nil, ite_true, ite_false, PD.add_int, PD.sub_int, Nat.reduceAdd, Nat.reduceSub, Nat.zero_add, List.reduceReplicate, List.replicate_zero, List.append_nil, (ok_is_integer i h).at 1 (by decide) (by decide), cmpD]
  cases decide (lo ≤ i) <;> simp
theorem within {i lo hi : Int} (h1 : lo ≤ i) (h2 : i ≤ hi) (h : HS) : Does dx 1 [.int i, .int lo, .int hi] h (.bl true) h := by
  have z := ok_is_within i lo hi h
  rw [decide_eq_true h1, decide_eq_true h2] at z
  exact z
theorem ok_is_sized {xs : List D} {lo hi : Int} (h1 : lo ≤ xs.length) (h2 : (xs.length : Int) ≤ hi) (h : HS) : Does dx 2 [.tup xs, .int lo, .int hi] h (.bl true) h := by
  refine does_of rfl rfl ?_
  simp only [ir_is_sized, denF, denMs, denM, den, dens, denS, denC, denO, Res.bind, ofO, isTys, isTy, asgT, asgTs, wipeP, parSet, frzL, slotOf, atom, calmR, seqOf, intOf, negD, List.map_cons, List.map_nil, List.cons_append, List.nil_append, List.getElem?_cons_zero, List.getElem?_cons_succ, List.set_cons_zero, List.set_cons_succ, Option.map_some, Option.map_none, Option.bind_some, truthD, if_true, if_false, Bool.false_eq_true, Bool.not_true, Bool.not_false, Bool.and_true, Bool.true_and, Bool.and_false, Bool.false_and, Bool.or_false, Bool.false_or, Bool.true_or, Bool.or_true, List.length_cons, List.length_nil, ite_true, ite_false, PD.add_int, PD.sub_int, Nat.reduceAdd, Nat.reduceSub, Nat.zero_add, List.reduceReplicate, List.replicate_zero, List.append_nil, cmpD, biD, decide_eq_true h1, decide_eq_true h2]
theorem tr_0 (t : Tr) (h : HS) : ixD h (trD t) (.int 0) = some (.int t.1) := ixt_nat (k := 0) rfl
theorem tr_1 (t : Tr) (h : HS) : ixD h (trD t) (.int 1) = some (.int t.2.1) := ixt_nat (k := 1) rfl
theorem tr_2 (t : Tr) (h : HS) : ixD h (trD t) (.int 2) = some (.int t.2.2) := ixt_nat (k := 2) rfl
theorem ok_is_track {t : Tr} (o : TrOk t) (h : HS) : Does dx 3 [trD t] h (.bl true) h := by
  refine does_of rfl rfl ?_
  have a1 : Ph dx 3 2 [trD t, .int 3, .int 3] h = .ok (.bl true) h := (ok_is_sized (xs := [.int t.1, .int t.2.1, .int t.2.2]) (by show (3 : Int) ≤ 3; decide) (by show (3 : Int) ≤ 3; decide) h).at _ (by decide) (by decide)
  have a2 : Ph dx 3 1 [.int t.1, .int 2, .int 120] h = .ok (.bl true) h := (within o.p2 o.le h).at _ (by decide) (by decide)
  have a3 : Ph dx 3 1 [.int t.2.1, .int 0, .int (t.1 - 1)] h = .ok (.bl true) h := (within o.b0 (by have := o.bp; omega) h).at _ (by decide) (by decide)
  have a4 : Ph dx 3 1 [.int t.2.2, .int 1, .int t.1] h = .ok (.bl true) h := (within o.l1 o.lp h).at _ (by decide) (by decide)
  simp only [ir_is_track, denF, denMs, denM, den, dens, denS, denC, denO, Res.bind, ofO, isTys, isTy, asgT, asgTs, wipeP, parSet, frzL, slotOf, atom, calmR, seqOf, intOf, negD, List.map_cons, List.map_nil, List.cons_append, List.nil_append, List.getElem?_cons_zero, List.getElem?_cons_succ, List.set_cons_zero, List.set_cons_succ, Option.map_some, Option.map_none, Option.bind_some, truthD, if_true, if_false, Bool.false_eq_true, Bool.not_true, Bool.not_false, Bool.and_true, Bool.true_and, Bool.and_false, Bool.false_and, Bool.or_false, Bool.false_or, Bool.true_or, Bool.or_true, List.length_cons, List.length_nil, ite_true, ite_false, PD.add_int, PD.sub_int, Nat.reduceAdd, Nat.reduceSub, Nat.zero_add, List.reduceReplicate, List.replicate_zero, List.append_nil, a1, a2, a3, a4, tr_0, tr_1, tr_2]
abbrev trsD (ts : List Tr) : D := .tup (ts.map trD)
theorem all_true {α : Type} (xs : List α) : (xs.map fun _ => true).all id = true := by
  rw [List.all_map, List.all_eq_true]
  intro x _
  rfl
theorem ok_are_tracks {ts : List Tr} (o : TrsOk ts) (h : HS) : Does dx 4 [trsD ts] h (.bl true) h := by
  refine does_of rfl rfl ?_
  have hl : ((ts.map trD).length : Int) = ts.length := by rw [List.length_map]
  have a1 : Ph dx 4 2 [.tup (ts.map trD), .int 1, .int 4] h = .ok (.bl true) h := (ok_is_sized (by rw [hl]; have := o.1; omega) (by rw [hl]; have := o.2.1; omega) h).at _ (by decide) (by decide)
  simp only [ir_are_tracks, denF, denMs, denM, den, dens, denS, denC, denO, Res.bind, ofO, isTys, isTy, asgT, asgTs, wipeP, parSet, frzL, slotOf, atom, calmR, seqOf, intOf, negD, List.map_cons, List.map_nil, List.cons_append, List.nil_append, List.getElem?_cons_zero, List.getElem?_cons_succ, List.set_cons_zero, List.set_cons_succ, Option.map_some, Option.map_none, Option.bind_some, truthD, if_true, if_false, Bool.false_eq_true, Bool.not_true, Bool.not_false, Bool.and_true, Bool.true_and, Bool.and_false, Bool.false_and, Bool.or_false, Bool.false_or, Bool.true_or, Bool.or_true, List.length_cons, List.length_nil, ite_true, ite_false, PD.add_int, PD.sub_int, Nat.reduceAdd, Nat.reduceSub, Nat.zero_add, List.reduceReplicate, List.replicate_zero, List.append_nil, a1]
  rw [lcL_mapm (g := fun _ => D.bl true)]
  · simp only [denF, denMs, denM, den, dens, denS, denC, denO, Res.bind, ofO, isTys, isTy, asgT, asgTs, wipeP, parSet, frzL, slotOf, atom, calmR, seqOf, intOf, negD, List.map_cons, List.map_nil, List.cons_append, List.nil_append, List.getElem?_cons_zero, List.getElem?_cons_succ, List.set_cons_zero, List.set_cons_succ, Option.map_some, Option.map_none, Option.bind_some, truthD, if_true, if_false, Bool.false_eq_true, Bool.not_true, Bool.not_false, Bool.and_true, Bool.true_and, Bool.and_false, Bool.false_and, Bool.or_false, Bool.false_or, Bool.true_or, Bool.or_true, List.length_cons, List.length_nil, ite_true, ite_false, PD.add_int, PD.sub_int, Nat.reduceAdd, Nat.reduceSub, Nat.zero_add, List.reduceReplicate, List.replicate_zero, List.append_nil]
    have hl2 : (ts.map trD).length ≤ line := by rw [List.length_map]; have := o.2.1; unfold line; omega
    rw [if_pos hl2]
    have e : (ts.map fun _ => D.bl true) = (ts.map fun _ => true).map D.bl := by rw [List.map_map]; rfl
    simp only [denF, denMs, denM, den, dens, denS, denC, denO, Res.bind, ofO, isTys, isTy, asgT, asgTs, wipeP, parSet, frzL, slotOf, atom, calmR, seqOf, intOf, negD, List.map_cons, List.map_nil, List.cons_append, List.nil_append, List.getElem?_cons_zero, List.getElem?_cons_succ, List.set_cons_zero, List.set_cons_succ, Option.map_some, Option.map_none, Option.bind_some, truthD, if_true, if_false, Bool.false_eq_true, Bool.not_true, Bool.not_false, Bool.and_true, Bool.true_and, Bool.and_false, Bool.false_and, Bool.or_false, Bool.false_or, Bool.true_or, Bool.or_true, List.length_cons, List.length_nil, ite_true, ite_false, PD.add_int, PD.sub_int, Nat.reduceAdd, Nat.reduceSub, Nat.zero_add, List.reduceReplicate, List.replicate_zero, List.append_nil, biD, e, dBls_map, all_true]
  · intro t ht
    have a2 : Ph dx 4 3 [trD t] h = .ok (.bl true) h := (ok_is_track (o.2.2 t ht) h).at _ (by decide) (by decide)
    simp only [denF, denMs, denM, den, dens, denS, denC, denO, Res.bind, ofO, isTys, isTy, asgT, asgTs, wipeP, parSet, frzL, slotOf, atom, calmR, seqOf, intOf, negD, List.map_cons, List.map_nil, List.cons_append, List.nil_append, List.getElem?_cons_zero, List.getElem?_cons_succ, List.set_cons_zero, List.set_cons_succ, Option.map_some, Option.map_none, Option.bind_some, truthD, if_true, if_false, Bool.false_eq_true, Bool.not_true, Bool.not_false, Bool.and_true, Bool.true_and, Bool.and_false, Bool.false_and, Bool.or_false, Bool.false_or, Bool.true_or, Bool.or_true, List.length_cons, List.length_nil, ite_true, ite_false, PD.add_int, PD.sub_int, Nat.reduceAdd, Nat.reduceSub, Nat.zero_add, List.reduceReplicate, List.replicate_zero, List.append_nil, a2]
theorem ok_shuts {t : Tr} (o : TrOk t) (s : Int) (h : HS) : Does dx 5 [trD t, .int s] h (.bl (shT t s)) h := by
  refine does_of rfl rfl ?_
  simp only [ir_shuts, trD, denF, denMs, denM, den, dens, denS, denC, denO, Res.bind, ofO, isTys, isTy, asgT, asgTs, wipeP, parSet, frzL, slotOf, atom, calmR, seqOf, intOf, negD, List.map_cons, List.map_nil, List.cons_append, List.nil_append, List.getElem?_cons_zero, List.getElem?_cons_succ, List.set_cons_zero, List.set_cons_succ, Option.map_some, Option.map_none, Option.bind_some, truthD, if_true, if_false, Bool.false_eq_true, Bool.not_true, Bool.not_false, Bool.and_true, Bool.true_and, Bool.and_false, Bool.false_and, Bool.or_false, Bool.false_or, Bool.true_or, Bool.or_true, List.length_cons, List.length_nil, ite_true, ite_false, PD.add_int, PD.sub_int, Nat.reduceAdd, Nat.reduceSub, Nat.zero_add, List.reduceReplicate, List.replicate_zero, List.append_nil, mod_ok (i := s - t.2.1) (j := t.1) (by have := o.p2; omega), cmpD]
  rfl
theorem any_shT {ts : List Tr} (s : Int) : (ts.map fun t => shT t s).any id = shTs ts s := by
  rw [List.any_map]
  rfl
theorem ok_is_shut {ts : List Tr} (o : TrsOk ts) (s : Int) (h : HS) : Does dx 6 [trsD ts, .int s] h (.bl (shTs ts s)) h := by
  refine does_of rfl rfl ?_
  simp only [ir_is_shut, denF, denMs, denM, den, dens, denS, denC, denO, Res.bind, ofO, isTys, isTy, asgT, asgTs, wipeP, parSet, frzL, slotOf, atom, calmR, seqOf, intOf, negD, List.map_cons, List.map_nil, List.cons_append, List.nil_append, List.getElem?_cons_zero, List.getElem?_cons_succ, List.set_cons_zero, List.set_cons_succ, Option.map_some, Option.map_none, Option.bind_some, truthD, if_true, if_false, Bool.false_eq_true, Bool.not_true, Bool.not_false, Bool.and_true, Bool.true_and, Bool.and_false, Bool.false_and, Bool.or_false, Bool.false_or, Bool.true_or, Bool.or_true, List.length_cons, List.length_nil, ite_true, ite_false, PD.add_int, PD.sub_int, Nat.reduceAdd, Nat.reduceSub, Nat.zero_add, List.reduceReplicate, List.replicate_zero, List.append_nil]
  rw [lcL_mapm (g := fun t => D.bl (shT t s))]
  · have hl2 : (ts.map trD).length ≤ line := by rw [List.length_map]; have := o.2.1; unfold line; omega
    simp only [denF, denMs, denM, den, dens, denS, denC, denO, Res.bind, ofO, isTys, isTy, asgT, asgTs, wipeP, parSet, frzL, slotOf, atom, calmR, seqOf, intOf, negD, List.map_cons, List.map_nil, List.cons_append, List.nil_append, List.getElem?_cons_zero, List.getElem?_cons_succ, List.set_cons_zero, List.set_cons_succ, Option.map_some, Option.map_none, Option.bind_some, truthD, if_true, if_false, Bool.false_eq_true, Bool.not_true, Bool.not_false, Bool.and_true, Bool.true_and, Bool.and_false, Bool.false_and, Bool.or_false, Bool.false_or, Bool.true_or, Bool.or_true, List.length_cons, List.length_nil, ite_true, ite_false, PD.add_int, PD.sub_int, Nat.reduceAdd, Nat.reduceSub, Nat.zero_add, List.reduceReplicate, List.replicate_zero, List.append_nil]
    rw [if_pos hl2]
    have e : (ts.map fun t => D.bl (shT t s)) = (ts.map fun t => shT t s).map D.bl := by rw [List.map_map]; rfl
    simp only [denF, denMs, denM, den, dens, denS, denC, denO, Res.bind, ofO, isTys, isTy, asgT, asgTs, wipeP, parSet, frzL, slotOf, atom, calmR, seqOf, intOf, negD, List.map_cons, List.map_nil, List.cons_append, List.nil_append, List.getElem?_cons_zero, List.getElem?_cons_succ, List.set_cons_zero, List.set_cons_succ, Option.map_some, Option.map_none, Option.bind_some, truthD, if_true, if_false, Bool.false_eq_true, Bool.not_true, Bool.not_false, Bool.and_true, Bool.true_and, Bool.and_false, Bool.false_and, Bool.or_false, Bool.false_or, Bool.true_or, Bool.or_true, List.length_cons, List.length_nil, ite_true, ite_false, PD.add_int, PD.sub_int, Nat.reduceAdd, Nat.reduceSub, Nat.zero_add, List.reduceReplicate, List.replicate_zero, List.append_nil, biD, e, dBls_map, any_shT]
  · intro t ht
    have a2 : Ph dx 6 5 [trD t, .int s] h = .ok (.bl (shT t s)) h := (ok_shuts (o.2.2 t ht) s h).at _ (by decide) (by decide)
    simp only [denF, denMs, denM, den, dens, denS, denC, denO, Res.bind, ofO, isTys, isTy, asgT, asgTs, wipeP, parSet, frzL, slotOf, atom, calmR, seqOf, intOf, negD, List.map_cons, List.map_nil, List.cons_append, List.nil_append, List.getElem?_cons_zero, List.getElem?_cons_succ, List.set_cons_zero, List.set_cons_succ, Option.map_some, Option.map_none, Option.bind_some, truthD, if_true, if_false, Bool.false_eq_true, Bool.not_true, Bool.not_false, Bool.and_true, Bool.true_and, Bool.and_false, Bool.false_and, Bool.or_false, Bool.false_or, Bool.true_or, Bool.or_true, List.length_cons, List.length_nil, ite_true, ite_false, PD.add_int, PD.sub_int, Nat.reduceAdd, Nat.reduceSub, Nat.zero_add, List.reduceReplicate, List.replicate_zero, List.append_nil, a2]
theorem ok_shut_at {ts : List Tr} (o : TrsOk ts) {s : Int} (h0 : 0 ≤ s) (h1 : s ≤ 10000) (h : HS) : Does dx 7 [trsD ts, .int s] h (.bl (shTs ts s)) h := by
  refine does_of rfl rfl ?_
  have a1 : Ph dx 7 4 [trsD ts] h = .ok (.bl true) h := (ok_are_tracks o h).at _ (by decide) (by decide)
  have a2 : Ph dx 7 1 [.int s, .int 0, .int 10000] h = .ok (.bl true) h := (within h0 h1 h).at _ (by decide) (by decide)
  have a3 : Ph dx 7 6 [trsD ts, .int s] h = .ok (.bl (shTs ts s)) h := (ok_is_shut o s h).at _ (by decide) (by decide)
  simp only [ir_shut_at, denF, denMs, denM, den, dens, denS, denC, denO, Res.bind, ofO, isTys, isTy, asgT, asgTs, wipeP, parSet, frzL, slotOf, atom, calmR, seqOf, intOf, negD, List.map_cons, List.map_nil, List.cons_append, List.nil_append, List.getElem?_cons_zero, List.getElem?_cons_succ, List.set_cons_zero, List.set_cons_succ, Option.map_some, Option.map_none, Option.bind_some, truthD, if_true, if_false, Bool.false_eq_true, Bool.not_true, Bool.not_false, Bool.and_true, Bool.true_and, Bool.and_false, Bool.false_and, Bool.or_false, Bool.false_or, Bool.true_or, Bool.or_true, List.length_cons, List.length_nil, ite_true, ite_false, PD.add_int, PD.sub_int, Nat.reduceAdd, Nat.reduceSub, Nat.zero_add, List.reduceReplicate, List.replicate_zero, List.append_nil, a1, a2, a3]
theorem ok_common (a b : Nat) (h : HS) : Does dx 8 [.int a, .int b] h (.int (Nat.gcd a b)) h := by
  refine does_of rfl rfl ?_
  have w : ∃ ρ h', denM (Ph dx 8) noPsi noThk (.whl (.val (.cmp .ne (.var 1) (.lit (.int 0)))) (.cons (.par [(0, false), (1, false)] (.cons (.var 1) (.cons (.bin .mod (.var 0) (.var 1)) .nil))) .nil)) [.val (.int (a : Int)), .val (.int (b : Int))] h = .ok (.nx ρ) h' ∧ (ρ = [.val (.int (Nat.gcd a b : Int)), .val (.int 0)] ∧ h' = h) := by
    simp only [denM]
    refine whileL_inv (fun m ρ h' => ∃ x : Nat, ρ = [.val (.int (x : Int)), .val (.int (m : Int))] ∧ Nat.gcd x m = Nat.gcd a b ∧ h' = h) (fun ρ h' => ρ = [.val (.int (Nat.gcd a b : Int)), .val (.int 0)] ∧ h' = h) (m := b) ⟨a, rfl, rfl, rfl⟩ ?_
    rintro m ρ h' ⟨x, rfl, hg, rfl⟩
    by_cases hm : m = 0
    · subst hm
      left
      refine ⟨h', ?_, ?_, rfl⟩
      · simp only [denF, denMs, denM, den, dens, denS, denC, denO, Res.bind, ofO, isTys, isTy, asgT, asgTs, wipeP, parSet, frzL, slotOf, atom, calmR, seqOf, intOf, negD, List.map_cons, List.map_nil, List.cons_append, List.nil_append, List.getElem?_cons_zero, List.getElem?_cons_succ, List.set_cons_zero, List.set_cons_succ, Option.map_some, Option.map_none, Option.bind_some, truthD, if_true, if_false, Bool.false_eq_true, Bool.not_true, Bool.not_false, Bool.and_true, Bool.true_and, Bool.and_false, Bool.false_and, Bool.or_false, Bool.false_or, Bool.true_or, Bool.or_true, List.length_cons, List.length_nil, ite_true, ite_false, PD.add_int, PD.sub_int, Nat.reduceAdd, Nat.reduceSub, Nat.zero_add, List.reduceReplicate, List.replicate_zero, List.append_nil, cmpD, eqD_int]
        rfl
      · rw [← hg, Nat.gcd_zero_right]
        rfl
    · right
      refine ⟨h', [.val (.int (m : Int)), .val (.int ((x % m : Nat) : Int))], h', ?_, .inl ?_, x % m, Nat.mod_lt _ (Nat.pos_of_ne_zero hm), m, rfl, ?_, rfl⟩
      · have e : decide ((m : Int) = 0) = false := decide_eq_false (by omega)
        simp only [denF, denMs, denM, den, dens, denS, denC, denO, Res.bind, ofO, isTys, isTy, asgT, asgTs, wipeP, parSet, frzL, slotOf, atom, calmR, seqOf, intOf, negD, List.map_cons, List.map_nil, List.cons_append, List.nil_append, List.getElem?_cons_zero, List.getElem?_cons_succ, List.set_cons_zero, List.set_cons_succ, Option.map_some, Option.map_none, Option.bind_some, truthD, if_true, if_false, Bool.false_eq_true, Bool.not_true, Bool.not_false, Bool.and_true, Bool.true_and, Bool.and_false, Bool.false_and, Bool.or_false, Bool.false_or, Bool.true_or, Bool.or_true, List.length_cons, List.length_nil, ite_true, ite_false, PD.add_int, PD.sub_int, Nat.reduceAdd, Nat.reduceSub, Nat.zero_add, List.reduceReplicate, List.replicate_zero, List.append_nil, cmpD, eqD_int, e]
      · simp only [denF, denMs, denM, den, dens, denS, denC, denO, Res.bind, ofO, isTys, isTy, asgT, asgTs, wipeP, parSet, frzL, slotOf, atom, calmR, seqOf, intOf, negD, List.map_cons, List.map_nil, List.cons_append, List.nil_append, List.getElem?_cons_zero, List.getElem?_cons_succ, List.set_cons_zero, List.set_cons_succ, Option.map_some, Option.map_none, Option.bind_some, truthD, if_true, if_false, Bool.false_eq_true, Bool.not_true, Bool.not_false, Bool.and_true, Bool.true_and, Bool.and_false, Bool.false_and, Bool.or_false, Bool.false_or, Bool.true_or, Bool.or_true, List.length_cons, List.length_nil, ite_true, ite_false, PD.add_int, PD.sub_int, Nat.reduceAdd, Nat.reduceSub, Nat.zero_add, List.reduceReplicate, List.replicate_zero, List.append_nil, mod_ok (i := (x : Int)) (j := (m : Int)) (by omega), fmod_nat]
      · rw [← hg]
        exact (Nat.gcd_comm _ _).trans ((Nat.gcd_rec m x).symm.trans (Nat.gcd_comm _ _))
  obtain ⟨ρ, h', e, rfl, rfl⟩ := w
  refine f_rt ((ms_nx e).trans ?_)
  have e2 : (if ((Nat.gcd a b : Nat) : Int) < 0 then -((Nat.gcd a b : Nat) : Int) else ((Nat.gcd a b : Nat) : Int)) = (Nat.gcd a b : Int) := if_neg (by omega)
  simp only [denF, denMs, denM, den, dens, denS, denC, denO, Res.bind, ofO, isTys, isTy, asgT, asgTs, wipeP, parSet, frzL, slotOf, atom, calmR, seqOf, intOf, negD, List.map_cons, List.map_nil, List.cons_append, List.nil_append, List.getElem?_cons_zero, List.getElem?_cons_succ, List.set_cons_zero, List.set_cons_succ, Option.map_some, Option.map_none, Option.bind_some, truthD, if_true, if_false, Bool.false_eq_true, Bool.not_true, Bool.not_false, Bool.and_true, Bool.true_and, Bool.and_false, Bool.false_and, Bool.or_false, Bool.false_or, Bool.true_or, Bool.or_true, List.length_cons, List.length_nil, ite_true, ite_false, PD.add_int, PD.sub_int, Nat.reduceAdd, Nat.reduceSub, Nat.zero_add, List.reduceReplicate, List.replicate_zero, List.append_nil, biD, e2]
theorem lcm_step (a p : Nat) (hp : 0 < p) : ((a : Int) * (p : Int)).fdiv (Nat.gcd a p : Int) = (Nat.lcm a p : Int) := by
  rw [← Int.natCast_mul, fdiv_nat]
  rfl
theorem gcd_small {a p : Nat} (hp : 0 < p) (h : p ≤ 120) : ((Nat.gcd a p : Nat) : Int) ≠ 0 ∧ ((Nat.gcd a p : Nat) : Int).natAbs < 1073741824 := by
  have h1 := Nat.gcd_le_right a hp
  have h2 := Nat.gcd_pos_of_pos_right a hp
  constructor <;> omega
theorem lcm_div (a p : Nat) (hp : 0 < p) (h : p ≤ 120) : binD .fdiv (.int ((a : Int) * (p : Int))) (.int (Nat.gcd a p : Nat)) = some (.int (Nat.lcm a p : Nat)) := by
  obtain ⟨g1, g2⟩ := gcd_small (a := a) hp h
  rw [fdiv_ok g1 g2, lcm_step a p hp]
theorem tr_nat {t : Tr} (o : TrOk t) : t.1 = ((t.1.natAbs : Nat) : Int) ∧ 0 < t.1.natAbs ∧ t.1.natAbs ≤ 120 := by
  have h1 := o.p2
  have h2 := o.le
  omega
theorem tog_step (t : Tr) (h' : HS) (Ri gi li : Int) (X : D) (a1 : Ph dx 9 8 [D.int Ri, D.int t.1] h' = .ok (.int gi) h') (a2 : binD .mul (.int Ri) (.int t.1) = some (.int (Ri * t.1))) (a3 : binD .fdiv (.int (Ri * t.1)) (.int gi) = some (.int li)) :
    denMs (Ph dx 9) noPsi noThk (.cons (.set 1 (.bin .fdiv (.bin .mul (.var 1) (.var 2)) (.call 8 (.cons (.var 1) (.cons (.var 2) .nil))))) .nil) [.val X, .val (.int Ri), .val (.int t.1), .val (.int t.2.1), .val (.int t.2.2)] h' = .ok (.nx [.val X, .val (.int li), .val (.int t.1), .val (.int t.2.1), .val (.int t.2.2)]) h' := by
  simp only [denF, denMs, denM, den, dens, denS, denC, denO, Res.bind, ofO, isTys, isTy, asgT, asgTs, wipeP, parSet, frzL, slotOf, atom, calmR, seqOf, intOf, negD, List.map_cons, List.map_nil, List.cons_append, List.nil_append, List.getElem?_cons_zero, List.getElem?_cons_succ, List.set_cons_zero, List.set_cons_succ, Option.map_some, Option.map_none, Option.bind_some, truthD, if_true, if_false, Bool.false_eq_true, Bool.not_true, Bool.not_false, Bool.and_true, Bool.true_and, Bool.and_false, Bool.false_and, Bool.or_false, Bool.false_or, Bool.true_or, Bool.or_true, List.length_cons, List.length_nil, ite_true, ite_false, PD.add_int, PD.sub_int, Nat.reduceAdd, Nat.reduceSub, Nat.zero_add, List.reduceReplicate, List.replicate_zero, List.append_nil, a1, a2, a3]
theorem asg_trk (t : Tr) (a b c d e : PD.Slot) : asgT (.tp (.cons (.nm 2) (.cons (.nm 3) (.cons (.nm 4) .nil)))) (trD t) [a, b, c, d, e] = some [a, b, .val (.int t.1), .val (.int t.2.1), .val (.int t.2.2)] := rfl
theorem ok_together {ts : List Tr} (o : TrsOk ts) (h : HS) : Does dx 9 [trsD ts] h (.int (rnd ts)) h := by
  refine does_of rfl rfl ?_
  have w : ∃ ρ h', denM (Ph dx 9) noPsi noThk (.for_ (.tp (.cons (.nm 2) (.cons (.nm 3) (.cons (.nm 4) .nil)))) (.val (.var 0)) (.cons (.set 1 (.bin .fdiv (.bin .mul (.var 1) (.var 2)) (.call 8 (.cons (.var 1) (.cons (.var 2) .nil))))) .nil)) [.val (trsD ts), .val (.int 1), .no, .no, .no] h = .ok (.nx ρ) h' ∧ ((∃ s2 s3 s4, ρ = [.val (trsD ts), .val (.int (rnd ts)), s2, s3, s4]) ∧ h' = h) := by
    have z := forL_inv (f := fun d ρ h => match asgT (.tp (.cons (.nm 2) (.cons (.nm 3) (.cons (.nm 4) .nil)))) d ρ with
      | some ρ' => denMs (Ph dx 9) noPsi noThk (.cons (.set 1 (.bin .fdiv (.bin .mul (.var 1) (.var 2)) (.call 8 (.cons (.var 1) (.cons (.var 2) .nil))))) .nil) ρ' h
      | none => .stuck) (fun k ρ h' => (∃ s2 s3 s4, ρ = [.val (trsD ts), .val (.int (rndA 1 (ts.take k) : Nat)), s2, s3, s4]) ∧ h' = h) (its := ts.map trD) (k := 0) (ρ := [.val (trsD ts), .val (.int 1), .no, .no, .no]) (h := h) ⟨⟨.no, .no, .no, rfl⟩, rfl⟩ ?_
    · obtain ⟨ρ', h', e1, ⟨s2, s3, s4, e2⟩, e3⟩ := z
      refine ⟨ρ', h', ?_, ⟨s2, s3, s4, ?_⟩, e3⟩
      · simp only [denM, denS, den, Res.bind, List.getElem?_cons_zero, seqOf, ofO]
        exact e1
      · rw [e2, List.length_map, Nat.zero_add, List.take_length]
        rfl
    · rintro i d ρ h' hd ⟨⟨s2, s3, s4, rfl⟩, rfl⟩
      simp only [Nat.zero_add]
      rw [List.getElem?_map, Option.map_eq_some_iff] at hd
      obtain ⟨t, ht, rfl⟩ := hd
      obtain ⟨hi, et⟩ := List.getElem?_eq_some_iff.mp ht
      have ot := o.2.2 t (List.mem_of_getElem? ht)
      obtain ⟨n1, n2, n3⟩ := tr_nat ot
      have a1 : Ph dx 9 8 [.int (rndA 1 (ts.take i) : Nat), .int t.1] h' = .ok (.int (Nat.gcd (rndA 1 (ts.take i)) t.1.natAbs : Nat)) h' := by
        have z := (ok_common (rndA 1 (ts.take i)) t.1.natAbs h').at 9 (by decide) (by decide)
        rwa [← n1] at z
      have a2 : binD .mul (.int (rndA 1 (ts.take i) : Nat)) (.int t.1) = some (.int ((rndA 1 (ts.take i) : Nat) * t.1)) := mul_r (by omega) (by omega)
      have a3 : binD .fdiv (.int ((rndA 1 (ts.take i) : Nat) * t.1)) (.int (Nat.gcd (rndA 1 (ts.take i)) t.1.natAbs : Nat)) = some (.int (Nat.lcm (rndA 1 (ts.take i)) t.1.natAbs : Nat)) := by
        have z := lcm_div (rndA 1 (ts.take i)) t.1.natAbs n2 n3
        rwa [← n1] at z
      refine ⟨[.val (trsD ts), .val (.int (rndA 1 (ts.take (i + 1)) : Nat)), .val (.int t.1), .val (.int t.2.1), .val (.int t.2.2)], h', .inl ?_, ⟨_, _, _, rfl⟩, rfl⟩
      have es : rndA 1 (ts.take (i + 1)) = Nat.lcm (rndA 1 (ts.take i)) t.1.natAbs := by
        rw [List.take_succ_eq_append_getElem hi, et]
        unfold rndA
        rw [List.foldl_append]
        rfl
      rw [es]
      clear es
      rw [asg_trk]
      exact tog_step t h' _ _ _ _ a1 a2 a3
  obtain ⟨ρ, h', e, ⟨s2, s3, s4, rfl⟩, rfl⟩ := w
  refine f_rt ((ms_nx (ρ' := [.val (trsD ts), .val (.int 1), .no, .no, .no]) (h' := h') ?_).trans ((ms_nx e).trans ?_))
  · simp only [denF, denMs, denM, den, dens, denS, denC, denO, Res.bind, ofO, isTys, isTy, asgT, asgTs, wipeP, parSet, frzL, slotOf, atom, calmR, seqOf, intOf, negD, List.map_cons, List.map_nil, List.cons_append, List.nil_append, List.getElem?_cons_zero, List.getElem?_cons_succ, List.set_cons_zero, List.set_cons_succ, Option.map_some, Option.map_none, Option.bind_some, truthD, if_true, if_false, Bool.false_eq_true, Bool.not_true, Bool.not_false, Bool.and_true, Bool.true_and, Bool.and_false, Bool.false_and, Bool.or_false, Bool.false_or, Bool.true_or, Bool.or_true, List.length_cons, List.length_nil, ite_true, ite_false, PD.add_int, PD.sub_int, Nat.reduceAdd, Nat.reduceSub, Nat.zero_add, List.reduceReplicate, List.replicate_zero, List.append_nil]
  · simp only [denF, denMs, denM, den, dens, denS, denC, denO, Res.bind, ofO, isTys, isTy, asgT, asgTs, wipeP, parSet, frzL, slotOf, atom, calmR, seqOf, intOf, negD, List.map_cons, List.map_nil, List.cons_append, List.nil_append, List.getElem?_cons_zero, List.getElem?_cons_succ, List.set_cons_zero, List.set_cons_succ, Option.map_some, Option.map_none, Option.bind_some, truthD, if_true, if_false, Bool.false_eq_true, Bool.not_true, Bool.not_false, Bool.and_true, Bool.true_and, Bool.and_false, Bool.false_and, Bool.or_false, Bool.false_or, Bool.true_or, Bool.or_true, List.length_cons, List.length_nil, ite_true, ite_false, PD.add_int, PD.sub_int, Nat.reduceAdd, Nat.reduceSub, Nat.zero_add, List.reduceReplicate, List.replicate_zero, List.append_nil]
theorem ok_check {ts : List Tr} (o : TrsOk ts) (h : HS) : Does dx 10 [trsD ts] h .non h := by
  refine does_of rfl rfl ?_
  have a1 : Ph dx 10 4 [trsD ts] h = .ok (.bl true) h := (ok_are_tracks o h).at _ (by decide) (by decide)
  have a2 : Ph dx 10 9 [trsD ts] h = .ok (.int (rnd ts)) h := (ok_together o h).at _ (by decide) (by decide)
  have e : decide ((5000 : Int) < (rnd ts : Int)) = false := decide_eq_false (by have := rnd_le o.2.2; omega)
  simp only [ir_check_tracks, denF, denMs, denM, den, dens, denS, denC, denO, Res.bind, ofO, isTys, isTy, asgT, asgTs, wipeP, parSet, frzL, slotOf, atom, calmR, seqOf, intOf, negD, List.map_cons, List.map_nil, List.cons_append, List.nil_append, List.getElem?_cons_zero, List.getElem?_cons_succ, List.set_cons_zero, List.set_cons_succ, Option.map_some, Option.map_none, Option.bind_some, truthD, if_true, if_false, Bool.false_eq_true, Bool.not_true, Bool.not_false, Bool.and_true, Bool.true_and, Bool.and_false, Bool.false_and, Bool.or_false, Bool.false_or, Bool.true_or, Bool.or_true, List.length_cons, List.length_nil, ite_true, ite_false, PD.add_int, PD.sub_int, Nat.reduceAdd, Nat.reduceSub, Nat.zero_add, List.reduceReplicate, List.replicate_zero, List.append_nil, a1, a2, cmpD, e]
theorem ok_flags {ts : List Tr} (o : TrsOk ts) (h : HS) : Does dx 11 [trsD ts] h (flD ts) h := by
  refine does_of rfl rfl ?_
  have a2 : Ph dx 11 9 [trsD ts] h = .ok (.int (rnd ts)) h := (ok_together o h).at _ (by decide) (by decide)
  have hr : inR (rnd ts : Int) = true := inR_small (by omega) (by have := rnd_le o.2.2; omega)
  simp only [ir_flags_of, denF, denMs, denM, den, dens, denS, denC, denO, Res.bind, ofO, isTys, isTy, asgT, asgTs, wipeP, parSet, frzL, slotOf, atom, calmR, seqOf, intOf, negD, List.map_cons, List.map_nil, List.cons_append, List.nil_append, List.getElem?_cons_zero, List.getElem?_cons_succ, List.set_cons_zero, List.set_cons_succ, Option.map_some, Option.map_none, Option.bind_some, truthD, if_true, if_false, Bool.false_eq_true, Bool.not_true, Bool.not_false, Bool.and_true, Bool.true_and, Bool.and_false, Bool.false_and, Bool.or_false, Bool.false_or, Bool.true_or, Bool.or_true, List.length_cons, List.length_nil, ite_true, ite_false, PD.add_int, PD.sub_int, Nat.reduceAdd, Nat.reduceSub, Nat.zero_add, List.reduceReplicate, List.replicate_zero, List.append_nil, a2, hr, Int.toNat_natCast, rangeD_map]
  rw [lcL_mapm (g := fun k : Nat => D.bl (shTs ts (0 + (k : Int))))]
  · have hl : ((List.range (rnd ts)).map fun (k : Nat) => D.int (0 + (k : Int))).length ≤ line := by
      rw [List.length_map, List.length_range]
      have := rnd_le o.2.2
      unfold line
      omega
    simp only [denF, denMs, denM, den, dens, denS, denC, denO, Res.bind, ofO, isTys, isTy, asgT, asgTs, wipeP, parSet, frzL, slotOf, atom, calmR, seqOf, intOf, negD, List.map_cons, List.map_nil, List.cons_append, List.nil_append, List.getElem?_cons_zero, List.getElem?_cons_succ, List.set_cons_zero, List.set_cons_succ, Option.map_some, Option.map_none, Option.bind_some, truthD, if_true, if_false, Bool.false_eq_true, Bool.not_true, Bool.not_false, Bool.and_true, Bool.true_and, Bool.and_false, Bool.false_and, Bool.or_false, Bool.false_or, Bool.true_or, Bool.or_true, List.length_cons, List.length_nil, ite_true, ite_false, PD.add_int, PD.sub_int, Nat.reduceAdd, Nat.reduceSub, Nat.zero_add, List.reduceReplicate, List.replicate_zero, List.append_nil]
    rw [if_pos hl]
    simp only [denF, denMs, denM, den, dens, denS, denC, denO, Res.bind, ofO, isTys, isTy, asgT, asgTs, wipeP, parSet, frzL, slotOf, atom, calmR, seqOf, intOf, negD, List.map_cons, List.map_nil, List.cons_append, List.nil_append, List.getElem?_cons_zero, List.getElem?_cons_succ, List.set_cons_zero, List.set_cons_succ, Option.map_some, Option.map_none, Option.bind_some, truthD, if_true, if_false, Bool.false_eq_true, Bool.not_true, Bool.not_false, Bool.and_true, Bool.true_and, Bool.and_false, Bool.false_and, Bool.or_false, Bool.false_or, Bool.true_or, Bool.or_true, List.length_cons, List.length_nil, ite_true, ite_false, PD.add_int, PD.sub_int, Nat.reduceAdd, Nat.reduceSub, Nat.zero_add, List.reduceReplicate, List.replicate_zero, List.append_nil, flD, fl, List.map_map]
    rfl
  · intro k _
    have a3 : Ph dx 11 6 [trsD ts, .int (0 + (k : Int))] h = .ok (.bl (shTs ts (0 + (k : Int)))) h := (ok_is_shut o _ h).at _ (by decide) (by decide)
    simp only [denF, denMs, denM, den, dens, denS, denC, denO, Res.bind, ofO, isTys, isTy, asgT, asgTs, wipeP, parSet, frzL, slotOf, atom, calmR, seqOf, intOf, negD, List.map_cons, List.map_nil, List.cons_append, List.nil_append, List.getElem?_cons_zero, List.getElem?_cons_succ, List.set_cons_zero, List.set_cons_succ, Option.map_some, Option.map_none, Option.bind_some, truthD, if_true, if_false, Bool.false_eq_true, Bool.not_true, Bool.not_false, Bool.and_true, Bool.true_and, Bool.and_false, Bool.false_and, Bool.or_false, Bool.false_or, Bool.true_or, Bool.or_true, List.length_cons, List.length_nil, ite_true, ite_false, PD.add_int, PD.sub_int, Nat.reduceAdd, Nat.reduceSub, Nat.zero_add, List.reduceReplicate, List.replicate_zero, List.append_nil, a3]

abbrev rowD (ts : List Tr) (k : Nat) : D := .lst (((List.range k).flatMap (rowAt (gOf ts) (rnd ts))).map prD)
theorem rr_while {ts : List Tr} (o : TrsOk ts) {j : Nat} (hj : gOf ts j = false) (k : Nat) (hk : gOf ts k = true) (h : HS) (F : PD.Slot) :
    ∃ h', denM (Ph dx 12) noPsi noThk (.whl (.val (.ix (.var 1) (.bin .mod (.bin .add (.var 4) (.var 5)) (.var 2)))) (.cons (.aug 5 .add (.lit (.int 1))) .nil)) [.val (trsD ts), .val (flD ts), .val (.int (rnd ts)), F, .val (.int (k : Int)), .val (.int 1)] h =
      .ok (.nx [.val (trsD ts), .val (flD ts), .val (.int (rnd ts)), F, .val (.int (k : Int)), .val (.int (run (gOf ts) k (rnd ts) : Int))]) h' ∧ h' = h := by
  have hp := gOf_per o.2.2
  have hn := rnd_pos o.2.2
  have hlt := run_lt_per hp hn hj k
  have h1 : 1 ≤ run (gOf ts) k (rnd ts) := by
    rw [run_step hp hn hj k, if_pos hk]
    omega
  have z := whileL_inv (c := denC (Ph dx 12) noPsi noThk (.val (.ix (.var 1) (.bin .mod (.bin .add (.var 4) (.var 5)) (.var 2))))) (f := denMs (Ph dx 12) noPsi noThk (.cons (.aug 5 .add (.lit (.int 1))) .nil))
    (fun m ρ h' => ∃ L : Nat, 1 ≤ L ∧ L + m = run (gOf ts) k (rnd ts) ∧ ρ = [.val (trsD ts), .val (flD ts), .val (.int (rnd ts)), F, .val (.int (k : Int)), .val (.int (L : Int))] ∧ h' = h)
    (fun ρ h' => ρ = [.val (trsD ts), .val (flD ts), .val (.int (rnd ts)), F, .val (.int (k : Int)), .val (.int (run (gOf ts) k (rnd ts) : Int))] ∧ h' = h)
    (m := run (gOf ts) k (rnd ts) - 1) (ρ := [.val (trsD ts), .val (flD ts), .val (.int (rnd ts)), F, .val (.int (k : Int)), .val (.int 1)]) (h := h) ⟨1, Nat.le_refl _, by omega, rfl, rfl⟩ ?_
  · obtain ⟨ρ', h', e1, rfl, e2⟩ := z
    exact ⟨h', e1, e2⟩
  · rintro m ρ h' ⟨L, l1, l2, rfl, rfl⟩
    have a1 : binD .mod (.int ((k : Int) + (L : Int))) (.int (rnd ts : Int)) = some (.int (((k + L : Nat) : Int).fmod (rnd ts : Int))) := by
      rw [mod_ok (by omega), Int.natCast_add]
    have a2 := fl_ixm (h := h') o.2.2 (k + L)
    by_cases hm : m = 0
    · left
      subst hm
      have e : L = run (gOf ts) k (rnd ts) := l2
      have hf : gOf ts (k + L) = false := by rw [e]; exact run_false _ _ _ hlt
      rw [hf] at a2
      refine ⟨h', ?_, by rw [← e], rfl⟩
      generalize flD ts = fD at a2 ⊢
      generalize trsD ts = tD
      simp only [denF, denMs, denM, den, dens, denS, denC, denO, Res.bind, ofO, isTys, isTy, asgT, asgTs, wipeP, parSet, frzL, slotOf, atom, calmR, seqOf, intOf, negD, List.map_cons, List.map_nil, List.cons_append, List.nil_append, List.getElem?_cons_zero, List.getElem?_cons_succ, List.set_cons_zero, List.set_cons_succ, Option.map_some, Option.map_none, Option.bind_some, truthD, if_true, if_false, Bool.false_eq_true, Bool.not_true, Bool.not_false, Bool.and_true, Bool.true_and, Bool.and_false, Bool.false_and, Bool.or_false, Bool.false_or, Bool.true_or, Bool.or_true, List.length_cons, List.length_nil, ite_true, ite_false, PD.add_int, PD.sub_int, Nat.reduceAdd, Nat.reduceSub, Nat.zero_add, List.reduceReplicate, List.replicate_zero, List.append_nil, a1, a2]
    · right
      have ht : gOf ts (k + L) = true := run_true (gOf ts) (rnd ts) k L (by omega)
      rw [ht] at a2
      refine ⟨h', [.val (trsD ts), .val (flD ts), .val (.int (rnd ts)), F, .val (.int (k : Int)), .val (.int ((L + 1 : Nat) : Int))], h', ?_, .inl ?_, m - 1, by omega, L + 1, by omega, by omega, rfl, rfl⟩
      · generalize flD ts = fD at a2 ⊢
        generalize trsD ts = tD
        simp only [denF, denMs, denM, den, dens, denS, denC, denO, Res.bind, ofO, isTys, isTy, asgT, asgTs, wipeP, parSet, frzL, slotOf, atom, calmR, seqOf, intOf, negD, List.map_cons, List.map_nil, List.cons_append, List.nil_append, List.getElem?_cons_zero, List.getElem?_cons_succ, List.set_cons_zero, List.set_cons_succ, Option.map_some, Option.map_none, Option.bind_some, truthD, if_true, if_false, Bool.false_eq_true, Bool.not_true, Bool.not_false, Bool.and_true, Bool.true_and, Bool.and_false, Bool.false_and, Bool.or_false, Bool.false_or, Bool.true_or, Bool.or_true, List.length_cons, List.length_nil, ite_true, ite_false, PD.add_int, PD.sub_int, Nat.reduceAdd, Nat.reduceSub, Nat.zero_add, List.reduceReplicate, List.replicate_zero, List.append_nil, a1, a2]
      · generalize flD ts = fD
        generalize trsD ts = tD
        simp only [denF, denMs, denM, den, dens, denS, denC, denO, Res.bind, ofO, isTys, isTy, asgT, asgTs, wipeP, parSet, frzL, slotOf, atom, calmR, seqOf, intOf, negD, List.map_cons, List.map_nil, List.cons_append, List.nil_append, List.getElem?_cons_zero, List.getElem?_cons_succ, List.set_cons_zero, List.set_cons_succ, Option.map_some, Option.map_none, Option.bind_some, truthD, if_true, if_false, Bool.false_eq_true, Bool.not_true, Bool.not_false, Bool.and_true, Bool.true_and, Bool.and_false, Bool.false_and, Bool.or_false, Bool.false_or, Bool.true_or, Bool.or_true, List.length_cons, List.length_nil, ite_true, ite_false, PD.add_int, PD.sub_int, Nat.reduceAdd, Nat.reduceSub, Nat.zero_add, List.reduceReplicate, List.replicate_zero, List.append_nil]
        rfl
theorem rr_turn {ts : List Tr} (o : TrsOk ts) {j : Nat} (hj : gOf ts j = false) (k : Nat) (hk : k < rnd ts) (h : HS) (s4 s5 : PD.Slot) (acc : List (Int × Int)) (hl : acc.length ≤ k) :
    ∃ s4' s5', denMs (Ph dx 12) noPsi noThk (.cons (.ite (.and (.val (.ix (.var 1) (.var 4))) (.not (.val (.ix (.var 1) (.bin .sub (.var 4) (.lit (.int 1)))))))
      (.cons (.set 5 (.lit (.int 1)))
      (.cons (.whl (.val (.ix (.var 1) (.bin .mod (.bin .add (.var 4) (.var 5)) (.var 2))))
        (.cons (.aug 5 .add (.lit (.int 1)))
        .nil))
      (.cons (.app 3 (.tup (.cons (.var 4) (.cons (.var 5) .nil))))
      .nil)))
      .nil)
    .nil) [.val (trsD ts), .val (flD ts), .val (.int (rnd ts)), .own (.lst (acc.map prD)), .val (.int (k : Int)), s5] h =
      .ok (.nx [.val (trsD ts), .val (flD ts), .val (.int (rnd ts)), .own (.lst ((acc ++ rowAt (gOf ts) (rnd ts) k).map prD)), s4', s5']) h := by
  have a1 := fl_ix (h := h) hk
  have a2 := fl_ixp (h := h) o.2.2 hk
  by_cases hg : gOf ts k = true
  · by_cases hg2 : gOf ts (k + rnd ts - 1) = true
    · refine ⟨.val (.int (k : Int)), s5, ?_⟩
      have er : rowAt (gOf ts) (rnd ts) k = [] := by unfold rowAt; rw [hg, hg2]; rfl
      rw [hg] at a1
      rw [hg2] at a2
      rw [er, List.append_nil]
      generalize flD ts = fD at a1 a2 ⊢
      generalize trsD ts = tD
      generalize acc.map prD = ac
      simp only [denF, denMs, denM, den, dens, denS, denC, denO, Res.bind, ofO, isTys, isTy, asgT, asgTs, wipeP, parSet, frzL, slotOf, atom, calmR, seqOf, intOf, negD, List.map_cons, List.map_nil, List.cons_append, List.nil_append, List.getElem?_cons_zero, List.getElem?_cons_succ, List.set_cons_zero, List.set_cons_succ, Option.map_some, Option.map_none, Option.bind_some, truthD, if_true, if_false, Bool.false_eq_true, Bool.not_true, Bool.not_false, Bool.and_true, Bool.true_and, Bool.and_false, Bool.false_and, Bool.or_false, Bool.false_or, Bool.true_or, Bool.or_true, List.length_cons, List.length_nil, ite_true, ite_false, PD.add_int, PD.sub_int, Nat.reduceAdd, Nat.reduceSub, Nat.zero_add, List.reduceReplicate, List.replicate_zero, List.append_nil, a1, a2]
    · have hg2 : gOf ts (k + rnd ts - 1) = false := by simpa using hg2
      refine ⟨.val (.int (k : Int)), .val (.int (run (gOf ts) k (rnd ts) : Int)), ?_⟩
      have er : rowAt (gOf ts) (rnd ts) k = [((k : Int), (run (gOf ts) k (rnd ts) : Int))] := by unfold rowAt; rw [hg, hg2]; rfl
      obtain ⟨h', w, rfl⟩ := rr_while o hj k hg h (.own (.lst (acc.map prD)))
      rw [hg] at a1
      rw [hg2] at a2
      rw [er, List.map_append]
      have hll : (acc.map prD).length < line := by
        rw [List.length_map]
        have := rnd_le o.2.2
        unfold line
        omega
      have ep : [((k : Int), (run (gOf ts) k (rnd ts) : Int))].map prD = [.tup [.int (k : Int), .int (run (gOf ts) k (rnd ts) : Int)]] := rfl
      rw [ep]
      generalize acc.map prD = ac at w hll ⊢
      generalize run (gOf ts) k (rnd ts) = rn at w ⊢
      generalize flD ts = fD at a1 a2 w ⊢
      generalize trsD ts = tD at w ⊢
      have c1 : denC (Ph dx 12) noPsi noThk (.and (.val (.ix (.var 1) (.var 4))) (.not (.val (.ix (.var 1) (.bin .sub (.var 4) (.lit (.int 1))))))) [.val tD, .val fD, .val (.int (rnd ts)), .own (.lst ac), .val (.int (k : Int)), s5] h' = .ok true h' := by
        simp only [denF, denMs, denM, den, dens, denS, denC, denO, Res.bind, ofO, isTys, isTy, asgT, asgTs, wipeP, parSet, frzL, slotOf, atom, calmR, seqOf, intOf, negD, List.map_cons, List.map_nil, List.cons_append, List.nil_append, List.getElem?_cons_zero, List.getElem?_cons_succ, List.set_cons_zero, List.set_cons_succ, Option.map_some, Option.map_none, Option.bind_some, truthD, if_true, if_false, Bool.false_eq_true, Bool.not_true, Bool.not_false, Bool.and_true, Bool.true_and, Bool.and_false, Bool.false_and, Bool.or_false, Bool.false_or, Bool.true_or, Bool.or_true, List.length_cons, List.length_nil, ite_true, ite_false, PD.add_int, PD.sub_int, Nat.reduceAdd, Nat.reduceSub, Nat.zero_add, List.reduceReplicate, List.replicate_zero, List.append_nil, a1, a2]
      have b1 : denMs (Ph dx 12) noPsi noThk (.cons (.set 5 (.lit (.int 1)))
        (.cons (.whl (.val (.ix (.var 1) (.bin .mod (.bin .add (.var 4) (.var 5)) (.var 2))))
          (.cons (.aug 5 .add (.lit (.int 1)))
          .nil))
        (.cons (.app 3 (.tup (.cons (.var 4) (.cons (.var 5) .nil))))
        .nil))) [.val tD, .val fD, .val (.int (rnd ts)), .own (.lst ac), .val (.int (k : Int)), s5] h' = .ok (.nx [.val tD, .val fD, .val (.int (rnd ts)), .own (.lst (ac ++ [.tup [.int (k : Int), .int (rn : Int)]])), .val (.int (k : Int)), .val (.int (rn : Int))]) h' := by
        refine (ms_nx (ρ' := [.val tD, .val fD, .val (.int (rnd ts)), .own (.lst ac), .val (.int (k : Int)), .val (.int 1)]) (h' := h') (by simp only [denF, denMs, denM, den, dens, denS, denC, denO, Res.bind, ofO, isTys, isTy, asgT, asgTs, wipeP, parSet, frzL, slotOf, atom, calmR, seqOf, intOf, negD, List.map_cons, List.map_nil, List.cons_append, List.nil_append, List.getElem?_cons_zero, List.getElem?_cons_succ, List.set_cons_zero, List.set_cons_succ, Option.map_some, Option.map_none, Option.bind_some, truthD, if_true, if_false, Bool.false_eq_true, Bool.not_true, Bool.not_false, Bool.and_true, Bool.true_and, Bool.and_false, Bool.false_and, Bool.or_false, Bool.false_or, Bool.true_or, Bool.or_true, List.length_cons, List.length_nil, ite_true, ite_false, PD.add_int, PD.sub_int, Nat.reduceAdd, Nat.reduceSub, Nat.zero_add, List.reduceReplicate, List.replicate_zero, List.append_nil])).trans ((ms_nx w).trans ?_)
        simp only [denF, denMs, denM, den, dens, denS, denC, denO, Res.bind, ofO, isTys, isTy, asgT, asgTs, wipeP, parSet, frzL, slotOf, atom, calmR, seqOf, intOf, negD, List.map_cons, List.map_nil, List.cons_append, List.nil_append, List.getElem?_cons_zero, List.getElem?_cons_succ, List.set_cons_zero, List.set_cons_succ, Option.map_some, Option.map_none, Option.bind_some, truthD, if_true, if_false, Bool.false_eq_true, Bool.not_true, Bool.not_false, Bool.and_true, Bool.true_and, Bool.and_false, Bool.false_and, Bool.or_false, Bool.false_or, Bool.true_or, Bool.or_true, List.length_cons, List.length_nil, ite_true, ite_false, PD.add_int, PD.sub_int, Nat.reduceAdd, Nat.reduceSub, Nat.zero_add, List.reduceReplicate, List.replicate_zero, List.append_nil, if_pos hll]
        rfl
      refine (ms_nx (ρ' := [.val tD, .val fD, .val (.int (rnd ts)), .own (.lst (ac ++ [.tup [.int (k : Int), .int (rn : Int)]])), .val (.int (k : Int)), .val (.int (rn : Int))]) (h' := h') ?_).trans (by simp only [denMs])
      simp only [denM, c1, Res.bind, if_true, b1]
  · have hg : gOf ts k = false := by simpa using hg
    refine ⟨.val (.int (k : Int)), s5, ?_⟩
    have er : rowAt (gOf ts) (rnd ts) k = [] := by unfold rowAt; rw [hg]; rfl
    rw [hg] at a1
    rw [er, List.append_nil]
    generalize flD ts = fD at a1 ⊢
    generalize trsD ts = tD
    generalize acc.map prD = ac
    simp only [denF, denMs, denM, den, dens, denS, denC, denO, Res.bind, ofO, isTys, isTy, asgT, asgTs, wipeP, parSet, frzL, slotOf, atom, calmR, seqOf, intOf, negD, List.map_cons, List.map_nil, List.cons_append, List.nil_append, List.getElem?_cons_zero, List.getElem?_cons_succ, List.set_cons_zero, List.set_cons_succ, Option.map_some, Option.map_none, Option.bind_some, truthD, if_true, if_false, Bool.false_eq_true, Bool.not_true, Bool.not_false, Bool.and_true, Bool.true_and, Bool.and_false, Bool.false_and, Bool.or_false, Bool.false_or, Bool.true_or, Bool.or_true, List.length_cons, List.length_nil, ite_true, ite_false, PD.add_int, PD.sub_int, Nat.reduceAdd, Nat.reduceSub, Nat.zero_add, List.reduceReplicate, List.replicate_zero, List.append_nil, a1]
theorem asg_4 (d : D) (a b c e f g : PD.Slot) : asgT (.nm 4) d [a, b, c, e, f, g] = some [a, b, c, e, .val d, g] := rfl
theorem row_0 (ts : List Tr) : rowD ts 0 = .lst [] := by
  unfold rowD
  rw [List.range_zero, List.flatMap_nil, List.map_nil]
theorem rr_loop {ts : List Tr} (o : TrsOk ts) (hall : (List.range (rnd ts)).all (gOf ts) = false) (h : HS) : ∃ s4 s5, denM (Ph dx 12) noPsi noThk (.for_ (.nm 4) (.rng1 (.var 2)) (.cons (.ite (.and (.val (.ix (.var 1) (.var 4))) (.not (.val (.ix (.var 1) (.bin .sub (.var 4) (.lit (.int 1)))))))
      (.cons (.set 5 (.lit (.int 1)))
      (.cons (.whl (.val (.ix (.var 1) (.bin .mod (.bin .add (.var 4) (.var 5)) (.var 2))))
        (.cons (.aug 5 .add (.lit (.int 1)))
        .nil))
      (.cons (.app 3 (.tup (.cons (.var 4) (.cons (.var 5) .nil))))
      .nil)))
      .nil)
    .nil)) [.val (trsD ts), .val (flD ts), .val (.int (rnd ts : Int)), .own (.lst []), .no, .no] h =
    .ok (.nx [.val (trsD ts), .val (flD ts), .val (.int (rnd ts : Int)), .own (rowD ts (rnd ts)), s4, s5]) h := by
  obtain ⟨j, _, hj⟩ := range_all hall
  obtain ⟨ρ', h', e, ⟨s4, s5, rfl⟩, rfl⟩ := for_inv (Φ := Ph dx 12) (Ψ := noPsi) (thk := noThk) (t := .nm 4) (s := .rng1 (.var 2)) (b := (.cons (.ite (.and (.val (.ix (.var 1) (.var 4))) (.not (.val (.ix (.var 1) (.bin .sub (.var 4) (.lit (.int 1)))))))
      (.cons (.set 5 (.lit (.int 1)))
      (.cons (.whl (.val (.ix (.var 1) (.bin .mod (.bin .add (.var 4) (.var 5)) (.var 2))))
        (.cons (.aug 5 .add (.lit (.int 1)))
        .nil))
      (.cons (.app 3 (.tup (.cons (.var 4) (.cons (.var 5) .nil))))
      .nil)))
      .nil)
    .nil)) (its := rangeD 0 (rnd ts)) (ρ := [.val (trsD ts), .val (flD ts), .val (.int (rnd ts : Int)), .own (.lst []), .no, .no]) (h := h) (h1 := h)
    (fun k ρ h' => (∃ s4 s5, ρ = [.val (trsD ts), .val (flD ts), .val (.int (rnd ts : Int)), .own (rowD ts k), s4, s5]) ∧ h' = h) (s_rng1 (by simp only [den, List.getElem?_cons_succ, List.getElem?_cons_zero]) (by have := rnd_le o.2.2; omega)) ⟨⟨.no, .no, by rw [row_0]⟩, rfl⟩ (by
    rintro i d ρ h' hd ⟨⟨s4, s5, rfl⟩, rfl⟩
    obtain ⟨rfl, hi⟩ := rangeD_at hd
    rw [Int.zero_add]
    obtain ⟨s4', s5', e⟩ := rr_turn o hj i hi h' s4 s5 _ (rowsUp_len (gOf ts) (rnd ts) i)
    refine ⟨_, _, h', asg_4 _ _ _ _ _ _ _, .inl e, ⟨s4', s5', ?_⟩, rfl⟩
    unfold rowD
    rw [rowsUp_succ])
  rw [rangeD_length] at e
  exact ⟨s4, s5, e⟩
theorem rr_rows_true {ts : List Tr} (hall : (List.range (rnd ts)).all (gOf ts) = true) : (rowsP ts).map prD = [.tup [.int 0, .int (rnd ts : Int)]] := by
  unfold rowsP rowsOf
  rw [if_pos hall]
  rfl
theorem rr_rows_false {ts : List Tr} (hall : (List.range (rnd ts)).all (gOf ts) = false) : rowD ts (rnd ts) = .lst ((rowsP ts).map prD) := by
  unfold rowsP rowsOf
  rw [if_neg (by rw [hall]; exact Bool.false_ne_true)]
theorem two_le_line : 2 ≤ line ∧ 1 ≤ line := by
  unfold line
  omega
theorem rr_1 (tD fD : D) (h : HS) (a1 : Ph dx 12 11 [tD] h = .ok fD h) (n : Int) (hl : biD .len [fD] = some (.int n)) (b : Bool) (hm : cmpD .nin (.bl false) fD = some b) : ∀ r : IMs, denMs (Ph dx 12) noPsi noThk (.cons (.set 1 (.call 11 (.cons (.var 0) .nil)))
  (.cons (.set 2 (.bi .len (.cons (.var 1) .nil)))
  (.cons (.ite (.val (.cmp .nin (.lit (.bl false)) (.var 1)))
    (.cons (.ret (.lst (.cons (.tup (.cons (.lit (.int 0)) (.cons (.var 2) .nil))) .nil)))
    .nil)
    .nil) (.cons (.setO 3 (.lst .nil)) r)))) [.val tD, .no, .no, .no, .no, .no] h = if b then .ok (.rt (.lst [.tup [.int 0, .int n]])) h else denMs (Ph dx 12) noPsi noThk r [.val tD, .val fD, .val (.int n), .own (.lst []), .no, .no] h := fun r => by
  obtain ⟨l2, l1⟩ := two_le_line
  cases b <;> simp only [denF, denMs, denM, den, dens, denS, denC, denO, Res.bind, ofO, isTys, isTy, asgT, asgTs, wipeP, parSet, frzL, slotOf, atom, calmR, seqOf, intOf, negD, List.map_cons, List.map_nil, List.cons_append, List.nil_append, List.getElem?_cons_zero, List.getElem?_cons_succ, List.set_cons_zero, List.set_cons_succ, Option.map_some, Option.map_none, Option.bind_some, truthD, if_true, if_false, Bool.false_eq_true, Bool.not_true, Bool.not_false, Bool.and_true, Bool.true_and, Bool.and_false, Bool.false_and, Bool.or_false, Bool.false_or, Bool.true_or, Bool.or_true, List.length_cons, List.length_nil, ite_true, ite_false, PD.add_int, PD.sub_int, Nat.reduceAdd, Nat.reduceSub, Nat.zero_add, List.reduceReplicate, List.replicate_zero, List.append_nil, a1, hl, hm, if_pos l1, if_pos l2, if_pos (Nat.zero_le line)]
theorem ok_raw_rows {ts : List Tr} (o : TrsOk ts) (h : HS) : Does dx 12 [trsD ts] h (.lst ((rowsP ts).map prD)) h := by
  refine does_of rfl rfl ?_
  have a1 : Ph dx 12 11 [trsD ts] h = .ok (flD ts) h := (ok_flags o h).at _ (by decide) (by decide)
  have hl : biD .len [flD ts] = some (.int (rnd ts : Int)) := by
    unfold flD
    simp only [biD, List.length_map, fl_length]
  have hm : cmpD .nin (.bl false) (flD ts) = some ((List.range (rnd ts)).all (gOf ts)) := by
    unfold flD
    simp only [cmpD, fl_no, Option.map_some, Bool.not_not]
  refine f_rt ((rr_1 _ _ h a1 _ hl _ hm _).trans ?_)
  cases hall : (List.range (rnd ts)).all (gOf ts) with
  | true => rw [if_pos rfl, rr_rows_true hall]
  | false =>
    obtain ⟨s4, s5, e⟩ := rr_loop o hall h
    rw [rr_rows_false hall] at e
    rw [if_neg Bool.false_ne_true]
    refine (ms_nx e).trans ?_
    generalize trsD ts = tD
    generalize flD ts = fD
    generalize (rowsP ts).map prD = ac
    simp only [denF, denMs, denM, den, dens, denS, denC, denO, Res.bind, ofO, isTys, isTy, asgT, asgTs, wipeP, parSet, frzL, slotOf, atom, calmR, seqOf, intOf, negD, List.map_cons, List.map_nil, List.cons_append, List.nil_append, List.getElem?_cons_zero, List.getElem?_cons_succ, List.set_cons_zero, List.set_cons_succ, Option.map_some, Option.map_none, Option.bind_some, truthD, if_true, if_false, Bool.false_eq_true, Bool.not_true, Bool.not_false, Bool.and_true, Bool.true_and, Bool.and_false, Bool.false_and, Bool.or_false, Bool.false_or, Bool.true_or, Bool.or_true, List.length_cons, List.length_nil, ite_true, ite_false, PD.add_int, PD.sub_int, Nat.reduceAdd, Nat.reduceSub, Nat.zero_add, List.reduceReplicate, List.replicate_zero, List.append_nil]
theorem ok_shut_rows {ts : List Tr} (o : TrsOk ts) (h : HS) : Does dx 13 [trsD ts] h (.tup ((rowsP ts).map prD)) h := by
  refine does_of rfl rfl ?_
  have a1 : Ph dx 13 10 [trsD ts] h = .ok .non h := (ok_check o h).at _ (by decide) (by decide)
  have a2 : Ph dx 13 12 [trsD ts] h = .ok (.lst ((rowsP ts).map prD)) h := (ok_raw_rows o h).at _ (by decide) (by decide)
  generalize trsD ts = tD at a1 a2 ⊢
  generalize (rowsP ts).map prD = ac at a2 ⊢
  simp only [ir_shut_rows, denF, denMs, denM, den, dens, denS, denC, denO, Res.bind, ofO, isTys, isTy, asgT, asgTs, wipeP, parSet, frzL, slotOf, atom, calmR, seqOf, intOf, negD, List.map_cons, List.map_nil, List.cons_append, List.nil_append, List.getElem?_cons_zero, List.getElem?_cons_succ, List.set_cons_zero, List.set_cons_succ, Option.map_some, Option.map_none, Option.bind_some, truthD, if_true, if_false, Bool.false_eq_true, Bool.not_true, Bool.not_false, Bool.and_true, Bool.true_and, Bool.and_false, Bool.false_and, Bool.or_false, Bool.false_or, Bool.true_or, Bool.or_true, List.length_cons, List.length_nil, ite_true, ite_false, PD.add_int, PD.sub_int, Nat.reduceAdd, Nat.reduceSub, Nat.zero_add, List.reduceReplicate, List.replicate_zero, List.append_nil, a1, a2, biD]

theorem ok_share {a b : Nat} (hb : 0 < b) (hb2 : b ≤ 120) (h : HS) : Does dx 14 [.int a, .int b] h (.tup [.int (a / Nat.gcd a b : Nat), .int (b / Nat.gcd a b : Nat)]) h := by
  refine does_of rfl rfl ?_
  have a1 : Ph dx 14 8 [.int a, .int b] h = .ok (.int (Nat.gcd a b : Nat)) h := (ok_common a b h).at _ (by decide) (by decide)
  obtain ⟨g1, g2⟩ := gcd_small (a := a) hb hb2
  have a2 : binD .fdiv (.int (a : Int)) (.int (Nat.gcd a b : Nat)) = some (.int (a / Nat.gcd a b : Nat)) := by rw [fdiv_ok g1 g2, fdiv_nat]
  have a3 : binD .fdiv (.int (b : Int)) (.int (Nat.gcd a b : Nat)) = some (.int (b / Nat.gcd a b : Nat)) := by rw [fdiv_ok g1 g2, fdiv_nat]
  have e : decide ((0 : Int) < (b : Int)) = true := decide_eq_true (by omega)
  generalize Nat.gcd a b = g at a1 a2 a3 ⊢
  generalize (a / g : Nat) = x at a2 ⊢
  generalize (b / g : Nat) = y at a3 ⊢
  simp only [ir_share, denF, denMs, denM, den, dens, denS, denC, denO, Res.bind, ofO, isTys, isTy, asgT, asgTs, wipeP, parSet, frzL, slotOf, atom, calmR, seqOf, intOf, negD, List.map_cons, List.map_nil, List.cons_append, List.nil_append, List.getElem?_cons_zero, List.getElem?_cons_succ, List.set_cons_zero, List.set_cons_succ, Option.map_some, Option.map_none, Option.bind_some, truthD, if_true, if_false, Bool.false_eq_true, Bool.not_true, Bool.not_false, Bool.and_true, Bool.true_and, Bool.and_false, Bool.false_and, Bool.or_false, Bool.false_or, Bool.true_or, Bool.or_true, List.length_cons, List.length_nil, ite_true, ite_false, PD.add_int, PD.sub_int, Nat.reduceAdd, Nat.reduceSub, Nat.zero_add, List.reduceReplicate, List.replicate_zero, List.append_nil, a1, a2, a3, cmpD, e, if_pos two_le_line.1]
theorem ok_raw_share {ts : List Tr} (o : TrsOk ts) (h : HS) : Does dx 15 [trsD ts] h (.tup [.int ((fl ts).count false / Nat.gcd ((fl ts).count false) (rnd ts) : Nat), .int (rnd ts / Nat.gcd ((fl ts).count false) (rnd ts) : Nat)]) h := by
  refine does_of rfl rfl ?_
  have a1 : Ph dx 15 11 [trsD ts] h = .ok (flD ts) h := (ok_flags o h).at _ (by decide) (by decide)
  have hl : biD .len [flD ts] = some (.int (rnd ts : Int)) := by
    unfold flD
    simp only [biD, List.length_map, fl_length]
  have hc : mtD .count (flD ts) [.bl false] = some (.int ((fl ts).count false : Nat)) := by
    unfold flD
    simp only [mtD, cntD_bl, Option.map_some]
  have hi : isLst (flD ts) = true := rfl
  have a2 : Ph dx 15 14 [.int ((fl ts).count false : Nat), .int (rnd ts : Nat)] h = .ok _ h := (ok_share (rnd_pos o.2.2) (rnd_le o.2.2) h).at _ (by decide) (by decide)
  generalize D.tup [.int ((fl ts).count false / Nat.gcd ((fl ts).count false) (rnd ts) : Nat), .int (rnd ts / Nat.gcd ((fl ts).count false) (rnd ts) : Nat)] = R at a2 ⊢
  generalize trsD ts = tD at a1 ⊢
  generalize flD ts = fD at a1 hl hc hi ⊢
  simp only [denF, ir_raw_share, denF, denMs, denM, den, dens, denS, denC, denO, Res.bind, ofO, isTys, isTy, asgT, asgTs, wipeP, parSet, frzL, slotOf, atom, calmR, seqOf, intOf, negD, List.map_cons, List.map_nil, List.cons_append, List.nil_append, List.getElem?_cons_zero, List.getElem?_cons_succ, List.set_cons_zero, List.set_cons_succ, Option.map_some, Option.map_none, Option.bind_some, truthD, if_true, if_false, Bool.false_eq_true, Bool.not_true, Bool.not_false, Bool.and_true, Bool.true_and, Bool.and_false, Bool.false_and, Bool.or_false, Bool.false_or, Bool.true_or, Bool.or_true, List.length_cons, List.length_nil, ite_true, ite_false, PD.add_int, PD.sub_int, Nat.reduceAdd, Nat.reduceSub, Nat.zero_add, List.reduceReplicate, List.replicate_zero, List.append_nil, a1, hl, hc, hi, a2]
theorem ok_open_share {ts : List Tr} (o : TrsOk ts) (h : HS) : Does dx 16 [trsD ts] h (.tup [.int ((fl ts).count false / Nat.gcd ((fl ts).count false) (rnd ts) : Nat), .int (rnd ts / Nat.gcd ((fl ts).count false) (rnd ts) : Nat)]) h := by
  refine does_of rfl rfl ?_
  have a1 : Ph dx 16 10 [trsD ts] h = .ok .non h := (ok_check o h).at _ (by decide) (by decide)
  have a2 : Ph dx 16 15 [trsD ts] h = .ok _ h := (ok_raw_share o h).at _ (by decide) (by decide)
  generalize D.tup [.int ((fl ts).count false / Nat.gcd ((fl ts).count false) (rnd ts) : Nat), .int (rnd ts / Nat.gcd ((fl ts).count false) (rnd ts) : Nat)] = R at a2 ⊢
  generalize trsD ts = tD at a1 a2 ⊢
  simp only [ir_open_share, denF, denMs, denM, den, dens, denS, denC, denO, Res.bind, ofO, isTys, isTy, asgT, asgTs, wipeP, parSet, frzL, slotOf, atom, calmR, seqOf, intOf, negD, List.map_cons, List.map_nil, List.cons_append, List.nil_append, List.getElem?_cons_zero, List.getElem?_cons_succ, List.set_cons_zero, List.set_cons_succ, Option.map_some, Option.map_none, Option.bind_some, truthD, if_true, if_false, Bool.false_eq_true, Bool.not_true, Bool.not_false, Bool.and_true, Bool.true_and, Bool.and_false, Bool.false_and, Bool.or_false, Bool.false_or, Bool.true_or, Bool.or_true, List.length_cons, List.length_nil, ite_true, ite_false, PD.add_int, PD.sub_int, Nat.reduceAdd, Nat.reduceSub, Nat.zero_add, List.reduceReplicate, List.replicate_zero, List.append_nil, a1, a2]
theorem asg_23 (p : Int × Int) (a b c d : PD.Slot) : asgT (.tp (.cons (.nm 2) (.cons (.nm 3) .nil))) (prD p) [a, b, c, d] = some [a, b, .val (.int p.1), .val (.int p.2)] := rfl
theorem ok_longest {ts : List Tr} (o : TrsOk ts) {q : Int × Int} (hq : minL (((rowsP ts).map negP).map prD) = some (prD q)) (h : HS) : Does dx 17 [trsD ts] h (.tup [.int (0 - q.1), .int q.2]) h := by
  refine does_of rfl rfl ?_
  have a1 : Ph dx 17 10 [trsD ts] h = .ok .non h := (ok_check o h).at _ (by decide) (by decide)
  have a2 : Ph dx 17 12 [trsD ts] h = .ok (.lst ((rowsP ts).map prD)) h := (ok_raw_rows o h).at _ (by decide) (by decide)
  have hl : ((rowsP ts).map prD).length ≤ line := by
    rw [List.length_map]
    have := rowsP_len o
    unfold line
    omega
  have q0 : ixD h (prD q) (.int 0) = some (.int q.1) := ixt_nat (k := 0) rfl
  have q1 : ixD h (prD q) (.int 1) = some (.int q.2) := ixt_nat (k := 1) rfl
  have lcs : den (Ph dx 17) noPsi noThk (.lc [2, 3] (.tp (.cons (.nm 2) (.cons (.nm 3) .nil))) (.val (.call 12 (.cons (.var 0) .nil))) .tt (.tup (.cons (.bin .sub (.lit (.int 0)) (.var 3)) (.cons (.var 2) .nil)))) [.val (trsD ts), .no, .no, .no] h = .ok (.lst (((rowsP ts).map negP).map prD)) h := by
    simp only [den, denS, dens, Res.bind, List.getElem?_cons_zero, a2, seqOf, ofO]
    rw [lcL_mapm (g := fun p => prD (negP p))]
    · simp only [calmR, Res.bind, if_pos hl, List.map_map]
      rfl
    · intro p _
      simp only [wipeP, List.set_cons_succ, List.set_cons_zero]
      rw [asg_23]
      simp only [denF, denMs, denM, den, dens, denS, denC, denO, Res.bind, ofO, isTys, isTy, asgT, asgTs, wipeP, parSet, frzL, slotOf, atom, calmR, seqOf, intOf, negD, List.map_cons, List.map_nil, List.cons_append, List.nil_append, List.getElem?_cons_zero, List.getElem?_cons_succ, List.set_cons_zero, List.set_cons_succ, Option.map_some, Option.map_none, Option.bind_some, truthD, if_true, if_false, Bool.false_eq_true, Bool.not_true, Bool.not_false, Bool.and_true, Bool.true_and, Bool.and_false, Bool.false_and, Bool.or_false, Bool.false_or, Bool.true_or, Bool.or_true, List.length_cons, List.length_nil, ite_true, ite_false, PD.add_int, PD.sub_int, Nat.reduceAdd, Nat.reduceSub, Nat.zero_add, List.reduceReplicate, List.replicate_zero, List.append_nil, if_pos two_le_line.1]
      rfl
  refine f_rt ((ms_nx (ρ' := [.val (trsD ts), .no, .no, .no]) (h' := h) ?_).trans ((ms_nx (ρ' := [.val (trsD ts), .val (.lst (((rowsP ts).map negP).map prD)), .no, .no]) (h' := h) ?_).trans ?_))
  · generalize trsD ts = tD at a1 ⊢
    simp only [denF, denMs, denM, den, dens, denS, denC, denO, Res.bind, ofO, isTys, isTy, asgT, asgTs, wipeP, parSet, frzL, slotOf, atom, calmR, seqOf, intOf, negD, List.map_cons, List.map_nil, List.cons_append, List.nil_append, List.getElem?_cons_zero, List.getElem?_cons_succ, List.set_cons_zero, List.set_cons_succ, Option.map_some, Option.map_none, Option.bind_some, truthD, if_true, if_false, Bool.false_eq_true, Bool.not_true, Bool.not_false, Bool.and_true, Bool.true_and, Bool.and_false, Bool.false_and, Bool.or_false, Bool.false_or, Bool.true_or, Bool.or_true, List.length_cons, List.length_nil, ite_true, ite_false, PD.add_int, PD.sub_int, Nat.reduceAdd, Nat.reduceSub, Nat.zero_add, List.reduceReplicate, List.replicate_zero, List.append_nil, a1]
  · simp only [denM, lcs, Res.bind, List.set_cons_succ, List.set_cons_zero]
  · have hm : biD .min [.lst (((rowsP ts).map negP).map prD)] = some (prD q) := by
      simp only [biD, hq]
    generalize D.lst (((rowsP ts).map negP).map prD) = fD at hm ⊢
    generalize prD q = qD at hm q0 q1
    generalize trsD ts = tD
    simp only [denF, denMs, denM, den, dens, denS, denC, denO, Res.bind, ofO, isTys, isTy, asgT, asgTs, wipeP, parSet, frzL, slotOf, atom, calmR, seqOf, intOf, negD, List.map_cons, List.map_nil, List.cons_append, List.nil_append, List.getElem?_cons_zero, List.getElem?_cons_succ, List.set_cons_zero, List.set_cons_succ, Option.map_some, Option.map_none, Option.bind_some, truthD, if_true, if_false, Bool.false_eq_true, Bool.not_true, Bool.not_false, Bool.and_true, Bool.true_and, Bool.and_false, Bool.false_and, Bool.or_false, Bool.false_or, Bool.true_or, Bool.or_true, List.length_cons, List.length_nil, ite_true, ite_false, PD.add_int, PD.sub_int, Nat.reduceAdd, Nat.reduceSub, Nat.zero_add, List.reduceReplicate, List.replicate_zero, List.append_nil, hm, q0, q1, if_pos two_le_line.1]

def HandOk (hs : HS) : Prop := ∃ (cells : List Int) (pos v s c : Int), hs = [.lst (cells.map D.int), .int pos, .int v, .int s, .int c] ∧ 0 ≤ pos
theorem hand0_ok (ns : List Int) : HandOk (hand0 ns) := ⟨cellsOf ns, 0, 0, 1 + (cellsOf ns).length, 0, rfl, Int.le_refl 0⟩
theorem hx0 (a b c d e : D) : ixD [a, b, c, d, e] .hnd (.int 0) = some a := rfl
theorem hx1 (a b c d e : D) : ixD [a, b, c, d, e] .hnd (.int 1) = some b := rfl
theorem hx2 (a b c d e : D) : ixD [a, b, c, d, e] .hnd (.int 2) = some c := rfl
theorem hx3 (a b c d e : D) : ixD [a, b, c, d, e] .hnd (.int 3) = some d := rfl
theorem hx4 (a b c d e : D) : ixD [a, b, c, d, e] .hnd (.int 4) = some e := rfl
theorem hs1_ (a b c d e x : D) : setD [a, b, c, d, e] (.int 1) x = some [a, x, c, d, e] := rfl
theorem hs2_ (a b c d e x : D) : setD [a, b, c, d, e] (.int 2) x = some [a, b, x, d, e] := rfl
theorem hs3_ (a b c d e x : D) : setD [a, b, c, d, e] (.int 3) x = some [a, b, c, x, e] := rfl
theorem hs4_ (a b c d e x : D) : setD [a, b, c, d, e] (.int 4) x = some [a, b, c, d, x] := rfl
theorem bi_int (i : Int) : biD .int [.int i] = some (.int i) := rfl
theorem bi_lenl (xs : List D) : biD .len [.lst xs] = some (.int xs.length) := rfl
theorem pow18 : binD .pow (.int 10) (.int 18) = some (.int 1000000000000000000) := by
  unfold binD
  dsimp only
  rw [if_pos (by decide)]
  rfl
theorem fm_b (i : Int) {j : Int} (h : 0 < j) : 0 ≤ i.fmod j ∧ i.fmod j < j := ⟨Int.fmod_nonneg_of_pos i h, Int.fmod_lt_of_pos i h⟩
theorem draw_a {pos v s c : Int} {cells : List Int} (hp : 0 ≤ pos) (b : Int) : ∃ ρ' hs', denM (Ph dx 18) noPsi noThk (.ite (.and (.val (.cmp .eq (.ix (.var 0) (.lit (.int 2))) (.lit (.int 0)))) (.val (.cmp .lt (.ix (.var 0) (.lit (.int 1))) (.bi .len (.cons (.ix (.var 0) (.lit (.int 0))) .nil)))))
    (.cons (.set 3 (.ix (.ix (.var 0) (.lit (.int 0))) (.ix (.var 0) (.lit (.int 1)))))
    (.cons (.setIx 0 (.lit (.int 1)) (.bin .add (.ix (.var 0) (.lit (.int 1))) (.lit (.int 1))))
    (.cons (.setIx 0 (.lit (.int 3)) (.bin .mod (.bi .int (.cons (.bin .add (.bin .add (.bin .mul (.ix (.var 0) (.lit (.int 3))) (.lit (.int 69621))) (.var 3)) (.lit (.int 11))) .nil)) (.lit (.int 2147483629))))
    (.cons (.ite (.val (.cmp .ge (.var 3) (.bin .pow (.lit (.int 10)) (.lit (.int 18)))))
      (.cons (.setIx 0 (.lit (.int 2)) (.var 3))
      .nil)
      .nil)
    .nil))))
    .nil) [.val .hnd, .val (.int b), .no, .no, .no] [.lst (cells.map D.int), .int pos, .int v, .int s, .int c] = .ok (.nx ρ') hs' ∧ (∃ x, ρ' = [.val .hnd, .val (.int b), .no, x, .no]) ∧ HandOk hs' := by
  by_cases hv : v = 0
  · by_cases hl : pos < (cells.map D.int).length
    · have hl2 : pos.toNat < cells.length := by rw [List.length_map] at hl; omega
      have c1 : ixD [.lst (cells.map D.int), .int pos, .int v, .int s, .int c] (.lst (cells.map D.int)) (.int pos) = some (.int cells[pos.toNat]) := by
        have z := ix_nat (h := [.lst (cells.map D.int), .int pos, .int v, .int s, .int c]) (xs := cells.map D.int) (k := pos.toNat) (d := .int cells[pos.toNat]) (by rw [List.getElem?_map, List.getElem?_eq_getElem hl2]; rfl)
        rwa [Int.toNat_of_nonneg hp] at z
      have e1 : decide (v = 0) = true := decide_eq_true hv
      have e2 : decide (pos < ((cells.map D.int).length : Int)) = true := decide_eq_true hl
      have m1 : binD .mul (.int s) (.int 69621) = some (.int (s * 69621)) := mul_r (by decide) (by decide)
      have m2 : ∀ i, binD .mod (.int i) (.int 2147483629) = some (.int (i.fmod 2147483629)) := fun i => mod_ok (by decide)
      have hk : HandOk [.lst (cells.map D.int), .int (pos + 1), .int v, .int ((s * 69621 + cells[pos.toNat] + 11).fmod 2147483629), .int c] := ⟨cells, _, _, _, _, rfl, by omega⟩
      have hk2 : HandOk [.lst (cells.map D.int), .int (pos + 1), .int cells[pos.toNat], .int ((s * 69621 + cells[pos.toNat] + 11).fmod 2147483629), .int c] := ⟨cells, _, _, _, _, rfl, by omega⟩
      generalize cells[pos.toNat] = cell at c1 hk hk2 ⊢
      generalize hC : cells.map D.int = C at c1 e2 hk hk2 ⊢
      by_cases hg : (1000000000000000000 : Int) ≤ cell
      · refine ⟨[.val .hnd, .val (.int b), .no, .val (.int cell), .no], [.lst C, .int (pos + 1), .int cell, .int ((s * 69621 + cell + 11).fmod 2147483629), .int c], ?_, ⟨_, rfl⟩, hk2⟩
        have e3 : decide ((1000000000000000000 : Int) ≤ cell) = true := decide_eq_true hg
        simp only [denF, denMs, denM, den, dens, denC, Res.bind, ofO, List.getElem?_cons_zero, List.getElem?_cons_succ, List.set_cons_zero, List.set_cons_succ, Option.map_some, truthD, if_true, hx0, hx1, hx2, hx3, hx4, hs1_, hs2_, hs3_, bi_lenl, bi_int, cmpD, eqD_int, e1, e2, c1, PD.add_int, m1, m2, pow18, e3]
      · refine ⟨[.val .hnd, .val (.int b), .no, .val (.int cell), .no], [.lst C, .int (pos + 1), .int v, .int ((s * 69621 + cell + 11).fmod 2147483629), .int c], ?_, ⟨_, rfl⟩, hk⟩
        have e3 : decide ((1000000000000000000 : Int) ≤ cell) = false := decide_eq_false hg
        simp only [denF, denMs, denM, den, dens, denC, Res.bind, ofO, List.getElem?_cons_zero, List.getElem?_cons_succ, List.set_cons_zero, List.set_cons_succ, Option.map_some, truthD, if_true, if_false, Bool.false_eq_true, hx0, hx1, hx2, hx3, hx4, hs1_, hs2_, hs3_, bi_lenl, bi_int, cmpD, eqD_int, e1, e2, c1, PD.add_int, m1, m2, pow18, e3]
    · have e1 : decide (v = 0) = true := decide_eq_true hv
      have e2 : decide (pos < ((cells.map D.int).length : Int)) = false := decide_eq_false hl
      refine ⟨_, _, ?_, ⟨.no, rfl⟩, ⟨cells, pos, v, s, c, rfl, hp⟩⟩
      generalize cells.map D.int = C at e2 ⊢
      simp only [denF, denMs, denM, den, dens, denC, Res.bind, ofO, List.getElem?_cons_zero, List.getElem?_cons_succ, Option.map_some, truthD, if_true, if_false, Bool.false_eq_true, hx0, hx1, hx2, bi_lenl, cmpD, eqD_int, e1, e2]
  · have e1 : decide (v = 0) = false := decide_eq_false hv
    refine ⟨_, _, ?_, ⟨.no, rfl⟩, ⟨cells, pos, v, s, c, rfl, hp⟩⟩
    generalize cells.map D.int = C
    simp only [denF, denMs, denM, den, dens, denC, Res.bind, ofO, List.getElem?_cons_zero, List.getElem?_cons_succ, Option.map_some, truthD, if_true, if_false, Bool.false_eq_true, hx2, cmpD, eqD_int, e1]
theorem ok_draw {b : Int} (h1 : 1 ≤ b) (h2 : b ≤ 1000000000) {hs : HS} (I : HandOk hs) : ∃ (d : Int) (hs' : HS), 0 ≤ d ∧ d < b ∧ HandOk hs' ∧ Does dx 18 [.hnd, .int b] hs (.int d) hs' := by
  obtain ⟨cells, pos, v, s, c, rfl, hp⟩ := I
  obtain ⟨ρ1, hs1, e1, ⟨x, rfl⟩, cells1, pos1, v1, s1, c1, rfl, hp1⟩ := draw_a (v := v) (s := s) (c := c) (cells := cells) hp b
  have mb : ∀ i, binD .mod (.int i) (.int b) = some (.int (i.fmod b)) := fun i => mod_ok (by omega)
  by_cases hv : 0 < v1
  · have fb : binD .fdiv (.int v1) (.int b) = some (.int (v1.fdiv b)) := fdiv_ok (by omega) (by omega)
    obtain ⟨d1, d2⟩ := fm_b v1 (show (0 : Int) < b by omega)
    refine ⟨v1.fmod b, [.lst (cells1.map D.int), .int pos1, .int (v1.fdiv b), .int s1, .int c1], d1, d2, ⟨cells1, _, _, _, _, rfl, hp1⟩, does_of rfl rfl (f_rt ((ms_nx e1).trans ?_))⟩
    have e2 : decide (0 < v1) = true := decide_eq_true hv
    generalize hC : cells1.map D.int = C
    simp only [denF, denMs, denM, den, dens, denC, Res.bind, ofO, List.getElem?_cons_zero, List.getElem?_cons_succ, List.set_cons_zero, List.set_cons_succ, Option.map_some, truthD, if_true, hx2, hs2_, bi_int, cmpD, e2, mb, fb]
  · have e2 : decide (0 < v1) = false := decide_eq_false hv
    have M : ∀ {i : Int} (j : Int), j ≠ 0 → binD .mod (.int i) (.int j) = some (.int (i.fmod j)) := fun j h => mod_ok h
    have m0 : ∀ i : Int, binD .mul (.int 7919) (.int i) = some (.int (7919 * i)) := fun i => mul_l (by decide) (by decide)
    have m1 : ∀ i : Int, binD .mul (.int i) (.int 48271) = some (.int (i * 48271)) := fun i => mul_r (by decide) (by decide)
    have m2 : ∀ i : Int, binD .mod (.int i) (.int 2147483647) = some (.int (i.fmod 2147483647)) := fun i => mod_ok (by decide)
    have m3 : ∀ i : Int, binD .mod (.int i) (.int 2147483399) = some (.int (i.fmod 2147483399)) := fun i => mod_ok (by decide)
    have f1 : ∀ i : Int, binD .fdiv (.int i) (.int 1009) = some (.int (i.fdiv 1009)) := fun i => fdiv_ok (by decide) (by decide)
    have f2 : ∀ i : Int, binD .fdiv (.int i) (.int 2003) = some (.int (i.fdiv 2003)) := fun i => fdiv_ok (by decide) (by decide)
    have f3 : ∀ i : Int, binD .fdiv (.int i) (.int 16) = some (.int (i.fdiv 16)) := fun i => fdiv_ok (by decide) (by decide)
    obtain ⟨a1, a2⟩ := fm_b ((s1 + 7919 * (c1 + 1)) * 48271) (show (0 : Int) < 2147483647 by decide)
    generalize hn1 : ((s1 + 7919 * (c1 + 1)) * 48271).fmod 2147483647 = n1 at a1 a2
    have p1 : ∀ j : Int, binD .mul (.int n1) (.int j) = some (.int (n1 * j)) := fun j => mul_l (by omega) (by omega)
    obtain ⟨b1, b2⟩ := fm_b (n1 * (n1.fdiv 1009 + 69621)) (show (0 : Int) < 2147483647 by decide)
    generalize hn2 : (n1 * (n1.fdiv 1009 + 69621)).fmod 2147483647 = n2 at b1 b2
    have p2 : ∀ j : Int, binD .mul (.int n2) (.int j) = some (.int (n2 * j)) := fun j => mul_l (by omega) (by omega)
    generalize hn3 : (n2 * (n2.fdiv 2003 + 40692)).fmod 2147483399 = n3
    obtain ⟨d1, d2⟩ := fm_b (n3.fdiv 16) (show (0 : Int) < b by omega)
    refine ⟨(n3.fdiv 16).fmod b, [.lst (cells1.map D.int), .int pos1, .int v1, .int s1, .int (c1 + 1)], d1, d2, ⟨cells1, _, _, _, _, rfl, hp1⟩, does_of rfl rfl (f_rt ((ms_nx e1).trans ?_))⟩
    generalize hC : cells1.map D.int = C
    simp only [denF, denMs, denM, den, dens, denC, Res.bind, ofO, List.getElem?_cons_zero, List.getElem?_cons_succ, List.set_cons_zero, List.set_cons_succ, Option.map_some, truthD, if_true, if_false, Bool.false_eq_true, hx2, hx3, hx4, hs4_, bi_int, cmpD, e2, mb, PD.add_int, m0, m1, m2, m3, f1, f2, f3, hn1, p1, hn2, p2, hn3]
theorem any_at {α : Type} (u : α → D) {xs : List α} {d : Int} {hs : HS} (h0 : 0 ≤ d) (h1 : d < xs.length) : ∃ x ∈ xs, ixD hs (.lst (xs.map u)) (.int d) = some (u x) := by
  have hl : d.toNat < xs.length := by omega
  refine ⟨xs[d.toNat], List.getElem_mem hl, ?_⟩
  have z := ix_nat (h := hs) (xs := xs.map u) (k := d.toNat) (d := u xs[d.toNat]) (by rw [List.getElem?_map, List.getElem?_eq_getElem hl]; rfl)
  rwa [Int.toNat_of_nonneg h0] at z
theorem ok_any {α : Type} (u : α → D) {xs : List α} (h1 : 1 ≤ xs.length) (h2 : xs.length ≤ 1000000) {hs : HS} (I : HandOk hs) : ∃ x ∈ xs, ∃ hs', HandOk hs' ∧ Does dx 19 [.hnd, .lst (xs.map u)] hs (u x) hs' := by
  obtain ⟨d, hs', d0, d1, I', q⟩ := ok_draw (b := (xs.length : Int)) (by omega) (by omega) I
  obtain ⟨x, hx, e⟩ := any_at u (hs := hs') d0 d1
  refine ⟨x, hx, hs', I', does_of rfl rfl ?_⟩
  have a1 := q.at 19 (by decide) (by decide)
  have hl : biD .len [.lst (xs.map u)] = some (.int (xs.length : Int)) := by rw [bi_lenl, List.length_map]
  generalize D.lst (xs.map u) = L at hl e ⊢
  simp only [ir__law_any, denF, denMs, denM, den, dens, denS, denC, denO, Res.bind, ofO, isTys, isTy, asgT, asgTs, wipeP, parSet, frzL, slotOf, atom, calmR, seqOf, intOf, negD, List.map_cons, List.map_nil, List.cons_append, List.nil_append, List.getElem?_cons_zero, List.getElem?_cons_succ, List.set_cons_zero, List.set_cons_succ, Option.map_some, Option.map_none, Option.bind_some, truthD, if_true, if_false, Bool.false_eq_true, Bool.not_true, Bool.not_false, Bool.and_true, Bool.true_and, Bool.and_false, Bool.false_and, Bool.or_false, Bool.false_or, Bool.true_or, Bool.or_true, List.length_cons, List.length_nil, ite_true, ite_false, PD.add_int, PD.sub_int, Nat.reduceAdd, Nat.reduceSub, Nat.zero_add, List.reduceReplicate, List.replicate_zero, List.append_nil, hl, a1, e]
theorem ok_track {hs : HS} (I : HandOk hs) : ∃ (t : Tr) (hs' : HS), TrOk t ∧ HandOk hs' ∧ Does dx 20 [.hnd] hs (trD t) hs' := by
  obtain ⟨p, hp, h1, I1, q1⟩ := ok_any D.int (xs := [2, 3, 4, 5, 6, 8, 10, 12]) (by decide) (by decide) I
  have hp2 : 2 ≤ p ∧ p ≤ 12 ∧ p ∣ 120 := by
    simp only [List.mem_cons, List.not_mem_nil, or_false] at hp
    rcases hp with rfl | rfl | rfl | rfl | rfl | rfl | rfl | rfl <;> decide
  obtain ⟨b, h2, b0, b1, I2, q2⟩ := ok_draw (b := p) (by omega) (by omega) I1
  obtain ⟨m, hm, h3, I3, q3⟩ := ok_any D.int (xs := [p, (p + 1).fdiv 2]) (by show 1 ≤ 2; decide) (by show 2 ≤ 1000000; decide) I2
  have hm2 : 1 ≤ m ∧ m ≤ p := by
    have e : (p + 1).fdiv 2 = (p + 1) / 2 := Int.fdiv_eq_ediv_of_nonneg _ (by decide)
    simp only [List.mem_cons, List.not_mem_nil, or_false] at hm
    rcases hm with rfl | rfl
    · omega
    · rw [e]
      omega
  obtain ⟨l, h4, l0, l1, I4, q4⟩ := ok_draw (b := m) (by omega) (by omega) I3
  refine ⟨(p, b, 1 + l), h4, ⟨hp2.1, hp2.2.2, b0, b1, by show 1 ≤ 1 + l; omega, by show 1 + l ≤ p; omega⟩, I4, does_of rfl rfl ?_⟩
  have a1 := q1.at 20 (by decide) (by decide)
  have a2 := q2.at 20 (by decide) (by decide)
  have a3 := q3.at 20 (by decide) (by decide)
  have a4 := q4.at 20 (by decide) (by decide)
  have fd : binD .fdiv (.int (p + 1)) (.int 2) = some (.int ((p + 1).fdiv 2)) := fdiv_ok (by decide) (by decide)
  have l8 : 8 ≤ line ∧ 3 ≤ line := by unfold line; omega
  simp only [List.map_cons, List.map_nil] at a1 a3
  unfold trD
  simp only [ir__law_track, denF, denMs, denM, den, dens, denS, denC, denO, Res.bind, ofO, isTys, isTy, asgT, asgTs, wipeP, parSet, frzL, slotOf, atom, calmR, seqOf, intOf, negD, List.map_cons, List.map_nil, List.cons_append, List.nil_append, List.getElem?_cons_zero, List.getElem?_cons_succ, List.set_cons_zero, List.set_cons_succ, Option.map_some, Option.map_none, Option.bind_some, truthD, if_true, if_false, Bool.false_eq_true, Bool.not_true, Bool.not_false, Bool.and_true, Bool.true_and, Bool.and_false, Bool.false_and, Bool.or_false, Bool.false_or, Bool.true_or, Bool.or_true, List.length_cons, List.length_nil, ite_true, ite_false, PD.add_int, PD.sub_int, Nat.reduceAdd, Nat.reduceSub, Nat.zero_add, List.reduceReplicate, List.replicate_zero, List.append_nil, a1, a2, a3, a4, fd, if_pos l8.1, if_pos l8.2, if_pos two_le_line.1]
theorem ok_tracks {hs : HS} (I : HandOk hs) : ∃ (ts : List Tr) (hs' : HS), TrsOk ts ∧ HandOk hs' ∧ Does dx 21 [.hnd, .int 4] hs (trsD ts) hs' := by
  obtain ⟨d, h1, d0, d1, I1, q1⟩ := ok_draw (b := 4) (by decide) (by decide) I
  obtain ⟨xs, h2, e, I2, l2, p2⟩ := lcL_draw (f := lcTurn (Ph dx 21) noPsi noThk [2] (.nm 2) .tt (.call 20 (.cons (.var 0) .nil)) [.val .hnd, .val (.int 4), .no]) (I := HandOk) (P := fun x => ∃ t, TrOk t ∧ x = trD t) (its := rangeD 0 (1 + d).toNat) I1 (fun dd _ h I => by
    obtain ⟨t, h', o, I', q⟩ := ok_track I
    have a := q.at 21 (by decide) (by decide)
    refine ⟨trD t, h', turn_tt (ρ' := [.val .hnd, .val (.int 4), .val dd]) rfl ?_, I', t, o, rfl⟩
    generalize trD t = tD at a ⊢
    simp only [denF, denMs, denM, den, dens, denS, denC, denO, Res.bind, ofO, isTys, isTy, asgT, asgTs, wipeP, parSet, frzL, slotOf, atom, calmR, seqOf, intOf, negD, List.map_cons, List.map_nil, List.cons_append, List.nil_append, List.getElem?_cons_zero, List.getElem?_cons_succ, List.set_cons_zero, List.set_cons_succ, Option.map_some, Option.map_none, Option.bind_some, truthD, if_true, if_false, Bool.false_eq_true, Bool.not_true, Bool.not_false, Bool.and_true, Bool.true_and, Bool.and_false, Bool.false_and, Bool.or_false, Bool.false_or, Bool.true_or, Bool.or_true, List.length_cons, List.length_nil, ite_true, ite_false, PD.add_int, PD.sub_int, Nat.reduceAdd, Nat.reduceSub, Nat.zero_add, List.reduceReplicate, List.replicate_zero, List.append_nil, a])
  have hx : ∃ ts : List Tr, xs = ts.map trD ∧ ∀ t ∈ ts, TrOk t := by
    clear e l2
    induction xs with
    | nil => exact ⟨[], rfl, fun _ z => nomatch z⟩
    | cons x r ih =>
      obtain ⟨t, o, rfl⟩ := p2 x List.mem_cons_self
      obtain ⟨ts, rfl, o2⟩ := ih fun y hy => p2 y (List.mem_cons_of_mem _ hy)
      refine ⟨t :: ts, rfl, fun u hu => ?_⟩
      rcases List.mem_cons.mp hu with rfl | hu
      · exact o
      · exact o2 u hu
  obtain ⟨ts, rfl, o⟩ := hx
  rw [List.length_map, rangeD_length] at l2
  refine ⟨ts, h2, ⟨by omega, by omega, o⟩, I2, does_of rfl rfl ?_⟩
  have a1 := q1.at 21 (by decide) (by decide)
  have hr : inR (1 + d) = true := inR_small (by omega) (by omega)
  have hl : (rangeD 0 (1 + d).toNat).length ≤ line := by
    rw [rangeD_length]
    unfold line
    omega
  have lc : den (Ph dx 21) noPsi noThk (.lc [2] (.nm 2) (.rng1 (.bin .add (.lit (.int 1)) (.call 18 (.cons (.var 0) (.cons (.var 1) .nil))))) .tt (.call 20 (.cons (.var 0) .nil))) [.val .hnd, .val (.int 4), .no] hs = .ok (.lst (ts.map trD)) h2 := by
    have hs1 : denS (Ph dx 21) noPsi noThk (.rng1 (.bin .add (.lit (.int 1)) (.call 18 (.cons (.var 0) (.cons (.var 1) .nil))))) [.val .hnd, .val (.int 4), .no] hs = .ok (rangeD 0 (1 + d).toNat) h1 := by
      simp only [denF, denMs, denM, den, dens, denS, denC, denO, Res.bind, ofO, isTys, isTy, asgT, asgTs, wipeP, parSet, frzL, slotOf, atom, calmR, seqOf, intOf, negD, List.map_cons, List.map_nil, List.cons_append, List.nil_append, List.getElem?_cons_zero, List.getElem?_cons_succ, List.set_cons_zero, List.set_cons_succ, Option.map_some, Option.map_none, Option.bind_some, truthD, if_true, if_false, Bool.false_eq_true, Bool.not_true, Bool.not_false, Bool.and_true, Bool.true_and, Bool.and_false, Bool.false_and, Bool.or_false, Bool.false_or, Bool.true_or, Bool.or_true, List.length_cons, List.length_nil, ite_true, ite_false, PD.add_int, PD.sub_int, Nat.reduceAdd, Nat.reduceSub, Nat.zero_add, List.reduceReplicate, List.replicate_zero, List.append_nil, a1, hr]
    exact lc_of hs1 hl e
  refine f_rt (ms_rt ?_)
  have ht : biD .tuple [.lst (ts.map trD)] = some (trsD ts) := rfl
  have ed : denM (Ph dx 21) noPsi noThk (.ret (.bi .tuple (.cons (.lc [2] (.nm 2) (.rng1 (.bin .add (.lit (.int 1)) (.call 18 (.cons (.var 0) (.cons (.var 1) .nil))))) .tt (.call 20 (.cons (.var 0) .nil))) .nil))) [.val .hnd, .val (.int 4), .no] hs = .ok (.rt (trsD ts)) h2 := by
    rw [denM, den, dens, lc]
    simp only [Res.bind, dens, ofO, ht]
  exact ed

theorem ok_low {a b : Nat} (hb : 0 < b) (hb2 : b ≤ 120) (h : HS) : Does dx 22 [.int a, .int b] h (.tup [.int (a / Nat.gcd a b : Nat), .int (b / Nat.gcd a b : Nat)]) h := by
  refine does_of rfl rfl ?_
  obtain ⟨ρ, h', e, rfl, rfl⟩ := whl_inv (Φ := Ph dx 22) (Ψ := noPsi) (thk := noThk) (c := .val (.cmp .gt (.var 3) (.lit (.int 0)))) (b := .cons (.par [(2, false), (3, false)] (.cons (.var 3) (.cons (.bin .mod (.bi .int (.cons (.var 2) .nil)) (.var 3)) .nil))) .nil)
    (ρ := [.val (.int (a : Int)), .val (.int (b : Int)), .val (.int (a : Int)), .val (.int (b : Int))]) (h := h)
    (fun m ρ h' => ∃ x : Nat, ρ = [.val (.int (a : Int)), .val (.int (b : Int)), .val (.int (x : Int)), .val (.int (m : Int))] ∧ Nat.gcd x m = Nat.gcd a b ∧ h' = h)
    (fun ρ h' => ρ = [.val (.int (a : Int)), .val (.int (b : Int)), .val (.int (Nat.gcd a b : Int)), .val (.int 0)] ∧ h' = h) (m := b) ⟨a, rfl, rfl, rfl⟩ (by
    rintro m ρ h' ⟨x, rfl, hg, rfl⟩
    by_cases hm : m = 0
    · subst hm
      left
      refine ⟨h', ?_, ?_, rfl⟩
      · have e : decide ((0 : Int) < ((0 : Nat) : Int)) = false := decide_eq_false (by omega)
        simp only [denF, denMs, denM, den, dens, denS, denC, denO, Res.bind, ofO, isTys, isTy, asgT, asgTs, wipeP, parSet, frzL, slotOf, atom, calmR, seqOf, intOf, negD, List.map_cons, List.map_nil, List.cons_append, List.nil_append, List.getElem?_cons_zero, List.getElem?_cons_succ, List.set_cons_zero, List.set_cons_succ, Option.map_some, Option.map_none, Option.bind_some, truthD, if_true, if_false, Bool.false_eq_true, Bool.not_true, Bool.not_false, Bool.and_true, Bool.true_and, Bool.and_false, Bool.false_and, Bool.or_false, Bool.false_or, Bool.true_or, Bool.or_true, List.length_cons, List.length_nil, ite_true, ite_false, PD.add_int, PD.sub_int, Nat.reduceAdd, Nat.reduceSub, Nat.zero_add, List.reduceReplicate, List.replicate_zero, List.append_nil, cmpD, e]
      · rw [← hg, Nat.gcd_zero_right]
        rfl
    · right
      refine ⟨h', [.val (.int (a : Int)), .val (.int (b : Int)), .val (.int (m : Int)), .val (.int ((x % m : Nat) : Int))], h', ?_, .inl ?_, x % m, Nat.mod_lt _ (Nat.pos_of_ne_zero hm), m, rfl, ?_, rfl⟩
      · have e : decide ((0 : Int) < (m : Int)) = true := decide_eq_true (by omega)
        simp only [denF, denMs, denM, den, dens, denS, denC, denO, Res.bind, ofO, isTys, isTy, asgT, asgTs, wipeP, parSet, frzL, slotOf, atom, calmR, seqOf, intOf, negD, List.map_cons, List.map_nil, List.cons_append, List.nil_append, List.getElem?_cons_zero, List.getElem?_cons_succ, List.set_cons_zero, List.set_cons_succ, Option.map_some, Option.map_none, Option.bind_some, truthD, if_true, if_false, Bool.false_eq_true, Bool.not_true, Bool.not_false, Bool.and_true, Bool.true_and, Bool.and_false, Bool.false_and, Bool.or_false, Bool.false_or, Bool.true_or, Bool.or_true, List.length_cons, List.length_nil, ite_true, ite_false, PD.add_int, PD.sub_int, Nat.reduceAdd, Nat.reduceSub, Nat.zero_add, List.reduceReplicate, List.replicate_zero, List.append_nil, cmpD, e]
      · simp only [denF, denMs, denM, den, dens, denS, denC, denO, Res.bind, ofO, isTys, isTy, asgT, asgTs, wipeP, parSet, frzL, slotOf, atom, calmR, seqOf, intOf, negD, List.map_cons, List.map_nil, List.cons_append, List.nil_append, List.getElem?_cons_zero, List.getElem?_cons_succ, List.set_cons_zero, List.set_cons_succ, Option.map_some, Option.map_none, Option.bind_some, truthD, if_true, if_false, Bool.false_eq_true, Bool.not_true, Bool.not_false, Bool.and_true, Bool.true_and, Bool.and_false, Bool.false_and, Bool.or_false, Bool.false_or, Bool.true_or, Bool.or_true, List.length_cons, List.length_nil, ite_true, ite_false, PD.add_int, PD.sub_int, Nat.reduceAdd, Nat.reduceSub, Nat.zero_add, List.reduceReplicate, List.replicate_zero, List.append_nil, bi_int, mod_ok (i := (x : Int)) (j := (m : Int)) (by omega), fmod_nat]
      · rw [← hg]
        exact (Nat.gcd_comm _ _).trans ((Nat.gcd_rec m x).symm.trans (Nat.gcd_comm _ _)))
  obtain ⟨g1, g2⟩ := gcd_small (a := a) hb hb2
  have a2 : binD .fdiv (.int (a : Int)) (.int (Nat.gcd a b : Nat)) = some (.int (a / Nat.gcd a b : Nat)) := by rw [fdiv_ok g1 g2, fdiv_nat]
  have a3 : binD .fdiv (.int (b : Int)) (.int (Nat.gcd a b : Nat)) = some (.int (b / Nat.gcd a b : Nat)) := by rw [fdiv_ok g1 g2, fdiv_nat]
  refine f_rt ((ms_nx (ρ' := [.val (.int (a : Int)), .val (.int (b : Int)), .val (.int (a : Int)), .val (.int (b : Int))]) (h' := h') (by simp only [denF, denMs, denM, den, dens, denS, denC, denO, Res.bind, ofO, isTys, isTy, asgT, asgTs, wipeP, parSet, frzL, slotOf, atom, calmR, seqOf, intOf, negD, List.map_cons, List.map_nil, List.cons_append, List.nil_append, List.getElem?_cons_zero, List.getElem?_cons_succ, List.set_cons_zero, List.set_cons_succ, Option.map_some, Option.map_none, Option.bind_some, truthD, if_true, if_false, Bool.false_eq_true, Bool.not_true, Bool.not_false, Bool.and_true, Bool.true_and, Bool.and_false, Bool.false_and, Bool.or_false, Bool.false_or, Bool.true_or, Bool.or_true, List.length_cons, List.length_nil, ite_true, ite_false, PD.add_int, PD.sub_int, Nat.reduceAdd, Nat.reduceSub, Nat.zero_add, List.reduceReplicate, List.replicate_zero, List.append_nil])).trans ((ms_nx e).trans ?_))
  generalize Nat.gcd a b = g at a2 a3 ⊢
  generalize (a / g : Nat) = x at a2 ⊢
  generalize (b / g : Nat) = y at a3 ⊢
  simp only [denF, denMs, denM, den, dens, denS, denC, denO, Res.bind, ofO, isTys, isTy, asgT, asgTs, wipeP, parSet, frzL, slotOf, atom, calmR, seqOf, intOf, negD, List.map_cons, List.map_nil, List.cons_append, List.nil_append, List.getElem?_cons_zero, List.getElem?_cons_succ, List.set_cons_zero, List.set_cons_succ, Option.map_some, Option.map_none, Option.bind_some, truthD, if_true, if_false, Bool.false_eq_true, Bool.not_true, Bool.not_false, Bool.and_true, Bool.true_and, Bool.and_false, Bool.false_and, Bool.or_false, Bool.false_or, Bool.true_or, Bool.or_true, List.length_cons, List.length_nil, ite_true, ite_false, PD.add_int, PD.sub_int, Nat.reduceAdd, Nat.reduceSub, Nat.zero_add, List.reduceReplicate, List.replicate_zero, List.append_nil, a2, a3, if_pos two_le_line.1]
theorem rnd_step (t : Tr) (h' : HS) (Ri ai gi li : Int) (X w : D) (a1 : Ph dx 23 22 [D.int Ri, D.int t.1] h' = .ok w h') (aw : ixD h' w (.int 0) = some (.int ai)) (a2 : binD .mul (.int Ri) (.int t.1) = some (.int (Ri * t.1))) (a4 : binD .fdiv (.int Ri) (.int ai) = some (.int gi)) (a3 : binD .fdiv (.int (Ri * t.1)) (.int gi) = some (.int li)) :
    denMs (Ph dx 23) noPsi noThk (.cons (.set 1 (.bin .fdiv (.bin .mul (.var 1) (.var 2)) (.bin .fdiv (.var 1) (.ix (.call 22 (.cons (.var 1) (.cons (.var 2) .nil))) (.lit (.int 0)))))) .nil) [.val X, .val (.int Ri), .val (.int t.1), .val (.int t.2.1), .val (.int t.2.2)] h' = .ok (.nx [.val X, .val (.int li), .val (.int t.1), .val (.int t.2.1), .val (.int t.2.2)]) h' := by
  simp only [denF, denMs, denM, den, dens, denS, denC, denO, Res.bind, ofO, isTys, isTy, asgT, asgTs, wipeP, parSet, frzL, slotOf, atom, calmR, seqOf, intOf, negD, List.map_cons, List.map_nil, List.cons_append, List.nil_append, List.getElem?_cons_zero, List.getElem?_cons_succ, List.set_cons_zero, List.set_cons_succ, Option.map_some, Option.map_none, Option.bind_some, truthD, if_true, if_false, Bool.false_eq_true, Bool.not_true, Bool.not_false, Bool.and_true, Bool.true_and, Bool.and_false, Bool.false_and, Bool.or_false, Bool.false_or, Bool.true_or, Bool.or_true, List.length_cons, List.length_nil, ite_true, ite_false, PD.add_int, PD.sub_int, Nat.reduceAdd, Nat.reduceSub, Nat.zero_add, List.reduceReplicate, List.replicate_zero, List.append_nil, a1, aw, a2, a4, a3]
theorem s_seq {Φ : Nat → List D → HS → Res D} {ρ : PEnv} {h : HS} {i : Nat} {xs : List D} (e : ρ[i]? = some (.val (.tup xs))) : denS Φ noPsi noThk (.val (.var i)) ρ h = .ok xs h := by
  simp only [denS, den, e, Res.bind, seqOf, ofO]
theorem ok_round {ts : List Tr} (o : TrsOk ts) (h : HS) : Does dx 23 [trsD ts] h (.int (rnd ts)) h := by
  refine does_of rfl rfl ?_
  obtain ⟨ρ, h', e, ⟨s2, s3, s4, rfl⟩, rfl⟩ := for_inv (Φ := Ph dx 23) (Ψ := noPsi) (thk := noThk) (t := .tp (.cons (.nm 2) (.cons (.nm 3) (.cons (.nm 4) .nil)))) (s := .val (.var 0)) (b := .cons (.set 1 (.bin .fdiv (.bin .mul (.var 1) (.var 2)) (.bin .fdiv (.var 1) (.ix (.call 22 (.cons (.var 1) (.cons (.var 2) .nil))) (.lit (.int 0)))))) .nil)
    (its := ts.map trD) (ρ := [.val (trsD ts), .val (.int 1), .no, .no, .no]) (h := h) (h1 := h) (fun k ρ h' => (∃ s2 s3 s4, ρ = [.val (trsD ts), .val (.int (rndA 1 (ts.take k) : Nat)), s2, s3, s4]) ∧ h' = h) (s_seq rfl) ⟨⟨.no, .no, .no, rfl⟩, rfl⟩ (by
    rintro i d ρ h' hd ⟨⟨s2, s3, s4, rfl⟩, rfl⟩
    rw [List.getElem?_map, Option.map_eq_some_iff] at hd
    obtain ⟨t, ht, rfl⟩ := hd
    obtain ⟨hi, et⟩ := List.getElem?_eq_some_iff.mp ht
    have ot := o.2.2 t (List.mem_of_getElem? ht)
    obtain ⟨n1, n2, n3⟩ := tr_nat ot
    have hd : rndA 1 (ts.take i) ∣ 120 := rndA_dvd _ 1 (Nat.one_dvd _) fun u hu => o.2.2 u (List.mem_of_mem_take hu)
    have hR : 0 < rndA 1 (ts.take i) := Nat.pos_of_dvd_of_pos hd (by decide)
    have hR2 : rndA 1 (ts.take i) ≤ 120 := Nat.le_of_dvd (by decide) hd
    have es : rndA 1 (ts.take (i + 1)) = Nat.lcm (rndA 1 (ts.take i)) t.1.natAbs := by
      rw [List.take_succ_eq_append_getElem hi, et]
      unfold rndA
      rw [List.foldl_append]
      rfl
    have a1 : Ph dx 23 22 [.int (rndA 1 (ts.take i) : Nat), .int t.1] h' = .ok (.tup [.int (rndA 1 (ts.take i) / Nat.gcd (rndA 1 (ts.take i)) t.1.natAbs : Nat), .int (t.1.natAbs / Nat.gcd (rndA 1 (ts.take i)) t.1.natAbs : Nat)]) h' := by
      have z := (ok_low (a := rndA 1 (ts.take i)) n2 n3 h').at 23 (by decide) (by decide)
      rwa [← n1] at z
    have a2 : binD .mul (.int (rndA 1 (ts.take i) : Nat)) (.int t.1) = some (.int ((rndA 1 (ts.take i) : Nat) * t.1)) := mul_r (by omega) (by omega)
    have a3 : binD .fdiv (.int ((rndA 1 (ts.take i) : Nat) * t.1)) (.int (Nat.gcd (rndA 1 (ts.take i)) t.1.natAbs : Nat)) = some (.int (Nat.lcm (rndA 1 (ts.take i)) t.1.natAbs : Nat)) := by
      have z := lcm_div (rndA 1 (ts.take i)) t.1.natAbs n2 n3
      rwa [← n1] at z
    rw [← es] at a3
    generalize rndA 1 (ts.take (i + 1)) = L at a3 ⊢
    clear es hd
    generalize rndA 1 (ts.take i) = R at a1 a2 a3 hR hR2 ⊢
    have gd : Nat.gcd R t.1.natAbs ∣ R := Nat.gcd_dvd_left _ _
    have gp : 0 < Nat.gcd R t.1.natAbs := Nat.gcd_pos_of_pos_left _ hR
    generalize Nat.gcd R t.1.natAbs = g at a1 a3 gd gp
    obtain ⟨c, rfl⟩ := gd
    have hc : 0 < c := Nat.pos_of_mul_pos_left hR
    have ec : g * c / g = c := Nat.mul_div_cancel_left c gp
    rw [ec] at a1
    have hcle : c ≤ g * c := Nat.le_mul_of_pos_left c gp
    have a4 : binD .fdiv (.int ((g * c : Nat) : Int)) (.int (c : Nat)) = some (.int (g : Nat)) := by
      rw [fdiv_ok (by omega) (by omega), fdiv_nat, Nat.mul_div_cancel g hc]
    exact ⟨_, _, h', asg_trk _ _ _ _ _ _, .inl (rnd_step t h' _ _ _ _ _ _ a1 (ixt_nat (k := 0) rfl) a2 a4 a3), ⟨_, _, _, rfl⟩, rfl⟩)
  rw [List.length_map, List.take_length] at e
  refine f_rt ((ms_nx (ρ' := [.val (trsD ts), .val (.int 1), .no, .no, .no]) (h' := h') ?_).trans ((ms_nx e).trans ?_))
  · generalize trsD ts = tD
    simp only [denF, denMs, denM, den, dens, denS, denC, denO, Res.bind, ofO, isTys, isTy, asgT, asgTs, wipeP, parSet, frzL, slotOf, atom, calmR, seqOf, intOf, negD, List.map_cons, List.map_nil, List.cons_append, List.nil_append, List.getElem?_cons_zero, List.getElem?_cons_succ, List.set_cons_zero, List.set_cons_succ, Option.map_some, Option.map_none, Option.bind_some, truthD, if_true, if_false, Bool.false_eq_true, Bool.not_true, Bool.not_false, Bool.and_true, Bool.true_and, Bool.and_false, Bool.false_and, Bool.or_false, Bool.false_or, Bool.true_or, Bool.or_true, List.length_cons, List.length_nil, ite_true, ite_false, PD.add_int, PD.sub_int, Nat.reduceAdd, Nat.reduceSub, Nat.zero_add, List.reduceReplicate, List.replicate_zero, List.append_nil]
  · generalize trsD ts = tD
    simp only [denF, denMs, denM, den, dens, denS, denC, denO, Res.bind, ofO, isTys, isTy, asgT, asgTs, wipeP, parSet, frzL, slotOf, atom, calmR, seqOf, intOf, negD, List.map_cons, List.map_nil, List.cons_append, List.nil_append, List.getElem?_cons_zero, List.getElem?_cons_succ, List.set_cons_zero, List.set_cons_succ, Option.map_some, Option.map_none, Option.bind_some, truthD, if_true, if_false, Bool.false_eq_true, Bool.not_true, Bool.not_false, Bool.and_true, Bool.true_and, Bool.and_false, Bool.false_and, Bool.or_false, Bool.false_or, Bool.true_or, Bool.or_true, List.length_cons, List.length_nil, ite_true, ite_false, PD.add_int, PD.sub_int, Nat.reduceAdd, Nat.reduceSub, Nat.zero_add, List.reduceReplicate, List.replicate_zero, List.append_nil]
    rfl
theorem ok_lis {ts : List Tr} (o : TrsOk ts) (s : Int) (h : HS) : Does dx 24 [trsD ts, .int s] h (.bl (shTs ts s)) h := by
  refine does_of rfl rfl ?_
  have hl2 : (ts.map trD).length ≤ line := by rw [List.length_map]; have := o.2.1; unfold line; omega
  have lc : den (Ph dx 24) noPsi noThk (.lc [2, 3, 4] (.tp (.cons (.nm 2) (.cons (.nm 3) (.cons (.nm 4) .nil)))) (.val (.var 0)) .tt (.cmp .lt (.bin .mod (.bi .int (.cons (.bin .sub (.var 1) (.var 3)) .nil)) (.var 2)) (.var 4))) [.val (trsD ts), .val (.int s), .no, .no, .no] h = .ok (.lst (ts.map fun t => D.bl (shT t s))) h :=
    lc_of (s_seq rfl) hl2 (lcL_mapm fun t ht => turn_tt (asg_trk t _ _ _ _ _) (by
      have m := mod_ok (i := s - t.2.1) (j := t.1) (by have := (o.2.2 t ht).p2; omega)
      simp only [denF, denMs, denM, den, dens, denS, denC, denO, Res.bind, ofO, isTys, isTy, asgT, asgTs, wipeP, parSet, frzL, slotOf, atom, calmR, seqOf, intOf, negD, List.map_cons, List.map_nil, List.cons_append, List.nil_append, List.getElem?_cons_zero, List.getElem?_cons_succ, List.set_cons_zero, List.set_cons_succ, Option.map_some, Option.map_none, Option.bind_some, truthD, if_true, if_false, Bool.false_eq_true, Bool.not_true, Bool.not_false, Bool.and_true, Bool.true_and, Bool.and_false, Bool.false_and, Bool.or_false, Bool.false_or, Bool.true_or, Bool.or_true, List.length_cons, List.length_nil, ite_true, ite_false, PD.add_int, PD.sub_int, Nat.reduceAdd, Nat.reduceSub, Nat.zero_add, List.reduceReplicate, List.replicate_zero, List.append_nil, bi_int, m, cmpD]
      rfl))
  have e : (ts.map fun t => D.bl (shT t s)) = (ts.map fun t => shT t s).map D.bl := by rw [List.map_map]; rfl
  rw [e] at lc
  have hb : biD .any [.lst ((ts.map fun t => shT t s).map D.bl)] = some (.bl (shTs ts s)) := by
    simp only [biD, dBls_map, Option.map_some, any_shT]
  exact f_rt (ms_rt (m_ret (e_bi lc hb)))
theorem ok_lshut {ts : List Tr} (o : TrsOk ts) (h : HS) : Does dx 25 [trsD ts] h (flD ts) h := by
  refine does_of rfl rfl ?_
  have a2 : Ph dx 25 23 [trsD ts] h = .ok (.int (rnd ts)) h := (ok_round o h).at _ (by decide) (by decide)
  have hl : (rangeD 0 (rnd ts)).length ≤ line := by
    rw [rangeD_length]
    have := rnd_le o.2.2
    unfold line
    omega
  have hs1 : denS (Ph dx 25) noPsi noThk (.rng1 (.call 23 (.cons (.var 0) .nil))) [.val (trsD ts), .no] h = .ok (rangeD 0 (rnd ts)) h := s_rng1 (by
    generalize trsD ts = tD at a2 ⊢
    simp only [denF, denMs, denM, den, dens, denS, denC, denO, Res.bind, ofO, isTys, isTy, asgT, asgTs, wipeP, parSet, frzL, slotOf, atom, calmR, seqOf, intOf, negD, List.map_cons, List.map_nil, List.cons_append, List.nil_append, List.getElem?_cons_zero, List.getElem?_cons_succ, List.set_cons_zero, List.set_cons_succ, Option.map_some, Option.map_none, Option.bind_some, truthD, if_true, if_false, Bool.false_eq_true, Bool.not_true, Bool.not_false, Bool.and_true, Bool.true_and, Bool.and_false, Bool.false_and, Bool.or_false, Bool.false_or, Bool.true_or, Bool.or_true, List.length_cons, List.length_nil, ite_true, ite_false, PD.add_int, PD.sub_int, Nat.reduceAdd, Nat.reduceSub, Nat.zero_add, List.reduceReplicate, List.replicate_zero, List.append_nil, a2]) (by have := rnd_le o.2.2; omega)
  have lc : den (Ph dx 25) noPsi noThk (.lc [1] (.nm 1) (.rng1 (.call 23 (.cons (.var 0) .nil))) .tt (.call 24 (.cons (.var 0) (.cons (.var 1) .nil)))) [.val (trsD ts), .no] h = .ok (.lst ((List.range (rnd ts)).map fun k : Nat => D.bl (shTs ts (0 + (k : Int))))) h :=
    lc_of hs1 hl (lcL_mapm (u := fun (k : Nat) => D.int (0 + (k : Int))) (g := fun k : Nat => D.bl (shTs ts (0 + (k : Int)))) fun k _ => turn_tt (ρ' := [.val (trsD ts), .val (.int (0 + (k : Int)))]) rfl (by
    have a3 : Ph dx 25 24 [trsD ts, .int (0 + (k : Int))] h = .ok (.bl (shTs ts (0 + (k : Int)))) h := (ok_lis o _ h).at _ (by decide) (by decide)
    generalize trsD ts = tD at a3 ⊢
    generalize D.int (0 + (k : Int)) = kD at a3 ⊢
    simp only [denF, denMs, denM, den, dens, denS, denC, denO, Res.bind, ofO, isTys, isTy, asgT, asgTs, wipeP, parSet, frzL, slotOf, atom, calmR, seqOf, intOf, negD, List.map_cons, List.map_nil, List.cons_append, List.nil_append, List.getElem?_cons_zero, List.getElem?_cons_succ, List.set_cons_zero, List.set_cons_succ, Option.map_some, Option.map_none, Option.bind_some, truthD, if_true, if_false, Bool.false_eq_true, Bool.not_true, Bool.not_false, Bool.and_true, Bool.true_and, Bool.and_false, Bool.false_and, Bool.or_false, Bool.false_or, Bool.true_or, Bool.or_true, List.length_cons, List.length_nil, ite_true, ite_false, PD.add_int, PD.sub_int, Nat.reduceAdd, Nat.reduceSub, Nat.zero_add, List.reduceReplicate, List.replicate_zero, List.append_nil, a3]))
  have e : flD ts = .lst ((List.range (rnd ts)).map fun k : Nat => D.bl (shTs ts (0 + (k : Int)))) := by
    unfold flD fl
    rw [List.map_map]
    rfl
  rw [e]
  exact f_rt (ms_rt (m_ret lc))

theorem run_snoc (g : Nat → Bool) : ∀ (k s : Nat), PD.run g s (k + 1) = if (decide (PD.run g s k = k) && g (s + k)) = true then k + 1 else PD.run g s k
  | 0, s => by
    simp only [PD.run, Nat.add_zero, decide_true, Bool.true_and]
  | k + 1, s => by
    have ih := run_snoc g k (s + 1)
    rw [show s + (k + 1) = s + 1 + k by omega]
    have e1 : PD.run g s (k + 1 + 1) = if g s then 1 + PD.run g (s + 1) (k + 1) else 0 := rfl
    have e2 : PD.run g s (k + 1) = if g s then 1 + PD.run g (s + 1) k else 0 := rfl
    rw [e1, e2, ih]
    cases g s with
    | false => simp
    | true =>
      simp only [if_true]
      by_cases h1 : PD.run g (s + 1) k = k
      · rw [h1]
        have : decide (1 + k = k + 1) = true := decide_eq_true (by omega)
        rw [this, decide_eq_true (rfl : k = k)]
        cases g (s + 1 + k) <;> simp <;> omega
      · have : decide (1 + PD.run g (s + 1) k = k + 1) = false := decide_eq_false (by omega)
        rw [this, decide_eq_false h1]
        simp
theorem asg_5 (d : D) (a b c e f g : PD.Slot) : asgT (.nm 5) d [a, b, c, e, f, g] = some [a, b, c, e, f, .val d] := rfl
theorem asg_1 (d : D) (a b c e f g : PD.Slot) : asgT (.nm 1) d [a, b, c, e, f, g] = some [a, .val d, c, e, f, g] := rfl
theorem lr_in {ts : List Tr} (o : TrsOk ts) (s : Nat) (h : HS) (F s5 : PD.Slot) : ∃ s5', denM (Ph dx 26) noPsi noThk (.for_ (.nm 5) (.rng1 (.var 2)) (.cons (.ite (.and (.val (.cmp .eq (.var 4) (.var 5))) (.val (.ix (.var 0) (.bin .mod (.bi .int (.cons (.bin .add (.var 1) (.var 5)) .nil)) (.var 2)))))
          (.cons (.set 4 (.bin .add (.var 5) (.lit (.int 1))))
          .nil)
          .nil)
        .nil)) [.val (flD ts), .val (.int (s : Int)), .val (.int (rnd ts : Int)), F, .val (.int 0), s5] h =
    .ok (.nx [.val (flD ts), .val (.int (s : Int)), .val (.int (rnd ts : Int)), F, .val (.int (PD.run (gOf ts) s (rnd ts) : Nat)), s5']) h := by
  obtain ⟨ρ', h', e, ⟨x5, rfl⟩, rfl⟩ := for_inv (Φ := Ph dx 26) (Ψ := noPsi) (thk := noThk) (t := .nm 5) (s := .rng1 (.var 2)) (b := (.cons (.ite (.and (.val (.cmp .eq (.var 4) (.var 5))) (.val (.ix (.var 0) (.bin .mod (.bi .int (.cons (.bin .add (.var 1) (.var 5)) .nil)) (.var 2)))))
          (.cons (.set 4 (.bin .add (.var 5) (.lit (.int 1))))
          .nil)
          .nil)
        .nil)) (its := rangeD 0 (rnd ts)) (ρ := [.val (flD ts), .val (.int (s : Int)), .val (.int (rnd ts : Int)), F, .val (.int 0), s5]) (h := h) (h1 := h)
    (fun k ρ h' => (∃ x5, ρ = [.val (flD ts), .val (.int (s : Int)), .val (.int (rnd ts : Int)), F, .val (.int (PD.run (gOf ts) s k : Nat)), x5]) ∧ h' = h) (s_rng1 (by simp only [den, List.getElem?_cons_succ, List.getElem?_cons_zero]) (by have := rnd_le o.2.2; omega)) ⟨⟨s5, rfl⟩, rfl⟩ (by
    rintro i d ρ h' hd ⟨⟨x5, rfl⟩, rfl⟩
    obtain ⟨rfl, hi⟩ := rangeD_at hd
    rw [Int.zero_add]
    have a1 : binD .mod (.int ((s : Int) + (i : Int))) (.int (rnd ts : Int)) = some (.int (((s + i : Nat) : Int).fmod (rnd ts : Int))) := by
      rw [mod_ok (by have := rnd_pos o.2.2; omega), Int.natCast_add]
    have a2 := fl_ixm (h := h') o.2.2 (s + i)
    have rs := run_snoc (gOf ts) i s
    refine ⟨_, [.val (flD ts), .val (.int (s : Int)), .val (.int (rnd ts : Int)), F, .val (.int (PD.run (gOf ts) s (i + 1) : Nat)), .val (.int (i : Int))], h', asg_5 _ _ _ _ _ _ _, .inl ?_, ⟨_, rfl⟩, rfl⟩
    rw [rs]
    clear rs hd
    generalize gOf ts (s + i) = gb at a2 ⊢
    generalize PD.run (gOf ts) s i = r
    generalize flD ts = fD at a2 ⊢
    by_cases hr : r = i
    · have d1 : decide ((r : Int) = (i : Int)) = true := decide_eq_true (by omega)
      have d2 : decide (r = i) = true := decide_eq_true hr
      cases gb with
      | true =>
        simp only [denF, denMs, denM, den, dens, denS, denC, denO, Res.bind, ofO, isTys, isTy, asgT, asgTs, wipeP, parSet, frzL, slotOf, atom, calmR, seqOf, intOf, negD, List.map_cons, List.map_nil, List.cons_append, List.nil_append, List.getElem?_cons_zero, List.getElem?_cons_succ, List.set_cons_zero, List.set_cons_succ, Option.map_some, Option.map_none, Option.bind_some, truthD, if_true, if_false, Bool.false_eq_true, Bool.not_true, Bool.not_false, Bool.and_true, Bool.true_and, Bool.and_false, Bool.false_and, Bool.or_false, Bool.false_or, Bool.true_or, Bool.or_true, List.length_cons, List.length_nil, ite_true, ite_false, PD.add_int, PD.sub_int, Nat.reduceAdd, Nat.reduceSub, Nat.zero_add, List.reduceReplicate, List.replicate_zero, List.append_nil, bi_int, cmpD, eqD_int, d1, d2, a1, a2]
        rfl
      | false => simp only [denF, denMs, denM, den, dens, denS, denC, denO, Res.bind, ofO, isTys, isTy, asgT, asgTs, wipeP, parSet, frzL, slotOf, atom, calmR, seqOf, intOf, negD, List.map_cons, List.map_nil, List.cons_append, List.nil_append, List.getElem?_cons_zero, List.getElem?_cons_succ, List.set_cons_zero, List.set_cons_succ, Option.map_some, Option.map_none, Option.bind_some, truthD, if_true, if_false, Bool.false_eq_true, Bool.not_true, Bool.not_false, Bool.and_true, Bool.true_and, Bool.and_false, Bool.false_and, Bool.or_false, Bool.false_or, Bool.true_or, Bool.or_true, List.length_cons, List.length_nil, ite_true, ite_false, PD.add_int, PD.sub_int, Nat.reduceAdd, Nat.reduceSub, Nat.zero_add, List.reduceReplicate, List.replicate_zero, List.append_nil, bi_int, cmpD, eqD_int, d1, d2, a1, a2]
    · have d1 : decide ((r : Int) = (i : Int)) = false := decide_eq_false (by omega)
      have d2 : decide (r = i) = false := decide_eq_false hr
      simp only [denF, denMs, denM, den, dens, denS, denC, denO, Res.bind, ofO, isTys, isTy, asgT, asgTs, wipeP, parSet, frzL, slotOf, atom, calmR, seqOf, intOf, negD, List.map_cons, List.map_nil, List.cons_append, List.nil_append, List.getElem?_cons_zero, List.getElem?_cons_succ, List.set_cons_zero, List.set_cons_succ, Option.map_some, Option.map_none, Option.bind_some, truthD, if_true, if_false, Bool.false_eq_true, Bool.not_true, Bool.not_false, Bool.and_true, Bool.true_and, Bool.and_false, Bool.false_and, Bool.or_false, Bool.false_or, Bool.true_or, Bool.or_true, List.length_cons, List.length_nil, ite_true, ite_false, PD.add_int, PD.sub_int, Nat.reduceAdd, Nat.reduceSub, Nat.zero_add, List.reduceReplicate, List.replicate_zero, List.append_nil, bi_int, cmpD, eqD_int, d1, d2])
  rw [rangeD_length] at e
  exact ⟨x5, e⟩
theorem lr_turn {ts : List Tr} (o : TrsOk ts) (k : Nat) (hk : k < rnd ts) (h : HS) (s4 s5 : PD.Slot) (acc : List (Int × Int)) (hl : acc.length ≤ k) :
    ∃ s4' s5', denMs (Ph dx 26) noPsi noThk (.cons (.ite (.and (.val (.ix (.var 0) (.var 1))) (.not (.val (.ix (.var 0) (.bin .sub (.var 1) (.lit (.int 1)))))))
      (.cons (.set 4 (.lit (.int 0)))
      (.cons (.for_ (.nm 5) (.rng1 (.var 2))
        (.cons (.ite (.and (.val (.cmp .eq (.var 4) (.var 5))) (.val (.ix (.var 0) (.bin .mod (.bi .int (.cons (.bin .add (.var 1) (.var 5)) .nil)) (.var 2)))))
          (.cons (.set 4 (.bin .add (.var 5) (.lit (.int 1))))
          .nil)
          .nil)
        .nil))
      (.cons (.app 3 (.tup (.cons (.var 1) (.cons (.var 4) .nil))))
      .nil)))
      .nil)
    .nil) [.val (flD ts), .val (.int (k : Int)), .val (.int (rnd ts : Int)), .own (.lst (acc.map prD)), s4, s5] h =
      .ok (.nx [.val (flD ts), .val (.int (k : Int)), .val (.int (rnd ts : Int)), .own (.lst ((acc ++ rowAt (gOf ts) (rnd ts) k).map prD)), s4', s5']) h := by
  have a1 := fl_ix (h := h) hk
  have a2 := fl_ixp (h := h) o.2.2 hk
  by_cases hg : gOf ts k = true
  · by_cases hg2 : gOf ts (k + rnd ts - 1) = true
    · refine ⟨s4, s5, ?_⟩
      have er : rowAt (gOf ts) (rnd ts) k = [] := by unfold rowAt; rw [hg, hg2]; rfl
      rw [hg] at a1
      rw [hg2] at a2
      rw [er, List.append_nil]
      generalize flD ts = fD at a1 a2 ⊢
      generalize acc.map prD = ac
      have c0 : denC (Ph dx 26) noPsi noThk (.and (.val (.ix (.var 0) (.var 1))) (.not (.val (.ix (.var 0) (.bin .sub (.var 1) (.lit (.int 1))))))) [.val fD, .val (.int (k : Int)), .val (.int (rnd ts : Int)), .own (.lst ac), s4, s5] h = .ok false h := by
        simp only [denF, denMs, denM, den, dens, denS, denC, denO, Res.bind, ofO, isTys, isTy, asgT, asgTs, wipeP, parSet, frzL, slotOf, atom, calmR, seqOf, intOf, negD, List.map_cons, List.map_nil, List.cons_append, List.nil_append, List.getElem?_cons_zero, List.getElem?_cons_succ, List.set_cons_zero, List.set_cons_succ, Option.map_some, Option.map_none, Option.bind_some, truthD, if_true, if_false, Bool.false_eq_true, Bool.not_true, Bool.not_false, Bool.and_true, Bool.true_and, Bool.and_false, Bool.false_and, Bool.or_false, Bool.false_or, Bool.true_or, Bool.or_true, List.length_cons, List.length_nil, ite_true, ite_false, PD.add_int, PD.sub_int, Nat.reduceAdd, Nat.reduceSub, Nat.zero_add, List.reduceReplicate, List.replicate_zero, List.append_nil, a1, a2]
      exact (ms_nx (m_ite_f c0 ms_nil_)).trans ms_nil_
    · have hg2 : gOf ts (k + rnd ts - 1) = false := by simpa using hg2
      have er : rowAt (gOf ts) (rnd ts) k = [((k : Int), (PD.run (gOf ts) k (rnd ts) : Int))] := by unfold rowAt; rw [hg, hg2]; rfl
      obtain ⟨s5', w⟩ := lr_in o k h (.own (.lst (acc.map prD))) s5
      refine ⟨.val (.int (PD.run (gOf ts) k (rnd ts) : Int)), s5', ?_⟩
      rw [hg] at a1
      rw [hg2] at a2
      rw [er, List.map_append]
      have hll : (acc.map prD).length < line := by
        rw [List.length_map]
        have := rnd_le o.2.2
        unfold line
        omega
      have ep : [((k : Int), (PD.run (gOf ts) k (rnd ts) : Int))].map prD = [.tup [.int (k : Int), .int (PD.run (gOf ts) k (rnd ts) : Int)]] := rfl
      rw [ep]
      generalize acc.map prD = ac at w hll ⊢
      generalize PD.run (gOf ts) k (rnd ts) = rn at w ⊢
      generalize flD ts = fD at a1 a2 w ⊢
      have c1 : denC (Ph dx 26) noPsi noThk (.and (.val (.ix (.var 0) (.var 1))) (.not (.val (.ix (.var 0) (.bin .sub (.var 1) (.lit (.int 1))))))) [.val fD, .val (.int (k : Int)), .val (.int (rnd ts : Int)), .own (.lst ac), s4, s5] h = .ok true h := by
        simp only [denF, denMs, denM, den, dens, denS, denC, denO, Res.bind, ofO, isTys, isTy, asgT, asgTs, wipeP, parSet, frzL, slotOf, atom, calmR, seqOf, intOf, negD, List.map_cons, List.map_nil, List.cons_append, List.nil_append, List.getElem?_cons_zero, List.getElem?_cons_succ, List.set_cons_zero, List.set_cons_succ, Option.map_some, Option.map_none, Option.bind_some, truthD, if_true, if_false, Bool.false_eq_true, Bool.not_true, Bool.not_false, Bool.and_true, Bool.true_and, Bool.and_false, Bool.false_and, Bool.or_false, Bool.false_or, Bool.true_or, Bool.or_true, List.length_cons, List.length_nil, ite_true, ite_false, PD.add_int, PD.sub_int, Nat.reduceAdd, Nat.reduceSub, Nat.zero_add, List.reduceReplicate, List.replicate_zero, List.append_nil, a1, a2]
      have b1 : denMs (Ph dx 26) noPsi noThk (.cons (.set 4 (.lit (.int 0)))
        (.cons (.for_ (.nm 5) (.rng1 (.var 2)) (.cons (.ite (.and (.val (.cmp .eq (.var 4) (.var 5))) (.val (.ix (.var 0) (.bin .mod (.bi .int (.cons (.bin .add (.var 1) (.var 5)) .nil)) (.var 2)))))
          (.cons (.set 4 (.bin .add (.var 5) (.lit (.int 1))))
          .nil)
          .nil)
        .nil))
        (.cons (.app 3 (.tup (.cons (.var 1) (.cons (.var 4) .nil))))
        .nil))) [.val fD, .val (.int (k : Int)), .val (.int (rnd ts : Int)), .own (.lst ac), s4, s5] h = .ok (.nx [.val fD, .val (.int (k : Int)), .val (.int (rnd ts : Int)), .own (.lst (ac ++ [.tup [.int (k : Int), .int (rn : Int)]])), .val (.int (rn : Int)), s5']) h := by
        refine (ms_nx (ρ' := [.val fD, .val (.int (k : Int)), .val (.int (rnd ts : Int)), .own (.lst ac), .val (.int 0), s5]) (h' := h) (by simp only [denF, denMs, denM, den, dens, denS, denC, denO, Res.bind, ofO, isTys, isTy, asgT, asgTs, wipeP, parSet, frzL, slotOf, atom, calmR, seqOf, intOf, negD, List.map_cons, List.map_nil, List.cons_append, List.nil_append, List.getElem?_cons_zero, List.getElem?_cons_succ, List.set_cons_zero, List.set_cons_succ, Option.map_some, Option.map_none, Option.bind_some, truthD, if_true, if_false, Bool.false_eq_true, Bool.not_true, Bool.not_false, Bool.and_true, Bool.true_and, Bool.and_false, Bool.false_and, Bool.or_false, Bool.false_or, Bool.true_or, Bool.or_true, List.length_cons, List.length_nil, ite_true, ite_false, PD.add_int, PD.sub_int, Nat.reduceAdd, Nat.reduceSub, Nat.zero_add, List.reduceReplicate, List.replicate_zero, List.append_nil])).trans ((ms_nx w).trans ?_)
        simp only [denF, denMs, denM, den, dens, denS, denC, denO, Res.bind, ofO, isTys, isTy, asgT, asgTs, wipeP, parSet, frzL, slotOf, atom, calmR, seqOf, intOf, negD, List.map_cons, List.map_nil, List.cons_append, List.nil_append, List.getElem?_cons_zero, List.getElem?_cons_succ, List.set_cons_zero, List.set_cons_succ, Option.map_some, Option.map_none, Option.bind_some, truthD, if_true, if_false, Bool.false_eq_true, Bool.not_true, Bool.not_false, Bool.and_true, Bool.true_and, Bool.and_false, Bool.false_and, Bool.or_false, Bool.false_or, Bool.true_or, Bool.or_true, List.length_cons, List.length_nil, ite_true, ite_false, PD.add_int, PD.sub_int, Nat.reduceAdd, Nat.reduceSub, Nat.zero_add, List.reduceReplicate, List.replicate_zero, List.append_nil, if_pos hll, if_pos two_le_line.1]
      exact (ms_nx (m_ite_t c1 b1)).trans ms_nil_
  · have hg : gOf ts k = false := by simpa using hg
    refine ⟨s4, s5, ?_⟩
    have er : rowAt (gOf ts) (rnd ts) k = [] := by unfold rowAt; rw [hg]; rfl
    rw [hg] at a1
    rw [er, List.append_nil]
    generalize flD ts = fD at a1 ⊢
    generalize acc.map prD = ac
    have c0 : denC (Ph dx 26) noPsi noThk (.and (.val (.ix (.var 0) (.var 1))) (.not (.val (.ix (.var 0) (.bin .sub (.var 1) (.lit (.int 1))))))) [.val fD, .val (.int (k : Int)), .val (.int (rnd ts : Int)), .own (.lst ac), s4, s5] h = .ok false h := by
      simp only [denF, denMs, denM, den, dens, denS, denC, denO, Res.bind, ofO, isTys, isTy, asgT, asgTs, wipeP, parSet, frzL, slotOf, atom, calmR, seqOf, intOf, negD, List.map_cons, List.map_nil, List.cons_append, List.nil_append, List.getElem?_cons_zero, List.getElem?_cons_succ, List.set_cons_zero, List.set_cons_succ, Option.map_some, Option.map_none, Option.bind_some, truthD, if_true, if_false, Bool.false_eq_true, Bool.not_true, Bool.not_false, Bool.and_true, Bool.true_and, Bool.and_false, Bool.false_and, Bool.or_false, Bool.false_or, Bool.true_or, Bool.or_true, List.length_cons, List.length_nil, ite_true, ite_false, PD.add_int, PD.sub_int, Nat.reduceAdd, Nat.reduceSub, Nat.zero_add, List.reduceReplicate, List.replicate_zero, List.append_nil, a1]
    exact (ms_nx (m_ite_f c0 ms_nil_)).trans ms_nil_
theorem lr_loop {ts : List Tr} (o : TrsOk ts) (h : HS) (s1 s4 s5 : PD.Slot) : ∃ s1' s4' s5', denM (Ph dx 26) noPsi noThk (.for_ (.nm 1) (.rng1 (.var 2)) (.cons (.ite (.and (.val (.ix (.var 0) (.var 1))) (.not (.val (.ix (.var 0) (.bin .sub (.var 1) (.lit (.int 1)))))))
      (.cons (.set 4 (.lit (.int 0)))
      (.cons (.for_ (.nm 5) (.rng1 (.var 2))
        (.cons (.ite (.and (.val (.cmp .eq (.var 4) (.var 5))) (.val (.ix (.var 0) (.bin .mod (.bi .int (.cons (.bin .add (.var 1) (.var 5)) .nil)) (.var 2)))))
          (.cons (.set 4 (.bin .add (.var 5) (.lit (.int 1))))
          .nil)
          .nil)
        .nil))
      (.cons (.app 3 (.tup (.cons (.var 1) (.cons (.var 4) .nil))))
      .nil)))
      .nil)
    .nil)) [.val (flD ts), s1, .val (.int (rnd ts : Int)), .own (.lst []), s4, s5] h =
    .ok (.nx [.val (flD ts), s1', .val (.int (rnd ts : Int)), .own (rowD ts (rnd ts)), s4', s5']) h := by
  obtain ⟨ρ', h', e, ⟨x1, x4, x5, rfl⟩, rfl⟩ := for_inv (Φ := Ph dx 26) (Ψ := noPsi) (thk := noThk) (t := .nm 1) (s := .rng1 (.var 2)) (b := (.cons (.ite (.and (.val (.ix (.var 0) (.var 1))) (.not (.val (.ix (.var 0) (.bin .sub (.var 1) (.lit (.int 1)))))))
      (.cons (.set 4 (.lit (.int 0)))
      (.cons (.for_ (.nm 5) (.rng1 (.var 2))
        (.cons (.ite (.and (.val (.cmp .eq (.var 4) (.var 5))) (.val (.ix (.var 0) (.bin .mod (.bi .int (.cons (.bin .add (.var 1) (.var 5)) .nil)) (.var 2)))))
          (.cons (.set 4 (.bin .add (.var 5) (.lit (.int 1))))
          .nil)
          .nil)
        .nil))
      (.cons (.app 3 (.tup (.cons (.var 1) (.cons (.var 4) .nil))))
      .nil)))
      .nil)
    .nil)) (its := rangeD 0 (rnd ts)) (ρ := [.val (flD ts), s1, .val (.int (rnd ts : Int)), .own (.lst []), s4, s5]) (h := h) (h1 := h)
    (fun k ρ h' => (∃ x1 x4 x5, ρ = [.val (flD ts), x1, .val (.int (rnd ts : Int)), .own (rowD ts k), x4, x5]) ∧ h' = h) (s_rng1 (by simp only [den, List.getElem?_cons_succ, List.getElem?_cons_zero]) (by have := rnd_le o.2.2; omega)) ⟨⟨s1, s4, s5, by rw [row_0]⟩, rfl⟩ (by
    rintro i d ρ h' hd ⟨⟨x1, x4, x5, rfl⟩, rfl⟩
    obtain ⟨rfl, hi⟩ := rangeD_at hd
    rw [Int.zero_add]
    obtain ⟨s4', s5', e⟩ := lr_turn o i hi h' x4 x5 _ (rowsUp_len (gOf ts) (rnd ts) i)
    refine ⟨_, _, h', asg_1 _ _ _ _ _ _ _, .inl e, ⟨.val (.int (i : Int)), s4', s5', ?_⟩, rfl⟩
    unfold rowD
    rw [rowsUp_succ])
  rw [rangeD_length] at e
  exact ⟨x1, x4, x5, e⟩
theorem ok_lrows {ts : List Tr} (o : TrsOk ts) (h : HS) : Does dx 26 [flD ts] h (.lst ((rowsP ts).map prD)) h := by
  refine does_of rfl rfl ?_
  have hl : biD .len [flD ts] = some (.int (rnd ts : Int)) := by
    unfold flD
    simp only [biD, List.length_map, fl_length]
  have hm : cmpD .nin (.bl false) (flD ts) = some ((List.range (rnd ts)).all (gOf ts)) := by
    unfold flD
    simp only [cmpD, fl_no, Option.map_some, Bool.not_not]
  refine f_rt ((ms_nx (ρ' := [.val (flD ts), .no, .val (.int (rnd ts : Int)), .own (.lst []), .no, .no]) (h' := h) ?_).trans ?_)
  · generalize flD ts = fD at hl ⊢
    simp only [denF, denMs, denM, den, dens, denS, denC, denO, Res.bind, ofO, isTys, isTy, asgT, asgTs, wipeP, parSet, frzL, slotOf, atom, calmR, seqOf, intOf, negD, List.map_cons, List.map_nil, List.cons_append, List.nil_append, List.getElem?_cons_zero, List.getElem?_cons_succ, List.set_cons_zero, List.set_cons_succ, Option.map_some, Option.map_none, Option.bind_some, truthD, if_true, if_false, Bool.false_eq_true, Bool.not_true, Bool.not_false, Bool.and_true, Bool.true_and, Bool.and_false, Bool.false_and, Bool.or_false, Bool.false_or, Bool.true_or, Bool.or_true, List.length_cons, List.length_nil, ite_true, ite_false, PD.add_int, PD.sub_int, Nat.reduceAdd, Nat.reduceSub, Nat.zero_add, List.reduceReplicate, List.replicate_zero, List.append_nil, hl, if_pos (Nat.zero_le line)]
  cases hall : (List.range (rnd ts)).all (gOf ts) with
  | true =>
    rw [hall] at hm
    refine ms_rt ?_
    rw [rr_rows_true hall]
    generalize flD ts = fD at hm ⊢
    simp only [denF, denMs, denM, den, dens, denS, denC, denO, Res.bind, ofO, isTys, isTy, asgT, asgTs, wipeP, parSet, frzL, slotOf, atom, calmR, seqOf, intOf, negD, List.map_cons, List.map_nil, List.cons_append, List.nil_append, List.getElem?_cons_zero, List.getElem?_cons_succ, List.set_cons_zero, List.set_cons_succ, Option.map_some, Option.map_none, Option.bind_some, truthD, if_true, if_false, Bool.false_eq_true, Bool.not_true, Bool.not_false, Bool.and_true, Bool.true_and, Bool.and_false, Bool.false_and, Bool.or_false, Bool.false_or, Bool.true_or, Bool.or_true, List.length_cons, List.length_nil, ite_true, ite_false, PD.add_int, PD.sub_int, Nat.reduceAdd, Nat.reduceSub, Nat.zero_add, List.reduceReplicate, List.replicate_zero, List.append_nil, hm, if_pos two_le_line.1, if_pos two_le_line.2]
  | false =>
    rw [hall] at hm
    obtain ⟨x1, x4, x5, e⟩ := lr_loop o h .no .no .no
    rw [rr_rows_false hall] at e
    refine (ms_nx (ρ' := [.val (flD ts), .no, .val (.int (rnd ts : Int)), .own (.lst []), .no, .no]) (h' := h) ?_).trans ((ms_nx e).trans ?_)
    · generalize flD ts = fD at hm ⊢
      simp only [denF, denMs, denM, den, dens, denS, denC, denO, Res.bind, ofO, isTys, isTy, asgT, asgTs, wipeP, parSet, frzL, slotOf, atom, calmR, seqOf, intOf, negD, List.map_cons, List.map_nil, List.cons_append, List.nil_append, List.getElem?_cons_zero, List.getElem?_cons_succ, List.set_cons_zero, List.set_cons_succ, Option.map_some, Option.map_none, Option.bind_some, truthD, if_true, if_false, Bool.false_eq_true, Bool.not_true, Bool.not_false, Bool.and_true, Bool.true_and, Bool.and_false, Bool.false_and, Bool.or_false, Bool.false_or, Bool.true_or, Bool.or_true, List.length_cons, List.length_nil, ite_true, ite_false, PD.add_int, PD.sub_int, Nat.reduceAdd, Nat.reduceSub, Nat.zero_add, List.reduceReplicate, List.replicate_zero, List.append_nil, hm]
    · generalize flD ts = fD
      generalize (rowsP ts).map prD = ac
      simp only [denF, denMs, denM, den, dens, denS, denC, denO, Res.bind, ofO, isTys, isTy, asgT, asgTs, wipeP, parSet, frzL, slotOf, atom, calmR, seqOf, intOf, negD, List.map_cons, List.map_nil, List.cons_append, List.nil_append, List.getElem?_cons_zero, List.getElem?_cons_succ, List.set_cons_zero, List.set_cons_succ, Option.map_some, Option.map_none, Option.bind_some, truthD, if_true, if_false, Bool.false_eq_true, Bool.not_true, Bool.not_false, Bool.and_true, Bool.true_and, Bool.and_false, Bool.false_and, Bool.or_false, Bool.false_or, Bool.true_or, Bool.or_true, List.length_cons, List.length_nil, ite_true, ite_false, PD.add_int, PD.sub_int, Nat.reduceAdd, Nat.reduceSub, Nat.zero_add, List.reduceReplicate, List.replicate_zero, List.append_nil]

theorem one_ok {t : Tr} (o : TrOk t) : TrsOk [t] := ⟨by show 1 ≤ 1; omega, by show 1 ≤ 4; omega, fun u hu => by rw [List.mem_singleton.mp hu]; exact o⟩
theorem two_ok {t u : Tr} (o : TrOk t) (p : TrOk u) : TrsOk [t, u] := ⟨by show 1 ≤ 2; omega, by show 2 ≤ 4; omega, fun v hv => by
  rcases List.mem_cons.mp hv with rfl | hv
  · exact o
  · rw [List.mem_singleton.mp hv]; exact p⟩
theorem k1 : TrOk (5, 3, 3) := ⟨by decide, by decide, by decide, by decide, by decide, by decide⟩
theorem k2 : TrOk (4, 0, 1) := ⟨by decide, by decide, by decide, by decide, by decide, by decide⟩
theorem k3 : TrOk (4, 2, 1) := ⟨by decide, by decide, by decide, by decide, by decide, by decide⟩
theorem k4 : TrOk (2, 0, 1) := ⟨by decide, by decide, by decide, by decide, by decide, by decide⟩
theorem k5 : TrOk (2, 1, 1) := ⟨by decide, by decide, by decide, by decide, by decide, by decide⟩
theorem k6 : TrOk (3, 2, 3) := ⟨by decide, by decide, by decide, by decide, by decide, by decide⟩
theorem r1 : rowsP [(5, 3, 3)] = [(3, 3)] := by decide +kernel
theorem r2 : rowsP [(4, 0, 1), (4, 2, 1)] = [(0, 1), (2, 1)] := by decide +kernel
theorem r3 : rowsP [(2, 0, 1), (2, 1, 1)] = [(0, 2)] := by decide +kernel
theorem r4 : rowsP [(3, 2, 3)] = [(0, 3)] := by decide +kernel
theorem q1 : minL (((rowsP [(5, 3, 3)]).map negP).map prD) = some (prD (-3, 3)) := by
  rw [r1]
  kernel_rfl
theorem q2 : minL (((rowsP [(4, 0, 1), (4, 2, 1)]).map negP).map prD) = some (prD (-1, 0)) := by
  rw [r2]
  kernel_rfl
theorem q4 : minL (((rowsP [(3, 2, 3)]).map negP).map prD) = some (prD (-3, 0)) := by
  rw [r4]
  kernel_rfl
abbrev tk (p b l : Int) : IE := .tup (.cons (.lit (.int p)) (.cons (.lit (.int b)) (.cons (.lit (.int l)) .nil)))
abbrev pk (p b : Int) : IE := .tup (.cons (.lit (.int p)) (.cons (.lit (.int b)) .nil))
theorem l123 : 1 ≤ line ∧ 2 ≤ line ∧ 3 ≤ line := by
  unfold line
  omega
section
variable {ρ : PEnv} {hs : HS}
theorem e_tk (p b l : Int) : den (Ph dx 27) noPsi noThk (tk p b l) ρ hs = .ok (trD (p, b, l)) hs := by
  simp only [tk, den, dens, Res.bind, List.length_cons, List.length_nil, Nat.reduceAdd, Nat.zero_add, if_pos l123.2.2]
  rfl
theorem e_pk (p b : Int) : den (Ph dx 27) noPsi noThk (pk p b) ρ hs = .ok (prD (p, b)) hs := by
  simp only [pk, den, dens, Res.bind, List.length_cons, List.length_nil, Nat.reduceAdd, Nat.zero_add, if_pos l123.2.1]
  rfl
theorem e_t1 {a : IE} {x : D} (h : den (Ph dx 27) noPsi noThk a ρ hs = .ok x hs) : den (Ph dx 27) noPsi noThk (.tup (.cons a .nil)) ρ hs = .ok (.tup [x]) hs := by
  simp only [den, dens, h, Res.bind, List.length_cons, List.length_nil, Nat.reduceAdd, Nat.zero_add, if_pos l123.1]
theorem e_t2 {a b : IE} {x y : D} (h : den (Ph dx 27) noPsi noThk a ρ hs = .ok x hs) (h2 : den (Ph dx 27) noPsi noThk b ρ hs = .ok y hs) : den (Ph dx 27) noPsi noThk (.tup (.cons a (.cons b .nil))) ρ hs = .ok (.tup [x, y]) hs := by
  simp only [den, dens, h, h2, Res.bind, List.length_cons, List.length_nil, Nat.reduceAdd, Nat.zero_add, if_pos l123.2.1]
theorem e_c1 {f : Nat} {a : IE} {x y : D} (h : den (Ph dx 27) noPsi noThk a ρ hs = .ok x hs) (c : Ph dx 27 f [x] hs = .ok y hs) : den (Ph dx 27) noPsi noThk (.call f (.cons a .nil)) ρ hs = .ok y hs := by
  simp only [den, dens, h, Res.bind, c]
theorem c_ne {a b : IE} {x : D} (h : den (Ph dx 27) noPsi noThk a ρ hs = .ok x hs) (h2 : den (Ph dx 27) noPsi noThk b ρ hs = .ok x hs) (n : nice 60 x = true) : denC (Ph dx 27) noPsi noThk (.val (.cmp .ne a b)) ρ hs = .ok false hs := by
  simp only [denC, den, h, h2, Res.bind, neD_self n, Option.map_some, ofO, truthD]
theorem c_or {a b : IC} (h : denC (Ph dx 27) noPsi noThk a ρ hs = .ok false hs) (h2 : denC (Ph dx 27) noPsi noThk b ρ hs = .ok false hs) : denC (Ph dx 27) noPsi noThk (.or a b) ρ hs = .ok false hs := by
  simp only [denC, h, h2, Res.bind, Bool.false_eq_true, if_false]
theorem known {e : IE} (h2 : den (Ph dx 27) noPsi noThk e ρ hs = .ok (trsD [(4, 0, 1), (4, 2, 1)]) hs) :
    denC (Ph dx 27) noPsi noThk (.or (.val (.cmp .ne (.call 13 (.cons (.tup (.cons (tk 5 3 3) .nil)) .nil)) (.tup (.cons (pk 3 3) .nil)))) (.val (.cmp .ne (.call 13 (.cons e .nil)) (.tup (.cons (pk 0 1) (.cons (pk 2 1) .nil)))))) ρ hs = .ok false hs ∧
    denC (Ph dx 27) noPsi noThk (.or (.val (.cmp .ne (.call 13 (.cons (.tup (.cons (tk 2 0 1) (.cons (tk 2 1 1) .nil))) .nil)) (.tup (.cons (pk 0 2) .nil)))) (.val (.cmp .ne (.call 17 (.cons (.tup (.cons (tk 5 3 3) .nil)) .nil)) (pk 3 3)))) ρ hs = .ok false hs ∧
    denC (Ph dx 27) noPsi noThk (.or (.val (.cmp .ne (.call 17 (.cons e .nil)) (pk 1 0))) (.val (.cmp .ne (.call 17 (.cons (.tup (.cons (tk 3 2 3) .nil)) .nil)) (pk 3 0)))) ρ hs = .ok false hs := by
  have s1 := (ok_shut_rows (one_ok k1) hs).at 27 (by decide) (by decide)
  have s2 := (ok_shut_rows (two_ok k2 k3) hs).at 27 (by decide) (by decide)
  have s3 := (ok_shut_rows (two_ok k4 k5) hs).at 27 (by decide) (by decide)
  have g1 := (ok_longest (one_ok k1) q1 hs).at 27 (by decide) (by decide)
  have g2 := (ok_longest (two_ok k2 k3) q2 hs).at 27 (by decide) (by decide)
  have g4 := (ok_longest (one_ok k6) q4 hs).at 27 (by decide) (by decide)
  rw [r1] at s1
  rw [r2] at s2
  rw [r3] at s3
  refine ⟨c_or (c_ne (e_c1 (e_t1 (e_tk 5 3 3)) s1) (e_t1 (e_pk 3 3)) rfl) (c_ne (e_c1 h2 s2) (e_t2 (e_pk 0 1) (e_pk 2 1)) rfl), c_or (c_ne (e_c1 (e_t2 (e_tk 2 0 1) (e_tk 2 1 1)) s3) (e_t1 (e_pk 0 2)) rfl) (c_ne (e_c1 (e_t1 (e_tk 5 3 3)) g1) (e_pk 3 3) rfl), c_or (c_ne (e_c1 h2 g2) (e_pk 1 0) rfl) (c_ne (e_c1 (e_t1 (e_tk 3 2 3)) g4) (e_pk 3 0) rfl)⟩
end

section
variable {hs : HS}
abbrev ro (ts : List Tr) (s3 s6 s7 s8 s9 s10 s11 : PD.Slot) (two row : PD.Slot) : PEnv := [.no, .val .hnd, two, s3, .val (trsD ts), row, s6, s7, s8, s9, s10, s11]
theorem lap_rows {ts : List Tr} (o : TrsOk ts) {two s3 s7 s8 s9 s10 s11 : PD.Slot} : denC (Ph dx 27) noPsi noThk (.val (.cmp .ne (.call 13 (.cons (.var 4) .nil)) (.bi .tuple (.cons (.var 6) .nil)))) (ro ts s3 (.val (.lst ((rowsP ts).map prD))) s7 s8 s9 s10 s11 two (.val (flD ts))) hs = .ok false hs := by
  have s1 := (ok_shut_rows o hs).at 27 (by decide) (by decide)
  refine c_ne (e_c1 (x := trsD ts) rfl s1) (e_bi (x := .lst ((rowsP ts).map prD)) rfl rfl) ?_
  show nices 59 ((rowsP ts).map prD) = true
  refine nices_all fun d hd => ?_
  obtain ⟨p, _, rfl⟩ := List.mem_map.mp hd
  rfl
theorem asg_910 (p : Int × Int) (a b c d e f g h i j k l : PD.Slot) : asgT (.tp (.cons (.nm 9) (.cons (.nm 10) .nil))) (prD p) [a, b, c, d, e, f, g, h, i, j, k, l] = some [a, b, c, d, e, f, g, h, i, .val (.int p.1), .val (.int p.2), l] := rfl
theorem rows_line {ts : List Tr} (o : TrsOk ts) : ((rowsP ts).map prD).length ≤ line := by
  rw [List.length_map]
  have := rowsP_len o
  unfold line
  omega
theorem s_lst {Φ : Nat → List D → HS → Res D} {ρ : PEnv} {h : HS} {i : Nat} {xs : List D} (e : ρ[i]? = some (.val (.lst xs))) : denS Φ noPsi noThk (.val (.var i)) ρ h = .ok xs h := by
  simp only [denS, den, e, Res.bind, seqOf, ofO]
theorem lap_min {ts : List Tr} (o : TrsOk ts) {q : Int × Int} (hq : minL (((rowsP ts).map negP).map prD) = some (prD q)) {two s3 s7 s8 s9 s10 s11 row : PD.Slot} :
    den (Ph dx 27) noPsi noThk (.bi .min (.cons (.lc [9, 10] (.tp (.cons (.nm 9) (.cons (.nm 10) .nil))) (.val (.var 6)) .tt (.tup (.cons (.bin .sub (.lit (.int 0)) (.var 10)) (.cons (.var 9) .nil)))) .nil)) (ro ts s3 (.val (.lst ((rowsP ts).map prD))) s7 s8 s9 s10 s11 two row) hs = .ok (prD q) hs := by
  refine e_bi (x := .lst (((rowsP ts).map negP).map prD)) (lc_of (s_lst rfl) (rows_line o) ?_) (by simp only [biD, hq])
  rw [lcL_mapm (g := fun p => prD (negP p))]
  · rw [List.map_map]
    rfl
  · intro p _
    refine turn_tt (asg_910 p _ _ _ _ _ _ _ _ _ _ _ _) ?_
    simp only [den, dens, Res.bind, List.getElem?_cons_zero, List.getElem?_cons_succ, PD.sub_int, ofO, List.length_cons, List.length_nil, Nat.reduceAdd, Nat.zero_add, if_pos l123.2.1]
    rfl
theorem lap_long {ts : List Tr} (o : TrsOk ts) {q : Int × Int} (hq : minL (((rowsP ts).map negP).map prD) = some (prD q)) {two s3 s6 s8 s9 s10 s11 row : PD.Slot} :
    denC (Ph dx 27) noPsi noThk (.val (.cmp .ne (.call 17 (.cons (.var 4) .nil)) (.tup (.cons (.bin .sub (.lit (.int 0)) (.ix (.var 7) (.lit (.int 0)))) (.cons (.ix (.var 7) (.lit (.int 1))) .nil))))) (ro ts s3 s6 (.val (prD q)) s8 s9 s10 s11 two row) hs = .ok false hs := by
  have g1 := (ok_longest o hq hs).at 27 (by decide) (by decide)
  have q0 : ixD hs (prD q) (.int 0) = some (.int q.1) := ixt_nat (k := 0) rfl
  have q1 : ixD hs (prD q) (.int 1) = some (.int q.2) := ixt_nat (k := 1) rfl
  refine c_ne (e_c1 (x := trsD ts) rfl g1) (e_t2 (x := .int (0 - q.1)) (y := .int q.2) ?_ ?_) rfl
  · generalize prD q = qD at q0 q1 ⊢
    generalize trsD ts = tD
    simp only [ro, den, Res.bind, List.getElem?_cons_zero, List.getElem?_cons_succ, q0, ofO, PD.sub_int]
  · generalize prD q = qD at q0 q1 ⊢
    generalize trsD ts = tD
    simp only [ro, den, Res.bind, List.getElem?_cons_zero, List.getElem?_cons_succ, q1, ofO]
theorem e_bin {o : BOp} {a b : IE} {x y z : D} {ρ : PEnv} (h : den (Ph dx 27) noPsi noThk a ρ hs = .ok x hs) (h2 : den (Ph dx 27) noPsi noThk b ρ hs = .ok y hs) (e : binD o x y = some z) : den (Ph dx 27) noPsi noThk (.bin o a b) ρ hs = .ok z hs := by
  simp only [den, h, h2, Res.bind, e, ofO]
theorem e_ix {a b : IE} {x y z : D} {ρ : PEnv} (h : den (Ph dx 27) noPsi noThk a ρ hs = .ok x hs) (h2 : den (Ph dx 27) noPsi noThk b ρ hs = .ok y hs) (e : ixD hs x y = some z) : den (Ph dx 27) noPsi noThk (.ix a b) ρ hs = .ok z hs := by
  simp only [den, h, h2, Res.bind, e, ofO]
theorem e_var {i : Nat} {x : D} {ρ : PEnv} (h : ρ[i]? = some (.val x)) : den (Ph dx 27) noPsi noThk (.var i) ρ hs = .ok x hs := by
  simp only [den, h]
theorem e_int {i : Int} {ρ : PEnv} : den (Ph dx 27) noPsi noThk (.lit (.int i)) ρ hs = .ok (.int i) hs := by
  simp only [den, atom]
theorem e_cnt {ts : List Tr} {ρ : PEnv} (e : ρ[5]? = some (.val (flD ts))) : den (Ph dx 27) noPsi noThk (.mt .count (.var 5) (.cons (.lit (.bl false)) .nil)) ρ hs = .ok (.int ((fl ts).count false : Nat)) hs := by
  have hc : mtD .count (flD ts) [.bl false] = some (.int ((fl ts).count false : Nat)) := by
    unfold flD
    simp only [mtD, cntD_bl, Option.map_some]
  have hi : isLst (flD ts) = true := rfl
  simp only [den, dens, e, Res.bind, hi, if_true, hc, ofO]
theorem e_len {ts : List Tr} {ρ : PEnv} (e : ρ[5]? = some (.val (flD ts))) : den (Ph dx 27) noPsi noThk (.bi .len (.cons (.var 5) .nil)) ρ hs = .ok (.int (rnd ts : Nat)) hs := by
  have hl : biD .len [flD ts] = some (.int (rnd ts : Int)) := by
    unfold flD
    simp only [biD, List.length_map, fl_length]
  exact e_bi (x := flD ts) (by simp only [den, e]) hl
theorem lap_sum {ts : List Tr} (o : TrsOk ts) {two s3 s7 s8 s9 s10 s11 : PD.Slot} :
    denC (Ph dx 27) noPsi noThk (.val (.cmp .ne (.bin .add (.bi .sum (.cons (.lc [9, 10] (.tp (.cons (.nm 9) (.cons (.nm 10) .nil))) (.val (.var 6)) .tt (.var 10)) .nil)) (.mt .count (.var 5) (.cons (.lit (.bl false)) .nil))) (.bi .len (.cons (.var 5) .nil)))) (ro ts s3 (.val (.lst ((rowsP ts).map prD))) s7 s8 s9 s10 s11 two (.val (flD ts))) hs = .ok false hs := by
  have es : ((rowsP ts).map (·.2)).sum = (trues (gOf ts) (rnd ts) : Int) := rowsOf_sum (gOf_per o.2.2) (rnd_pos o.2.2)
  have e1 : den (Ph dx 27) noPsi noThk (.bi .sum (.cons (.lc [9, 10] (.tp (.cons (.nm 9) (.cons (.nm 10) .nil))) (.val (.var 6)) .tt (.var 10)) .nil)) (ro ts s3 (.val (.lst ((rowsP ts).map prD))) s7 s8 s9 s10 s11 two (.val (flD ts))) hs = .ok (.int (trues (gOf ts) (rnd ts) : Nat)) hs := by
    refine e_bi (x := .lst (((rowsP ts).map (·.2)).map D.int)) (lc_of (s_lst rfl) (rows_line o) ?_) (by simp only [biD, dInts_map, Option.map_some, es])
    rw [lcL_mapm (g := fun p => D.int p.2)]
    · rw [List.map_map]
      rfl
    · intro p _
      exact turn_tt (asg_910 p _ _ _ _ _ _ _ _ _ _ _ _) rfl
  have cf := count_false (ts := ts)
  exact c_ne (x := .int (rnd ts : Nat)) (e_bin e1 (e_cnt rfl) (by rw [PD.add_int, show ((trues (gOf ts) (rnd ts) : Nat) : Int) + ((fl ts).count false : Nat) = (rnd ts : Nat) by omega])) (e_len rfl) rfl
theorem lap_share {ts : List Tr} (o : TrsOk ts) {two s3 s6 s7 s9 s10 s11 : PD.Slot} :
    denC (Ph dx 27) noPsi noThk (.val (.cmp .ne (.bin .mul (.ix (.var 8) (.lit (.int 0))) (.bi .len (.cons (.var 5) .nil))) (.bin .mul (.mt .count (.var 5) (.cons (.lit (.bl false)) .nil)) (.ix (.var 8) (.lit (.int 1))))))
      (ro ts s3 s6 s7 (.val (.tup [.int ((fl ts).count false / Nat.gcd ((fl ts).count false) (rnd ts) : Nat), .int (rnd ts / Nat.gcd ((fl ts).count false) (rnd ts) : Nat)])) s9 s10 s11 two (.val (flD ts))) hs = .ok false hs := by
  have cf := count_false (ts := ts)
  have hr := rnd_le o.2.2
  have e2 := fun ρ e => e_cnt (hs := hs) (ts := ts) (ρ := ρ) e
  have e3 := fun ρ e => e_len (hs := hs) (ts := ts) (ρ := ρ) e
  have g1 : Nat.gcd ((fl ts).count false) (rnd ts) ∣ (fl ts).count false := Nat.gcd_dvd_left _ _
  have g2 : Nat.gcd ((fl ts).count false) (rnd ts) ∣ rnd ts := Nat.gcd_dvd_right _ _
  have gp : 0 < Nat.gcd ((fl ts).count false) (rnd ts) := Nat.gcd_pos_of_pos_right _ (rnd_pos o.2.2)
  have hc : (fl ts).count false ≤ 120 := by omega
  generalize hC : (fl ts).count false = C at e2 g1 g2 gp hc ⊢
  generalize hN : rnd ts = n at e3 g1 g2 gp hr ⊢
  generalize Nat.gcd C n = g at g1 g2 gp ⊢
  obtain ⟨c, rfl⟩ := g1
  obtain ⟨m, rfl⟩ := g2
  rw [Nat.mul_div_cancel_left c gp, Nat.mul_div_cancel_left m gp]
  have hc' : c ≤ g * c := Nat.le_mul_of_pos_left c gp
  have m1 : binD .mul (.int (c : Nat)) (.int ((g * m : Nat) : Int)) = some (.int ((c * (g * m) : Nat) : Int)) := by
    rw [mul_l (by omega) (by omega), ← Int.natCast_mul]
  have m2 : binD .mul (.int ((g * c : Nat) : Int)) (.int (m : Nat)) = some (.int ((c * (g * m) : Nat) : Int)) := by
    rw [mul_l (by omega) (by omega), ← Int.natCast_mul, show g * c * m = c * (g * m) by rw [Nat.mul_comm g c, Nat.mul_assoc]]
  have x0 : ∀ a b : D, ixD hs (.tup [a, b]) (.int 0) = some a := fun a b => ixt_nat (k := 0) rfl
  have x1 : ∀ a b : D, ixD hs (.tup [a, b]) (.int 1) = some b := fun a b => ixt_nat (k := 1) rfl
  refine c_ne (x := .int ((c * (g * m) : Nat) : Int)) ?_ ?_ rfl
  · exact e_bin (x := .int (c : Nat)) (y := .int ((g * m : Nat) : Int)) (e_ix (x := .tup [.int (c : Nat), .int (m : Nat)]) (y := .int 0) (e_var (by rfl)) e_int (x0 _ _)) (e3 _ (by rfl)) m1
  · exact e_bin (x := .int ((g * c : Nat) : Int)) (y := .int (m : Nat)) (e2 _ (by rfl)) (e_ix (x := .tup [.int (c : Nat), .int (m : Nat)]) (y := .int 1) (e_var (by rfl)) e_int (x1 _ _)) m2
end

section
theorem m_set {i : Nat} {e : IE} {x : D} {ρ : PEnv} {h h' : HS} (he : den (Ph dx 27) noPsi noThk e ρ h = .ok x h') : denM (Ph dx 27) noPsi noThk (.set i e) ρ h = .ok (.nx (ρ.set i (.val x))) h' := by
  simp only [denM, he, Res.bind]
variable {hs : HS}
theorem e_c2 {f : Nat} {a b : IE} {x y r : D} {ρ : PEnv} {h' : HS} (h : den (Ph dx 27) noPsi noThk a ρ hs = .ok x hs) (h2 : den (Ph dx 27) noPsi noThk b ρ hs = .ok y hs) (c : Ph dx 27 f [x, y] hs = .ok r h') : den (Ph dx 27) noPsi noThk (.call f (.cons a (.cons b .nil))) ρ hs = .ok r h' := by
  simp only [den, dens, h, h2, Res.bind, c]
theorem c_and_f {a b : IC} {ρ : PEnv} (h : denC (Ph dx 27) noPsi noThk a ρ hs = .ok false hs) : denC (Ph dx 27) noPsi noThk (.and a b) ρ hs = .ok false hs := by
  simp only [denC, h, Res.bind, Bool.false_eq_true, if_false]
theorem c_and_t {a b : IC} {ρ : PEnv} {k : Bool} (h : denC (Ph dx 27) noPsi noThk a ρ hs = .ok true hs) (h2 : denC (Ph dx 27) noPsi noThk b ρ hs = .ok k hs) : denC (Ph dx 27) noPsi noThk (.and a b) ρ hs = .ok k hs := by
  simp only [denC, h, h2, Res.bind, if_true]
theorem c_bl {e : IE} {ρ : PEnv} {k : Bool} (h : den (Ph dx 27) noPsi noThk e ρ hs = .ok (.bl k) hs) : denC (Ph dx 27) noPsi noThk (.val e) ρ hs = .ok k hs := by
  simp only [denC, h, Res.bind, truthD, ofO]
theorem c_not {a : IC} {ρ : PEnv} {k : Bool} (h : denC (Ph dx 27) noPsi noThk a ρ hs = .ok k hs) : denC (Ph dx 27) noPsi noThk (.not a) ρ hs = .ok (!k) hs := by
  simp only [denC, h, Res.bind]
theorem e_lt {a b : IE} {i j : Int} {ρ : PEnv} (h : den (Ph dx 27) noPsi noThk a ρ hs = .ok (.int i) hs) (h2 : den (Ph dx 27) noPsi noThk b ρ hs = .ok (.int j) hs) : den (Ph dx 27) noPsi noThk (.cmp .lt a b) ρ hs = .ok (.bl (decide (i < j))) hs := by
  simp only [den, h, h2, Res.bind, cmpD, Option.map_some, ofO]
theorem asg_11 (d : D) (a b c e f g i j k l m n : PD.Slot) : asgT (.nm 11) d [a, b, c, e, f, g, i, j, k, l, m, n] = some [a, b, c, e, f, g, i, j, k, l, m, .val d] := rfl
abbrev rq (ts : List Tr) (s3 s6 s7 s8 s11 : PD.Slot) (s L : Nat) (two row : PD.Slot) : PEnv := [.no, .val .hnd, two, s3, .val (trsD ts), row, s6, s7, s8, .val (.int (s : Int)), .val (.int (L : Int)), s11]
abbrev it1 : IMs := .cons (.ite (.and (.val (.cmp .lt (.var 10) (.bi .len (.cons (.var 5) .nil)))) (.or (.val (.call 7 (.cons (.var 4) (.cons (.bin .add (.var 9) (.var 10)) .nil)))) (.val (.call 7 (.cons (.var 4) (.cons (.bin .sub (.bin .add (.var 9) (.bi .len (.cons (.var 5) .nil))) (.lit (.int 1))) .nil))))))
        (.cons (.ret (.lit (.bl false)))
        .nil)
        .nil)
      (.cons (.ite (.not (.val (.bi .all (.cons (.lc [11] (.nm 11) (.rng1 (.var 10)) .tt (.call 7 (.cons (.var 4) (.cons (.bin .add (.var 9) (.var 11)) .nil)))) .nil))))
        (.cons (.ret (.lit (.bl false)))
        .nil)
        .nil)
      .nil)
theorem row_turn {ts : List Tr} (o : TrsOk ts) {s3 s6 s7 s8 s11 two : PD.Slot} {p : Int × Int} (hp : p ∈ rowsP ts) (ρ : PEnv) (hρ : ∀ s L : Nat, p = ((s : Int), (L : Int)) → ρ = rq ts s3 s6 s7 s8 s11 s L two (.val (flD ts))) :
    denMs (Ph dx 27) noPsi noThk it1 ρ hs = .ok (.nx ρ) hs := by
  obtain ⟨s, L, e, hs1, hL1, hLn, ht, hf⟩ := mem_rows (gOf_per o.2.2) (rnd_pos o.2.2) hp
  have hr := rnd_le o.2.2
  rw [hρ s L e]
  clear hρ
  have e10 : ∀ s11 : PD.Slot, den (Ph dx 27) noPsi noThk (.var 10) (rq ts s3 s6 s7 s8 s11 s L two (.val (flD ts))) hs = .ok (.int (L : Int)) hs := fun _ => e_var (by rfl)
  have e9 : ∀ s11 : PD.Slot, den (Ph dx 27) noPsi noThk (.var 9) (rq ts s3 s6 s7 s8 s11 s L two (.val (flD ts))) hs = .ok (.int (s : Int)) hs := fun _ => e_var (by rfl)
  have e4 : ∀ s11 : PD.Slot, den (Ph dx 27) noPsi noThk (.var 4) (rq ts s3 s6 s7 s8 s11 s L two (.val (flD ts))) hs = .ok (trsD ts) hs := fun _ => e_var (by rfl)
  have eL := e_len (hs := hs) (ts := ts) (ρ := rq ts s3 s6 s7 s8 s11 s L two (.val (flD ts))) rfl
  have at_ : ∀ k : Nat, k ≤ 1000 → Ph dx 27 7 [trsD ts, .int (k : Int)] hs = .ok (.bl (gOf ts k)) hs := fun k hk => (ok_shut_at o (s := (k : Int)) (by omega) (by omega) hs).at 27 (by decide) (by decide)
  have c1 : denC (Ph dx 27) noPsi noThk (.and (.val (.cmp .lt (.var 10) (.bi .len (.cons (.var 5) .nil)))) (.or (.val (.call 7 (.cons (.var 4) (.cons (.bin .add (.var 9) (.var 10)) .nil)))) (.val (.call 7 (.cons (.var 4) (.cons (.bin .sub (.bin .add (.var 9) (.bi .len (.cons (.var 5) .nil))) (.lit (.int 1))) .nil)))))) (rq ts s3 s6 s7 s8 s11 s L two (.val (flD ts))) hs = .ok false hs := by
    by_cases hlt : L < rnd ts
    · obtain ⟨f1, f2⟩ := hf hlt
      have a1 := at_ (s + L) (by omega)
      have a2 := at_ (s + rnd ts - 1) (by omega)
      rw [f1] at a1
      rw [f2] at a2
      have t1 := c_bl (e_lt (e10 s11) eL)
      rw [decide_eq_true (by omega : (L : Int) < (rnd ts : Int))] at t1
      refine c_and_t t1 (c_or (c_bl (e_c2 (e4 s11) (e_bin (e9 s11) (e10 s11) (PD.add_int _ _)) ?_)) (c_bl (e_c2 (e4 s11) (e_bin (e_bin (e9 s11) eL (PD.add_int _ _)) e_int (PD.sub_int _ _)) ?_)))
      · rw [← Int.natCast_add]
        exact a1
      · rw [show (s : Int) + (rnd ts : Nat) - 1 = ((s + rnd ts - 1 : Nat) : Int) by omega]
        exact a2
    · have t1 := c_bl (e_lt (e10 s11) eL)
      rw [decide_eq_false (by omega : ¬ (L : Int) < (rnd ts : Int))] at t1
      exact c_and_f t1
  have lc : den (Ph dx 27) noPsi noThk (.lc [11] (.nm 11) (.rng1 (.var 10)) .tt (.call 7 (.cons (.var 4) (.cons (.bin .add (.var 9) (.var 11)) .nil)))) (rq ts s3 s6 s7 s8 s11 s L two (.val (flD ts))) hs = .ok (.lst ((List.range L).map fun _ => D.bl true)) hs := by
    refine lc_of (s_rng1 (e10 s11) (by omega)) (by rw [rangeD_length]; unfold line; omega) ?_
    rw [rangeD_map]
    refine lcL_mapm fun k hk => ?_
    have hk := List.mem_range.mp hk
    refine turn_tt (asg_11 _ _ _ _ _ _ _ _ _ _ _ _ _) ?_
    have a1 := at_ (s + k) (by omega)
    rw [ht k hk] at a1
    refine e_c2 (e4 _) (e_bin (e9 _) (e_var (by rfl)) (PD.add_int _ _)) ?_
    rw [Int.zero_add, ← Int.natCast_add]
    exact a1
  have eb : ((List.range L).map fun _ => D.bl true) = ((List.range L).map fun _ => true).map D.bl := by rw [List.map_map]; rfl
  rw [eb] at lc
  have hb : biD .all [.lst (((List.range L).map fun _ => true).map D.bl)] = some (.bl true) := by
    have ha : ((List.range L).map fun _ => true).all id = true := by
      rw [List.all_map]
      exact List.all_eq_true.mpr fun _ _ => rfl
    simp only [biD, dBls_map, Option.map_some, ha]
  exact (ms_nx (m_ite_f c1 ms_nil_)).trans ((ms_nx (m_ite_f (c_not (c_bl (e_bi lc hb))) ms_nil_)).trans ms_nil_)
theorem row_loop {ts : List Tr} (o : TrsOk ts) {s3 s6 s7 s8 s9 s10 s11 two : PD.Slot} :
    ∃ s9' s10' s11', denM (Ph dx 27) noPsi noThk (.for_ (.tp (.cons (.nm 9) (.cons (.nm 10) .nil))) (.val (.call 13 (.cons (.var 4) .nil))) it1) (ro ts s3 s6 s7 s8 s9 s10 s11 two (.val (flD ts))) hs = .ok (.nx (ro ts s3 s6 s7 s8 s9' s10' s11' two (.val (flD ts)))) hs := by
  have s1 := (ok_shut_rows o hs).at 27 (by decide) (by decide)
  have es : denS (Ph dx 27) noPsi noThk (.val (.call 13 (.cons (.var 4) .nil))) (ro ts s3 s6 s7 s8 s9 s10 s11 two (.val (flD ts))) hs = .ok ((rowsP ts).map prD) hs := by
    have e := e_c1 (ρ := ro ts s3 s6 s7 s8 s9 s10 s11 two (.val (flD ts))) (a := .var 4) (x := trsD ts) (e_var (by rfl)) s1
    rw [denS, e]
    rfl
  obtain ⟨ρ', h', e, ⟨x9, x10, x11, rfl⟩, rfl⟩ := for_inv (Φ := Ph dx 27) (Ψ := noPsi) (thk := noThk) (t := .tp (.cons (.nm 9) (.cons (.nm 10) .nil))) (s := .val (.call 13 (.cons (.var 4) .nil))) (b := it1) (its := (rowsP ts).map prD) (h := hs) (h1 := hs)
    (fun k ρ h' => (∃ x9 x10 x11, ρ = ro ts s3 s6 s7 s8 x9 x10 x11 two (.val (flD ts))) ∧ h' = hs) es ⟨⟨s9, s10, s11, rfl⟩, rfl⟩ (by
    rintro i d ρ h' hd ⟨⟨x9, x10, x11, rfl⟩, rfl⟩
    obtain ⟨p, hp, rfl⟩ := List.mem_map.mp (List.mem_of_getElem? hd)
    refine ⟨_, _, h', asg_910 p _ _ _ _ _ _ _ _ _ _ _ _, .inl (row_turn (s3 := s3) (s6 := s6) (s7 := s7) (s8 := s8) (s11 := x11) (two := two) o hp _ ?_), ⟨_, _, _, rfl⟩, rfl⟩
    rintro s L rfl
    rfl)
  exact ⟨x9, x10, x11, e⟩
end

abbrev it2 : IMs := .cons (.set 4 (.call 21 (.cons (.var 1) (.cons (.lit (.int 4)) .nil))))
    (.cons (.set 5 (.call 25 (.cons (.var 4) .nil)))
    (.cons (.set 6 (.call 26 (.cons (.var 5) .nil)))
    (.cons (.ite (.val (.cmp .ne (.call 13 (.cons (.var 4) .nil)) (.bi .tuple (.cons (.var 6) .nil))))
      (.cons (.ret (.lit (.bl false)))
      .nil)
      .nil)
    (.cons (.set 7 (.bi .min (.cons (.lc [9, 10] (.tp (.cons (.nm 9) (.cons (.nm 10) .nil))) (.val (.var 6)) .tt (.tup (.cons (.bin .sub (.lit (.int 0)) (.var 10)) (.cons (.var 9) .nil)))) .nil)))
    (.cons (.ite (.val (.cmp .ne (.call 17 (.cons (.var 4) .nil)) (.tup (.cons (.bin .sub (.lit (.int 0)) (.ix (.var 7) (.lit (.int 0)))) (.cons (.ix (.var 7) (.lit (.int 1))) .nil)))))
      (.cons (.ret (.lit (.bl false)))
      .nil)
      .nil)
    (.cons (.set 8 (.call 16 (.cons (.var 4) .nil)))
    (.cons (.ite (.val (.cmp .ne (.bin .add (.bi .sum (.cons (.lc [9, 10] (.tp (.cons (.nm 9) (.cons (.nm 10) .nil))) (.val (.var 6)) .tt (.var 10)) .nil)) (.mt .count (.var 5) (.cons (.lit (.bl false)) .nil))) (.bi .len (.cons (.var 5) .nil))))
      (.cons (.ret (.lit (.bl false)))
      .nil)
      .nil)
    (.cons (.ite (.val (.cmp .ne (.bin .mul (.ix (.var 8) (.lit (.int 0))) (.bi .len (.cons (.var 5) .nil))) (.bin .mul (.mt .count (.var 5) (.cons (.lit (.bl false)) .nil)) (.ix (.var 8) (.lit (.int 1))))))
      (.cons (.ret (.lit (.bl false)))
      .nil)
      .nil)
    (.cons (.for_ (.tp (.cons (.nm 9) (.cons (.nm 10) .nil))) (.val (.call 13 (.cons (.var 4) .nil))) it1)
    .nil)))))))))
abbrev rp (two s3 s4 s5 s6 s7 s8 s9 s10 s11 : PD.Slot) : PEnv := [.no, .val .hnd, two, s3, s4, s5, s6, s7, s8, s9, s10, s11]
theorem lap {hs : HS} (I : HandOk hs) (two s3 s4 s5 s6 s7 s8 s9 s10 s11 : PD.Slot) : ∃ t4 t5 t6 t7 t8 t9 t10 t11 hs', HandOk hs' ∧ denMs (Ph dx 27) noPsi noThk it2 (rp two s3 s4 s5 s6 s7 s8 s9 s10 s11) hs = .ok (.nx (rp two s3 t4 t5 t6 t7 t8 t9 t10 t11)) hs' := by
  obtain ⟨ts, hs', o, I', d1⟩ := ok_tracks I
  obtain ⟨q, hq⟩ := rowsP_min o
  have d1 := d1.at 27 (by decide) (by decide)
  have d2 := (ok_lshut o hs').at 27 (by decide) (by decide)
  have d3 := (ok_lrows o hs').at 27 (by decide) (by decide)
  have d4 := (ok_open_share o hs').at 27 (by decide) (by decide)
  obtain ⟨x9, x10, x11, e⟩ := row_loop (hs := hs') o (s3 := s3) (s6 := .val (.lst ((rowsP ts).map prD))) (s7 := .val (prD q)) (s8 := .val (.tup [.int ((fl ts).count false / Nat.gcd ((fl ts).count false) (rnd ts) : Nat), .int (rnd ts / Nat.gcd ((fl ts).count false) (rnd ts) : Nat)])) (s9 := s9) (s10 := s10) (s11 := s11) (two := two)
  refine ⟨.val (trsD ts), .val (flD ts), .val (.lst ((rowsP ts).map prD)), .val (prD q), .val (.tup [.int ((fl ts).count false / Nat.gcd ((fl ts).count false) (rnd ts) : Nat), .int (rnd ts / Nat.gcd ((fl ts).count false) (rnd ts) : Nat)]), x9, x10, x11, hs', I', ?_⟩
  refine (ms_nx (m_set (e_c2 (e_var (by rfl)) e_int d1))).trans ?_
  refine (ms_nx (m_set (e_c1 (x := trsD ts) (e_var (by rfl)) d2))).trans ?_
  refine (ms_nx (m_set (e_c1 (x := flD ts) (e_var (by rfl)) d3))).trans ?_
  refine (ms_nx (m_ite_f (lap_rows o (two := two) (s3 := s3) (s7 := s7) (s8 := s8) (s9 := s9) (s10 := s10) (s11 := s11)) ms_nil_)).trans ?_
  refine (ms_nx (m_set (lap_min o hq (two := two) (s3 := s3) (s7 := s7) (s8 := s8) (s9 := s9) (s10 := s10) (s11 := s11) (row := .val (flD ts))))).trans ?_
  refine (ms_nx (m_ite_f (lap_long o hq (two := two) (s3 := s3) (s6 := .val (.lst ((rowsP ts).map prD))) (s8 := s8) (s9 := s9) (s10 := s10) (s11 := s11) (row := .val (flD ts))) ms_nil_)).trans ?_
  refine (ms_nx (m_set (e_c1 (x := trsD ts) (e_var (by rfl)) d4))).trans ?_
  refine (ms_nx (m_ite_f (lap_sum o (two := two) (s3 := s3) (s7 := .val (prD q)) (s9 := s9) (s10 := s10) (s11 := s11)) ms_nil_)).trans ?_
  refine (ms_nx (m_ite_f (lap_share o (two := two) (s3 := s3) (s6 := .val (.lst ((rowsP ts).map prD))) (s7 := .val (prD q)) (s9 := s9) (s10 := s10) (s11 := s11)) ms_nil_)).trans ?_
  exact (ms_nx e).trans ms_nil_
theorem laps {hs : HS} (I : HandOk hs) (two s3 s4 s5 s6 s7 s8 s9 s10 s11 : PD.Slot) : ∃ t3 t4 t5 t6 t7 t8 t9 t10 t11 hs', HandOk hs' ∧ denM (Ph dx 27) noPsi noThk (.for_ (.nm 3) (.rng1 (.lit (.int 6))) it2) (rp two s3 s4 s5 s6 s7 s8 s9 s10 s11) hs = .ok (.nx (rp two t3 t4 t5 t6 t7 t8 t9 t10 t11)) hs' := by
  obtain ⟨ρ', h', e, ⟨x3, x4, x5, x6, x7, x8, x9, x10, x11, rfl⟩, I'⟩ := for_inv (Φ := Ph dx 27) (Ψ := noPsi) (thk := noThk) (t := .nm 3) (s := .rng1 (.lit (.int 6))) (b := it2) (its := rangeD 0 6) (h := hs) (h1 := hs)
    (fun k ρ h' => (∃ x3 x4 x5 x6 x7 x8 x9 x10 x11, ρ = rp two x3 x4 x5 x6 x7 x8 x9 x10 x11) ∧ HandOk h') (s_rng1 (n := 6) e_int (by decide)) ⟨⟨s3, s4, s5, s6, s7, s8, s9, s10, s11, rfl⟩, I⟩ (by
    rintro i d ρ h' hd ⟨⟨x3, x4, x5, x6, x7, x8, x9, x10, x11, rfl⟩, I'⟩
    obtain ⟨t4, t5, t6, t7, t8, t9, t10, t11, h2, I2, e⟩ := lap I' two (.val d) x4 x5 x6 x7 x8 x9 x10 x11
    exact ⟨_, _, h2, rfl, .inl e, ⟨.val d, t4, t5, t6, t7, t8, t9, t10, t11, rfl⟩, I2⟩)
  exact ⟨x3, x4, x5, x6, x7, x8, x9, x10, x11, h', I', e⟩
theorem lawTrue : LawTrue dx d_law := by
  intro ns _ _
  rw [ph_all]
  have k0 := known (ρ := rp (.val (trsD [(4, 0, 1), (4, 2, 1)])) .no .no .no .no .no .no .no .no .no) (hs := hand0 ns) (e := .var 2) (e_var (by rfl))
  have k1 : den (Ph dx 27) noPsi noThk (.tup (.cons (tk 4 0 1) (.cons (tk 4 2 1) .nil))) [.no, .val .hnd, .no, .no, .no, .no, .no, .no, .no, .no, .no, .no] (hand0 ns) = .ok (trsD [(4, 0, 1), (4, 2, 1)]) (hand0 ns) := e_t2 (e_tk 4 0 1) (e_tk 4 2 1)
  obtain ⟨t3, t4, t5, t6, t7, t8, t9, t10, t11, h', _, e⟩ := laps (hand0_ok ns) (.val (trsD [(4, 0, 1), (4, 2, 1)])) .no .no .no .no .no .no .no .no .no
  refine ⟨h', ?_⟩
  refine (ms_nx (m_set k1)).trans ?_
  refine (ms_nx (m_ite_f k0.1 ms_nil_)).trans ?_
  refine (ms_nx (m_ite_f k0.2.1 ms_nil_)).trans ?_
  refine (ms_nx (m_ite_f k0.2.2 ms_nil_)).trans ?_
  refine (ms_nx e).trans ?_
  exact ms_rt (m_ret (by simp only [den, atom]))

end Lk86
open PySem PySem.W PySem.Calls PyProof.Rows
theorem PySem.Challenge.cw_streethouse_k86_whole_rows_of_shut_secon_holds : PySem.Challenge.rw_streethouse_k86_whole_rows_of_shut_secon.Holds := by
  w_on; o_law
  refine HandSHeadRun.head_any (r := OpenLaw.row PySem.Challenge.rw_streethouse_k86_whole_rows_of_shut_secon) (q := view (OpenLaw.row PySem.Challenge.rw_streethouse_k86_whole_rows_of_shut_secon).prog [41]) (H := Lk86.hk) (ob := Lk86.ob) (M := 4000) (loose := Lk86.loose) (d := HandSHeadRun.topDef (OpenLaw.row PySem.Challenge.rw_streethouse_k86_whole_rows_of_shut_secon).prog 41) (kwd := []) Lk86.ob_eq
    (by kernel_rfl) (fun s => by kernel_rfl) Lk86.headrun (by kernel_rfl) (by kernel_rfl) (by kernel_rfl) (by rfl) (by first | assumption | decide +kernel) (by decide +kernel) ⟨rfl, rfl, rfl, rfl, rfl, by decide +kernel⟩ ?hw ?hc
  case hw => w_witness2
  case hc =>
    refine LamX.walk_ofTsE (l := PySem.Challenge.rw_streethouse_k86_whole_rows_of_shut_secon) (n := 63) (k := 29) (x := "script") (CX := fun w => L2.CX (PySem.Challenge.rw_streethouse_k86_whole_rows_of_shut_secon).prog w) rfl (by decide) (by kernel_rfl) ⟨rfl, by decide, by decide⟩ ?F (fun w H s e s' z => by obtain ⟨_, _, _, _, _, _, _, _, _, _, _, _, z⟩ := z; exact z)
    intro w mg fa h Y G hmg0
    obtain ⟨K, KX, c⟩ := Y
    have hmg : mg ("law" : PySem.Str) = some (.ref fa) := by
      have e : (HandSHeadRun.topDef (OpenLaw.row PySem.Challenge.rw_streethouse_k86_whole_rows_of_shut_secon).prog 41).name = ("law" : PySem.Str) := by kernel_rfl
      rw [← e]
      exact hmg0
    exact ⟨K, KX, PD.law_at KX G hmg c Lk86.laws.1 Lk86.bnd Lk86.chk rfl rfl Lk86.laws.2.1 rfl Lk86.laws.2.2.1 Lk86.chkL rfl rfl Lk86.laws.2.2.2.1 Lk86.laws.2.2.2.2 rfl rfl rfl Lk86.lawTrue⟩

